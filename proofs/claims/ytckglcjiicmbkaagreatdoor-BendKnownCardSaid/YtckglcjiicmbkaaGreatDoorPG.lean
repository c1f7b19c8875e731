/- What is proved: BendKnown returns true (part 7 of 18). No conditions beyond those of the row. -/
import Derived.Test.YtckglcjiicmbkaaGreatDoorPF
set_option linter.unusedVariables false
set_option linter.unusedSimpArgs false
set_option linter.unusedSectionVars false
/- What is proved: calls of the law BendKnown, of which the answers are known (level 1). No conditions. -/
namespace Go.Proofs.YtckglcjiicmbkaaGreatDoor
open Go Go.Eng

/-- monocle/fix.SqrtUp (4814 steps) -/
theorem call135 : MemoOk Tryz.prog glob hG (138, [(.int false .i64 (3221225472))], (.tuple [(.int false .i64 (3719550787)), (.int false .i64 (0))])) := known none_known (by kernel_rfl) (by kernel_rfl) (by kernel_rfl)
/-- monocle/fix.MulDown (251 steps) -/
theorem call136 : MemoOk Tryz.prog glob hG (180, [(.int false .i64 (0)), (.int false .i64 (-3719550787))], (.tuple [(.int false .i64 (0)), (.int false .i64 (0))])) := known none_known (by kernel_rfl) (by kernel_rfl) (by kernel_rfl)
/-- monocle/fix.MulUp (251 steps) -/
theorem call137 : MemoOk Tryz.prog glob hG (181, [(.int false .i64 (0)), (.int false .i64 (-3719550787))], (.tuple [(.int false .i64 (0)), (.int false .i64 (0))])) := known none_known (by kernel_rfl) (by kernel_rfl) (by kernel_rfl)
/-- monocle/fix.MulDown (251 steps) -/
theorem call138 : MemoOk Tryz.prog glob hG (180, [(.int false .i64 (0)), (.int false .i64 (-3719550786))], (.tuple [(.int false .i64 (0)), (.int false .i64 (0))])) := known none_known (by kernel_rfl) (by kernel_rfl) (by kernel_rfl)
/-- monocle/fix.MulUp (251 steps) -/
theorem call139 : MemoOk Tryz.prog glob hG (181, [(.int false .i64 (0)), (.int false .i64 (-3719550786))], (.tuple [(.int false .i64 (0)), (.int false .i64 (0))])) := known none_known (by kernel_rfl) (by kernel_rfl) (by kernel_rfl)
/-- monocle/fix.MulDown (251 steps) -/
theorem call140 : MemoOk Tryz.prog glob hG (180, [(.int false .i64 (4294967296)), (.int false .i64 (-3719550787))], (.tuple [(.int false .i64 (-3719550787)), (.int false .i64 (0))])) := known none_known (by kernel_rfl) (by kernel_rfl) (by kernel_rfl)
/-- monocle/fix.MulUp (251 steps) -/
theorem call141 : MemoOk Tryz.prog glob hG (181, [(.int false .i64 (4294967296)), (.int false .i64 (-3719550787))], (.tuple [(.int false .i64 (-3719550787)), (.int false .i64 (0))])) := known none_known (by kernel_rfl) (by kernel_rfl) (by kernel_rfl)
/-- monocle/fix.MulDown (251 steps) -/
theorem call142 : MemoOk Tryz.prog glob hG (180, [(.int false .i64 (4294967296)), (.int false .i64 (-3719550786))], (.tuple [(.int false .i64 (-3719550786)), (.int false .i64 (0))])) := known none_known (by kernel_rfl) (by kernel_rfl) (by kernel_rfl)
/-- monocle/fix.MulUp (251 steps) -/
theorem call143 : MemoOk Tryz.prog glob hG (181, [(.int false .i64 (4294967296)), (.int false .i64 (-3719550786))], (.tuple [(.int false .i64 (-3719550786)), (.int false .i64 (0))])) := known none_known (by kernel_rfl) (by kernel_rfl) (by kernel_rfl)
/-- monocle/fix.MulDown (368 steps) -/
theorem call144 : MemoOk Tryz.prog glob hG (180, [(.int false .i64 (4294967296)), (.int false .i64 (4294967296))], (.tuple [(.int false .i64 (4294967296)), (.int false .i64 (0))])) := known none_known (by kernel_rfl) (by kernel_rfl) (by kernel_rfl)
/-- monocle/fix.MulUp (368 steps) -/
theorem call145 : MemoOk Tryz.prog glob hG (181, [(.int false .i64 (4294967296)), (.int false .i64 (4294967296))], (.tuple [(.int false .i64 (4294967296)), (.int false .i64 (0))])) := known none_known (by kernel_rfl) (by kernel_rfl) (by kernel_rfl)
/-- monocle/fix.ScaleDown (222 steps) -/
theorem call146 : MemoOk Tryz.prog glob hG (183, [(.int false .i64 (0)), (.int false .i64 (10000000)), (.int false .i64 (10000000))], (.tuple [(.int false .i64 (0)), (.int false .i64 (0))])) := known none_known (by kernel_rfl) (by kernel_rfl) (by kernel_rfl)
/-- monocle/fix.ScaleUp (222 steps) -/
theorem call147 : MemoOk Tryz.prog glob hG (184, [(.int false .i64 (0)), (.int false .i64 (10000000)), (.int false .i64 (10000000))], (.tuple [(.int false .i64 (0)), (.int false .i64 (0))])) := known none_known (by kernel_rfl) (by kernel_rfl) (by kernel_rfl)
/-- monocle/fix.ScaleDown (222 steps) -/
theorem call148 : MemoOk Tryz.prog glob hG (183, [(.int false .i64 (4294967296)), (.int false .i64 (10000000)), (.int false .i64 (10000000))], (.tuple [(.int false .i64 (4294967296)), (.int false .i64 (0))])) := known none_known (by kernel_rfl) (by kernel_rfl) (by kernel_rfl)
/-- monocle/fix.ScaleUp (222 steps) -/
theorem call149 : MemoOk Tryz.prog glob hG (184, [(.int false .i64 (4294967296)), (.int false .i64 (10000000)), (.int false .i64 (10000000))], (.tuple [(.int false .i64 (4294967296)), (.int false .i64 (0))])) := known none_known (by kernel_rfl) (by kernel_rfl) (by kernel_rfl)
/-- monocle/fix.ScaleDown (222 steps) -/
theorem call150 : MemoOk Tryz.prog glob hG (183, [(.int false .i64 (4294967296)), (.int false .i64 (10000000)), (.int false .i64 (100000))], (.tuple [(.int false .i64 (429496729600)), (.int false .i64 (0))])) := known none_known (by kernel_rfl) (by kernel_rfl) (by kernel_rfl)
/-- monocle/fix.ScaleUp (222 steps) -/
theorem call151 : MemoOk Tryz.prog glob hG (184, [(.int false .i64 (4294967296)), (.int false .i64 (10000000)), (.int false .i64 (100000))], (.tuple [(.int false .i64 (429496729600)), (.int false .i64 (0))])) := known none_known (by kernel_rfl) (by kernel_rfl) (by kernel_rfl)
/-- monocle/fix.ScaleDown (222 steps) -/
theorem call152 : MemoOk Tryz.prog glob hG (183, [(.int false .i64 (4294967296)), (.int false .i64 (0)), (.int false .i64 (10000000))], (.tuple [(.int false .i64 (0)), (.int false .i64 (0))])) := known none_known (by kernel_rfl) (by kernel_rfl) (by kernel_rfl)
/-- monocle/fix.ScaleUp (222 steps) -/
theorem call153 : MemoOk Tryz.prog glob hG (184, [(.int false .i64 (4294967296)), (.int false .i64 (0)), (.int false .i64 (10000000))], (.tuple [(.int false .i64 (0)), (.int false .i64 (0))])) := known none_known (by kernel_rfl) (by kernel_rfl) (by kernel_rfl)
/-- monocle/fix.ScaleDown (222 steps) -/
theorem call154 : MemoOk Tryz.prog glob hG (183, [(.int false .i64 (429496729600)), (.int false .i64 (500000)), (.int false .i64 (1000000000))], (.tuple [(.int false .i64 (214748364)), (.int false .i64 (0))])) := known none_known (by kernel_rfl) (by kernel_rfl) (by kernel_rfl)
/-- monocle/fix.ScaleUp (225 steps) -/
theorem call155 : MemoOk Tryz.prog glob hG (184, [(.int false .i64 (429496729600)), (.int false .i64 (500000)), (.int false .i64 (1000000000))], (.tuple [(.int false .i64 (214748365)), (.int false .i64 (0))])) := known none_known (by kernel_rfl) (by kernel_rfl) (by kernel_rfl)
/-- monocle/fix.ScaleDown (222 steps) -/
theorem call156 : MemoOk Tryz.prog glob hG (183, [(.int false .i64 (214748364)), (.int false .i64 (10000000)), (.int false .i64 (10000000))], (.tuple [(.int false .i64 (214748364)), (.int false .i64 (0))])) := known none_known (by kernel_rfl) (by kernel_rfl) (by kernel_rfl)
/-- monocle/fix.ScaleUp (222 steps) -/
theorem call157 : MemoOk Tryz.prog glob hG (184, [(.int false .i64 (214748365)), (.int false .i64 (10000000)), (.int false .i64 (10000000))], (.tuple [(.int false .i64 (214748365)), (.int false .i64 (0))])) := known none_known (by kernel_rfl) (by kernel_rfl) (by kernel_rfl)
/-- monocle/fix.MulDown (247 steps) -/
theorem call158 : MemoOk Tryz.prog glob hG (180, [(.int false .i64 (4294967296)), (.int false .i64 (214748364))], (.tuple [(.int false .i64 (214748364)), (.int false .i64 (0))])) := known none_known (by kernel_rfl) (by kernel_rfl) (by kernel_rfl)
/-- monocle/fix.MulUp (247 steps) -/
theorem call159 : MemoOk Tryz.prog glob hG (181, [(.int false .i64 (4294967296)), (.int false .i64 (214748364))], (.tuple [(.int false .i64 (214748364)), (.int false .i64 (0))])) := known none_known (by kernel_rfl) (by kernel_rfl) (by kernel_rfl)
/-- monocle/fix.MulDown (247 steps) -/
theorem call160 : MemoOk Tryz.prog glob hG (180, [(.int false .i64 (4294967296)), (.int false .i64 (214748365))], (.tuple [(.int false .i64 (214748365)), (.int false .i64 (0))])) := known none_known (by kernel_rfl) (by kernel_rfl) (by kernel_rfl)
/-- monocle/fix.MulUp (247 steps) -/
theorem call161 : MemoOk Tryz.prog glob hG (181, [(.int false .i64 (4294967296)), (.int false .i64 (214748365))], (.tuple [(.int false .i64 (214748365)), (.int false .i64 (0))])) := known none_known (by kernel_rfl) (by kernel_rfl) (by kernel_rfl)
/-- monocle/fix.MulDown (247 steps) -/
theorem call162 : MemoOk Tryz.prog glob hG (180, [(.int false .i64 (0)), (.int false .i64 (214748364))], (.tuple [(.int false .i64 (0)), (.int false .i64 (0))])) := known none_known (by kernel_rfl) (by kernel_rfl) (by kernel_rfl)
/-- monocle/fix.MulUp (247 steps) -/
theorem call163 : MemoOk Tryz.prog glob hG (181, [(.int false .i64 (0)), (.int false .i64 (214748364))], (.tuple [(.int false .i64 (0)), (.int false .i64 (0))])) := known none_known (by kernel_rfl) (by kernel_rfl) (by kernel_rfl)
/-- monocle/fix.MulDown (247 steps) -/
theorem call164 : MemoOk Tryz.prog glob hG (180, [(.int false .i64 (0)), (.int false .i64 (214748365))], (.tuple [(.int false .i64 (0)), (.int false .i64 (0))])) := known none_known (by kernel_rfl) (by kernel_rfl) (by kernel_rfl)
/-- monocle/fix.MulUp (247 steps) -/
theorem call165 : MemoOk Tryz.prog glob hG (181, [(.int false .i64 (0)), (.int false .i64 (214748365))], (.tuple [(.int false .i64 (0)), (.int false .i64 (0))])) := known none_known (by kernel_rfl) (by kernel_rfl) (by kernel_rfl)
/-- monocle/fix.MulDown (247 steps) -/
theorem call166 : MemoOk Tryz.prog glob hG (180, [(.int false .i64 (214748364)), (.int false .i64 (0))], (.tuple [(.int false .i64 (0)), (.int false .i64 (0))])) := known none_known (by kernel_rfl) (by kernel_rfl) (by kernel_rfl)
/-- monocle/fix.MulUp (247 steps) -/
theorem call167 : MemoOk Tryz.prog glob hG (181, [(.int false .i64 (214748364)), (.int false .i64 (0))], (.tuple [(.int false .i64 (0)), (.int false .i64 (0))])) := known none_known (by kernel_rfl) (by kernel_rfl) (by kernel_rfl)
/-- monocle/fix.MulDown (247 steps) -/
theorem call168 : MemoOk Tryz.prog glob hG (180, [(.int false .i64 (214748365)), (.int false .i64 (0))], (.tuple [(.int false .i64 (0)), (.int false .i64 (0))])) := known none_known (by kernel_rfl) (by kernel_rfl) (by kernel_rfl)
/-- monocle/fix.MulUp (247 steps) -/
theorem call169 : MemoOk Tryz.prog glob hG (181, [(.int false .i64 (214748365)), (.int false .i64 (0))], (.tuple [(.int false .i64 (0)), (.int false .i64 (0))])) := known none_known (by kernel_rfl) (by kernel_rfl) (by kernel_rfl)
/-- monocle/fix.MulDown (247 steps) -/
theorem call170 : MemoOk Tryz.prog glob hG (180, [(.int false .i64 (214748364)), (.int false .i64 (214748364))], (.tuple [(.int false .i64 (10737418)), (.int false .i64 (0))])) := known none_known (by kernel_rfl) (by kernel_rfl) (by kernel_rfl)
/-- monocle/fix.MulUp (250 steps) -/
theorem call171 : MemoOk Tryz.prog glob hG (181, [(.int false .i64 (214748364)), (.int false .i64 (214748364))], (.tuple [(.int false .i64 (10737419)), (.int false .i64 (0))])) := known none_known (by kernel_rfl) (by kernel_rfl) (by kernel_rfl)
/-- monocle/fix.MulDown (247 steps) -/
theorem call172 : MemoOk Tryz.prog glob hG (180, [(.int false .i64 (214748364)), (.int false .i64 (214748365))], (.tuple [(.int false .i64 (10737418)), (.int false .i64 (0))])) := known none_known (by kernel_rfl) (by kernel_rfl) (by kernel_rfl)
/-- monocle/fix.MulUp (250 steps) -/
theorem call173 : MemoOk Tryz.prog glob hG (181, [(.int false .i64 (214748364)), (.int false .i64 (214748365))], (.tuple [(.int false .i64 (10737419)), (.int false .i64 (0))])) := known none_known (by kernel_rfl) (by kernel_rfl) (by kernel_rfl)
/-- monocle/fix.MulDown (247 steps) -/
theorem call174 : MemoOk Tryz.prog glob hG (180, [(.int false .i64 (214748365)), (.int false .i64 (214748364))], (.tuple [(.int false .i64 (10737418)), (.int false .i64 (0))])) := known none_known (by kernel_rfl) (by kernel_rfl) (by kernel_rfl)
/-- monocle/fix.MulUp (250 steps) -/
theorem call175 : MemoOk Tryz.prog glob hG (181, [(.int false .i64 (214748365)), (.int false .i64 (214748364))], (.tuple [(.int false .i64 (10737419)), (.int false .i64 (0))])) := known none_known (by kernel_rfl) (by kernel_rfl) (by kernel_rfl)
/-- monocle/fix.MulDown (247 steps) -/
theorem call176 : MemoOk Tryz.prog glob hG (180, [(.int false .i64 (214748365)), (.int false .i64 (214748365))], (.tuple [(.int false .i64 (10737418)), (.int false .i64 (0))])) := known none_known (by kernel_rfl) (by kernel_rfl) (by kernel_rfl)
/-- monocle/fix.MulUp (250 steps) -/
theorem call177 : MemoOk Tryz.prog glob hG (181, [(.int false .i64 (214748365)), (.int false .i64 (214748365))], (.tuple [(.int false .i64 (10737419)), (.int false .i64 (0))])) := known none_known (by kernel_rfl) (by kernel_rfl) (by kernel_rfl)
/-- monocle/fix.SqrtDown (4748 steps) -/
theorem call178 : MemoOk Tryz.prog glob hG (137, [(.int false .i64 (4284229877))], (.tuple [(.int false .i64 (4289595226)), (.int false .i64 (0))])) := known none_known (by kernel_rfl) (by kernel_rfl) (by kernel_rfl)
/-- monocle/fix.SqrtUp (4818 steps) -/
theorem call179 : MemoOk Tryz.prog glob hG (138, [(.int false .i64 (4284229878))], (.tuple [(.int false .i64 (4289595228)), (.int false .i64 (0))])) := known none_known (by kernel_rfl) (by kernel_rfl) (by kernel_rfl)
/-- monocle/fix.MulDown (247 steps) -/
theorem call180 : MemoOk Tryz.prog glob hG (180, [(.int false .i64 (0)), (.int false .i64 (4289595226))], (.tuple [(.int false .i64 (0)), (.int false .i64 (0))])) := known none_known (by kernel_rfl) (by kernel_rfl) (by kernel_rfl)
/-- monocle/fix.MulUp (247 steps) -/
theorem call181 : MemoOk Tryz.prog glob hG (181, [(.int false .i64 (0)), (.int false .i64 (4289595226))], (.tuple [(.int false .i64 (0)), (.int false .i64 (0))])) := known none_known (by kernel_rfl) (by kernel_rfl) (by kernel_rfl)
/-- monocle/fix.MulDown (247 steps) -/
theorem call182 : MemoOk Tryz.prog glob hG (180, [(.int false .i64 (0)), (.int false .i64 (4289595228))], (.tuple [(.int false .i64 (0)), (.int false .i64 (0))])) := known none_known (by kernel_rfl) (by kernel_rfl) (by kernel_rfl)
/-- monocle/fix.MulUp (247 steps) -/
theorem call183 : MemoOk Tryz.prog glob hG (181, [(.int false .i64 (0)), (.int false .i64 (4289595228))], (.tuple [(.int false .i64 (0)), (.int false .i64 (0))])) := known none_known (by kernel_rfl) (by kernel_rfl) (by kernel_rfl)
/-- monocle/fix.MulDown (247 steps) -/
theorem call184 : MemoOk Tryz.prog glob hG (180, [(.int false .i64 (4294967296)), (.int false .i64 (4289595226))], (.tuple [(.int false .i64 (4289595226)), (.int false .i64 (0))])) := known none_known (by kernel_rfl) (by kernel_rfl) (by kernel_rfl)
/-- monocle/fix.MulUp (247 steps) -/
theorem call185 : MemoOk Tryz.prog glob hG (181, [(.int false .i64 (4294967296)), (.int false .i64 (4289595226))], (.tuple [(.int false .i64 (4289595226)), (.int false .i64 (0))])) := known none_known (by kernel_rfl) (by kernel_rfl) (by kernel_rfl)
/-- monocle/fix.MulDown (247 steps) -/
theorem call186 : MemoOk Tryz.prog glob hG (180, [(.int false .i64 (4294967296)), (.int false .i64 (4289595228))], (.tuple [(.int false .i64 (4289595228)), (.int false .i64 (0))])) := known none_known (by kernel_rfl) (by kernel_rfl) (by kernel_rfl)
/-- monocle/fix.MulUp (247 steps) -/
theorem call187 : MemoOk Tryz.prog glob hG (181, [(.int false .i64 (4294967296)), (.int false .i64 (4289595228))], (.tuple [(.int false .i64 (4289595228)), (.int false .i64 (0))])) := known none_known (by kernel_rfl) (by kernel_rfl) (by kernel_rfl)
/-- monocle/fix.ScaleDown (222 steps) -/
theorem call188 : MemoOk Tryz.prog glob hG (183, [(.int false .i64 (42949672960)), (.int false .i64 (10000000)), (.int false .i64 (1000000000))], (.tuple [(.int false .i64 (429496729)), (.int false .i64 (0))])) := known none_known (by kernel_rfl) (by kernel_rfl) (by kernel_rfl)
/-- monocle/fix.ScaleUp (225 steps) -/
theorem call189 : MemoOk Tryz.prog glob hG (184, [(.int false .i64 (42949672960)), (.int false .i64 (10000000)), (.int false .i64 (1000000000))], (.tuple [(.int false .i64 (429496730)), (.int false .i64 (0))])) := known none_known (by kernel_rfl) (by kernel_rfl) (by kernel_rfl)
/-- monocle/fix.ScaleDown (222 steps) -/
theorem call190 : MemoOk Tryz.prog glob hG (183, [(.int false .i64 (429496729)), (.int false .i64 (10000000)), (.int false .i64 (10000000))], (.tuple [(.int false .i64 (429496729)), (.int false .i64 (0))])) := known none_known (by kernel_rfl) (by kernel_rfl) (by kernel_rfl)
/-- monocle/fix.ScaleUp (222 steps) -/
theorem call191 : MemoOk Tryz.prog glob hG (184, [(.int false .i64 (429496730)), (.int false .i64 (10000000)), (.int false .i64 (10000000))], (.tuple [(.int false .i64 (429496730)), (.int false .i64 (0))])) := known none_known (by kernel_rfl) (by kernel_rfl) (by kernel_rfl)
/-- monocle/fix.SqrtDown (4740 steps) -/
theorem call192 : MemoOk Tryz.prog glob hG (137, [(.int false .i64 (4337916968))], (.tuple [(.int false .i64 (4316388711)), (.int false .i64 (0))])) := known none_known (by kernel_rfl) (by kernel_rfl) (by kernel_rfl)
/-- monocle/fix.SqrtUp (4804 steps) -/
theorem call193 : MemoOk Tryz.prog glob hG (138, [(.int false .i64 (4337916970))], (.tuple [(.int false .i64 (4316388713)), (.int false .i64 (0))])) := known none_known (by kernel_rfl) (by kernel_rfl) (by kernel_rfl)
/-- monocle/fix.DivDown (256 steps) -/
theorem call194 : MemoOk Tryz.prog glob hG (144, [(.int false .i64 (-429496730)), (.int false .i64 (4316388711))], (.tuple [(.int false .i64 (-427365220)), (.int false .i64 (0))])) := known none_known (by kernel_rfl) (by kernel_rfl) (by kernel_rfl)
/-- monocle/fix.DivUp (253 steps) -/
theorem call195 : MemoOk Tryz.prog glob hG (145, [(.int false .i64 (-429496730)), (.int false .i64 (4316388711))], (.tuple [(.int false .i64 (-427365219)), (.int false .i64 (0))])) := known none_known (by kernel_rfl) (by kernel_rfl) (by kernel_rfl)
/-- monocle/fix.DivDown (256 steps) -/
theorem call196 : MemoOk Tryz.prog glob hG (144, [(.int false .i64 (-429496730)), (.int false .i64 (4316388713))], (.tuple [(.int false .i64 (-427365220)), (.int false .i64 (0))])) := known none_known (by kernel_rfl) (by kernel_rfl) (by kernel_rfl)
/-- monocle/fix.DivUp (253 steps) -/
theorem call197 : MemoOk Tryz.prog glob hG (145, [(.int false .i64 (-429496730)), (.int false .i64 (4316388713))], (.tuple [(.int false .i64 (-427365219)), (.int false .i64 (0))])) := known none_known (by kernel_rfl) (by kernel_rfl) (by kernel_rfl)
/-- monocle/fix.DivDown (256 steps) -/
theorem call198 : MemoOk Tryz.prog glob hG (144, [(.int false .i64 (-429496729)), (.int false .i64 (4316388711))], (.tuple [(.int false .i64 (-427365219)), (.int false .i64 (0))])) := known none_known (by kernel_rfl) (by kernel_rfl) (by kernel_rfl)
/-- monocle/fix.DivUp (253 steps) -/
theorem call199 : MemoOk Tryz.prog glob hG (145, [(.int false .i64 (-429496729)), (.int false .i64 (4316388711))], (.tuple [(.int false .i64 (-427365218)), (.int false .i64 (0))])) := known none_known (by kernel_rfl) (by kernel_rfl) (by kernel_rfl)
/-- monocle/fix.DivDown (256 steps) -/
theorem call200 : MemoOk Tryz.prog glob hG (144, [(.int false .i64 (-429496729)), (.int false .i64 (4316388713))], (.tuple [(.int false .i64 (-427365219)), (.int false .i64 (0))])) := known none_known (by kernel_rfl) (by kernel_rfl) (by kernel_rfl)
/-- monocle/fix.DivUp (253 steps) -/
theorem call201 : MemoOk Tryz.prog glob hG (145, [(.int false .i64 (-429496729)), (.int false .i64 (4316388713))], (.tuple [(.int false .i64 (-427365218)), (.int false .i64 (0))])) := known none_known (by kernel_rfl) (by kernel_rfl) (by kernel_rfl)
/-- monocle/fix.DivDown (249 steps) -/
theorem call202 : MemoOk Tryz.prog glob hG (144, [(.int false .i64 (0)), (.int false .i64 (4316388711))], (.tuple [(.int false .i64 (0)), (.int false .i64 (0))])) := known none_known (by kernel_rfl) (by kernel_rfl) (by kernel_rfl)
/-- monocle/fix.DivUp (249 steps) -/
theorem call203 : MemoOk Tryz.prog glob hG (145, [(.int false .i64 (0)), (.int false .i64 (4316388711))], (.tuple [(.int false .i64 (0)), (.int false .i64 (0))])) := known none_known (by kernel_rfl) (by kernel_rfl) (by kernel_rfl)
/-- monocle/fix.DivDown (249 steps) -/
theorem call204 : MemoOk Tryz.prog glob hG (144, [(.int false .i64 (0)), (.int false .i64 (4316388713))], (.tuple [(.int false .i64 (0)), (.int false .i64 (0))])) := known none_known (by kernel_rfl) (by kernel_rfl) (by kernel_rfl)
end Go.Proofs.YtckglcjiicmbkaaGreatDoor
