/- What is proved: HitKnown returns true (part 9 of 26). No conditions beyond those of the row. -/
import Derived.Test.YtdljkgcdgidldaaGreatDoorPE
set_option linter.unusedVariables false
set_option linter.unusedSimpArgs false
set_option linter.unusedSectionVars false
/- What is proved: calls of the law HitKnown, of which the answers are known (level 1). No conditions. -/
namespace Go.Proofs.YtdljkgcdgidldaaGreatDoor
open Go Go.Eng

/-- monocle/fix.MulDown (251 steps) -/
theorem call182 : MemoOk Tryz.prog glob hG (162, [(.int false .i64 (-64424509380)), (.int false .i64 (0))], (.tuple [(.int false .i64 (0)), (.int false .i64 (0))])) := known none_known (by kernel_rfl) (by kernel_rfl) (by kernel_rfl)
/-- monocle/fix.MulUp (251 steps) -/
theorem call183 : MemoOk Tryz.prog glob hG (163, [(.int false .i64 (-64424509380)), (.int false .i64 (0))], (.tuple [(.int false .i64 (0)), (.int false .i64 (0))])) := known none_known (by kernel_rfl) (by kernel_rfl) (by kernel_rfl)
/-- monocle/fix.ScaleDown (351 steps) -/
theorem call184 : MemoOk Tryz.prog glob hG (171, [(.int false .i64 (1241245546504)), (.int false .i64 (1000000000)), (.int false .i64 (1000000000))], (.tuple [(.int false .i64 (1241245546504)), (.int false .i64 (0))])) := known none_known (by kernel_rfl) (by kernel_rfl) (by kernel_rfl)
/-- monocle/fix.ScaleUp (351 steps) -/
theorem call185 : MemoOk Tryz.prog glob hG (172, [(.int false .i64 (1241245551639)), (.int false .i64 (1000000000)), (.int false .i64 (1000000000))], (.tuple [(.int false .i64 (1241245551639)), (.int false .i64 (0))])) := known none_known (by kernel_rfl) (by kernel_rfl) (by kernel_rfl)
/-- monocle/fix.MulDown (372 steps) -/
theorem call186 : MemoOk Tryz.prog glob hG (162, [(.int false .i64 (4294967296)), (.int false .i64 (-73014444123))], (.tuple [(.int false .i64 (-73014444123)), (.int false .i64 (0))])) := known none_known (by kernel_rfl) (by kernel_rfl) (by kernel_rfl)
/-- monocle/fix.MulUp (372 steps) -/
theorem call187 : MemoOk Tryz.prog glob hG (163, [(.int false .i64 (4294967296)), (.int false .i64 (-73014444123))], (.tuple [(.int false .i64 (-73014444123)), (.int false .i64 (0))])) := known none_known (by kernel_rfl) (by kernel_rfl) (by kernel_rfl)
/-- monocle/fix.MulDown (372 steps) -/
theorem call188 : MemoOk Tryz.prog glob hG (162, [(.int false .i64 (4294967296)), (.int false .i64 (-73014443972))], (.tuple [(.int false .i64 (-73014443972)), (.int false .i64 (0))])) := known none_known (by kernel_rfl) (by kernel_rfl) (by kernel_rfl)
/-- monocle/fix.MulUp (372 steps) -/
theorem call189 : MemoOk Tryz.prog glob hG (163, [(.int false .i64 (4294967296)), (.int false .i64 (-73014443972))], (.tuple [(.int false .i64 (-73014443972)), (.int false .i64 (0))])) := known none_known (by kernel_rfl) (by kernel_rfl) (by kernel_rfl)
/-- monocle/fix.ScaleDown (355 steps) -/
theorem call190 : MemoOk Tryz.prog glob hG (171, [(.int false .i64 (-73014444123)), (.int false .i64 (1000000000)), (.int false .i64 (1000000000))], (.tuple [(.int false .i64 (-73014444123)), (.int false .i64 (0))])) := known none_known (by kernel_rfl) (by kernel_rfl) (by kernel_rfl)
/-- monocle/fix.ScaleUp (355 steps) -/
theorem call191 : MemoOk Tryz.prog glob hG (172, [(.int false .i64 (-73014443972)), (.int false .i64 (1000000000)), (.int false .i64 (1000000000))], (.tuple [(.int false .i64 (-73014443972)), (.int false .i64 (0))])) := known none_known (by kernel_rfl) (by kernel_rfl) (by kernel_rfl)
/-- monocle/fix.MulDown (368 steps) -/
theorem call192 : MemoOk Tryz.prog glob hG (162, [(.int false .i64 (1241245546504)), (.int false .i64 (4337916968))], (.tuple [(.int false .i64 (1253658001691)), (.int false .i64 (0))])) := known none_known (by kernel_rfl) (by kernel_rfl) (by kernel_rfl)
/-- monocle/fix.MulUp (371 steps) -/
theorem call193 : MemoOk Tryz.prog glob hG (163, [(.int false .i64 (1241245546504)), (.int false .i64 (4337916968))], (.tuple [(.int false .i64 (1253658001692)), (.int false .i64 (0))])) := known none_known (by kernel_rfl) (by kernel_rfl) (by kernel_rfl)
/-- monocle/fix.MulDown (368 steps) -/
theorem call194 : MemoOk Tryz.prog glob hG (162, [(.int false .i64 (1241245546504)), (.int false .i64 (4337916970))], (.tuple [(.int false .i64 (1253658002269)), (.int false .i64 (0))])) := known none_known (by kernel_rfl) (by kernel_rfl) (by kernel_rfl)
/-- monocle/fix.MulUp (371 steps) -/
theorem call195 : MemoOk Tryz.prog glob hG (163, [(.int false .i64 (1241245546504)), (.int false .i64 (4337916970))], (.tuple [(.int false .i64 (1253658002270)), (.int false .i64 (0))])) := known none_known (by kernel_rfl) (by kernel_rfl) (by kernel_rfl)
/-- monocle/fix.MulDown (368 steps) -/
theorem call196 : MemoOk Tryz.prog glob hG (162, [(.int false .i64 (1241245551639)), (.int false .i64 (4337916968))], (.tuple [(.int false .i64 (1253658006877)), (.int false .i64 (0))])) := known none_known (by kernel_rfl) (by kernel_rfl) (by kernel_rfl)
/-- monocle/fix.MulUp (371 steps) -/
theorem call197 : MemoOk Tryz.prog glob hG (163, [(.int false .i64 (1241245551639)), (.int false .i64 (4337916968))], (.tuple [(.int false .i64 (1253658006878)), (.int false .i64 (0))])) := known none_known (by kernel_rfl) (by kernel_rfl) (by kernel_rfl)
/-- monocle/fix.MulDown (368 steps) -/
theorem call198 : MemoOk Tryz.prog glob hG (162, [(.int false .i64 (1241245551639)), (.int false .i64 (4337916970))], (.tuple [(.int false .i64 (1253658007455)), (.int false .i64 (0))])) := known none_known (by kernel_rfl) (by kernel_rfl) (by kernel_rfl)
/-- monocle/fix.MulUp (371 steps) -/
theorem call199 : MemoOk Tryz.prog glob hG (163, [(.int false .i64 (1241245551639)), (.int false .i64 (4337916970))], (.tuple [(.int false .i64 (1253658007456)), (.int false .i64 (0))])) := known none_known (by kernel_rfl) (by kernel_rfl) (by kernel_rfl)
/-- monocle/fix.SqrtDown (4744 steps) -/
theorem call200 : MemoOk Tryz.prog glob hG (153, [(.int false .i64 (2233377494))], (.tuple [(.int false .i64 (3097141148)), (.int false .i64 (0))])) := known none_known (by kernel_rfl) (by kernel_rfl) (by kernel_rfl)
/-- monocle/fix.SqrtUp (4814 steps) -/
theorem call201 : MemoOk Tryz.prog glob hG (154, [(.int false .i64 (2233388459))], (.tuple [(.int false .i64 (3097148752)), (.int false .i64 (0))])) := known none_known (by kernel_rfl) (by kernel_rfl) (by kernel_rfl)
/-- monocle/fix.DivDown (370 steps) -/
theorem call202 : MemoOk Tryz.prog glob hG (160, [(.int false .i64 (1241245546504)), (.int false .i64 (76541081849))], (.tuple [(.int false .i64 (69650296282)), (.int false .i64 (0))])) := known none_known (by kernel_rfl) (by kernel_rfl) (by kernel_rfl)
/-- monocle/fix.DivUp (373 steps) -/
theorem call203 : MemoOk Tryz.prog glob hG (161, [(.int false .i64 (1241245546504)), (.int false .i64 (76541081849))], (.tuple [(.int false .i64 (69650296283)), (.int false .i64 (0))])) := known none_known (by kernel_rfl) (by kernel_rfl) (by kernel_rfl)
/-- monocle/fix.DivDown (370 steps) -/
theorem call204 : MemoOk Tryz.prog glob hG (160, [(.int false .i64 (1241245546504)), (.int false .i64 (76541089605))], (.tuple [(.int false .i64 (69650289224)), (.int false .i64 (0))])) := known none_known (by kernel_rfl) (by kernel_rfl) (by kernel_rfl)
/-- monocle/fix.DivUp (373 steps) -/
theorem call205 : MemoOk Tryz.prog glob hG (161, [(.int false .i64 (1241245546504)), (.int false .i64 (76541089605))], (.tuple [(.int false .i64 (69650289225)), (.int false .i64 (0))])) := known none_known (by kernel_rfl) (by kernel_rfl) (by kernel_rfl)
/-- monocle/fix.DivDown (370 steps) -/
theorem call206 : MemoOk Tryz.prog glob hG (160, [(.int false .i64 (1241245551639)), (.int false .i64 (76541081849))], (.tuple [(.int false .i64 (69650296570)), (.int false .i64 (0))])) := known none_known (by kernel_rfl) (by kernel_rfl) (by kernel_rfl)
/-- monocle/fix.DivUp (373 steps) -/
theorem call207 : MemoOk Tryz.prog glob hG (161, [(.int false .i64 (1241245551639)), (.int false .i64 (76541081849))], (.tuple [(.int false .i64 (69650296571)), (.int false .i64 (0))])) := known none_known (by kernel_rfl) (by kernel_rfl) (by kernel_rfl)
/-- monocle/fix.DivDown (370 steps) -/
theorem call208 : MemoOk Tryz.prog glob hG (160, [(.int false .i64 (1241245551639)), (.int false .i64 (76541089605))], (.tuple [(.int false .i64 (69650289512)), (.int false .i64 (0))])) := known none_known (by kernel_rfl) (by kernel_rfl) (by kernel_rfl)
/-- monocle/fix.DivUp (373 steps) -/
theorem call209 : MemoOk Tryz.prog glob hG (161, [(.int false .i64 (1241245551639)), (.int false .i64 (76541089605))], (.tuple [(.int false .i64 (69650289513)), (.int false .i64 (0))])) := known none_known (by kernel_rfl) (by kernel_rfl) (by kernel_rfl)
/-- monocle/fix.MulDown (368 steps) -/
theorem call210 : MemoOk Tryz.prog glob hG (162, [(.int false .i64 (69650289224)), (.int false .i64 (429496729))], (.tuple [(.int false .i64 (6965028912)), (.int false .i64 (0))])) := known none_known (by kernel_rfl) (by kernel_rfl) (by kernel_rfl)
/-- monocle/fix.MulUp (371 steps) -/
theorem call211 : MemoOk Tryz.prog glob hG (163, [(.int false .i64 (69650289224)), (.int false .i64 (429496729))], (.tuple [(.int false .i64 (6965028913)), (.int false .i64 (0))])) := known none_known (by kernel_rfl) (by kernel_rfl) (by kernel_rfl)
/-- monocle/fix.MulDown (368 steps) -/
theorem call212 : MemoOk Tryz.prog glob hG (162, [(.int false .i64 (69650289224)), (.int false .i64 (429496730))], (.tuple [(.int false .i64 (6965028928)), (.int false .i64 (0))])) := known none_known (by kernel_rfl) (by kernel_rfl) (by kernel_rfl)
/-- monocle/fix.MulUp (371 steps) -/
theorem call213 : MemoOk Tryz.prog glob hG (163, [(.int false .i64 (69650289224)), (.int false .i64 (429496730))], (.tuple [(.int false .i64 (6965028929)), (.int false .i64 (0))])) := known none_known (by kernel_rfl) (by kernel_rfl) (by kernel_rfl)
/-- monocle/fix.MulDown (368 steps) -/
theorem call214 : MemoOk Tryz.prog glob hG (162, [(.int false .i64 (69650296571)), (.int false .i64 (429496729))], (.tuple [(.int false .i64 (6965029647)), (.int false .i64 (0))])) := known none_known (by kernel_rfl) (by kernel_rfl) (by kernel_rfl)
/-- monocle/fix.MulUp (371 steps) -/
theorem call215 : MemoOk Tryz.prog glob hG (163, [(.int false .i64 (69650296571)), (.int false .i64 (429496729))], (.tuple [(.int false .i64 (6965029648)), (.int false .i64 (0))])) := known none_known (by kernel_rfl) (by kernel_rfl) (by kernel_rfl)
/-- monocle/fix.MulDown (368 steps) -/
theorem call216 : MemoOk Tryz.prog glob hG (162, [(.int false .i64 (69650296571)), (.int false .i64 (429496730))], (.tuple [(.int false .i64 (6965029663)), (.int false .i64 (0))])) := known none_known (by kernel_rfl) (by kernel_rfl) (by kernel_rfl)
/-- monocle/fix.MulUp (371 steps) -/
theorem call217 : MemoOk Tryz.prog glob hG (163, [(.int false .i64 (69650296571)), (.int false .i64 (429496730))], (.tuple [(.int false .i64 (6965029664)), (.int false .i64 (0))])) := known none_known (by kernel_rfl) (by kernel_rfl) (by kernel_rfl)
/-- monocle/fix.ScaleDown (222 steps) -/
theorem call218 : MemoOk Tryz.prog glob hG (171, [(.int false .i64 (6965028912)), (.int false .i64 (1000000)), (.int false .i64 (1000000))], (.tuple [(.int false .i64 (6965028912)), (.int false .i64 (0))])) := known none_known (by kernel_rfl) (by kernel_rfl) (by kernel_rfl)
/-- monocle/fix.ScaleUp (222 steps) -/
theorem call219 : MemoOk Tryz.prog glob hG (172, [(.int false .i64 (6965029664)), (.int false .i64 (1000000)), (.int false .i64 (1000000))], (.tuple [(.int false .i64 (6965029664)), (.int false .i64 (0))])) := known none_known (by kernel_rfl) (by kernel_rfl) (by kernel_rfl)
/-- monocle/fix.ScaleDown (222 steps) -/
theorem call220 : MemoOk Tryz.prog glob hG (171, [(.int false .i64 (6965028912)), (.int false .i64 (1000000000)), (.int false .i64 (1000000000))], (.tuple [(.int false .i64 (6965028912)), (.int false .i64 (0))])) := known none_known (by kernel_rfl) (by kernel_rfl) (by kernel_rfl)
/-- monocle/fix.ScaleUp (222 steps) -/
theorem call221 : MemoOk Tryz.prog glob hG (172, [(.int false .i64 (6965029664)), (.int false .i64 (1000000000)), (.int false .i64 (1000000000))], (.tuple [(.int false .i64 (6965029664)), (.int false .i64 (0))])) := known none_known (by kernel_rfl) (by kernel_rfl) (by kernel_rfl)
/-- monocle/fix.DivDown (370 steps) -/
theorem call222 : MemoOk Tryz.prog glob hG (160, [(.int false .i64 (8589934592)), (.int false .i64 (4294967296))], (.tuple [(.int false .i64 (8589934592)), (.int false .i64 (0))])) := known none_known (by kernel_rfl) (by kernel_rfl) (by kernel_rfl)
/-- monocle/fix.DivUp (370 steps) -/
theorem call223 : MemoOk Tryz.prog glob hG (161, [(.int false .i64 (8589934592)), (.int false .i64 (4294967296))], (.tuple [(.int false .i64 (8589934592)), (.int false .i64 (0))])) := known none_known (by kernel_rfl) (by kernel_rfl) (by kernel_rfl)
/-- monocle/fix.MulDown (247 steps) -/
theorem call224 : MemoOk Tryz.prog glob hG (162, [(.int false .i64 (8589934592)), (.int false .i64 (0))], (.tuple [(.int false .i64 (0)), (.int false .i64 (0))])) := known none_known (by kernel_rfl) (by kernel_rfl) (by kernel_rfl)
/-- monocle/fix.MulUp (247 steps) -/
theorem call225 : MemoOk Tryz.prog glob hG (163, [(.int false .i64 (8589934592)), (.int false .i64 (0))], (.tuple [(.int false .i64 (0)), (.int false .i64 (0))])) := known none_known (by kernel_rfl) (by kernel_rfl) (by kernel_rfl)
/-- monocle/fix.ScaleDown (222 steps) -/
theorem call226 : MemoOk Tryz.prog glob hG (171, [(.int false .i64 (429496729600)), (.int false .i64 (0)), (.int false .i64 (1000000000))], (.tuple [(.int false .i64 (0)), (.int false .i64 (0))])) := known none_known (by kernel_rfl) (by kernel_rfl) (by kernel_rfl)
/-- monocle/fix.ScaleUp (222 steps) -/
theorem call227 : MemoOk Tryz.prog glob hG (172, [(.int false .i64 (429496729600)), (.int false .i64 (0)), (.int false .i64 (1000000000))], (.tuple [(.int false .i64 (0)), (.int false .i64 (0))])) := known none_known (by kernel_rfl) (by kernel_rfl) (by kernel_rfl)
/-- monocle/fix.MulDown (247 steps) -/
theorem call228 : MemoOk Tryz.prog glob hG (162, [(.int false .i64 (0)), (.int false .i64 (42949672960))], (.tuple [(.int false .i64 (0)), (.int false .i64 (0))])) := known none_known (by kernel_rfl) (by kernel_rfl) (by kernel_rfl)
/-- monocle/fix.MulUp (247 steps) -/
theorem call229 : MemoOk Tryz.prog glob hG (163, [(.int false .i64 (0)), (.int false .i64 (42949672960))], (.tuple [(.int false .i64 (0)), (.int false .i64 (0))])) := known none_known (by kernel_rfl) (by kernel_rfl) (by kernel_rfl)
/-- monocle/fix.MulDown (251 steps) -/
theorem call230 : MemoOk Tryz.prog glob hG (162, [(.int false .i64 (-1048576)), (.int false .i64 (0))], (.tuple [(.int false .i64 (0)), (.int false .i64 (0))])) := known none_known (by kernel_rfl) (by kernel_rfl) (by kernel_rfl)
/-- monocle/fix.MulUp (251 steps) -/
theorem call231 : MemoOk Tryz.prog glob hG (163, [(.int false .i64 (-1048576)), (.int false .i64 (0))], (.tuple [(.int false .i64 (0)), (.int false .i64 (0))])) := known none_known (by kernel_rfl) (by kernel_rfl) (by kernel_rfl)
/-- monocle/fix.MulDown (247 steps) -/
theorem call232 : MemoOk Tryz.prog glob hG (162, [(.int false .i64 (1048576)), (.int false .i64 (0))], (.tuple [(.int false .i64 (0)), (.int false .i64 (0))])) := known none_known (by kernel_rfl) (by kernel_rfl) (by kernel_rfl)
/-- monocle/fix.MulUp (247 steps) -/
theorem call233 : MemoOk Tryz.prog glob hG (163, [(.int false .i64 (1048576)), (.int false .i64 (0))], (.tuple [(.int false .i64 (0)), (.int false .i64 (0))])) := known none_known (by kernel_rfl) (by kernel_rfl) (by kernel_rfl)
/-- monocle/fix.MulDown (251 steps) -/
theorem call234 : MemoOk Tryz.prog glob hG (162, [(.int false .i64 (-1048576)), (.int false .i64 (4294967296))], (.tuple [(.int false .i64 (-1048576)), (.int false .i64 (0))])) := known none_known (by kernel_rfl) (by kernel_rfl) (by kernel_rfl)
/-- monocle/fix.MulUp (251 steps) -/
theorem call235 : MemoOk Tryz.prog glob hG (163, [(.int false .i64 (-1048576)), (.int false .i64 (4294967296))], (.tuple [(.int false .i64 (-1048576)), (.int false .i64 (0))])) := known none_known (by kernel_rfl) (by kernel_rfl) (by kernel_rfl)
/-- monocle/fix.MulDown (247 steps) -/
theorem call236 : MemoOk Tryz.prog glob hG (162, [(.int false .i64 (1048576)), (.int false .i64 (4294967296))], (.tuple [(.int false .i64 (1048576)), (.int false .i64 (0))])) := known none_known (by kernel_rfl) (by kernel_rfl) (by kernel_rfl)
/-- monocle/fix.MulUp (247 steps) -/
theorem call237 : MemoOk Tryz.prog glob hG (163, [(.int false .i64 (1048576)), (.int false .i64 (4294967296))], (.tuple [(.int false .i64 (1048576)), (.int false .i64 (0))])) := known none_known (by kernel_rfl) (by kernel_rfl) (by kernel_rfl)
/-- monocle/fix.ScaleDown (222 steps) -/
theorem call238 : MemoOk Tryz.prog glob hG (171, [(.int false .i64 (429496729600)), (.int false .i64 (1)), (.int false .i64 (100))], (.tuple [(.int false .i64 (4294967296)), (.int false .i64 (0))])) := known none_known (by kernel_rfl) (by kernel_rfl) (by kernel_rfl)
/-- monocle/fix.ScaleUp (222 steps) -/
theorem call239 : MemoOk Tryz.prog glob hG (172, [(.int false .i64 (429496729600)), (.int false .i64 (1)), (.int false .i64 (100))], (.tuple [(.int false .i64 (4294967296)), (.int false .i64 (0))])) := known none_known (by kernel_rfl) (by kernel_rfl) (by kernel_rfl)
/-- monocle/fix.ScaleDown (222 steps) -/
theorem call240 : MemoOk Tryz.prog glob hG (171, [(.int false .i64 (4294967296)), (.int false .i64 (2000000)), (.int false .i64 (1000000))], (.tuple [(.int false .i64 (8589934592)), (.int false .i64 (0))])) := known none_known (by kernel_rfl) (by kernel_rfl) (by kernel_rfl)
/-- monocle/fix.ScaleUp (222 steps) -/
theorem call241 : MemoOk Tryz.prog glob hG (172, [(.int false .i64 (4294967296)), (.int false .i64 (2000000)), (.int false .i64 (1000000))], (.tuple [(.int false .i64 (8589934592)), (.int false .i64 (0))])) := known none_known (by kernel_rfl) (by kernel_rfl) (by kernel_rfl)
/-- monocle/fix.ScaleDown (222 steps) -/
theorem call242 : MemoOk Tryz.prog glob hG (171, [(.int false .i64 (0)), (.int false .i64 (1)), (.int false .i64 (50))], (.tuple [(.int false .i64 (0)), (.int false .i64 (0))])) := known none_known (by kernel_rfl) (by kernel_rfl) (by kernel_rfl)
/-- monocle/fix.ScaleUp (222 steps) -/
theorem call243 : MemoOk Tryz.prog glob hG (172, [(.int false .i64 (0)), (.int false .i64 (1)), (.int false .i64 (50))], (.tuple [(.int false .i64 (0)), (.int false .i64 (0))])) := known none_known (by kernel_rfl) (by kernel_rfl) (by kernel_rfl)
/-- monocle/fix.MulDown (368 steps) -/
theorem call244 : MemoOk Tryz.prog glob hG (162, [(.int false .i64 (4294967296)), (.int false .i64 (8589934592))], (.tuple [(.int false .i64 (8589934592)), (.int false .i64 (0))])) := known none_known (by kernel_rfl) (by kernel_rfl) (by kernel_rfl)
/-- monocle/fix.MulUp (368 steps) -/
theorem call245 : MemoOk Tryz.prog glob hG (163, [(.int false .i64 (4294967296)), (.int false .i64 (8589934592))], (.tuple [(.int false .i64 (8589934592)), (.int false .i64 (0))])) := known none_known (by kernel_rfl) (by kernel_rfl) (by kernel_rfl)
/-- monocle/fix.ScaleDown (222 steps) -/
theorem call246 : MemoOk Tryz.prog glob hG (171, [(.int false .i64 (42949672960)), (.int false .i64 (0)), (.int false .i64 (1000000000))], (.tuple [(.int false .i64 (0)), (.int false .i64 (0))])) := known none_known (by kernel_rfl) (by kernel_rfl) (by kernel_rfl)
/-- monocle/fix.ScaleUp (222 steps) -/
theorem call247 : MemoOk Tryz.prog glob hG (172, [(.int false .i64 (42949672960)), (.int false .i64 (0)), (.int false .i64 (1000000000))], (.tuple [(.int false .i64 (0)), (.int false .i64 (0))])) := known none_known (by kernel_rfl) (by kernel_rfl) (by kernel_rfl)
/-- monocle/fix.ScaleDown (222 steps) -/
theorem call248 : MemoOk Tryz.prog glob hG (171, [(.int false .i64 (42949672960)), (.int false .i64 (1)), (.int false .i64 (50))], (.tuple [(.int false .i64 (858993459)), (.int false .i64 (0))])) := known none_known (by kernel_rfl) (by kernel_rfl) (by kernel_rfl)
/-- monocle/fix.ScaleUp (225 steps) -/
theorem call249 : MemoOk Tryz.prog glob hG (172, [(.int false .i64 (42949672960)), (.int false .i64 (1)), (.int false .i64 (50))], (.tuple [(.int false .i64 (858993460)), (.int false .i64 (0))])) := known none_known (by kernel_rfl) (by kernel_rfl) (by kernel_rfl)
end Go.Proofs.YtdljkgcdgidldaaGreatDoor
