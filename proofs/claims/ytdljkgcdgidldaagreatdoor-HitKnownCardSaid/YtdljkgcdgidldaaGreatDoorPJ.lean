/- What is proved: HitKnown returns true (part 10 of 26). No conditions beyond those of the row. -/
import Derived.Test.YtdljkgcdgidldaaGreatDoorPE
set_option linter.unusedVariables false
set_option linter.unusedSimpArgs false
set_option linter.unusedSectionVars false
/- What is proved: calls of the law HitKnown, of which the answers are known (level 1). No conditions. -/
namespace Go.Proofs.YtdljkgcdgidldaaGreatDoor
open Go Go.Eng

/-- monocle/fix.MulDown (247 steps) -/
theorem call250 : MemoOk Tryz.prog glob hG (162, [(.int false .i64 (858993459)), (.int false .i64 (8589934592))], (.tuple [(.int false .i64 (1717986918)), (.int false .i64 (0))])) := known none_known (by kernel_rfl) (by kernel_rfl) (by kernel_rfl)
/-- monocle/fix.MulUp (247 steps) -/
theorem call251 : MemoOk Tryz.prog glob hG (163, [(.int false .i64 (858993459)), (.int false .i64 (8589934592))], (.tuple [(.int false .i64 (1717986918)), (.int false .i64 (0))])) := known none_known (by kernel_rfl) (by kernel_rfl) (by kernel_rfl)
/-- monocle/fix.MulDown (247 steps) -/
theorem call252 : MemoOk Tryz.prog glob hG (162, [(.int false .i64 (858993460)), (.int false .i64 (8589934592))], (.tuple [(.int false .i64 (1717986920)), (.int false .i64 (0))])) := known none_known (by kernel_rfl) (by kernel_rfl) (by kernel_rfl)
/-- monocle/fix.MulUp (247 steps) -/
theorem call253 : MemoOk Tryz.prog glob hG (163, [(.int false .i64 (858993460)), (.int false .i64 (8589934592))], (.tuple [(.int false .i64 (1717986920)), (.int false .i64 (0))])) := known none_known (by kernel_rfl) (by kernel_rfl) (by kernel_rfl)
/-- monocle/fix.MulDown (247 steps) -/
theorem call254 : MemoOk Tryz.prog glob hG (162, [(.int false .i64 (1717986918)), (.int false .i64 (0))], (.tuple [(.int false .i64 (0)), (.int false .i64 (0))])) := known none_known (by kernel_rfl) (by kernel_rfl) (by kernel_rfl)
/-- monocle/fix.MulUp (247 steps) -/
theorem call255 : MemoOk Tryz.prog glob hG (163, [(.int false .i64 (1717986918)), (.int false .i64 (0))], (.tuple [(.int false .i64 (0)), (.int false .i64 (0))])) := known none_known (by kernel_rfl) (by kernel_rfl) (by kernel_rfl)
/-- monocle/fix.MulDown (247 steps) -/
theorem call256 : MemoOk Tryz.prog glob hG (162, [(.int false .i64 (1717986920)), (.int false .i64 (0))], (.tuple [(.int false .i64 (0)), (.int false .i64 (0))])) := known none_known (by kernel_rfl) (by kernel_rfl) (by kernel_rfl)
/-- monocle/fix.MulUp (247 steps) -/
theorem call257 : MemoOk Tryz.prog glob hG (163, [(.int false .i64 (1717986920)), (.int false .i64 (0))], (.tuple [(.int false .i64 (0)), (.int false .i64 (0))])) := known none_known (by kernel_rfl) (by kernel_rfl) (by kernel_rfl)
/-- monocle/fix.DivDown (374 steps) -/
theorem call258 : MemoOk Tryz.prog glob hG (160, [(.int false .i64 (-4294967296)), (.int false .i64 (4294967296))], (.tuple [(.int false .i64 (-4294967296)), (.int false .i64 (0))])) := known none_known (by kernel_rfl) (by kernel_rfl) (by kernel_rfl)
/-- monocle/fix.DivUp (374 steps) -/
theorem call259 : MemoOk Tryz.prog glob hG (161, [(.int false .i64 (-4294967296)), (.int false .i64 (4294967296))], (.tuple [(.int false .i64 (-4294967296)), (.int false .i64 (0))])) := known none_known (by kernel_rfl) (by kernel_rfl) (by kernel_rfl)
/-- monocle/fix.MulDown (251 steps) -/
theorem call260 : MemoOk Tryz.prog glob hG (162, [(.int false .i64 (-67108864)), (.int false .i64 (0))], (.tuple [(.int false .i64 (0)), (.int false .i64 (0))])) := known none_known (by kernel_rfl) (by kernel_rfl) (by kernel_rfl)
/-- monocle/fix.MulUp (251 steps) -/
theorem call261 : MemoOk Tryz.prog glob hG (163, [(.int false .i64 (-67108864)), (.int false .i64 (0))], (.tuple [(.int false .i64 (0)), (.int false .i64 (0))])) := known none_known (by kernel_rfl) (by kernel_rfl) (by kernel_rfl)
/-- monocle/fix.MulDown (247 steps) -/
theorem call262 : MemoOk Tryz.prog glob hG (162, [(.int false .i64 (67108864)), (.int false .i64 (0))], (.tuple [(.int false .i64 (0)), (.int false .i64 (0))])) := known none_known (by kernel_rfl) (by kernel_rfl) (by kernel_rfl)
/-- monocle/fix.MulUp (247 steps) -/
theorem call263 : MemoOk Tryz.prog glob hG (163, [(.int false .i64 (67108864)), (.int false .i64 (0))], (.tuple [(.int false .i64 (0)), (.int false .i64 (0))])) := known none_known (by kernel_rfl) (by kernel_rfl) (by kernel_rfl)
/-- monocle/fix.MulDown (251 steps) -/
theorem call264 : MemoOk Tryz.prog glob hG (162, [(.int false .i64 (-67108864)), (.int false .i64 (4294967296))], (.tuple [(.int false .i64 (-67108864)), (.int false .i64 (0))])) := known none_known (by kernel_rfl) (by kernel_rfl) (by kernel_rfl)
/-- monocle/fix.MulUp (251 steps) -/
theorem call265 : MemoOk Tryz.prog glob hG (163, [(.int false .i64 (-67108864)), (.int false .i64 (4294967296))], (.tuple [(.int false .i64 (-67108864)), (.int false .i64 (0))])) := known none_known (by kernel_rfl) (by kernel_rfl) (by kernel_rfl)
/-- monocle/fix.MulDown (247 steps) -/
theorem call266 : MemoOk Tryz.prog glob hG (162, [(.int false .i64 (67108864)), (.int false .i64 (4294967296))], (.tuple [(.int false .i64 (67108864)), (.int false .i64 (0))])) := known none_known (by kernel_rfl) (by kernel_rfl) (by kernel_rfl)
/-- monocle/fix.MulUp (247 steps) -/
theorem call267 : MemoOk Tryz.prog glob hG (163, [(.int false .i64 (67108864)), (.int false .i64 (4294967296))], (.tuple [(.int false .i64 (67108864)), (.int false .i64 (0))])) := known none_known (by kernel_rfl) (by kernel_rfl) (by kernel_rfl)
/-- monocle/fix.MulDown (251 steps) -/
theorem call268 : MemoOk Tryz.prog glob hG (162, [(.int false .i64 (-2147483648)), (.int false .i64 (0))], (.tuple [(.int false .i64 (0)), (.int false .i64 (0))])) := known none_known (by kernel_rfl) (by kernel_rfl) (by kernel_rfl)
/-- monocle/fix.MulUp (251 steps) -/
theorem call269 : MemoOk Tryz.prog glob hG (163, [(.int false .i64 (-2147483648)), (.int false .i64 (0))], (.tuple [(.int false .i64 (0)), (.int false .i64 (0))])) := known none_known (by kernel_rfl) (by kernel_rfl) (by kernel_rfl)
/-- monocle/fix.MulDown (247 steps) -/
theorem call270 : MemoOk Tryz.prog glob hG (162, [(.int false .i64 (2147483648)), (.int false .i64 (0))], (.tuple [(.int false .i64 (0)), (.int false .i64 (0))])) := known none_known (by kernel_rfl) (by kernel_rfl) (by kernel_rfl)
/-- monocle/fix.MulUp (247 steps) -/
theorem call271 : MemoOk Tryz.prog glob hG (163, [(.int false .i64 (2147483648)), (.int false .i64 (0))], (.tuple [(.int false .i64 (0)), (.int false .i64 (0))])) := known none_known (by kernel_rfl) (by kernel_rfl) (by kernel_rfl)
/-- monocle/fix.MulDown (251 steps) -/
theorem call272 : MemoOk Tryz.prog glob hG (162, [(.int false .i64 (-2147483648)), (.int false .i64 (4294967296))], (.tuple [(.int false .i64 (-2147483648)), (.int false .i64 (0))])) := known none_known (by kernel_rfl) (by kernel_rfl) (by kernel_rfl)
/-- monocle/fix.MulUp (251 steps) -/
theorem call273 : MemoOk Tryz.prog glob hG (163, [(.int false .i64 (-2147483648)), (.int false .i64 (4294967296))], (.tuple [(.int false .i64 (-2147483648)), (.int false .i64 (0))])) := known none_known (by kernel_rfl) (by kernel_rfl) (by kernel_rfl)
/-- monocle/fix.MulDown (247 steps) -/
theorem call274 : MemoOk Tryz.prog glob hG (162, [(.int false .i64 (2147483648)), (.int false .i64 (4294967296))], (.tuple [(.int false .i64 (2147483648)), (.int false .i64 (0))])) := known none_known (by kernel_rfl) (by kernel_rfl) (by kernel_rfl)
/-- monocle/fix.MulUp (247 steps) -/
theorem call275 : MemoOk Tryz.prog glob hG (163, [(.int false .i64 (2147483648)), (.int false .i64 (4294967296))], (.tuple [(.int false .i64 (2147483648)), (.int false .i64 (0))])) := known none_known (by kernel_rfl) (by kernel_rfl) (by kernel_rfl)
/-- monocle/fix.MulDown (251 steps) -/
theorem call276 : MemoOk Tryz.prog glob hG (162, [(.int false .i64 (-34359738368)), (.int false .i64 (0))], (.tuple [(.int false .i64 (0)), (.int false .i64 (0))])) := known none_known (by kernel_rfl) (by kernel_rfl) (by kernel_rfl)
/-- monocle/fix.MulUp (251 steps) -/
theorem call277 : MemoOk Tryz.prog glob hG (163, [(.int false .i64 (-34359738368)), (.int false .i64 (0))], (.tuple [(.int false .i64 (0)), (.int false .i64 (0))])) := known none_known (by kernel_rfl) (by kernel_rfl) (by kernel_rfl)
/-- monocle/fix.MulDown (247 steps) -/
theorem call278 : MemoOk Tryz.prog glob hG (162, [(.int false .i64 (34359738368)), (.int false .i64 (0))], (.tuple [(.int false .i64 (0)), (.int false .i64 (0))])) := known none_known (by kernel_rfl) (by kernel_rfl) (by kernel_rfl)
/-- monocle/fix.MulUp (247 steps) -/
theorem call279 : MemoOk Tryz.prog glob hG (163, [(.int false .i64 (34359738368)), (.int false .i64 (0))], (.tuple [(.int false .i64 (0)), (.int false .i64 (0))])) := known none_known (by kernel_rfl) (by kernel_rfl) (by kernel_rfl)
/-- monocle/fix.MulDown (372 steps) -/
theorem call280 : MemoOk Tryz.prog glob hG (162, [(.int false .i64 (-34359738368)), (.int false .i64 (4294967296))], (.tuple [(.int false .i64 (-34359738368)), (.int false .i64 (0))])) := known none_known (by kernel_rfl) (by kernel_rfl) (by kernel_rfl)
/-- monocle/fix.MulUp (372 steps) -/
theorem call281 : MemoOk Tryz.prog glob hG (163, [(.int false .i64 (-34359738368)), (.int false .i64 (4294967296))], (.tuple [(.int false .i64 (-34359738368)), (.int false .i64 (0))])) := known none_known (by kernel_rfl) (by kernel_rfl) (by kernel_rfl)
/-- monocle/fix.MulDown (368 steps) -/
theorem call282 : MemoOk Tryz.prog glob hG (162, [(.int false .i64 (34359738368)), (.int false .i64 (4294967296))], (.tuple [(.int false .i64 (34359738368)), (.int false .i64 (0))])) := known none_known (by kernel_rfl) (by kernel_rfl) (by kernel_rfl)
/-- monocle/fix.MulUp (368 steps) -/
theorem call283 : MemoOk Tryz.prog glob hG (163, [(.int false .i64 (34359738368)), (.int false .i64 (4294967296))], (.tuple [(.int false .i64 (34359738368)), (.int false .i64 (0))])) := known none_known (by kernel_rfl) (by kernel_rfl) (by kernel_rfl)
/-- monocle/fix.ScaleDown (351 steps) -/
theorem call284 : MemoOk Tryz.prog glob hG (171, [(.int false .i64 (7730941132800)), (.int false .i64 (10000000)), (.int false .i64 (1000000000))], (.tuple [(.int false .i64 (77309411328)), (.int false .i64 (0))])) := known none_known (by kernel_rfl) (by kernel_rfl) (by kernel_rfl)
/-- monocle/fix.ScaleUp (351 steps) -/
theorem call285 : MemoOk Tryz.prog glob hG (172, [(.int false .i64 (7730941132800)), (.int false .i64 (10000000)), (.int false .i64 (1000000000))], (.tuple [(.int false .i64 (77309411328)), (.int false .i64 (0))])) := known none_known (by kernel_rfl) (by kernel_rfl) (by kernel_rfl)
/-- monocle/fix.MulDown (247 steps) -/
theorem call286 : MemoOk Tryz.prog glob hG (162, [(.int false .i64 (0)), (.int false .i64 (128849018880))], (.tuple [(.int false .i64 (0)), (.int false .i64 (0))])) := known none_known (by kernel_rfl) (by kernel_rfl) (by kernel_rfl)
/-- monocle/fix.MulUp (247 steps) -/
theorem call287 : MemoOk Tryz.prog glob hG (163, [(.int false .i64 (0)), (.int false .i64 (128849018880))], (.tuple [(.int false .i64 (0)), (.int false .i64 (0))])) := known none_known (by kernel_rfl) (by kernel_rfl) (by kernel_rfl)
/-- monocle/fix.ScaleDown (222 steps) -/
theorem call288 : MemoOk Tryz.prog glob hG (171, [(.int false .i64 (77309411328)), (.int false .i64 (10000000)), (.int false .i64 (1000000000))], (.tuple [(.int false .i64 (773094113)), (.int false .i64 (0))])) := known none_known (by kernel_rfl) (by kernel_rfl) (by kernel_rfl)
/-- monocle/fix.ScaleUp (225 steps) -/
theorem call289 : MemoOk Tryz.prog glob hG (172, [(.int false .i64 (77309411328)), (.int false .i64 (10000000)), (.int false .i64 (1000000000))], (.tuple [(.int false .i64 (773094114)), (.int false .i64 (0))])) := known none_known (by kernel_rfl) (by kernel_rfl) (by kernel_rfl)
/-- monocle/fix.MulDown (247 steps) -/
theorem call290 : MemoOk Tryz.prog glob hG (162, [(.int false .i64 (773094113)), (.int false .i64 (4294967296))], (.tuple [(.int false .i64 (773094113)), (.int false .i64 (0))])) := known none_known (by kernel_rfl) (by kernel_rfl) (by kernel_rfl)
/-- monocle/fix.MulUp (247 steps) -/
theorem call291 : MemoOk Tryz.prog glob hG (163, [(.int false .i64 (773094113)), (.int false .i64 (4294967296))], (.tuple [(.int false .i64 (773094113)), (.int false .i64 (0))])) := known none_known (by kernel_rfl) (by kernel_rfl) (by kernel_rfl)
/-- monocle/fix.MulDown (247 steps) -/
theorem call292 : MemoOk Tryz.prog glob hG (162, [(.int false .i64 (773094114)), (.int false .i64 (4294967296))], (.tuple [(.int false .i64 (773094114)), (.int false .i64 (0))])) := known none_known (by kernel_rfl) (by kernel_rfl) (by kernel_rfl)
/-- monocle/fix.MulUp (247 steps) -/
theorem call293 : MemoOk Tryz.prog glob hG (163, [(.int false .i64 (773094114)), (.int false .i64 (4294967296))], (.tuple [(.int false .i64 (773094114)), (.int false .i64 (0))])) := known none_known (by kernel_rfl) (by kernel_rfl) (by kernel_rfl)
/-- monocle/fix.SqrtDown (4750 steps) -/
theorem call294 : MemoOk Tryz.prog glob hG (153, [(.int false .i64 (3521873182))], (.tuple [(.int false .i64 (3889258301)), (.int false .i64 (0))])) := known none_known (by kernel_rfl) (by kernel_rfl) (by kernel_rfl)
/-- monocle/fix.SqrtUp (4818 steps) -/
theorem call295 : MemoOk Tryz.prog glob hG (154, [(.int false .i64 (3521873183))], (.tuple [(.int false .i64 (3889258303)), (.int false .i64 (0))])) := known none_known (by kernel_rfl) (by kernel_rfl) (by kernel_rfl)
/-- monocle/fix.DivDown (370 steps) -/
theorem call296 : MemoOk Tryz.prog glob hG (160, [(.int false .i64 (77309411328)), (.int false .i64 (8184225597))], (.tuple [(.int false .i64 (40570899395)), (.int false .i64 (0))])) := known none_known (by kernel_rfl) (by kernel_rfl) (by kernel_rfl)
/-- monocle/fix.DivUp (373 steps) -/
theorem call297 : MemoOk Tryz.prog glob hG (161, [(.int false .i64 (77309411328)), (.int false .i64 (8184225597))], (.tuple [(.int false .i64 (40570899396)), (.int false .i64 (0))])) := known none_known (by kernel_rfl) (by kernel_rfl) (by kernel_rfl)
/-- monocle/fix.DivDown (370 steps) -/
theorem call298 : MemoOk Tryz.prog glob hG (160, [(.int false .i64 (77309411328)), (.int false .i64 (8184225599))], (.tuple [(.int false .i64 (40570899385)), (.int false .i64 (0))])) := known none_known (by kernel_rfl) (by kernel_rfl) (by kernel_rfl)
/-- monocle/fix.DivUp (373 steps) -/
theorem call299 : MemoOk Tryz.prog glob hG (161, [(.int false .i64 (77309411328)), (.int false .i64 (8184225599))], (.tuple [(.int false .i64 (40570899386)), (.int false .i64 (0))])) := known none_known (by kernel_rfl) (by kernel_rfl) (by kernel_rfl)
/-- monocle/fix.MulDown (368 steps) -/
theorem call300 : MemoOk Tryz.prog glob hG (162, [(.int false .i64 (40570899385)), (.int false .i64 (4294967296))], (.tuple [(.int false .i64 (40570899385)), (.int false .i64 (0))])) := known none_known (by kernel_rfl) (by kernel_rfl) (by kernel_rfl)
/-- monocle/fix.MulUp (368 steps) -/
theorem call301 : MemoOk Tryz.prog glob hG (163, [(.int false .i64 (40570899385)), (.int false .i64 (4294967296))], (.tuple [(.int false .i64 (40570899385)), (.int false .i64 (0))])) := known none_known (by kernel_rfl) (by kernel_rfl) (by kernel_rfl)
/-- monocle/fix.MulDown (368 steps) -/
theorem call302 : MemoOk Tryz.prog glob hG (162, [(.int false .i64 (40570899396)), (.int false .i64 (4294967296))], (.tuple [(.int false .i64 (40570899396)), (.int false .i64 (0))])) := known none_known (by kernel_rfl) (by kernel_rfl) (by kernel_rfl)
/-- monocle/fix.MulUp (368 steps) -/
theorem call303 : MemoOk Tryz.prog glob hG (163, [(.int false .i64 (40570899396)), (.int false .i64 (4294967296))], (.tuple [(.int false .i64 (40570899396)), (.int false .i64 (0))])) := known none_known (by kernel_rfl) (by kernel_rfl) (by kernel_rfl)
/-- monocle/fix.ScaleDown (222 steps) -/
theorem call304 : MemoOk Tryz.prog glob hG (171, [(.int false .i64 (40570899385)), (.int false .i64 (1000000)), (.int false .i64 (1000000))], (.tuple [(.int false .i64 (40570899385)), (.int false .i64 (0))])) := known none_known (by kernel_rfl) (by kernel_rfl) (by kernel_rfl)
/-- monocle/fix.ScaleUp (222 steps) -/
theorem call305 : MemoOk Tryz.prog glob hG (172, [(.int false .i64 (40570899396)), (.int false .i64 (1000000)), (.int false .i64 (1000000))], (.tuple [(.int false .i64 (40570899396)), (.int false .i64 (0))])) := known none_known (by kernel_rfl) (by kernel_rfl) (by kernel_rfl)
/-- monocle/fix.ScaleDown (222 steps) -/
theorem call306 : MemoOk Tryz.prog glob hG (171, [(.int false .i64 (40570899385)), (.int false .i64 (10000000)), (.int false .i64 (1000000000))], (.tuple [(.int false .i64 (405708993)), (.int false .i64 (0))])) := known none_known (by kernel_rfl) (by kernel_rfl) (by kernel_rfl)
/-- monocle/fix.ScaleUp (225 steps) -/
theorem call307 : MemoOk Tryz.prog glob hG (172, [(.int false .i64 (40570899396)), (.int false .i64 (10000000)), (.int false .i64 (1000000000))], (.tuple [(.int false .i64 (405708994)), (.int false .i64 (0))])) := known none_known (by kernel_rfl) (by kernel_rfl) (by kernel_rfl)
/-- monocle/fix.MulDown (247 steps) -/
theorem call308 : MemoOk Tryz.prog glob hG (162, [(.int false .i64 (40570899390)), (.int false .i64 (0))], (.tuple [(.int false .i64 (0)), (.int false .i64 (0))])) := known none_known (by kernel_rfl) (by kernel_rfl) (by kernel_rfl)
/-- monocle/fix.MulUp (247 steps) -/
theorem call309 : MemoOk Tryz.prog glob hG (163, [(.int false .i64 (40570899390)), (.int false .i64 (0))], (.tuple [(.int false .i64 (0)), (.int false .i64 (0))])) := known none_known (by kernel_rfl) (by kernel_rfl) (by kernel_rfl)
/-- monocle/fix.MulDown (368 steps) -/
theorem call310 : MemoOk Tryz.prog glob hG (162, [(.int false .i64 (40570899390)), (.int false .i64 (4294967296))], (.tuple [(.int false .i64 (40570899390)), (.int false .i64 (0))])) := known none_known (by kernel_rfl) (by kernel_rfl) (by kernel_rfl)
/-- monocle/fix.MulUp (368 steps) -/
theorem call311 : MemoOk Tryz.prog glob hG (163, [(.int false .i64 (40570899390)), (.int false .i64 (4294967296))], (.tuple [(.int false .i64 (40570899390)), (.int false .i64 (0))])) := known none_known (by kernel_rfl) (by kernel_rfl) (by kernel_rfl)
/-- monocle/fix.MulDown (247 steps) -/
theorem call312 : MemoOk Tryz.prog glob hG (162, [(.int false .i64 (40569850809)), (.int false .i64 (0))], (.tuple [(.int false .i64 (0)), (.int false .i64 (0))])) := known none_known (by kernel_rfl) (by kernel_rfl) (by kernel_rfl)
/-- monocle/fix.MulUp (247 steps) -/
theorem call313 : MemoOk Tryz.prog glob hG (163, [(.int false .i64 (40569850809)), (.int false .i64 (0))], (.tuple [(.int false .i64 (0)), (.int false .i64 (0))])) := known none_known (by kernel_rfl) (by kernel_rfl) (by kernel_rfl)
/-- monocle/fix.MulDown (247 steps) -/
theorem call314 : MemoOk Tryz.prog glob hG (162, [(.int false .i64 (40571947972)), (.int false .i64 (0))], (.tuple [(.int false .i64 (0)), (.int false .i64 (0))])) := known none_known (by kernel_rfl) (by kernel_rfl) (by kernel_rfl)
/-- monocle/fix.MulUp (247 steps) -/
theorem call315 : MemoOk Tryz.prog glob hG (163, [(.int false .i64 (40571947972)), (.int false .i64 (0))], (.tuple [(.int false .i64 (0)), (.int false .i64 (0))])) := known none_known (by kernel_rfl) (by kernel_rfl) (by kernel_rfl)
/-- monocle/fix.MulDown (368 steps) -/
theorem call316 : MemoOk Tryz.prog glob hG (162, [(.int false .i64 (40569850809)), (.int false .i64 (4294967296))], (.tuple [(.int false .i64 (40569850809)), (.int false .i64 (0))])) := known none_known (by kernel_rfl) (by kernel_rfl) (by kernel_rfl)
/-- monocle/fix.MulUp (368 steps) -/
theorem call317 : MemoOk Tryz.prog glob hG (163, [(.int false .i64 (40569850809)), (.int false .i64 (4294967296))], (.tuple [(.int false .i64 (40569850809)), (.int false .i64 (0))])) := known none_known (by kernel_rfl) (by kernel_rfl) (by kernel_rfl)
/-- monocle/fix.MulDown (368 steps) -/
theorem call318 : MemoOk Tryz.prog glob hG (162, [(.int false .i64 (40571947972)), (.int false .i64 (4294967296))], (.tuple [(.int false .i64 (40571947972)), (.int false .i64 (0))])) := known none_known (by kernel_rfl) (by kernel_rfl) (by kernel_rfl)
/-- monocle/fix.MulUp (368 steps) -/
theorem call319 : MemoOk Tryz.prog glob hG (163, [(.int false .i64 (40571947972)), (.int false .i64 (4294967296))], (.tuple [(.int false .i64 (40571947972)), (.int false .i64 (0))])) := known none_known (by kernel_rfl) (by kernel_rfl) (by kernel_rfl)
/-- monocle/fix.ScaleDown (222 steps) -/
theorem call320 : MemoOk Tryz.prog glob hG (171, [(.int false .i64 (3865470566400)), (.int false .i64 (0)), (.int false .i64 (1000000000))], (.tuple [(.int false .i64 (0)), (.int false .i64 (0))])) := known none_known (by kernel_rfl) (by kernel_rfl) (by kernel_rfl)
/-- monocle/fix.ScaleUp (222 steps) -/
theorem call321 : MemoOk Tryz.prog glob hG (172, [(.int false .i64 (3865470566400)), (.int false .i64 (0)), (.int false .i64 (1000000000))], (.tuple [(.int false .i64 (0)), (.int false .i64 (0))])) := known none_known (by kernel_rfl) (by kernel_rfl) (by kernel_rfl)
/-- monocle/fix.ScaleDown (351 steps) -/
theorem call322 : MemoOk Tryz.prog glob hG (171, [(.int false .i64 (3865470566400)), (.int false .i64 (20000000)), (.int false .i64 (1000000000))], (.tuple [(.int false .i64 (77309411328)), (.int false .i64 (0))])) := known none_known (by kernel_rfl) (by kernel_rfl) (by kernel_rfl)
end Go.Proofs.YtdljkgcdgidldaaGreatDoor
