/- What is proved: HitKnown returns true (part 11 of 26). No conditions beyond those of the row. -/
import Derived.Test.YtdljkgcdgidldaaGreatDoorPE
set_option linter.unusedVariables false
set_option linter.unusedSimpArgs false
set_option linter.unusedSectionVars false
/- What is proved: calls of the law HitKnown, of which the answers are known (level 1). No conditions. -/
namespace Go.Proofs.YtdljkgcdgidldaaGreatDoor
open Go Go.Eng

/-- monocle/fix.ScaleUp (351 steps) -/
theorem call323 : MemoOk Tryz.prog glob hG (172, [(.int false .i64 (3865470566400)), (.int false .i64 (20000000)), (.int false .i64 (1000000000))], (.tuple [(.int false .i64 (77309411328)), (.int false .i64 (0))])) := known none_known (by kernel_rfl) (by kernel_rfl) (by kernel_rfl)
/-- monocle/fix.ScaleDown (222 steps) -/
theorem call324 : MemoOk Tryz.prog glob hG (171, [(.int false .i64 (77309411328)), (.int false .i64 (20000000)), (.int false .i64 (1000000000))], (.tuple [(.int false .i64 (1546188226)), (.int false .i64 (0))])) := known none_known (by kernel_rfl) (by kernel_rfl) (by kernel_rfl)
/-- monocle/fix.ScaleUp (225 steps) -/
theorem call325 : MemoOk Tryz.prog glob hG (172, [(.int false .i64 (77309411328)), (.int false .i64 (20000000)), (.int false .i64 (1000000000))], (.tuple [(.int false .i64 (1546188227)), (.int false .i64 (0))])) := known none_known (by kernel_rfl) (by kernel_rfl) (by kernel_rfl)
/-- monocle/fix.ScaleDown (222 steps) -/
theorem call326 : MemoOk Tryz.prog glob hG (171, [(.int false .i64 (1546188226)), (.int false .i64 (1000000)), (.int false .i64 (1000000))], (.tuple [(.int false .i64 (1546188226)), (.int false .i64 (0))])) := known none_known (by kernel_rfl) (by kernel_rfl) (by kernel_rfl)
/-- monocle/fix.ScaleUp (222 steps) -/
theorem call327 : MemoOk Tryz.prog glob hG (172, [(.int false .i64 (1546188227)), (.int false .i64 (1000000)), (.int false .i64 (1000000))], (.tuple [(.int false .i64 (1546188227)), (.int false .i64 (0))])) := known none_known (by kernel_rfl) (by kernel_rfl) (by kernel_rfl)
/-- monocle/fix.DivDown (370 steps) -/
theorem call328 : MemoOk Tryz.prog glob hG (160, [(.int false .i64 (77309411328)), (.int false .i64 (7730941132))], (.tuple [(.int false .i64 (42949672964)), (.int false .i64 (0))])) := known none_known (by kernel_rfl) (by kernel_rfl) (by kernel_rfl)
/-- monocle/fix.DivUp (373 steps) -/
theorem call329 : MemoOk Tryz.prog glob hG (161, [(.int false .i64 (77309411328)), (.int false .i64 (7730941132))], (.tuple [(.int false .i64 (42949672965)), (.int false .i64 (0))])) := known none_known (by kernel_rfl) (by kernel_rfl) (by kernel_rfl)
/-- monocle/fix.DivDown (370 steps) -/
theorem call330 : MemoOk Tryz.prog glob hG (160, [(.int false .i64 (77309411328)), (.int false .i64 (7730941134))], (.tuple [(.int false .i64 (42949672953)), (.int false .i64 (0))])) := known none_known (by kernel_rfl) (by kernel_rfl) (by kernel_rfl)
/-- monocle/fix.DivUp (373 steps) -/
theorem call331 : MemoOk Tryz.prog glob hG (161, [(.int false .i64 (77309411328)), (.int false .i64 (7730941134))], (.tuple [(.int false .i64 (42949672954)), (.int false .i64 (0))])) := known none_known (by kernel_rfl) (by kernel_rfl) (by kernel_rfl)
/-- monocle/fix.ScaleDown (222 steps) -/
theorem call332 : MemoOk Tryz.prog glob hG (171, [(.int false .i64 (128849018880)), (.int false .i64 (0)), (.int false .i64 (1000000000))], (.tuple [(.int false .i64 (0)), (.int false .i64 (0))])) := known none_known (by kernel_rfl) (by kernel_rfl) (by kernel_rfl)
/-- monocle/fix.ScaleUp (222 steps) -/
theorem call333 : MemoOk Tryz.prog glob hG (172, [(.int false .i64 (128849018880)), (.int false .i64 (0)), (.int false .i64 (1000000000))], (.tuple [(.int false .i64 (0)), (.int false .i64 (0))])) := known none_known (by kernel_rfl) (by kernel_rfl) (by kernel_rfl)
/-- monocle/fix.DivDown (249 steps) -/
theorem call334 : MemoOk Tryz.prog glob hG (160, [(.int false .i64 (0)), (.int false .i64 (3435973836))], (.tuple [(.int false .i64 (0)), (.int false .i64 (0))])) := known none_known (by kernel_rfl) (by kernel_rfl) (by kernel_rfl)
/-- monocle/fix.DivUp (249 steps) -/
theorem call335 : MemoOk Tryz.prog glob hG (161, [(.int false .i64 (0)), (.int false .i64 (3435973836))], (.tuple [(.int false .i64 (0)), (.int false .i64 (0))])) := known none_known (by kernel_rfl) (by kernel_rfl) (by kernel_rfl)
/-- monocle/fix.DivDown (249 steps) -/
theorem call336 : MemoOk Tryz.prog glob hG (160, [(.int false .i64 (0)), (.int false .i64 (3435973838))], (.tuple [(.int false .i64 (0)), (.int false .i64 (0))])) := known none_known (by kernel_rfl) (by kernel_rfl) (by kernel_rfl)
/-- monocle/fix.DivUp (249 steps) -/
theorem call337 : MemoOk Tryz.prog glob hG (161, [(.int false .i64 (0)), (.int false .i64 (3435973838))], (.tuple [(.int false .i64 (0)), (.int false .i64 (0))])) := known none_known (by kernel_rfl) (by kernel_rfl) (by kernel_rfl)
/-- monocle/fix.ScaleDown (222 steps) -/
theorem call338 : MemoOk Tryz.prog glob hG (171, [(.int false .i64 (0)), (.int false .i64 (2)), (.int false .i64 (1))], (.tuple [(.int false .i64 (0)), (.int false .i64 (0))])) := known none_known (by kernel_rfl) (by kernel_rfl) (by kernel_rfl)
/-- monocle/fix.ScaleUp (222 steps) -/
theorem call339 : MemoOk Tryz.prog glob hG (172, [(.int false .i64 (0)), (.int false .i64 (2)), (.int false .i64 (1))], (.tuple [(.int false .i64 (0)), (.int false .i64 (0))])) := known none_known (by kernel_rfl) (by kernel_rfl) (by kernel_rfl)
/-- monocle/fix.MulDown (247 steps) -/
theorem call340 : MemoOk Tryz.prog glob hG (162, [(.int false .i64 (42949672953)), (.int false .i64 (0))], (.tuple [(.int false .i64 (0)), (.int false .i64 (0))])) := known none_known (by kernel_rfl) (by kernel_rfl) (by kernel_rfl)
/-- monocle/fix.MulUp (247 steps) -/
theorem call341 : MemoOk Tryz.prog glob hG (163, [(.int false .i64 (42949672953)), (.int false .i64 (0))], (.tuple [(.int false .i64 (0)), (.int false .i64 (0))])) := known none_known (by kernel_rfl) (by kernel_rfl) (by kernel_rfl)
/-- monocle/fix.MulDown (247 steps) -/
theorem call342 : MemoOk Tryz.prog glob hG (162, [(.int false .i64 (42949672965)), (.int false .i64 (0))], (.tuple [(.int false .i64 (0)), (.int false .i64 (0))])) := known none_known (by kernel_rfl) (by kernel_rfl) (by kernel_rfl)
/-- monocle/fix.MulUp (247 steps) -/
theorem call343 : MemoOk Tryz.prog glob hG (163, [(.int false .i64 (42949672965)), (.int false .i64 (0))], (.tuple [(.int false .i64 (0)), (.int false .i64 (0))])) := known none_known (by kernel_rfl) (by kernel_rfl) (by kernel_rfl)
/-- monocle/fix.DivDown (249 steps) -/
theorem call344 : MemoOk Tryz.prog glob hG (160, [(.int false .i64 (0)), (.int false .i64 (7730941132))], (.tuple [(.int false .i64 (0)), (.int false .i64 (0))])) := known none_known (by kernel_rfl) (by kernel_rfl) (by kernel_rfl)
/-- monocle/fix.DivUp (249 steps) -/
theorem call345 : MemoOk Tryz.prog glob hG (161, [(.int false .i64 (0)), (.int false .i64 (7730941132))], (.tuple [(.int false .i64 (0)), (.int false .i64 (0))])) := known none_known (by kernel_rfl) (by kernel_rfl) (by kernel_rfl)
/-- monocle/fix.DivDown (249 steps) -/
theorem call346 : MemoOk Tryz.prog glob hG (160, [(.int false .i64 (0)), (.int false .i64 (7730941134))], (.tuple [(.int false .i64 (0)), (.int false .i64 (0))])) := known none_known (by kernel_rfl) (by kernel_rfl) (by kernel_rfl)
/-- monocle/fix.DivUp (249 steps) -/
theorem call347 : MemoOk Tryz.prog glob hG (161, [(.int false .i64 (0)), (.int false .i64 (7730941134))], (.tuple [(.int false .i64 (0)), (.int false .i64 (0))])) := known none_known (by kernel_rfl) (by kernel_rfl) (by kernel_rfl)
/-- monocle/fix.ScaleDown (222 steps) -/
theorem call348 : MemoOk Tryz.prog glob hG (171, [(.int false .i64 (128849018880)), (.int false .i64 (20000000)), (.int false .i64 (1000000000))], (.tuple [(.int false .i64 (2576980377)), (.int false .i64 (0))])) := known none_known (by kernel_rfl) (by kernel_rfl) (by kernel_rfl)
/-- monocle/fix.ScaleUp (225 steps) -/
theorem call349 : MemoOk Tryz.prog glob hG (172, [(.int false .i64 (128849018880)), (.int false .i64 (20000000)), (.int false .i64 (1000000000))], (.tuple [(.int false .i64 (2576980378)), (.int false .i64 (0))])) := known none_known (by kernel_rfl) (by kernel_rfl) (by kernel_rfl)
/-- monocle/fix.ScaleDown (222 steps) -/
theorem call350 : MemoOk Tryz.prog glob hG (171, [(.int false .i64 (2576980377)), (.int false .i64 (20000000)), (.int false .i64 (1000000000))], (.tuple [(.int false .i64 (51539607)), (.int false .i64 (0))])) := known none_known (by kernel_rfl) (by kernel_rfl) (by kernel_rfl)
/-- monocle/fix.ScaleUp (225 steps) -/
theorem call351 : MemoOk Tryz.prog glob hG (172, [(.int false .i64 (2576980378)), (.int false .i64 (20000000)), (.int false .i64 (1000000000))], (.tuple [(.int false .i64 (51539608)), (.int false .i64 (0))])) := known none_known (by kernel_rfl) (by kernel_rfl) (by kernel_rfl)
/-- monocle/fix.ScaleDown (222 steps) -/
theorem call352 : MemoOk Tryz.prog glob hG (171, [(.int false .i64 (51539607)), (.int false .i64 (1000000)), (.int false .i64 (1000000))], (.tuple [(.int false .i64 (51539607)), (.int false .i64 (0))])) := known none_known (by kernel_rfl) (by kernel_rfl) (by kernel_rfl)
/-- monocle/fix.ScaleUp (222 steps) -/
theorem call353 : MemoOk Tryz.prog glob hG (172, [(.int false .i64 (51539608)), (.int false .i64 (1000000)), (.int false .i64 (1000000))], (.tuple [(.int false .i64 (51539608)), (.int false .i64 (0))])) := known none_known (by kernel_rfl) (by kernel_rfl) (by kernel_rfl)
/-- monocle/fix.DivDown (249 steps) -/
theorem call354 : MemoOk Tryz.prog glob hG (160, [(.int false .i64 (51539607)), (.int false .i64 (3435973836))], (.tuple [(.int false .i64 (64424508)), (.int false .i64 (0))])) := known none_known (by kernel_rfl) (by kernel_rfl) (by kernel_rfl)
/-- monocle/fix.DivUp (252 steps) -/
theorem call355 : MemoOk Tryz.prog glob hG (161, [(.int false .i64 (51539607)), (.int false .i64 (3435973836))], (.tuple [(.int false .i64 (64424509)), (.int false .i64 (0))])) := known none_known (by kernel_rfl) (by kernel_rfl) (by kernel_rfl)
/-- monocle/fix.DivDown (249 steps) -/
theorem call356 : MemoOk Tryz.prog glob hG (160, [(.int false .i64 (51539607)), (.int false .i64 (3435973838))], (.tuple [(.int false .i64 (64424508)), (.int false .i64 (0))])) := known none_known (by kernel_rfl) (by kernel_rfl) (by kernel_rfl)
/-- monocle/fix.DivUp (252 steps) -/
theorem call357 : MemoOk Tryz.prog glob hG (161, [(.int false .i64 (51539607)), (.int false .i64 (3435973838))], (.tuple [(.int false .i64 (64424509)), (.int false .i64 (0))])) := known none_known (by kernel_rfl) (by kernel_rfl) (by kernel_rfl)
/-- monocle/fix.DivDown (249 steps) -/
theorem call358 : MemoOk Tryz.prog glob hG (160, [(.int false .i64 (51539608)), (.int false .i64 (3435973836))], (.tuple [(.int false .i64 (64424510)), (.int false .i64 (0))])) := known none_known (by kernel_rfl) (by kernel_rfl) (by kernel_rfl)
/-- monocle/fix.DivUp (252 steps) -/
theorem call359 : MemoOk Tryz.prog glob hG (161, [(.int false .i64 (51539608)), (.int false .i64 (3435973836))], (.tuple [(.int false .i64 (64424511)), (.int false .i64 (0))])) := known none_known (by kernel_rfl) (by kernel_rfl) (by kernel_rfl)
/-- monocle/fix.DivDown (249 steps) -/
theorem call360 : MemoOk Tryz.prog glob hG (160, [(.int false .i64 (51539608)), (.int false .i64 (3435973838))], (.tuple [(.int false .i64 (64424509)), (.int false .i64 (0))])) := known none_known (by kernel_rfl) (by kernel_rfl) (by kernel_rfl)
/-- monocle/fix.DivUp (252 steps) -/
theorem call361 : MemoOk Tryz.prog glob hG (161, [(.int false .i64 (51539608)), (.int false .i64 (3435973838))], (.tuple [(.int false .i64 (64424510)), (.int false .i64 (0))])) := known none_known (by kernel_rfl) (by kernel_rfl) (by kernel_rfl)
/-- monocle/fix.ScaleDown (222 steps) -/
theorem call362 : MemoOk Tryz.prog glob hG (171, [(.int false .i64 (2576980377)), (.int false .i64 (2)), (.int false .i64 (1))], (.tuple [(.int false .i64 (5153960754)), (.int false .i64 (0))])) := known none_known (by kernel_rfl) (by kernel_rfl) (by kernel_rfl)
/-- monocle/fix.ScaleUp (222 steps) -/
theorem call363 : MemoOk Tryz.prog glob hG (172, [(.int false .i64 (2576980378)), (.int false .i64 (2)), (.int false .i64 (1))], (.tuple [(.int false .i64 (5153960756)), (.int false .i64 (0))])) := known none_known (by kernel_rfl) (by kernel_rfl) (by kernel_rfl)
/-- monocle/fix.MulDown (247 steps) -/
theorem call364 : MemoOk Tryz.prog glob hG (162, [(.int false .i64 (42949672953)), (.int false .i64 (64424508))], (.tuple [(.int false .i64 (644245079)), (.int false .i64 (0))])) := known none_known (by kernel_rfl) (by kernel_rfl) (by kernel_rfl)
/-- monocle/fix.MulUp (250 steps) -/
theorem call365 : MemoOk Tryz.prog glob hG (163, [(.int false .i64 (42949672953)), (.int false .i64 (64424508))], (.tuple [(.int false .i64 (644245080)), (.int false .i64 (0))])) := known none_known (by kernel_rfl) (by kernel_rfl) (by kernel_rfl)
/-- monocle/fix.MulDown (247 steps) -/
theorem call366 : MemoOk Tryz.prog glob hG (162, [(.int false .i64 (42949672953)), (.int false .i64 (64424511))], (.tuple [(.int false .i64 (644245109)), (.int false .i64 (0))])) := known none_known (by kernel_rfl) (by kernel_rfl) (by kernel_rfl)
/-- monocle/fix.MulUp (250 steps) -/
theorem call367 : MemoOk Tryz.prog glob hG (163, [(.int false .i64 (42949672953)), (.int false .i64 (64424511))], (.tuple [(.int false .i64 (644245110)), (.int false .i64 (0))])) := known none_known (by kernel_rfl) (by kernel_rfl) (by kernel_rfl)
/-- monocle/fix.MulDown (247 steps) -/
theorem call368 : MemoOk Tryz.prog glob hG (162, [(.int false .i64 (42949672965)), (.int false .i64 (64424508))], (.tuple [(.int false .i64 (644245080)), (.int false .i64 (0))])) := known none_known (by kernel_rfl) (by kernel_rfl) (by kernel_rfl)
/-- monocle/fix.MulUp (250 steps) -/
theorem call369 : MemoOk Tryz.prog glob hG (163, [(.int false .i64 (42949672965)), (.int false .i64 (64424508))], (.tuple [(.int false .i64 (644245081)), (.int false .i64 (0))])) := known none_known (by kernel_rfl) (by kernel_rfl) (by kernel_rfl)
/-- monocle/fix.MulDown (247 steps) -/
theorem call370 : MemoOk Tryz.prog glob hG (162, [(.int false .i64 (42949672965)), (.int false .i64 (64424511))], (.tuple [(.int false .i64 (644245110)), (.int false .i64 (0))])) := known none_known (by kernel_rfl) (by kernel_rfl) (by kernel_rfl)
/-- monocle/fix.MulUp (250 steps) -/
theorem call371 : MemoOk Tryz.prog glob hG (163, [(.int false .i64 (42949672965)), (.int false .i64 (64424511))], (.tuple [(.int false .i64 (644245111)), (.int false .i64 (0))])) := known none_known (by kernel_rfl) (by kernel_rfl) (by kernel_rfl)
/-- monocle/fix.DivDown (370 steps) -/
theorem call372 : MemoOk Tryz.prog glob hG (160, [(.int false .i64 (5798205833)), (.int false .i64 (7730941132))], (.tuple [(.int false .i64 (3221225463)), (.int false .i64 (0))])) := known none_known (by kernel_rfl) (by kernel_rfl) (by kernel_rfl)
/-- monocle/fix.DivUp (373 steps) -/
theorem call373 : MemoOk Tryz.prog glob hG (161, [(.int false .i64 (5798205833)), (.int false .i64 (7730941132))], (.tuple [(.int false .i64 (3221225464)), (.int false .i64 (0))])) := known none_known (by kernel_rfl) (by kernel_rfl) (by kernel_rfl)
/-- monocle/fix.DivDown (370 steps) -/
theorem call374 : MemoOk Tryz.prog glob hG (160, [(.int false .i64 (5798205833)), (.int false .i64 (7730941134))], (.tuple [(.int false .i64 (3221225462)), (.int false .i64 (0))])) := known none_known (by kernel_rfl) (by kernel_rfl) (by kernel_rfl)
/-- monocle/fix.DivUp (373 steps) -/
theorem call375 : MemoOk Tryz.prog glob hG (161, [(.int false .i64 (5798205833)), (.int false .i64 (7730941134))], (.tuple [(.int false .i64 (3221225463)), (.int false .i64 (0))])) := known none_known (by kernel_rfl) (by kernel_rfl) (by kernel_rfl)
/-- monocle/fix.DivDown (370 steps) -/
theorem call376 : MemoOk Tryz.prog glob hG (160, [(.int false .i64 (5798205867)), (.int false .i64 (7730941132))], (.tuple [(.int false .i64 (3221225482)), (.int false .i64 (0))])) := known none_known (by kernel_rfl) (by kernel_rfl) (by kernel_rfl)
/-- monocle/fix.DivUp (373 steps) -/
theorem call377 : MemoOk Tryz.prog glob hG (161, [(.int false .i64 (5798205867)), (.int false .i64 (7730941132))], (.tuple [(.int false .i64 (3221225483)), (.int false .i64 (0))])) := known none_known (by kernel_rfl) (by kernel_rfl) (by kernel_rfl)
/-- monocle/fix.DivDown (370 steps) -/
theorem call378 : MemoOk Tryz.prog glob hG (160, [(.int false .i64 (5798205867)), (.int false .i64 (7730941134))], (.tuple [(.int false .i64 (3221225481)), (.int false .i64 (0))])) := known none_known (by kernel_rfl) (by kernel_rfl) (by kernel_rfl)
/-- monocle/fix.DivUp (373 steps) -/
theorem call379 : MemoOk Tryz.prog glob hG (161, [(.int false .i64 (5798205867)), (.int false .i64 (7730941134))], (.tuple [(.int false .i64 (3221225482)), (.int false .i64 (0))])) := known none_known (by kernel_rfl) (by kernel_rfl) (by kernel_rfl)
/-- monocle/fix.MulDown (247 steps) -/
theorem call380 : MemoOk Tryz.prog glob hG (162, [(.int false .i64 (3221225462)), (.int false .i64 (0))], (.tuple [(.int false .i64 (0)), (.int false .i64 (0))])) := known none_known (by kernel_rfl) (by kernel_rfl) (by kernel_rfl)
/-- monocle/fix.MulUp (247 steps) -/
theorem call381 : MemoOk Tryz.prog glob hG (163, [(.int false .i64 (3221225462)), (.int false .i64 (0))], (.tuple [(.int false .i64 (0)), (.int false .i64 (0))])) := known none_known (by kernel_rfl) (by kernel_rfl) (by kernel_rfl)
/-- monocle/fix.MulDown (247 steps) -/
theorem call382 : MemoOk Tryz.prog glob hG (162, [(.int false .i64 (3221225483)), (.int false .i64 (0))], (.tuple [(.int false .i64 (0)), (.int false .i64 (0))])) := known none_known (by kernel_rfl) (by kernel_rfl) (by kernel_rfl)
/-- monocle/fix.MulUp (247 steps) -/
theorem call383 : MemoOk Tryz.prog glob hG (163, [(.int false .i64 (3221225483)), (.int false .i64 (0))], (.tuple [(.int false .i64 (0)), (.int false .i64 (0))])) := known none_known (by kernel_rfl) (by kernel_rfl) (by kernel_rfl)
/-- monocle/fix.DivDown (253 steps) -/
theorem call384 : MemoOk Tryz.prog glob hG (160, [(.int false .i64 (-2378773575)), (.int false .i64 (4294967296))], (.tuple [(.int false .i64 (-2378773575)), (.int false .i64 (0))])) := known none_known (by kernel_rfl) (by kernel_rfl) (by kernel_rfl)
/-- monocle/fix.DivUp (253 steps) -/
theorem call385 : MemoOk Tryz.prog glob hG (161, [(.int false .i64 (-2378773575)), (.int false .i64 (4294967296))], (.tuple [(.int false .i64 (-2378773575)), (.int false .i64 (0))])) := known none_known (by kernel_rfl) (by kernel_rfl) (by kernel_rfl)
/-- monocle/fix.DivDown (253 steps) -/
theorem call386 : MemoOk Tryz.prog glob hG (160, [(.int false .i64 (-2378773563)), (.int false .i64 (4294967296))], (.tuple [(.int false .i64 (-2378773563)), (.int false .i64 (0))])) := known none_known (by kernel_rfl) (by kernel_rfl) (by kernel_rfl)
/-- monocle/fix.DivUp (253 steps) -/
theorem call387 : MemoOk Tryz.prog glob hG (161, [(.int false .i64 (-2378773563)), (.int false .i64 (4294967296))], (.tuple [(.int false .i64 (-2378773563)), (.int false .i64 (0))])) := known none_known (by kernel_rfl) (by kernel_rfl) (by kernel_rfl)
/-- monocle/fix.MulDown (247 steps) -/
theorem call388 : MemoOk Tryz.prog glob hG (162, [(.int false .i64 (40503790521)), (.int false .i64 (0))], (.tuple [(.int false .i64 (0)), (.int false .i64 (0))])) := known none_known (by kernel_rfl) (by kernel_rfl) (by kernel_rfl)
/-- monocle/fix.MulUp (247 steps) -/
theorem call389 : MemoOk Tryz.prog glob hG (163, [(.int false .i64 (40503790521)), (.int false .i64 (0))], (.tuple [(.int false .i64 (0)), (.int false .i64 (0))])) := known none_known (by kernel_rfl) (by kernel_rfl) (by kernel_rfl)
/-- monocle/fix.MulDown (247 steps) -/
theorem call390 : MemoOk Tryz.prog glob hG (162, [(.int false .i64 (40638008260)), (.int false .i64 (0))], (.tuple [(.int false .i64 (0)), (.int false .i64 (0))])) := known none_known (by kernel_rfl) (by kernel_rfl) (by kernel_rfl)
/-- monocle/fix.MulUp (247 steps) -/
theorem call391 : MemoOk Tryz.prog glob hG (163, [(.int false .i64 (40638008260)), (.int false .i64 (0))], (.tuple [(.int false .i64 (0)), (.int false .i64 (0))])) := known none_known (by kernel_rfl) (by kernel_rfl) (by kernel_rfl)
/-- monocle/fix.MulDown (368 steps) -/
theorem call392 : MemoOk Tryz.prog glob hG (162, [(.int false .i64 (40503790521)), (.int false .i64 (4294967296))], (.tuple [(.int false .i64 (40503790521)), (.int false .i64 (0))])) := known none_known (by kernel_rfl) (by kernel_rfl) (by kernel_rfl)
/-- monocle/fix.MulUp (368 steps) -/
theorem call393 : MemoOk Tryz.prog glob hG (163, [(.int false .i64 (40503790521)), (.int false .i64 (4294967296))], (.tuple [(.int false .i64 (40503790521)), (.int false .i64 (0))])) := known none_known (by kernel_rfl) (by kernel_rfl) (by kernel_rfl)
/-- monocle/fix.MulDown (368 steps) -/
theorem call394 : MemoOk Tryz.prog glob hG (162, [(.int false .i64 (40638008260)), (.int false .i64 (4294967296))], (.tuple [(.int false .i64 (40638008260)), (.int false .i64 (0))])) := known none_known (by kernel_rfl) (by kernel_rfl) (by kernel_rfl)
/-- monocle/fix.MulUp (368 steps) -/
theorem call395 : MemoOk Tryz.prog glob hG (163, [(.int false .i64 (40638008260)), (.int false .i64 (4294967296))], (.tuple [(.int false .i64 (40638008260)), (.int false .i64 (0))])) := known none_known (by kernel_rfl) (by kernel_rfl) (by kernel_rfl)
/-- monocle/fix.MulDown (247 steps) -/
theorem call396 : MemoOk Tryz.prog glob hG (162, [(.int false .i64 (38423415737)), (.int false .i64 (0))], (.tuple [(.int false .i64 (0)), (.int false .i64 (0))])) := known none_known (by kernel_rfl) (by kernel_rfl) (by kernel_rfl)
/-- monocle/fix.MulUp (247 steps) -/
theorem call397 : MemoOk Tryz.prog glob hG (163, [(.int false .i64 (38423415737)), (.int false .i64 (0))], (.tuple [(.int false .i64 (0)), (.int false .i64 (0))])) := known none_known (by kernel_rfl) (by kernel_rfl) (by kernel_rfl)
/-- monocle/fix.MulDown (247 steps) -/
theorem call398 : MemoOk Tryz.prog glob hG (162, [(.int false .i64 (42718383044)), (.int false .i64 (0))], (.tuple [(.int false .i64 (0)), (.int false .i64 (0))])) := known none_known (by kernel_rfl) (by kernel_rfl) (by kernel_rfl)
/-- monocle/fix.MulUp (247 steps) -/
theorem call399 : MemoOk Tryz.prog glob hG (163, [(.int false .i64 (42718383044)), (.int false .i64 (0))], (.tuple [(.int false .i64 (0)), (.int false .i64 (0))])) := known none_known (by kernel_rfl) (by kernel_rfl) (by kernel_rfl)
/-- monocle/fix.MulDown (368 steps) -/
theorem call400 : MemoOk Tryz.prog glob hG (162, [(.int false .i64 (38423415737)), (.int false .i64 (4294967296))], (.tuple [(.int false .i64 (38423415737)), (.int false .i64 (0))])) := known none_known (by kernel_rfl) (by kernel_rfl) (by kernel_rfl)
/-- monocle/fix.MulUp (368 steps) -/
theorem call401 : MemoOk Tryz.prog glob hG (163, [(.int false .i64 (38423415737)), (.int false .i64 (4294967296))], (.tuple [(.int false .i64 (38423415737)), (.int false .i64 (0))])) := known none_known (by kernel_rfl) (by kernel_rfl) (by kernel_rfl)
/-- monocle/fix.MulDown (368 steps) -/
theorem call402 : MemoOk Tryz.prog glob hG (162, [(.int false .i64 (42718383044)), (.int false .i64 (4294967296))], (.tuple [(.int false .i64 (42718383044)), (.int false .i64 (0))])) := known none_known (by kernel_rfl) (by kernel_rfl) (by kernel_rfl)
/-- monocle/fix.MulUp (368 steps) -/
theorem call403 : MemoOk Tryz.prog glob hG (163, [(.int false .i64 (42718383044)), (.int false .i64 (4294967296))], (.tuple [(.int false .i64 (42718383044)), (.int false .i64 (0))])) := known none_known (by kernel_rfl) (by kernel_rfl) (by kernel_rfl)
/-- monocle/fix.MulDown (247 steps) -/
theorem call404 : MemoOk Tryz.prog glob hG (162, [(.int false .i64 (6211161017)), (.int false .i64 (0))], (.tuple [(.int false .i64 (0)), (.int false .i64 (0))])) := known none_known (by kernel_rfl) (by kernel_rfl) (by kernel_rfl)
/-- monocle/fix.MulUp (247 steps) -/
theorem call405 : MemoOk Tryz.prog glob hG (163, [(.int false .i64 (6211161017)), (.int false .i64 (0))], (.tuple [(.int false .i64 (0)), (.int false .i64 (0))])) := known none_known (by kernel_rfl) (by kernel_rfl) (by kernel_rfl)
/-- monocle/fix.MulDown (247 steps) -/
theorem call406 : MemoOk Tryz.prog glob hG (162, [(.int false .i64 (74930637764)), (.int false .i64 (0))], (.tuple [(.int false .i64 (0)), (.int false .i64 (0))])) := known none_known (by kernel_rfl) (by kernel_rfl) (by kernel_rfl)
/-- monocle/fix.MulUp (247 steps) -/
theorem call407 : MemoOk Tryz.prog glob hG (163, [(.int false .i64 (74930637764)), (.int false .i64 (0))], (.tuple [(.int false .i64 (0)), (.int false .i64 (0))])) := known none_known (by kernel_rfl) (by kernel_rfl) (by kernel_rfl)
/-- monocle/fix.MulDown (368 steps) -/
theorem call408 : MemoOk Tryz.prog glob hG (162, [(.int false .i64 (6211161017)), (.int false .i64 (4294967296))], (.tuple [(.int false .i64 (6211161017)), (.int false .i64 (0))])) := known none_known (by kernel_rfl) (by kernel_rfl) (by kernel_rfl)
/-- monocle/fix.MulUp (368 steps) -/
theorem call409 : MemoOk Tryz.prog glob hG (163, [(.int false .i64 (6211161017)), (.int false .i64 (4294967296))], (.tuple [(.int false .i64 (6211161017)), (.int false .i64 (0))])) := known none_known (by kernel_rfl) (by kernel_rfl) (by kernel_rfl)
/-- monocle/fix.MulDown (368 steps) -/
theorem call410 : MemoOk Tryz.prog glob hG (162, [(.int false .i64 (74930637764)), (.int false .i64 (4294967296))], (.tuple [(.int false .i64 (74930637764)), (.int false .i64 (0))])) := known none_known (by kernel_rfl) (by kernel_rfl) (by kernel_rfl)
/-- monocle/fix.MulUp (368 steps) -/
theorem call411 : MemoOk Tryz.prog glob hG (163, [(.int false .i64 (74930637764)), (.int false .i64 (4294967296))], (.tuple [(.int false .i64 (74930637764)), (.int false .i64 (0))])) := known none_known (by kernel_rfl) (by kernel_rfl) (by kernel_rfl)
/-- monocle/fix.MulDown (247 steps) -/
theorem call412 : MemoOk Tryz.prog glob hG (162, [(.int false .i64 (42949672959)), (.int false .i64 (0))], (.tuple [(.int false .i64 (0)), (.int false .i64 (0))])) := known none_known (by kernel_rfl) (by kernel_rfl) (by kernel_rfl)
/-- monocle/fix.MulUp (247 steps) -/
theorem call413 : MemoOk Tryz.prog glob hG (163, [(.int false .i64 (42949672959)), (.int false .i64 (0))], (.tuple [(.int false .i64 (0)), (.int false .i64 (0))])) := known none_known (by kernel_rfl) (by kernel_rfl) (by kernel_rfl)
/-- monocle/fix.MulDown (368 steps) -/
theorem call414 : MemoOk Tryz.prog glob hG (162, [(.int false .i64 (42949672959)), (.int false .i64 (4294967296))], (.tuple [(.int false .i64 (42949672959)), (.int false .i64 (0))])) := known none_known (by kernel_rfl) (by kernel_rfl) (by kernel_rfl)
/-- monocle/fix.MulUp (368 steps) -/
theorem call415 : MemoOk Tryz.prog glob hG (163, [(.int false .i64 (42949672959)), (.int false .i64 (4294967296))], (.tuple [(.int false .i64 (42949672959)), (.int false .i64 (0))])) := known none_known (by kernel_rfl) (by kernel_rfl) (by kernel_rfl)
/-- monocle/fix.MulDown (368 steps) -/
theorem call416 : MemoOk Tryz.prog glob hG (162, [(.int false .i64 (42949672953)), (.int false .i64 (4294967296))], (.tuple [(.int false .i64 (42949672953)), (.int false .i64 (0))])) := known none_known (by kernel_rfl) (by kernel_rfl) (by kernel_rfl)
/-- monocle/fix.MulUp (368 steps) -/
theorem call417 : MemoOk Tryz.prog glob hG (163, [(.int false .i64 (42949672953)), (.int false .i64 (4294967296))], (.tuple [(.int false .i64 (42949672953)), (.int false .i64 (0))])) := known none_known (by kernel_rfl) (by kernel_rfl) (by kernel_rfl)
/-- monocle/fix.MulDown (368 steps) -/
theorem call418 : MemoOk Tryz.prog glob hG (162, [(.int false .i64 (42949672965)), (.int false .i64 (4294967296))], (.tuple [(.int false .i64 (42949672965)), (.int false .i64 (0))])) := known none_known (by kernel_rfl) (by kernel_rfl) (by kernel_rfl)
/-- monocle/fix.MulUp (368 steps) -/
theorem call419 : MemoOk Tryz.prog glob hG (163, [(.int false .i64 (42949672965)), (.int false .i64 (4294967296))], (.tuple [(.int false .i64 (42949672965)), (.int false .i64 (0))])) := known none_known (by kernel_rfl) (by kernel_rfl) (by kernel_rfl)
/-- monocle/fix.DivDown (253 steps) -/
theorem call420 : MemoOk Tryz.prog glob hG (160, [(.int false .i64 (-6)), (.int false .i64 (4294967296))], (.tuple [(.int false .i64 (-6)), (.int false .i64 (0))])) := known none_known (by kernel_rfl) (by kernel_rfl) (by kernel_rfl)
/-- monocle/fix.DivUp (253 steps) -/
theorem call421 : MemoOk Tryz.prog glob hG (161, [(.int false .i64 (-6)), (.int false .i64 (4294967296))], (.tuple [(.int false .i64 (-6)), (.int false .i64 (0))])) := known none_known (by kernel_rfl) (by kernel_rfl) (by kernel_rfl)
/-- monocle/fix.DivDown (249 steps) -/
theorem call422 : MemoOk Tryz.prog glob hG (160, [(.int false .i64 (6)), (.int false .i64 (4294967296))], (.tuple [(.int false .i64 (6)), (.int false .i64 (0))])) := known none_known (by kernel_rfl) (by kernel_rfl) (by kernel_rfl)
/-- monocle/fix.DivUp (249 steps) -/
theorem call423 : MemoOk Tryz.prog glob hG (161, [(.int false .i64 (6)), (.int false .i64 (4294967296))], (.tuple [(.int false .i64 (6)), (.int false .i64 (0))])) := known none_known (by kernel_rfl) (by kernel_rfl) (by kernel_rfl)
end Go.Proofs.YtdljkgcdgidldaaGreatDoor
