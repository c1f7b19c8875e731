/- What is proved: HitKnown returns true (part 8 of 26). No conditions beyond those of the row. -/
import Derived.Test.YtdljkgcdgidldaaGreatDoorPE
set_option linter.unusedVariables false
set_option linter.unusedSimpArgs false
set_option linter.unusedSectionVars false
/- What is proved: calls of the law HitKnown, of which the answers are known (level 1). No conditions. -/
namespace Go.Proofs.YtdljkgcdgidldaaGreatDoor
open Go Go.Eng

/-- monocle/fix.MulUp (372 steps) -/
theorem call117 : MemoOk Tryz.prog glob hG (163, [(.int false .i64 (-21474836511)), (.int false .i64 (4294967296))], (.tuple [(.int false .i64 (-21474836511)), (.int false .i64 (0))])) := known none_known (by kernel_rfl) (by kernel_rfl) (by kernel_rfl)
/-- monocle/fix.MulDown (372 steps) -/
theorem call118 : MemoOk Tryz.prog glob hG (162, [(.int false .i64 (-21474836460)), (.int false .i64 (4294967296))], (.tuple [(.int false .i64 (-21474836460)), (.int false .i64 (0))])) := known none_known (by kernel_rfl) (by kernel_rfl) (by kernel_rfl)
/-- monocle/fix.MulUp (372 steps) -/
theorem call119 : MemoOk Tryz.prog glob hG (163, [(.int false .i64 (-21474836460)), (.int false .i64 (4294967296))], (.tuple [(.int false .i64 (-21474836460)), (.int false .i64 (0))])) := known none_known (by kernel_rfl) (by kernel_rfl) (by kernel_rfl)
/-- monocle/fix.MulDown (251 steps) -/
theorem call120 : MemoOk Tryz.prog glob hG (162, [(.int false .i64 (-21474836511)), (.int false .i64 (0))], (.tuple [(.int false .i64 (0)), (.int false .i64 (0))])) := known none_known (by kernel_rfl) (by kernel_rfl) (by kernel_rfl)
/-- monocle/fix.MulUp (251 steps) -/
theorem call121 : MemoOk Tryz.prog glob hG (163, [(.int false .i64 (-21474836511)), (.int false .i64 (0))], (.tuple [(.int false .i64 (0)), (.int false .i64 (0))])) := known none_known (by kernel_rfl) (by kernel_rfl) (by kernel_rfl)
/-- monocle/fix.MulDown (251 steps) -/
theorem call122 : MemoOk Tryz.prog glob hG (162, [(.int false .i64 (-21474836460)), (.int false .i64 (0))], (.tuple [(.int false .i64 (0)), (.int false .i64 (0))])) := known none_known (by kernel_rfl) (by kernel_rfl) (by kernel_rfl)
/-- monocle/fix.MulUp (251 steps) -/
theorem call123 : MemoOk Tryz.prog glob hG (163, [(.int false .i64 (-21474836460)), (.int false .i64 (0))], (.tuple [(.int false .i64 (0)), (.int false .i64 (0))])) := known none_known (by kernel_rfl) (by kernel_rfl) (by kernel_rfl)
/-- monocle/fix.ScaleDown (351 steps) -/
theorem call124 : MemoOk Tryz.prog glob hG (171, [(.int false .i64 (210453397224)), (.int false .i64 (1000000000)), (.int false .i64 (1000000000))], (.tuple [(.int false .i64 (210453397224)), (.int false .i64 (0))])) := known none_known (by kernel_rfl) (by kernel_rfl) (by kernel_rfl)
/-- monocle/fix.ScaleUp (351 steps) -/
theorem call125 : MemoOk Tryz.prog glob hG (172, [(.int false .i64 (210453397939)), (.int false .i64 (1000000000)), (.int false .i64 (1000000000))], (.tuple [(.int false .i64 (210453397939)), (.int false .i64 (0))])) := known none_known (by kernel_rfl) (by kernel_rfl) (by kernel_rfl)
/-- monocle/fix.MulDown (372 steps) -/
theorem call126 : MemoOk Tryz.prog glob hG (162, [(.int false .i64 (4294967296)), (.int false .i64 (-30064771103))], (.tuple [(.int false .i64 (-30064771103)), (.int false .i64 (0))])) := known none_known (by kernel_rfl) (by kernel_rfl) (by kernel_rfl)
/-- monocle/fix.MulUp (372 steps) -/
theorem call127 : MemoOk Tryz.prog glob hG (163, [(.int false .i64 (4294967296)), (.int false .i64 (-30064771103))], (.tuple [(.int false .i64 (-30064771103)), (.int false .i64 (0))])) := known none_known (by kernel_rfl) (by kernel_rfl) (by kernel_rfl)
/-- monocle/fix.MulDown (372 steps) -/
theorem call128 : MemoOk Tryz.prog glob hG (162, [(.int false .i64 (4294967296)), (.int false .i64 (-30064771052))], (.tuple [(.int false .i64 (-30064771052)), (.int false .i64 (0))])) := known none_known (by kernel_rfl) (by kernel_rfl) (by kernel_rfl)
/-- monocle/fix.MulUp (372 steps) -/
theorem call129 : MemoOk Tryz.prog glob hG (163, [(.int false .i64 (4294967296)), (.int false .i64 (-30064771052))], (.tuple [(.int false .i64 (-30064771052)), (.int false .i64 (0))])) := known none_known (by kernel_rfl) (by kernel_rfl) (by kernel_rfl)
/-- monocle/fix.ScaleDown (355 steps) -/
theorem call130 : MemoOk Tryz.prog glob hG (171, [(.int false .i64 (-30064771103)), (.int false .i64 (1000000000)), (.int false .i64 (1000000000))], (.tuple [(.int false .i64 (-30064771103)), (.int false .i64 (0))])) := known none_known (by kernel_rfl) (by kernel_rfl) (by kernel_rfl)
/-- monocle/fix.ScaleUp (355 steps) -/
theorem call131 : MemoOk Tryz.prog glob hG (172, [(.int false .i64 (-30064771052)), (.int false .i64 (1000000000)), (.int false .i64 (1000000000))], (.tuple [(.int false .i64 (-30064771052)), (.int false .i64 (0))])) := known none_known (by kernel_rfl) (by kernel_rfl) (by kernel_rfl)
/-- monocle/fix.ScaleDown (222 steps) -/
theorem call132 : MemoOk Tryz.prog glob hG (171, [(.int false .i64 (42949672)), (.int false .i64 (1000000)), (.int false .i64 (1000000))], (.tuple [(.int false .i64 (42949672)), (.int false .i64 (0))])) := known none_known (by kernel_rfl) (by kernel_rfl) (by kernel_rfl)
/-- monocle/fix.ScaleUp (222 steps) -/
theorem call133 : MemoOk Tryz.prog glob hG (172, [(.int false .i64 (42949674)), (.int false .i64 (1000000)), (.int false .i64 (1000000))], (.tuple [(.int false .i64 (42949674)), (.int false .i64 (0))])) := known none_known (by kernel_rfl) (by kernel_rfl) (by kernel_rfl)
/-- monocle/fix.MulDown (368 steps) -/
theorem call134 : MemoOk Tryz.prog glob hG (162, [(.int false .i64 (210453397224)), (.int false .i64 (4337916968))], (.tuple [(.int false .i64 (212557931149)), (.int false .i64 (0))])) := known none_known (by kernel_rfl) (by kernel_rfl) (by kernel_rfl)
/-- monocle/fix.MulUp (371 steps) -/
theorem call135 : MemoOk Tryz.prog glob hG (163, [(.int false .i64 (210453397224)), (.int false .i64 (4337916968))], (.tuple [(.int false .i64 (212557931150)), (.int false .i64 (0))])) := known none_known (by kernel_rfl) (by kernel_rfl) (by kernel_rfl)
/-- monocle/fix.MulDown (368 steps) -/
theorem call136 : MemoOk Tryz.prog glob hG (162, [(.int false .i64 (210453397224)), (.int false .i64 (4337916970))], (.tuple [(.int false .i64 (212557931247)), (.int false .i64 (0))])) := known none_known (by kernel_rfl) (by kernel_rfl) (by kernel_rfl)
/-- monocle/fix.MulUp (371 steps) -/
theorem call137 : MemoOk Tryz.prog glob hG (163, [(.int false .i64 (210453397224)), (.int false .i64 (4337916970))], (.tuple [(.int false .i64 (212557931248)), (.int false .i64 (0))])) := known none_known (by kernel_rfl) (by kernel_rfl) (by kernel_rfl)
/-- monocle/fix.MulDown (368 steps) -/
theorem call138 : MemoOk Tryz.prog glob hG (162, [(.int false .i64 (210453397939)), (.int false .i64 (4337916968))], (.tuple [(.int false .i64 (212557931871)), (.int false .i64 (0))])) := known none_known (by kernel_rfl) (by kernel_rfl) (by kernel_rfl)
/-- monocle/fix.MulUp (371 steps) -/
theorem call139 : MemoOk Tryz.prog glob hG (163, [(.int false .i64 (210453397939)), (.int false .i64 (4337916968))], (.tuple [(.int false .i64 (212557931872)), (.int false .i64 (0))])) := known none_known (by kernel_rfl) (by kernel_rfl) (by kernel_rfl)
/-- monocle/fix.MulDown (368 steps) -/
theorem call140 : MemoOk Tryz.prog glob hG (162, [(.int false .i64 (210453397939)), (.int false .i64 (4337916970))], (.tuple [(.int false .i64 (212557931969)), (.int false .i64 (0))])) := known none_known (by kernel_rfl) (by kernel_rfl) (by kernel_rfl)
/-- monocle/fix.MulUp (371 steps) -/
theorem call141 : MemoOk Tryz.prog glob hG (163, [(.int false .i64 (210453397939)), (.int false .i64 (4337916970))], (.tuple [(.int false .i64 (212557931970)), (.int false .i64 (0))])) := known none_known (by kernel_rfl) (by kernel_rfl) (by kernel_rfl)
/-- monocle/fix.SqrtDown (4748 steps) -/
theorem call142 : MemoOk Tryz.prog glob hG (153, [(.int false .i64 (3951369128))], (.tuple [(.int false .i64 (4119587501)), (.int false .i64 (0))])) := known none_known (by kernel_rfl) (by kernel_rfl) (by kernel_rfl)
/-- monocle/fix.SqrtUp (4818 steps) -/
theorem call143 : MemoOk Tryz.prog glob hG (154, [(.int false .i64 (3951370689))], (.tuple [(.int false .i64 (4119588315)), (.int false .i64 (0))])) := known none_known (by kernel_rfl) (by kernel_rfl) (by kernel_rfl)
/-- monocle/fix.DivDown (370 steps) -/
theorem call144 : MemoOk Tryz.prog glob hG (160, [(.int false .i64 (210453397224)), (.int false .i64 (34613855282))], (.tuple [(.int false .i64 (26113544736)), (.int false .i64 (0))])) := known none_known (by kernel_rfl) (by kernel_rfl) (by kernel_rfl)
/-- monocle/fix.DivUp (373 steps) -/
theorem call145 : MemoOk Tryz.prog glob hG (161, [(.int false .i64 (210453397224)), (.int false .i64 (34613855282))], (.tuple [(.int false .i64 (26113544737)), (.int false .i64 (0))])) := known none_known (by kernel_rfl) (by kernel_rfl) (by kernel_rfl)
/-- monocle/fix.DivDown (370 steps) -/
theorem call146 : MemoOk Tryz.prog glob hG (160, [(.int false .i64 (210453397224)), (.int false .i64 (34613856148))], (.tuple [(.int false .i64 (26113544083)), (.int false .i64 (0))])) := known none_known (by kernel_rfl) (by kernel_rfl) (by kernel_rfl)
/-- monocle/fix.DivUp (373 steps) -/
theorem call147 : MemoOk Tryz.prog glob hG (161, [(.int false .i64 (210453397224)), (.int false .i64 (34613856148))], (.tuple [(.int false .i64 (26113544084)), (.int false .i64 (0))])) := known none_known (by kernel_rfl) (by kernel_rfl) (by kernel_rfl)
/-- monocle/fix.DivDown (370 steps) -/
theorem call148 : MemoOk Tryz.prog glob hG (160, [(.int false .i64 (210453397939)), (.int false .i64 (34613855282))], (.tuple [(.int false .i64 (26113544825)), (.int false .i64 (0))])) := known none_known (by kernel_rfl) (by kernel_rfl) (by kernel_rfl)
/-- monocle/fix.DivUp (373 steps) -/
theorem call149 : MemoOk Tryz.prog glob hG (161, [(.int false .i64 (210453397939)), (.int false .i64 (34613855282))], (.tuple [(.int false .i64 (26113544826)), (.int false .i64 (0))])) := known none_known (by kernel_rfl) (by kernel_rfl) (by kernel_rfl)
/-- monocle/fix.DivDown (370 steps) -/
theorem call150 : MemoOk Tryz.prog glob hG (160, [(.int false .i64 (210453397939)), (.int false .i64 (34613856148))], (.tuple [(.int false .i64 (26113544171)), (.int false .i64 (0))])) := known none_known (by kernel_rfl) (by kernel_rfl) (by kernel_rfl)
/-- monocle/fix.DivUp (373 steps) -/
theorem call151 : MemoOk Tryz.prog glob hG (161, [(.int false .i64 (210453397939)), (.int false .i64 (34613856148))], (.tuple [(.int false .i64 (26113544172)), (.int false .i64 (0))])) := known none_known (by kernel_rfl) (by kernel_rfl) (by kernel_rfl)
/-- monocle/fix.MulDown (247 steps) -/
theorem call152 : MemoOk Tryz.prog glob hG (162, [(.int false .i64 (26113544083)), (.int false .i64 (429496729))], (.tuple [(.int false .i64 (2611354404)), (.int false .i64 (0))])) := known none_known (by kernel_rfl) (by kernel_rfl) (by kernel_rfl)
/-- monocle/fix.MulUp (250 steps) -/
theorem call153 : MemoOk Tryz.prog glob hG (163, [(.int false .i64 (26113544083)), (.int false .i64 (429496729))], (.tuple [(.int false .i64 (2611354405)), (.int false .i64 (0))])) := known none_known (by kernel_rfl) (by kernel_rfl) (by kernel_rfl)
/-- monocle/fix.MulDown (247 steps) -/
theorem call154 : MemoOk Tryz.prog glob hG (162, [(.int false .i64 (26113544083)), (.int false .i64 (429496730))], (.tuple [(.int false .i64 (2611354410)), (.int false .i64 (0))])) := known none_known (by kernel_rfl) (by kernel_rfl) (by kernel_rfl)
/-- monocle/fix.MulUp (250 steps) -/
theorem call155 : MemoOk Tryz.prog glob hG (163, [(.int false .i64 (26113544083)), (.int false .i64 (429496730))], (.tuple [(.int false .i64 (2611354411)), (.int false .i64 (0))])) := known none_known (by kernel_rfl) (by kernel_rfl) (by kernel_rfl)
/-- monocle/fix.MulDown (247 steps) -/
theorem call156 : MemoOk Tryz.prog glob hG (162, [(.int false .i64 (26113544826)), (.int false .i64 (429496729))], (.tuple [(.int false .i64 (2611354478)), (.int false .i64 (0))])) := known none_known (by kernel_rfl) (by kernel_rfl) (by kernel_rfl)
/-- monocle/fix.MulUp (250 steps) -/
theorem call157 : MemoOk Tryz.prog glob hG (163, [(.int false .i64 (26113544826)), (.int false .i64 (429496729))], (.tuple [(.int false .i64 (2611354479)), (.int false .i64 (0))])) := known none_known (by kernel_rfl) (by kernel_rfl) (by kernel_rfl)
/-- monocle/fix.MulDown (247 steps) -/
theorem call158 : MemoOk Tryz.prog glob hG (162, [(.int false .i64 (26113544826)), (.int false .i64 (429496730))], (.tuple [(.int false .i64 (2611354485)), (.int false .i64 (0))])) := known none_known (by kernel_rfl) (by kernel_rfl) (by kernel_rfl)
/-- monocle/fix.MulUp (250 steps) -/
theorem call159 : MemoOk Tryz.prog glob hG (163, [(.int false .i64 (26113544826)), (.int false .i64 (429496730))], (.tuple [(.int false .i64 (2611354486)), (.int false .i64 (0))])) := known none_known (by kernel_rfl) (by kernel_rfl) (by kernel_rfl)
/-- monocle/fix.ScaleDown (222 steps) -/
theorem call160 : MemoOk Tryz.prog glob hG (171, [(.int false .i64 (2611354404)), (.int false .i64 (1000000)), (.int false .i64 (1000000))], (.tuple [(.int false .i64 (2611354404)), (.int false .i64 (0))])) := known none_known (by kernel_rfl) (by kernel_rfl) (by kernel_rfl)
/-- monocle/fix.ScaleUp (222 steps) -/
theorem call161 : MemoOk Tryz.prog glob hG (172, [(.int false .i64 (2611354486)), (.int false .i64 (1000000)), (.int false .i64 (1000000))], (.tuple [(.int false .i64 (2611354486)), (.int false .i64 (0))])) := known none_known (by kernel_rfl) (by kernel_rfl) (by kernel_rfl)
/-- monocle/fix.ScaleDown (222 steps) -/
theorem call162 : MemoOk Tryz.prog glob hG (171, [(.int false .i64 (2611354404)), (.int false .i64 (1000000000)), (.int false .i64 (1000000000))], (.tuple [(.int false .i64 (2611354404)), (.int false .i64 (0))])) := known none_known (by kernel_rfl) (by kernel_rfl) (by kernel_rfl)
/-- monocle/fix.ScaleUp (222 steps) -/
theorem call163 : MemoOk Tryz.prog glob hG (172, [(.int false .i64 (2611354486)), (.int false .i64 (1000000000)), (.int false .i64 (1000000000))], (.tuple [(.int false .i64 (2611354486)), (.int false .i64 (0))])) := known none_known (by kernel_rfl) (by kernel_rfl) (by kernel_rfl)
/-- monocle/fix.MulDown (368 steps) -/
theorem call164 : MemoOk Tryz.prog glob hG (162, [(.int false .i64 (26113544083)), (.int false .i64 (4294967296))], (.tuple [(.int false .i64 (26113544083)), (.int false .i64 (0))])) := known none_known (by kernel_rfl) (by kernel_rfl) (by kernel_rfl)
/-- monocle/fix.MulUp (368 steps) -/
theorem call165 : MemoOk Tryz.prog glob hG (163, [(.int false .i64 (26113544083)), (.int false .i64 (4294967296))], (.tuple [(.int false .i64 (26113544083)), (.int false .i64 (0))])) := known none_known (by kernel_rfl) (by kernel_rfl) (by kernel_rfl)
/-- monocle/fix.MulDown (368 steps) -/
theorem call166 : MemoOk Tryz.prog glob hG (162, [(.int false .i64 (26113544826)), (.int false .i64 (4294967296))], (.tuple [(.int false .i64 (26113544826)), (.int false .i64 (0))])) := known none_known (by kernel_rfl) (by kernel_rfl) (by kernel_rfl)
/-- monocle/fix.MulUp (368 steps) -/
theorem call167 : MemoOk Tryz.prog glob hG (163, [(.int false .i64 (26113544826)), (.int false .i64 (4294967296))], (.tuple [(.int false .i64 (26113544826)), (.int false .i64 (0))])) := known none_known (by kernel_rfl) (by kernel_rfl) (by kernel_rfl)
/-- monocle/fix.MulDown (247 steps) -/
theorem call168 : MemoOk Tryz.prog glob hG (162, [(.int false .i64 (26113544083)), (.int false .i64 (0))], (.tuple [(.int false .i64 (0)), (.int false .i64 (0))])) := known none_known (by kernel_rfl) (by kernel_rfl) (by kernel_rfl)
/-- monocle/fix.MulUp (247 steps) -/
theorem call169 : MemoOk Tryz.prog glob hG (163, [(.int false .i64 (26113544083)), (.int false .i64 (0))], (.tuple [(.int false .i64 (0)), (.int false .i64 (0))])) := known none_known (by kernel_rfl) (by kernel_rfl) (by kernel_rfl)
/-- monocle/fix.MulDown (247 steps) -/
theorem call170 : MemoOk Tryz.prog glob hG (162, [(.int false .i64 (26113544826)), (.int false .i64 (0))], (.tuple [(.int false .i64 (0)), (.int false .i64 (0))])) := known none_known (by kernel_rfl) (by kernel_rfl) (by kernel_rfl)
/-- monocle/fix.MulUp (247 steps) -/
theorem call171 : MemoOk Tryz.prog glob hG (163, [(.int false .i64 (26113544826)), (.int false .i64 (0))], (.tuple [(.int false .i64 (0)), (.int false .i64 (0))])) := known none_known (by kernel_rfl) (by kernel_rfl) (by kernel_rfl)
/-- monocle/fix.DivDown (385 steps) -/
theorem call172 : MemoOk Tryz.prog glob hG (160, [(.int false .i64 (-6442450944)), (.int false .i64 (429496729))], (.tuple [(.int false .i64 (-64424509531)), (.int false .i64 (0))])) := known none_known (by kernel_rfl) (by kernel_rfl) (by kernel_rfl)
/-- monocle/fix.DivUp (382 steps) -/
theorem call173 : MemoOk Tryz.prog glob hG (161, [(.int false .i64 (-6442450944)), (.int false .i64 (429496729))], (.tuple [(.int false .i64 (-64424509530)), (.int false .i64 (0))])) := known none_known (by kernel_rfl) (by kernel_rfl) (by kernel_rfl)
/-- monocle/fix.DivDown (385 steps) -/
theorem call174 : MemoOk Tryz.prog glob hG (160, [(.int false .i64 (-6442450944)), (.int false .i64 (429496730))], (.tuple [(.int false .i64 (-64424509381)), (.int false .i64 (0))])) := known none_known (by kernel_rfl) (by kernel_rfl) (by kernel_rfl)
/-- monocle/fix.DivUp (382 steps) -/
theorem call175 : MemoOk Tryz.prog glob hG (161, [(.int false .i64 (-6442450944)), (.int false .i64 (429496730))], (.tuple [(.int false .i64 (-64424509380)), (.int false .i64 (0))])) := known none_known (by kernel_rfl) (by kernel_rfl) (by kernel_rfl)
/-- monocle/fix.MulDown (372 steps) -/
theorem call176 : MemoOk Tryz.prog glob hG (162, [(.int false .i64 (-64424509531)), (.int false .i64 (4294967296))], (.tuple [(.int false .i64 (-64424509531)), (.int false .i64 (0))])) := known none_known (by kernel_rfl) (by kernel_rfl) (by kernel_rfl)
/-- monocle/fix.MulUp (372 steps) -/
theorem call177 : MemoOk Tryz.prog glob hG (163, [(.int false .i64 (-64424509531)), (.int false .i64 (4294967296))], (.tuple [(.int false .i64 (-64424509531)), (.int false .i64 (0))])) := known none_known (by kernel_rfl) (by kernel_rfl) (by kernel_rfl)
/-- monocle/fix.MulDown (372 steps) -/
theorem call178 : MemoOk Tryz.prog glob hG (162, [(.int false .i64 (-64424509380)), (.int false .i64 (4294967296))], (.tuple [(.int false .i64 (-64424509380)), (.int false .i64 (0))])) := known none_known (by kernel_rfl) (by kernel_rfl) (by kernel_rfl)
/-- monocle/fix.MulUp (372 steps) -/
theorem call179 : MemoOk Tryz.prog glob hG (163, [(.int false .i64 (-64424509380)), (.int false .i64 (4294967296))], (.tuple [(.int false .i64 (-64424509380)), (.int false .i64 (0))])) := known none_known (by kernel_rfl) (by kernel_rfl) (by kernel_rfl)
/-- monocle/fix.MulDown (251 steps) -/
theorem call180 : MemoOk Tryz.prog glob hG (162, [(.int false .i64 (-64424509531)), (.int false .i64 (0))], (.tuple [(.int false .i64 (0)), (.int false .i64 (0))])) := known none_known (by kernel_rfl) (by kernel_rfl) (by kernel_rfl)
/-- monocle/fix.MulUp (251 steps) -/
theorem call181 : MemoOk Tryz.prog glob hG (163, [(.int false .i64 (-64424509531)), (.int false .i64 (0))], (.tuple [(.int false .i64 (0)), (.int false .i64 (0))])) := known none_known (by kernel_rfl) (by kernel_rfl) (by kernel_rfl)
end Go.Proofs.YtdljkgcdgidldaaGreatDoor
