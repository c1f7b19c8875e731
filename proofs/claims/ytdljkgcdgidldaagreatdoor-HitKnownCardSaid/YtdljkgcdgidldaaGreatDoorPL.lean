/- What is proved: HitKnown returns true (part 12 of 26). No conditions beyond those of the row. -/
import Derived.Test.YtdljkgcdgidldaaGreatDoorPF
import Derived.Test.YtdljkgcdgidldaaGreatDoorPG
import Derived.Test.YtdljkgcdgidldaaGreatDoorPH
import Derived.Test.YtdljkgcdgidldaaGreatDoorPI
import Derived.Test.YtdljkgcdgidldaaGreatDoorPJ
import Derived.Test.YtdljkgcdgidldaaGreatDoorPK
set_option linter.unusedVariables false
set_option linter.unusedSimpArgs false
set_option linter.unusedSectionVars false
/- What is proved: calls of the law HitKnown, of which the answers are known (level 1). No conditions. -/
namespace Go.Proofs.YtdljkgcdgidldaaGreatDoor
open Go Go.Eng

set_option maxRecDepth 100000 in
def table1 : List (FuncId × List AV × AV) :=
  (160, [(.int false .i64 (21474836480)), (.int false .i64 (4294967296))], (.tuple [(.int false .i64 (21474836480)), (.int false .i64 (0))])) ::
  (161, [(.int false .i64 (21474836480)), (.int false .i64 (4294967296))], (.tuple [(.int false .i64 (21474836480)), (.int false .i64 (0))])) ::
  (162, [(.int false .i64 (21474836480)), (.int false .i64 (0))], (.tuple [(.int false .i64 (0)), (.int false .i64 (0))])) ::
  (163, [(.int false .i64 (21474836480)), (.int false .i64 (0))], (.tuple [(.int false .i64 (0)), (.int false .i64 (0))])) ::
  (171, [(.int false .i64 (21474836480)), (.int false .i64 (0)), (.int false .i64 (1000000000))], (.tuple [(.int false .i64 (0)), (.int false .i64 (0))])) ::
  (172, [(.int false .i64 (21474836480)), (.int false .i64 (0)), (.int false .i64 (1000000000))], (.tuple [(.int false .i64 (0)), (.int false .i64 (0))])) ::
  (162, [(.int false .i64 (0)), (.int false .i64 (4294967296))], (.tuple [(.int false .i64 (0)), (.int false .i64 (0))])) ::
  (163, [(.int false .i64 (0)), (.int false .i64 (4294967296))], (.tuple [(.int false .i64 (0)), (.int false .i64 (0))])) ::
  (162, [(.int false .i64 (0)), (.int false .i64 (8589934592))], (.tuple [(.int false .i64 (0)), (.int false .i64 (0))])) ::
  (163, [(.int false .i64 (0)), (.int false .i64 (8589934592))], (.tuple [(.int false .i64 (0)), (.int false .i64 (0))])) ::
  (171, [(.int false .i64 (0)), (.int false .i64 (0)), (.int false .i64 (1000000000))], (.tuple [(.int false .i64 (0)), (.int false .i64 (0))])) ::
  (172, [(.int false .i64 (0)), (.int false .i64 (0)), (.int false .i64 (1000000000))], (.tuple [(.int false .i64 (0)), (.int false .i64 (0))])) ::
  (171, [(.int false .i64 (4294967296)), (.int false .i64 (1000000)), (.int false .i64 (1000000))], (.tuple [(.int false .i64 (4294967296)), (.int false .i64 (0))])) ::
  (172, [(.int false .i64 (4294967296)), (.int false .i64 (1000000)), (.int false .i64 (1000000))], (.tuple [(.int false .i64 (4294967296)), (.int false .i64 (0))])) ::
  (153, [(.int false .i64 (4294967296))], (.tuple [(.int false .i64 (4294967296)), (.int false .i64 (0))])) ::
  (154, [(.int false .i64 (4294967296))], (.tuple [(.int false .i64 (4294967296)), (.int false .i64 (0))])) ::
  (160, [(.int false .i64 (0)), (.int false .i64 (8589934592))], (.tuple [(.int false .i64 (0)), (.int false .i64 (0))])) ::
  (161, [(.int false .i64 (0)), (.int false .i64 (8589934592))], (.tuple [(.int false .i64 (0)), (.int false .i64 (0))])) ::
  (171, [(.int false .i64 (0)), (.int false .i64 (1000000)), (.int false .i64 (1000000))], (.tuple [(.int false .i64 (0)), (.int false .i64 (0))])) ::
  (172, [(.int false .i64 (0)), (.int false .i64 (1000000)), (.int false .i64 (1000000))], (.tuple [(.int false .i64 (0)), (.int false .i64 (0))])) ::
  (162, [(.int false .i64 (0)), (.int false .i64 (0))], (.tuple [(.int false .i64 (0)), (.int false .i64 (0))])) ::
  (163, [(.int false .i64 (0)), (.int false .i64 (0))], (.tuple [(.int false .i64 (0)), (.int false .i64 (0))])) ::
  (160, [(.int false .i64 (0)), (.int false .i64 (4294967296))], (.tuple [(.int false .i64 (0)), (.int false .i64 (0))])) ::
  (161, [(.int false .i64 (0)), (.int false .i64 (4294967296))], (.tuple [(.int false .i64 (0)), (.int false .i64 (0))])) ::
  (171, [(.int false .i64 (0)), (.int false .i64 (10000000)), (.int false .i64 (1000000000))], (.tuple [(.int false .i64 (0)), (.int false .i64 (0))])) ::
  (172, [(.int false .i64 (0)), (.int false .i64 (10000000)), (.int false .i64 (1000000000))], (.tuple [(.int false .i64 (0)), (.int false .i64 (0))])) ::
  (160, [(.int false .i64 (0)), (.int false .i64 (-4294967296))], (.tuple [(.int false .i64 (0)), (.int false .i64 (0))])) ::
  (161, [(.int false .i64 (0)), (.int false .i64 (-4294967296))], (.tuple [(.int false .i64 (0)), (.int false .i64 (0))])) ::
  (160, [(.int false .i64 (0)), (.int false .i64 (-8589934592))], (.tuple [(.int false .i64 (0)), (.int false .i64 (0))])) ::
  (161, [(.int false .i64 (0)), (.int false .i64 (-8589934592))], (.tuple [(.int false .i64 (0)), (.int false .i64 (0))])) ::
  (162, [(.int false .i64 (0)), (.int false .i64 (-4294967296))], (.tuple [(.int false .i64 (0)), (.int false .i64 (0))])) ::
  (163, [(.int false .i64 (0)), (.int false .i64 (-4294967296))], (.tuple [(.int false .i64 (0)), (.int false .i64 (0))])) ::
  (171, [(.int false .i64 (15461882265600)), (.int false .i64 (10000000)), (.int false .i64 (1000000000))], (.tuple [(.int false .i64 (154618822656)), (.int false .i64 (0))])) ::
  (172, [(.int false .i64 (15461882265600)), (.int false .i64 (10000000)), (.int false .i64 (1000000000))], (.tuple [(.int false .i64 (154618822656)), (.int false .i64 (0))])) ::
  (162, [(.int false .i64 (0)), (.int false .i64 (257698037760))], (.tuple [(.int false .i64 (0)), (.int false .i64 (0))])) ::
  (163, [(.int false .i64 (0)), (.int false .i64 (257698037760))], (.tuple [(.int false .i64 (0)), (.int false .i64 (0))])) ::
  (171, [(.int false .i64 (154618822656)), (.int false .i64 (10000000)), (.int false .i64 (1000000000))], (.tuple [(.int false .i64 (1546188226)), (.int false .i64 (0))])) ::
  (172, [(.int false .i64 (154618822656)), (.int false .i64 (10000000)), (.int false .i64 (1000000000))], (.tuple [(.int false .i64 (1546188227)), (.int false .i64 (0))])) ::
  (162, [(.int false .i64 (1546188226)), (.int false .i64 (4294967296))], (.tuple [(.int false .i64 (1546188226)), (.int false .i64 (0))])) ::
  (163, [(.int false .i64 (1546188226)), (.int false .i64 (4294967296))], (.tuple [(.int false .i64 (1546188226)), (.int false .i64 (0))])) ::
  (162, [(.int false .i64 (1546188227)), (.int false .i64 (4294967296))], (.tuple [(.int false .i64 (1546188227)), (.int false .i64 (0))])) ::
  (163, [(.int false .i64 (1546188227)), (.int false .i64 (4294967296))], (.tuple [(.int false .i64 (1546188227)), (.int false .i64 (0))])) ::
  (153, [(.int false .i64 (2748779069))], (.tuple [(.int false .i64 (3435973836)), (.int false .i64 (0))])) ::
  (154, [(.int false .i64 (2748779070))], (.tuple [(.int false .i64 (3435973838)), (.int false .i64 (0))])) ::
  (160, [(.int false .i64 (154618822656)), (.int false .i64 (7730941132))], (.tuple [(.int false .i64 (85899345928)), (.int false .i64 (0))])) ::
  (161, [(.int false .i64 (154618822656)), (.int false .i64 (7730941132))], (.tuple [(.int false .i64 (85899345929)), (.int false .i64 (0))])) ::
  (160, [(.int false .i64 (154618822656)), (.int false .i64 (7730941134))], (.tuple [(.int false .i64 (85899345906)), (.int false .i64 (0))])) ::
  (161, [(.int false .i64 (154618822656)), (.int false .i64 (7730941134))], (.tuple [(.int false .i64 (85899345907)), (.int false .i64 (0))])) ::
  (162, [(.int false .i64 (85899345906)), (.int false .i64 (4294967296))], (.tuple [(.int false .i64 (85899345906)), (.int false .i64 (0))])) ::
  (163, [(.int false .i64 (85899345906)), (.int false .i64 (4294967296))], (.tuple [(.int false .i64 (85899345906)), (.int false .i64 (0))])) ::
  (162, [(.int false .i64 (85899345929)), (.int false .i64 (4294967296))], (.tuple [(.int false .i64 (85899345929)), (.int false .i64 (0))])) ::
  (163, [(.int false .i64 (85899345929)), (.int false .i64 (4294967296))], (.tuple [(.int false .i64 (85899345929)), (.int false .i64 (0))])) ::
  (171, [(.int false .i64 (85899345906)), (.int false .i64 (1000000)), (.int false .i64 (1000000))], (.tuple [(.int false .i64 (85899345906)), (.int false .i64 (0))])) ::
  (172, [(.int false .i64 (85899345929)), (.int false .i64 (1000000)), (.int false .i64 (1000000))], (.tuple [(.int false .i64 (85899345929)), (.int false .i64 (0))])) ::
  (171, [(.int false .i64 (85899345906)), (.int false .i64 (10000000)), (.int false .i64 (1000000000))], (.tuple [(.int false .i64 (858993459)), (.int false .i64 (0))])) ::
  (172, [(.int false .i64 (85899345929)), (.int false .i64 (10000000)), (.int false .i64 (1000000000))], (.tuple [(.int false .i64 (858993460)), (.int false .i64 (0))])) ::
  (162, [(.int false .i64 (85899345906)), (.int false .i64 (0))], (.tuple [(.int false .i64 (0)), (.int false .i64 (0))])) ::
  (163, [(.int false .i64 (85899345906)), (.int false .i64 (0))], (.tuple [(.int false .i64 (0)), (.int false .i64 (0))])) ::
  (162, [(.int false .i64 (85899345929)), (.int false .i64 (0))], (.tuple [(.int false .i64 (0)), (.int false .i64 (0))])) ::
  (163, [(.int false .i64 (85899345929)), (.int false .i64 (0))], (.tuple [(.int false .i64 (0)), (.int false .i64 (0))])) ::
  (171, [(.int false .i64 (43812961386496)), (.int false .i64 (10000000)), (.int false .i64 (1000000000))], (.tuple [(.int false .i64 (438129613864)), (.int false .i64 (0))])) ::
  (172, [(.int false .i64 (43812961386496)), (.int false .i64 (10000000)), (.int false .i64 (1000000000))], (.tuple [(.int false .i64 (438129613865)), (.int false .i64 (0))])) ::
  (162, [(.int false .i64 (0)), (.int false .i64 (433791696896))], (.tuple [(.int false .i64 (0)), (.int false .i64 (0))])) ::
  (163, [(.int false .i64 (0)), (.int false .i64 (433791696896))], (.tuple [(.int false .i64 (0)), (.int false .i64 (0))])) ::
  (171, [(.int false .i64 (4294967296)), (.int false .i64 (0)), (.int false .i64 (1000000))], (.tuple [(.int false .i64 (0)), (.int false .i64 (0))])) ::
  (172, [(.int false .i64 (4294967296)), (.int false .i64 (0)), (.int false .i64 (1000000))], (.tuple [(.int false .i64 (0)), (.int false .i64 (0))])) ::
  (171, [(.int false .i64 (438129613864)), (.int false .i64 (10000000)), (.int false .i64 (1000000000))], (.tuple [(.int false .i64 (4381296138)), (.int false .i64 (0))])) ::
  (172, [(.int false .i64 (438129613865)), (.int false .i64 (10000000)), (.int false .i64 (1000000000))], (.tuple [(.int false .i64 (4381296139)), (.int false .i64 (0))])) ::
  (162, [(.int false .i64 (4381296138)), (.int false .i64 (0))], (.tuple [(.int false .i64 (0)), (.int false .i64 (0))])) ::
  (163, [(.int false .i64 (4381296138)), (.int false .i64 (0))], (.tuple [(.int false .i64 (0)), (.int false .i64 (0))])) ::
  (162, [(.int false .i64 (4381296139)), (.int false .i64 (0))], (.tuple [(.int false .i64 (0)), (.int false .i64 (0))])) ::
  (163, [(.int false .i64 (4381296139)), (.int false .i64 (0))], (.tuple [(.int false .i64 (0)), (.int false .i64 (0))])) ::
  (160, [(.int false .i64 (438129613864)), (.int false .i64 (8589934592))], (.tuple [(.int false .i64 (219064806932)), (.int false .i64 (0))])) ::
  (161, [(.int false .i64 (438129613864)), (.int false .i64 (8589934592))], (.tuple [(.int false .i64 (219064806932)), (.int false .i64 (0))])) ::
  (160, [(.int false .i64 (438129613865)), (.int false .i64 (8589934592))], (.tuple [(.int false .i64 (219064806932)), (.int false .i64 (0))])) ::
  (161, [(.int false .i64 (438129613865)), (.int false .i64 (8589934592))], (.tuple [(.int false .i64 (219064806933)), (.int false .i64 (0))])) ::
  (162, [(.int false .i64 (219064806932)), (.int false .i64 (4294967296))], (.tuple [(.int false .i64 (219064806932)), (.int false .i64 (0))])) ::
  (163, [(.int false .i64 (219064806932)), (.int false .i64 (4294967296))], (.tuple [(.int false .i64 (219064806932)), (.int false .i64 (0))])) ::
  (162, [(.int false .i64 (219064806933)), (.int false .i64 (4294967296))], (.tuple [(.int false .i64 (219064806933)), (.int false .i64 (0))])) ::
  (163, [(.int false .i64 (219064806933)), (.int false .i64 (4294967296))], (.tuple [(.int false .i64 (219064806933)), (.int false .i64 (0))])) ::
  (171, [(.int false .i64 (219064806932)), (.int false .i64 (0)), (.int false .i64 (1000000))], (.tuple [(.int false .i64 (0)), (.int false .i64 (0))])) ::
  (172, [(.int false .i64 (219064806933)), (.int false .i64 (0)), (.int false .i64 (1000000))], (.tuple [(.int false .i64 (0)), (.int false .i64 (0))])) ::
  (162, [(.int false .i64 (219064806932)), (.int false .i64 (0))], (.tuple [(.int false .i64 (0)), (.int false .i64 (0))])) ::
  (163, [(.int false .i64 (219064806932)), (.int false .i64 (0))], (.tuple [(.int false .i64 (0)), (.int false .i64 (0))])) ::
  (162, [(.int false .i64 (219064806933)), (.int false .i64 (0))], (.tuple [(.int false .i64 (0)), (.int false .i64 (0))])) ::
  (163, [(.int false .i64 (219064806933)), (.int false .i64 (0))], (.tuple [(.int false .i64 (0)), (.int false .i64 (0))])) ::
  (162, [(.int false .i64 (4381296138)), (.int false .i64 (4294967296))], (.tuple [(.int false .i64 (4381296138)), (.int false .i64 (0))])) ::
  (163, [(.int false .i64 (4381296138)), (.int false .i64 (4294967296))], (.tuple [(.int false .i64 (4381296138)), (.int false .i64 (0))])) ::
  (162, [(.int false .i64 (4381296139)), (.int false .i64 (4294967296))], (.tuple [(.int false .i64 (4381296139)), (.int false .i64 (0))])) ::
  (163, [(.int false .i64 (4381296139)), (.int false .i64 (4294967296))], (.tuple [(.int false .i64 (4381296139)), (.int false .i64 (0))])) ::
  (160, [(.int false .i64 (4294967296)), (.int false .i64 (4294967296))], (.tuple [(.int false .i64 (4294967296)), (.int false .i64 (0))])) ::
  (161, [(.int false .i64 (4294967296)), (.int false .i64 (4294967296))], (.tuple [(.int false .i64 (4294967296)), (.int false .i64 (0))])) ::
  (162, [(.int false .i64 (4294967296)), (.int false .i64 (0))], (.tuple [(.int false .i64 (0)), (.int false .i64 (0))])) ::
  (163, [(.int false .i64 (4294967296)), (.int false .i64 (0))], (.tuple [(.int false .i64 (0)), (.int false .i64 (0))])) ::
  (162, [(.int false .i64 (4294967296)), (.int false .i64 (4294967296))], (.tuple [(.int false .i64 (4294967296)), (.int false .i64 (0))])) ::
  (163, [(.int false .i64 (4294967296)), (.int false .i64 (4294967296))], (.tuple [(.int false .i64 (4294967296)), (.int false .i64 (0))])) ::
  (171, [(.int false .i64 (4294967296)), (.int false .i64 (1000000000)), (.int false .i64 (1000000000))], (.tuple [(.int false .i64 (4294967296)), (.int false .i64 (0))])) ::
  (172, [(.int false .i64 (4294967296)), (.int false .i64 (1000000000)), (.int false .i64 (1000000000))], (.tuple [(.int false .i64 (4294967296)), (.int false .i64 (0))])) ::
  (171, [(.int false .i64 (0)), (.int false .i64 (1000000000)), (.int false .i64 (1000000000))], (.tuple [(.int false .i64 (0)), (.int false .i64 (0))])) ::
  (172, [(.int false .i64 (0)), (.int false .i64 (1000000000)), (.int false .i64 (1000000000))], (.tuple [(.int false .i64 (0)), (.int false .i64 (0))])) ::
  (153, [(.int false .i64 (0))], (.tuple [(.int false .i64 (0)), (.int false .i64 (0))])) ::
  (154, [(.int false .i64 (0))], (.tuple [(.int false .i64 (0)), (.int false .i64 (0))])) ::
  (171, [(.int false .i64 (4303561524)), (.int false .i64 (1000000000)), (.int false .i64 (1000000000))], (.tuple [(.int false .i64 (4303561524)), (.int false .i64 (0))])) ::
  (172, [(.int false .i64 (4303561527)), (.int false .i64 (1000000000)), (.int false .i64 (1000000000))], (.tuple [(.int false .i64 (4303561527)), (.int false .i64 (0))])) ::
  (162, [(.int false .i64 (0)), (.int false .i64 (4299262263))], (.tuple [(.int false .i64 (0)), (.int false .i64 (0))])) ::
  (163, [(.int false .i64 (0)), (.int false .i64 (4299262263))], (.tuple [(.int false .i64 (0)), (.int false .i64 (0))])) ::
  (162, [(.int false .i64 (0)), (.int false .i64 (4299262264))], (.tuple [(.int false .i64 (0)), (.int false .i64 (0))])) ::
  (163, [(.int false .i64 (0)), (.int false .i64 (4299262264))], (.tuple [(.int false .i64 (0)), (.int false .i64 (0))])) ::
  (162, [(.int false .i64 (4303561524)), (.int false .i64 (4294967296))], (.tuple [(.int false .i64 (4303561524)), (.int false .i64 (0))])) ::
  (163, [(.int false .i64 (4303561524)), (.int false .i64 (4294967296))], (.tuple [(.int false .i64 (4303561524)), (.int false .i64 (0))])) ::
  (162, [(.int false .i64 (4303561527)), (.int false .i64 (4294967296))], (.tuple [(.int false .i64 (4303561527)), (.int false .i64 (0))])) ::
  (163, [(.int false .i64 (4303561527)), (.int false .i64 (4294967296))], (.tuple [(.int false .i64 (4303561527)), (.int false .i64 (0))])) ::
  (160, [(.int false .i64 (-2147483648)), (.int false .i64 (429496729))], (.tuple [(.int false .i64 (-21474836511)), (.int false .i64 (0))])) ::
  (161, [(.int false .i64 (-2147483648)), (.int false .i64 (429496729))], (.tuple [(.int false .i64 (-21474836510)), (.int false .i64 (0))])) ::
  (160, [(.int false .i64 (-2147483648)), (.int false .i64 (429496730))], (.tuple [(.int false .i64 (-21474836461)), (.int false .i64 (0))])) ::
  (161, [(.int false .i64 (-2147483648)), (.int false .i64 (429496730))], (.tuple [(.int false .i64 (-21474836460)), (.int false .i64 (0))])) ::
  (162, [(.int false .i64 (-21474836511)), (.int false .i64 (4294967296))], (.tuple [(.int false .i64 (-21474836511)), (.int false .i64 (0))])) ::
  (163, [(.int false .i64 (-21474836511)), (.int false .i64 (4294967296))], (.tuple [(.int false .i64 (-21474836511)), (.int false .i64 (0))])) ::
  (162, [(.int false .i64 (-21474836460)), (.int false .i64 (4294967296))], (.tuple [(.int false .i64 (-21474836460)), (.int false .i64 (0))])) ::
  (163, [(.int false .i64 (-21474836460)), (.int false .i64 (4294967296))], (.tuple [(.int false .i64 (-21474836460)), (.int false .i64 (0))])) ::
  (162, [(.int false .i64 (-21474836511)), (.int false .i64 (0))], (.tuple [(.int false .i64 (0)), (.int false .i64 (0))])) ::
  (163, [(.int false .i64 (-21474836511)), (.int false .i64 (0))], (.tuple [(.int false .i64 (0)), (.int false .i64 (0))])) ::
  (162, [(.int false .i64 (-21474836460)), (.int false .i64 (0))], (.tuple [(.int false .i64 (0)), (.int false .i64 (0))])) ::
  (163, [(.int false .i64 (-21474836460)), (.int false .i64 (0))], (.tuple [(.int false .i64 (0)), (.int false .i64 (0))])) ::
  (171, [(.int false .i64 (210453397224)), (.int false .i64 (1000000000)), (.int false .i64 (1000000000))], (.tuple [(.int false .i64 (210453397224)), (.int false .i64 (0))])) ::
  (172, [(.int false .i64 (210453397939)), (.int false .i64 (1000000000)), (.int false .i64 (1000000000))], (.tuple [(.int false .i64 (210453397939)), (.int false .i64 (0))])) ::
  (162, [(.int false .i64 (4294967296)), (.int false .i64 (-30064771103))], (.tuple [(.int false .i64 (-30064771103)), (.int false .i64 (0))])) ::
  (163, [(.int false .i64 (4294967296)), (.int false .i64 (-30064771103))], (.tuple [(.int false .i64 (-30064771103)), (.int false .i64 (0))])) ::
  (162, [(.int false .i64 (4294967296)), (.int false .i64 (-30064771052))], (.tuple [(.int false .i64 (-30064771052)), (.int false .i64 (0))])) ::
  (163, [(.int false .i64 (4294967296)), (.int false .i64 (-30064771052))], (.tuple [(.int false .i64 (-30064771052)), (.int false .i64 (0))])) ::
  (171, [(.int false .i64 (-30064771103)), (.int false .i64 (1000000000)), (.int false .i64 (1000000000))], (.tuple [(.int false .i64 (-30064771103)), (.int false .i64 (0))])) ::
  (172, [(.int false .i64 (-30064771052)), (.int false .i64 (1000000000)), (.int false .i64 (1000000000))], (.tuple [(.int false .i64 (-30064771052)), (.int false .i64 (0))])) ::
  (171, [(.int false .i64 (42949672)), (.int false .i64 (1000000)), (.int false .i64 (1000000))], (.tuple [(.int false .i64 (42949672)), (.int false .i64 (0))])) ::
  (172, [(.int false .i64 (42949674)), (.int false .i64 (1000000)), (.int false .i64 (1000000))], (.tuple [(.int false .i64 (42949674)), (.int false .i64 (0))])) ::
  (162, [(.int false .i64 (210453397224)), (.int false .i64 (4337916968))], (.tuple [(.int false .i64 (212557931149)), (.int false .i64 (0))])) ::
  (163, [(.int false .i64 (210453397224)), (.int false .i64 (4337916968))], (.tuple [(.int false .i64 (212557931150)), (.int false .i64 (0))])) ::
  (162, [(.int false .i64 (210453397224)), (.int false .i64 (4337916970))], (.tuple [(.int false .i64 (212557931247)), (.int false .i64 (0))])) ::
  (163, [(.int false .i64 (210453397224)), (.int false .i64 (4337916970))], (.tuple [(.int false .i64 (212557931248)), (.int false .i64 (0))])) ::
  (162, [(.int false .i64 (210453397939)), (.int false .i64 (4337916968))], (.tuple [(.int false .i64 (212557931871)), (.int false .i64 (0))])) ::
  (163, [(.int false .i64 (210453397939)), (.int false .i64 (4337916968))], (.tuple [(.int false .i64 (212557931872)), (.int false .i64 (0))])) ::
  (162, [(.int false .i64 (210453397939)), (.int false .i64 (4337916970))], (.tuple [(.int false .i64 (212557931969)), (.int false .i64 (0))])) ::
  (163, [(.int false .i64 (210453397939)), (.int false .i64 (4337916970))], (.tuple [(.int false .i64 (212557931970)), (.int false .i64 (0))])) ::
  (153, [(.int false .i64 (3951369128))], (.tuple [(.int false .i64 (4119587501)), (.int false .i64 (0))])) ::
  (154, [(.int false .i64 (3951370689))], (.tuple [(.int false .i64 (4119588315)), (.int false .i64 (0))])) ::
  (160, [(.int false .i64 (210453397224)), (.int false .i64 (34613855282))], (.tuple [(.int false .i64 (26113544736)), (.int false .i64 (0))])) ::
  (161, [(.int false .i64 (210453397224)), (.int false .i64 (34613855282))], (.tuple [(.int false .i64 (26113544737)), (.int false .i64 (0))])) ::
  (160, [(.int false .i64 (210453397224)), (.int false .i64 (34613856148))], (.tuple [(.int false .i64 (26113544083)), (.int false .i64 (0))])) ::
  (161, [(.int false .i64 (210453397224)), (.int false .i64 (34613856148))], (.tuple [(.int false .i64 (26113544084)), (.int false .i64 (0))])) ::
  (160, [(.int false .i64 (210453397939)), (.int false .i64 (34613855282))], (.tuple [(.int false .i64 (26113544825)), (.int false .i64 (0))])) ::
  (161, [(.int false .i64 (210453397939)), (.int false .i64 (34613855282))], (.tuple [(.int false .i64 (26113544826)), (.int false .i64 (0))])) ::
  (160, [(.int false .i64 (210453397939)), (.int false .i64 (34613856148))], (.tuple [(.int false .i64 (26113544171)), (.int false .i64 (0))])) ::
  (161, [(.int false .i64 (210453397939)), (.int false .i64 (34613856148))], (.tuple [(.int false .i64 (26113544172)), (.int false .i64 (0))])) ::
  (162, [(.int false .i64 (26113544083)), (.int false .i64 (429496729))], (.tuple [(.int false .i64 (2611354404)), (.int false .i64 (0))])) ::
  (163, [(.int false .i64 (26113544083)), (.int false .i64 (429496729))], (.tuple [(.int false .i64 (2611354405)), (.int false .i64 (0))])) ::
  (162, [(.int false .i64 (26113544083)), (.int false .i64 (429496730))], (.tuple [(.int false .i64 (2611354410)), (.int false .i64 (0))])) ::
  (163, [(.int false .i64 (26113544083)), (.int false .i64 (429496730))], (.tuple [(.int false .i64 (2611354411)), (.int false .i64 (0))])) ::
  (162, [(.int false .i64 (26113544826)), (.int false .i64 (429496729))], (.tuple [(.int false .i64 (2611354478)), (.int false .i64 (0))])) ::
  (163, [(.int false .i64 (26113544826)), (.int false .i64 (429496729))], (.tuple [(.int false .i64 (2611354479)), (.int false .i64 (0))])) ::
  (162, [(.int false .i64 (26113544826)), (.int false .i64 (429496730))], (.tuple [(.int false .i64 (2611354485)), (.int false .i64 (0))])) ::
  (163, [(.int false .i64 (26113544826)), (.int false .i64 (429496730))], (.tuple [(.int false .i64 (2611354486)), (.int false .i64 (0))])) ::
  (171, [(.int false .i64 (2611354404)), (.int false .i64 (1000000)), (.int false .i64 (1000000))], (.tuple [(.int false .i64 (2611354404)), (.int false .i64 (0))])) ::
  (172, [(.int false .i64 (2611354486)), (.int false .i64 (1000000)), (.int false .i64 (1000000))], (.tuple [(.int false .i64 (2611354486)), (.int false .i64 (0))])) ::
  (171, [(.int false .i64 (2611354404)), (.int false .i64 (1000000000)), (.int false .i64 (1000000000))], (.tuple [(.int false .i64 (2611354404)), (.int false .i64 (0))])) ::
  (172, [(.int false .i64 (2611354486)), (.int false .i64 (1000000000)), (.int false .i64 (1000000000))], (.tuple [(.int false .i64 (2611354486)), (.int false .i64 (0))])) ::
  (162, [(.int false .i64 (26113544083)), (.int false .i64 (4294967296))], (.tuple [(.int false .i64 (26113544083)), (.int false .i64 (0))])) ::
  (163, [(.int false .i64 (26113544083)), (.int false .i64 (4294967296))], (.tuple [(.int false .i64 (26113544083)), (.int false .i64 (0))])) ::
  (162, [(.int false .i64 (26113544826)), (.int false .i64 (4294967296))], (.tuple [(.int false .i64 (26113544826)), (.int false .i64 (0))])) ::
  (163, [(.int false .i64 (26113544826)), (.int false .i64 (4294967296))], (.tuple [(.int false .i64 (26113544826)), (.int false .i64 (0))])) ::
  (162, [(.int false .i64 (26113544083)), (.int false .i64 (0))], (.tuple [(.int false .i64 (0)), (.int false .i64 (0))])) ::
  (163, [(.int false .i64 (26113544083)), (.int false .i64 (0))], (.tuple [(.int false .i64 (0)), (.int false .i64 (0))])) ::
  (162, [(.int false .i64 (26113544826)), (.int false .i64 (0))], (.tuple [(.int false .i64 (0)), (.int false .i64 (0))])) ::
  (163, [(.int false .i64 (26113544826)), (.int false .i64 (0))], (.tuple [(.int false .i64 (0)), (.int false .i64 (0))])) ::
  (160, [(.int false .i64 (-6442450944)), (.int false .i64 (429496729))], (.tuple [(.int false .i64 (-64424509531)), (.int false .i64 (0))])) ::
  (161, [(.int false .i64 (-6442450944)), (.int false .i64 (429496729))], (.tuple [(.int false .i64 (-64424509530)), (.int false .i64 (0))])) ::
  (160, [(.int false .i64 (-6442450944)), (.int false .i64 (429496730))], (.tuple [(.int false .i64 (-64424509381)), (.int false .i64 (0))])) ::
  (161, [(.int false .i64 (-6442450944)), (.int false .i64 (429496730))], (.tuple [(.int false .i64 (-64424509380)), (.int false .i64 (0))])) ::
  (162, [(.int false .i64 (-64424509531)), (.int false .i64 (4294967296))], (.tuple [(.int false .i64 (-64424509531)), (.int false .i64 (0))])) ::
  (163, [(.int false .i64 (-64424509531)), (.int false .i64 (4294967296))], (.tuple [(.int false .i64 (-64424509531)), (.int false .i64 (0))])) ::
  (162, [(.int false .i64 (-64424509380)), (.int false .i64 (4294967296))], (.tuple [(.int false .i64 (-64424509380)), (.int false .i64 (0))])) ::
  (163, [(.int false .i64 (-64424509380)), (.int false .i64 (4294967296))], (.tuple [(.int false .i64 (-64424509380)), (.int false .i64 (0))])) ::
  (162, [(.int false .i64 (-64424509531)), (.int false .i64 (0))], (.tuple [(.int false .i64 (0)), (.int false .i64 (0))])) ::
  (163, [(.int false .i64 (-64424509531)), (.int false .i64 (0))], (.tuple [(.int false .i64 (0)), (.int false .i64 (0))])) ::
  (162, [(.int false .i64 (-64424509380)), (.int false .i64 (0))], (.tuple [(.int false .i64 (0)), (.int false .i64 (0))])) ::
  (163, [(.int false .i64 (-64424509380)), (.int false .i64 (0))], (.tuple [(.int false .i64 (0)), (.int false .i64 (0))])) ::
  (171, [(.int false .i64 (1241245546504)), (.int false .i64 (1000000000)), (.int false .i64 (1000000000))], (.tuple [(.int false .i64 (1241245546504)), (.int false .i64 (0))])) ::
  (172, [(.int false .i64 (1241245551639)), (.int false .i64 (1000000000)), (.int false .i64 (1000000000))], (.tuple [(.int false .i64 (1241245551639)), (.int false .i64 (0))])) ::
  (162, [(.int false .i64 (4294967296)), (.int false .i64 (-73014444123))], (.tuple [(.int false .i64 (-73014444123)), (.int false .i64 (0))])) ::
  (163, [(.int false .i64 (4294967296)), (.int false .i64 (-73014444123))], (.tuple [(.int false .i64 (-73014444123)), (.int false .i64 (0))])) ::
  (162, [(.int false .i64 (4294967296)), (.int false .i64 (-73014443972))], (.tuple [(.int false .i64 (-73014443972)), (.int false .i64 (0))])) ::
  (163, [(.int false .i64 (4294967296)), (.int false .i64 (-73014443972))], (.tuple [(.int false .i64 (-73014443972)), (.int false .i64 (0))])) ::
  (171, [(.int false .i64 (-73014444123)), (.int false .i64 (1000000000)), (.int false .i64 (1000000000))], (.tuple [(.int false .i64 (-73014444123)), (.int false .i64 (0))])) ::
  (172, [(.int false .i64 (-73014443972)), (.int false .i64 (1000000000)), (.int false .i64 (1000000000))], (.tuple [(.int false .i64 (-73014443972)), (.int false .i64 (0))])) ::
  (162, [(.int false .i64 (1241245546504)), (.int false .i64 (4337916968))], (.tuple [(.int false .i64 (1253658001691)), (.int false .i64 (0))])) ::
  (163, [(.int false .i64 (1241245546504)), (.int false .i64 (4337916968))], (.tuple [(.int false .i64 (1253658001692)), (.int false .i64 (0))])) ::
  (162, [(.int false .i64 (1241245546504)), (.int false .i64 (4337916970))], (.tuple [(.int false .i64 (1253658002269)), (.int false .i64 (0))])) ::
  (163, [(.int false .i64 (1241245546504)), (.int false .i64 (4337916970))], (.tuple [(.int false .i64 (1253658002270)), (.int false .i64 (0))])) ::
  (162, [(.int false .i64 (1241245551639)), (.int false .i64 (4337916968))], (.tuple [(.int false .i64 (1253658006877)), (.int false .i64 (0))])) ::
  (163, [(.int false .i64 (1241245551639)), (.int false .i64 (4337916968))], (.tuple [(.int false .i64 (1253658006878)), (.int false .i64 (0))])) ::
  (162, [(.int false .i64 (1241245551639)), (.int false .i64 (4337916970))], (.tuple [(.int false .i64 (1253658007455)), (.int false .i64 (0))])) ::
  (163, [(.int false .i64 (1241245551639)), (.int false .i64 (4337916970))], (.tuple [(.int false .i64 (1253658007456)), (.int false .i64 (0))])) ::
  (153, [(.int false .i64 (2233377494))], (.tuple [(.int false .i64 (3097141148)), (.int false .i64 (0))])) ::
  (154, [(.int false .i64 (2233388459))], (.tuple [(.int false .i64 (3097148752)), (.int false .i64 (0))])) ::
  (160, [(.int false .i64 (1241245546504)), (.int false .i64 (76541081849))], (.tuple [(.int false .i64 (69650296282)), (.int false .i64 (0))])) ::
  (161, [(.int false .i64 (1241245546504)), (.int false .i64 (76541081849))], (.tuple [(.int false .i64 (69650296283)), (.int false .i64 (0))])) ::
  (160, [(.int false .i64 (1241245546504)), (.int false .i64 (76541089605))], (.tuple [(.int false .i64 (69650289224)), (.int false .i64 (0))])) ::
  (161, [(.int false .i64 (1241245546504)), (.int false .i64 (76541089605))], (.tuple [(.int false .i64 (69650289225)), (.int false .i64 (0))])) ::
  (160, [(.int false .i64 (1241245551639)), (.int false .i64 (76541081849))], (.tuple [(.int false .i64 (69650296570)), (.int false .i64 (0))])) ::
  (161, [(.int false .i64 (1241245551639)), (.int false .i64 (76541081849))], (.tuple [(.int false .i64 (69650296571)), (.int false .i64 (0))])) ::
  (160, [(.int false .i64 (1241245551639)), (.int false .i64 (76541089605))], (.tuple [(.int false .i64 (69650289512)), (.int false .i64 (0))])) ::
  (161, [(.int false .i64 (1241245551639)), (.int false .i64 (76541089605))], (.tuple [(.int false .i64 (69650289513)), (.int false .i64 (0))])) ::
  (162, [(.int false .i64 (69650289224)), (.int false .i64 (429496729))], (.tuple [(.int false .i64 (6965028912)), (.int false .i64 (0))])) ::
  (163, [(.int false .i64 (69650289224)), (.int false .i64 (429496729))], (.tuple [(.int false .i64 (6965028913)), (.int false .i64 (0))])) ::
  (162, [(.int false .i64 (69650289224)), (.int false .i64 (429496730))], (.tuple [(.int false .i64 (6965028928)), (.int false .i64 (0))])) ::
  (163, [(.int false .i64 (69650289224)), (.int false .i64 (429496730))], (.tuple [(.int false .i64 (6965028929)), (.int false .i64 (0))])) ::
  (162, [(.int false .i64 (69650296571)), (.int false .i64 (429496729))], (.tuple [(.int false .i64 (6965029647)), (.int false .i64 (0))])) ::
  (163, [(.int false .i64 (69650296571)), (.int false .i64 (429496729))], (.tuple [(.int false .i64 (6965029648)), (.int false .i64 (0))])) ::
  (162, [(.int false .i64 (69650296571)), (.int false .i64 (429496730))], (.tuple [(.int false .i64 (6965029663)), (.int false .i64 (0))])) ::
  (163, [(.int false .i64 (69650296571)), (.int false .i64 (429496730))], (.tuple [(.int false .i64 (6965029664)), (.int false .i64 (0))])) ::
  (171, [(.int false .i64 (6965028912)), (.int false .i64 (1000000)), (.int false .i64 (1000000))], (.tuple [(.int false .i64 (6965028912)), (.int false .i64 (0))])) ::
  (172, [(.int false .i64 (6965029664)), (.int false .i64 (1000000)), (.int false .i64 (1000000))], (.tuple [(.int false .i64 (6965029664)), (.int false .i64 (0))])) ::
  (171, [(.int false .i64 (6965028912)), (.int false .i64 (1000000000)), (.int false .i64 (1000000000))], (.tuple [(.int false .i64 (6965028912)), (.int false .i64 (0))])) ::
  (172, [(.int false .i64 (6965029664)), (.int false .i64 (1000000000)), (.int false .i64 (1000000000))], (.tuple [(.int false .i64 (6965029664)), (.int false .i64 (0))])) ::
  (160, [(.int false .i64 (8589934592)), (.int false .i64 (4294967296))], (.tuple [(.int false .i64 (8589934592)), (.int false .i64 (0))])) ::
  (161, [(.int false .i64 (8589934592)), (.int false .i64 (4294967296))], (.tuple [(.int false .i64 (8589934592)), (.int false .i64 (0))])) ::
  (162, [(.int false .i64 (8589934592)), (.int false .i64 (0))], (.tuple [(.int false .i64 (0)), (.int false .i64 (0))])) ::
  (163, [(.int false .i64 (8589934592)), (.int false .i64 (0))], (.tuple [(.int false .i64 (0)), (.int false .i64 (0))])) ::
  (171, [(.int false .i64 (429496729600)), (.int false .i64 (0)), (.int false .i64 (1000000000))], (.tuple [(.int false .i64 (0)), (.int false .i64 (0))])) ::
  (172, [(.int false .i64 (429496729600)), (.int false .i64 (0)), (.int false .i64 (1000000000))], (.tuple [(.int false .i64 (0)), (.int false .i64 (0))])) ::
  (162, [(.int false .i64 (0)), (.int false .i64 (42949672960))], (.tuple [(.int false .i64 (0)), (.int false .i64 (0))])) ::
  (163, [(.int false .i64 (0)), (.int false .i64 (42949672960))], (.tuple [(.int false .i64 (0)), (.int false .i64 (0))])) ::
  (162, [(.int false .i64 (-1048576)), (.int false .i64 (0))], (.tuple [(.int false .i64 (0)), (.int false .i64 (0))])) ::
  (163, [(.int false .i64 (-1048576)), (.int false .i64 (0))], (.tuple [(.int false .i64 (0)), (.int false .i64 (0))])) ::
  (162, [(.int false .i64 (1048576)), (.int false .i64 (0))], (.tuple [(.int false .i64 (0)), (.int false .i64 (0))])) ::
  (163, [(.int false .i64 (1048576)), (.int false .i64 (0))], (.tuple [(.int false .i64 (0)), (.int false .i64 (0))])) ::
  (162, [(.int false .i64 (-1048576)), (.int false .i64 (4294967296))], (.tuple [(.int false .i64 (-1048576)), (.int false .i64 (0))])) ::
  (163, [(.int false .i64 (-1048576)), (.int false .i64 (4294967296))], (.tuple [(.int false .i64 (-1048576)), (.int false .i64 (0))])) ::
  (162, [(.int false .i64 (1048576)), (.int false .i64 (4294967296))], (.tuple [(.int false .i64 (1048576)), (.int false .i64 (0))])) ::
  (163, [(.int false .i64 (1048576)), (.int false .i64 (4294967296))], (.tuple [(.int false .i64 (1048576)), (.int false .i64 (0))])) ::
  (171, [(.int false .i64 (429496729600)), (.int false .i64 (1)), (.int false .i64 (100))], (.tuple [(.int false .i64 (4294967296)), (.int false .i64 (0))])) ::
  (172, [(.int false .i64 (429496729600)), (.int false .i64 (1)), (.int false .i64 (100))], (.tuple [(.int false .i64 (4294967296)), (.int false .i64 (0))])) ::
  (171, [(.int false .i64 (4294967296)), (.int false .i64 (2000000)), (.int false .i64 (1000000))], (.tuple [(.int false .i64 (8589934592)), (.int false .i64 (0))])) ::
  (172, [(.int false .i64 (4294967296)), (.int false .i64 (2000000)), (.int false .i64 (1000000))], (.tuple [(.int false .i64 (8589934592)), (.int false .i64 (0))])) ::
  (171, [(.int false .i64 (0)), (.int false .i64 (1)), (.int false .i64 (50))], (.tuple [(.int false .i64 (0)), (.int false .i64 (0))])) ::
  (172, [(.int false .i64 (0)), (.int false .i64 (1)), (.int false .i64 (50))], (.tuple [(.int false .i64 (0)), (.int false .i64 (0))])) ::
  (162, [(.int false .i64 (4294967296)), (.int false .i64 (8589934592))], (.tuple [(.int false .i64 (8589934592)), (.int false .i64 (0))])) ::
  (163, [(.int false .i64 (4294967296)), (.int false .i64 (8589934592))], (.tuple [(.int false .i64 (8589934592)), (.int false .i64 (0))])) ::
  (171, [(.int false .i64 (42949672960)), (.int false .i64 (0)), (.int false .i64 (1000000000))], (.tuple [(.int false .i64 (0)), (.int false .i64 (0))])) ::
  (172, [(.int false .i64 (42949672960)), (.int false .i64 (0)), (.int false .i64 (1000000000))], (.tuple [(.int false .i64 (0)), (.int false .i64 (0))])) ::
  (171, [(.int false .i64 (42949672960)), (.int false .i64 (1)), (.int false .i64 (50))], (.tuple [(.int false .i64 (858993459)), (.int false .i64 (0))])) ::
  (172, [(.int false .i64 (42949672960)), (.int false .i64 (1)), (.int false .i64 (50))], (.tuple [(.int false .i64 (858993460)), (.int false .i64 (0))])) ::
  (162, [(.int false .i64 (858993459)), (.int false .i64 (8589934592))], (.tuple [(.int false .i64 (1717986918)), (.int false .i64 (0))])) ::
  (163, [(.int false .i64 (858993459)), (.int false .i64 (8589934592))], (.tuple [(.int false .i64 (1717986918)), (.int false .i64 (0))])) ::
  (162, [(.int false .i64 (858993460)), (.int false .i64 (8589934592))], (.tuple [(.int false .i64 (1717986920)), (.int false .i64 (0))])) ::
  (163, [(.int false .i64 (858993460)), (.int false .i64 (8589934592))], (.tuple [(.int false .i64 (1717986920)), (.int false .i64 (0))])) ::
  (162, [(.int false .i64 (1717986918)), (.int false .i64 (0))], (.tuple [(.int false .i64 (0)), (.int false .i64 (0))])) ::
  (163, [(.int false .i64 (1717986918)), (.int false .i64 (0))], (.tuple [(.int false .i64 (0)), (.int false .i64 (0))])) ::
  (162, [(.int false .i64 (1717986920)), (.int false .i64 (0))], (.tuple [(.int false .i64 (0)), (.int false .i64 (0))])) ::
  (163, [(.int false .i64 (1717986920)), (.int false .i64 (0))], (.tuple [(.int false .i64 (0)), (.int false .i64 (0))])) ::
  (160, [(.int false .i64 (-4294967296)), (.int false .i64 (4294967296))], (.tuple [(.int false .i64 (-4294967296)), (.int false .i64 (0))])) ::
  (161, [(.int false .i64 (-4294967296)), (.int false .i64 (4294967296))], (.tuple [(.int false .i64 (-4294967296)), (.int false .i64 (0))])) ::
  (162, [(.int false .i64 (-67108864)), (.int false .i64 (0))], (.tuple [(.int false .i64 (0)), (.int false .i64 (0))])) ::
  (163, [(.int false .i64 (-67108864)), (.int false .i64 (0))], (.tuple [(.int false .i64 (0)), (.int false .i64 (0))])) ::
  (162, [(.int false .i64 (67108864)), (.int false .i64 (0))], (.tuple [(.int false .i64 (0)), (.int false .i64 (0))])) ::
  (163, [(.int false .i64 (67108864)), (.int false .i64 (0))], (.tuple [(.int false .i64 (0)), (.int false .i64 (0))])) ::
  (162, [(.int false .i64 (-67108864)), (.int false .i64 (4294967296))], (.tuple [(.int false .i64 (-67108864)), (.int false .i64 (0))])) ::
  (163, [(.int false .i64 (-67108864)), (.int false .i64 (4294967296))], (.tuple [(.int false .i64 (-67108864)), (.int false .i64 (0))])) ::
  (162, [(.int false .i64 (67108864)), (.int false .i64 (4294967296))], (.tuple [(.int false .i64 (67108864)), (.int false .i64 (0))])) ::
  (163, [(.int false .i64 (67108864)), (.int false .i64 (4294967296))], (.tuple [(.int false .i64 (67108864)), (.int false .i64 (0))])) ::
  (162, [(.int false .i64 (-2147483648)), (.int false .i64 (0))], (.tuple [(.int false .i64 (0)), (.int false .i64 (0))])) ::
  (163, [(.int false .i64 (-2147483648)), (.int false .i64 (0))], (.tuple [(.int false .i64 (0)), (.int false .i64 (0))])) ::
  (162, [(.int false .i64 (2147483648)), (.int false .i64 (0))], (.tuple [(.int false .i64 (0)), (.int false .i64 (0))])) ::
  (163, [(.int false .i64 (2147483648)), (.int false .i64 (0))], (.tuple [(.int false .i64 (0)), (.int false .i64 (0))])) ::
  (162, [(.int false .i64 (-2147483648)), (.int false .i64 (4294967296))], (.tuple [(.int false .i64 (-2147483648)), (.int false .i64 (0))])) ::
  (163, [(.int false .i64 (-2147483648)), (.int false .i64 (4294967296))], (.tuple [(.int false .i64 (-2147483648)), (.int false .i64 (0))])) ::
  (162, [(.int false .i64 (2147483648)), (.int false .i64 (4294967296))], (.tuple [(.int false .i64 (2147483648)), (.int false .i64 (0))])) ::
  (163, [(.int false .i64 (2147483648)), (.int false .i64 (4294967296))], (.tuple [(.int false .i64 (2147483648)), (.int false .i64 (0))])) ::
  (162, [(.int false .i64 (-34359738368)), (.int false .i64 (0))], (.tuple [(.int false .i64 (0)), (.int false .i64 (0))])) ::
  (163, [(.int false .i64 (-34359738368)), (.int false .i64 (0))], (.tuple [(.int false .i64 (0)), (.int false .i64 (0))])) ::
  (162, [(.int false .i64 (34359738368)), (.int false .i64 (0))], (.tuple [(.int false .i64 (0)), (.int false .i64 (0))])) ::
  (163, [(.int false .i64 (34359738368)), (.int false .i64 (0))], (.tuple [(.int false .i64 (0)), (.int false .i64 (0))])) ::
  (162, [(.int false .i64 (-34359738368)), (.int false .i64 (4294967296))], (.tuple [(.int false .i64 (-34359738368)), (.int false .i64 (0))])) ::
  (163, [(.int false .i64 (-34359738368)), (.int false .i64 (4294967296))], (.tuple [(.int false .i64 (-34359738368)), (.int false .i64 (0))])) ::
  (162, [(.int false .i64 (34359738368)), (.int false .i64 (4294967296))], (.tuple [(.int false .i64 (34359738368)), (.int false .i64 (0))])) ::
  (163, [(.int false .i64 (34359738368)), (.int false .i64 (4294967296))], (.tuple [(.int false .i64 (34359738368)), (.int false .i64 (0))])) ::
  (171, [(.int false .i64 (7730941132800)), (.int false .i64 (10000000)), (.int false .i64 (1000000000))], (.tuple [(.int false .i64 (77309411328)), (.int false .i64 (0))])) ::
  (172, [(.int false .i64 (7730941132800)), (.int false .i64 (10000000)), (.int false .i64 (1000000000))], (.tuple [(.int false .i64 (77309411328)), (.int false .i64 (0))])) ::
  (162, [(.int false .i64 (0)), (.int false .i64 (128849018880))], (.tuple [(.int false .i64 (0)), (.int false .i64 (0))])) ::
  (163, [(.int false .i64 (0)), (.int false .i64 (128849018880))], (.tuple [(.int false .i64 (0)), (.int false .i64 (0))])) ::
  (171, [(.int false .i64 (77309411328)), (.int false .i64 (10000000)), (.int false .i64 (1000000000))], (.tuple [(.int false .i64 (773094113)), (.int false .i64 (0))])) ::
  (172, [(.int false .i64 (77309411328)), (.int false .i64 (10000000)), (.int false .i64 (1000000000))], (.tuple [(.int false .i64 (773094114)), (.int false .i64 (0))])) ::
  (162, [(.int false .i64 (773094113)), (.int false .i64 (4294967296))], (.tuple [(.int false .i64 (773094113)), (.int false .i64 (0))])) ::
  (163, [(.int false .i64 (773094113)), (.int false .i64 (4294967296))], (.tuple [(.int false .i64 (773094113)), (.int false .i64 (0))])) ::
  (162, [(.int false .i64 (773094114)), (.int false .i64 (4294967296))], (.tuple [(.int false .i64 (773094114)), (.int false .i64 (0))])) ::
  (163, [(.int false .i64 (773094114)), (.int false .i64 (4294967296))], (.tuple [(.int false .i64 (773094114)), (.int false .i64 (0))])) ::
  (153, [(.int false .i64 (3521873182))], (.tuple [(.int false .i64 (3889258301)), (.int false .i64 (0))])) ::
  (154, [(.int false .i64 (3521873183))], (.tuple [(.int false .i64 (3889258303)), (.int false .i64 (0))])) ::
  (160, [(.int false .i64 (77309411328)), (.int false .i64 (8184225597))], (.tuple [(.int false .i64 (40570899395)), (.int false .i64 (0))])) ::
  (161, [(.int false .i64 (77309411328)), (.int false .i64 (8184225597))], (.tuple [(.int false .i64 (40570899396)), (.int false .i64 (0))])) ::
  (160, [(.int false .i64 (77309411328)), (.int false .i64 (8184225599))], (.tuple [(.int false .i64 (40570899385)), (.int false .i64 (0))])) ::
  (161, [(.int false .i64 (77309411328)), (.int false .i64 (8184225599))], (.tuple [(.int false .i64 (40570899386)), (.int false .i64 (0))])) ::
  (162, [(.int false .i64 (40570899385)), (.int false .i64 (4294967296))], (.tuple [(.int false .i64 (40570899385)), (.int false .i64 (0))])) ::
  (163, [(.int false .i64 (40570899385)), (.int false .i64 (4294967296))], (.tuple [(.int false .i64 (40570899385)), (.int false .i64 (0))])) ::
  (162, [(.int false .i64 (40570899396)), (.int false .i64 (4294967296))], (.tuple [(.int false .i64 (40570899396)), (.int false .i64 (0))])) ::
  (163, [(.int false .i64 (40570899396)), (.int false .i64 (4294967296))], (.tuple [(.int false .i64 (40570899396)), (.int false .i64 (0))])) ::
  (171, [(.int false .i64 (40570899385)), (.int false .i64 (1000000)), (.int false .i64 (1000000))], (.tuple [(.int false .i64 (40570899385)), (.int false .i64 (0))])) ::
  (172, [(.int false .i64 (40570899396)), (.int false .i64 (1000000)), (.int false .i64 (1000000))], (.tuple [(.int false .i64 (40570899396)), (.int false .i64 (0))])) ::
  (171, [(.int false .i64 (40570899385)), (.int false .i64 (10000000)), (.int false .i64 (1000000000))], (.tuple [(.int false .i64 (405708993)), (.int false .i64 (0))])) ::
  (172, [(.int false .i64 (40570899396)), (.int false .i64 (10000000)), (.int false .i64 (1000000000))], (.tuple [(.int false .i64 (405708994)), (.int false .i64 (0))])) ::
  (162, [(.int false .i64 (40570899390)), (.int false .i64 (0))], (.tuple [(.int false .i64 (0)), (.int false .i64 (0))])) ::
  (163, [(.int false .i64 (40570899390)), (.int false .i64 (0))], (.tuple [(.int false .i64 (0)), (.int false .i64 (0))])) ::
  (162, [(.int false .i64 (40570899390)), (.int false .i64 (4294967296))], (.tuple [(.int false .i64 (40570899390)), (.int false .i64 (0))])) ::
  (163, [(.int false .i64 (40570899390)), (.int false .i64 (4294967296))], (.tuple [(.int false .i64 (40570899390)), (.int false .i64 (0))])) ::
  (162, [(.int false .i64 (40569850809)), (.int false .i64 (0))], (.tuple [(.int false .i64 (0)), (.int false .i64 (0))])) ::
  (163, [(.int false .i64 (40569850809)), (.int false .i64 (0))], (.tuple [(.int false .i64 (0)), (.int false .i64 (0))])) ::
  (162, [(.int false .i64 (40571947972)), (.int false .i64 (0))], (.tuple [(.int false .i64 (0)), (.int false .i64 (0))])) ::
  (163, [(.int false .i64 (40571947972)), (.int false .i64 (0))], (.tuple [(.int false .i64 (0)), (.int false .i64 (0))])) ::
  (162, [(.int false .i64 (40569850809)), (.int false .i64 (4294967296))], (.tuple [(.int false .i64 (40569850809)), (.int false .i64 (0))])) ::
  (163, [(.int false .i64 (40569850809)), (.int false .i64 (4294967296))], (.tuple [(.int false .i64 (40569850809)), (.int false .i64 (0))])) ::
  (162, [(.int false .i64 (40571947972)), (.int false .i64 (4294967296))], (.tuple [(.int false .i64 (40571947972)), (.int false .i64 (0))])) ::
  (163, [(.int false .i64 (40571947972)), (.int false .i64 (4294967296))], (.tuple [(.int false .i64 (40571947972)), (.int false .i64 (0))])) ::
  (171, [(.int false .i64 (3865470566400)), (.int false .i64 (0)), (.int false .i64 (1000000000))], (.tuple [(.int false .i64 (0)), (.int false .i64 (0))])) ::
  (172, [(.int false .i64 (3865470566400)), (.int false .i64 (0)), (.int false .i64 (1000000000))], (.tuple [(.int false .i64 (0)), (.int false .i64 (0))])) ::
  (171, [(.int false .i64 (3865470566400)), (.int false .i64 (20000000)), (.int false .i64 (1000000000))], (.tuple [(.int false .i64 (77309411328)), (.int false .i64 (0))])) ::
  (172, [(.int false .i64 (3865470566400)), (.int false .i64 (20000000)), (.int false .i64 (1000000000))], (.tuple [(.int false .i64 (77309411328)), (.int false .i64 (0))])) ::
  (171, [(.int false .i64 (77309411328)), (.int false .i64 (20000000)), (.int false .i64 (1000000000))], (.tuple [(.int false .i64 (1546188226)), (.int false .i64 (0))])) ::
  (172, [(.int false .i64 (77309411328)), (.int false .i64 (20000000)), (.int false .i64 (1000000000))], (.tuple [(.int false .i64 (1546188227)), (.int false .i64 (0))])) ::
  (171, [(.int false .i64 (1546188226)), (.int false .i64 (1000000)), (.int false .i64 (1000000))], (.tuple [(.int false .i64 (1546188226)), (.int false .i64 (0))])) ::
  (172, [(.int false .i64 (1546188227)), (.int false .i64 (1000000)), (.int false .i64 (1000000))], (.tuple [(.int false .i64 (1546188227)), (.int false .i64 (0))])) ::
  (160, [(.int false .i64 (77309411328)), (.int false .i64 (7730941132))], (.tuple [(.int false .i64 (42949672964)), (.int false .i64 (0))])) ::
  (161, [(.int false .i64 (77309411328)), (.int false .i64 (7730941132))], (.tuple [(.int false .i64 (42949672965)), (.int false .i64 (0))])) ::
  (160, [(.int false .i64 (77309411328)), (.int false .i64 (7730941134))], (.tuple [(.int false .i64 (42949672953)), (.int false .i64 (0))])) ::
  (161, [(.int false .i64 (77309411328)), (.int false .i64 (7730941134))], (.tuple [(.int false .i64 (42949672954)), (.int false .i64 (0))])) ::
  (171, [(.int false .i64 (128849018880)), (.int false .i64 (0)), (.int false .i64 (1000000000))], (.tuple [(.int false .i64 (0)), (.int false .i64 (0))])) ::
  (172, [(.int false .i64 (128849018880)), (.int false .i64 (0)), (.int false .i64 (1000000000))], (.tuple [(.int false .i64 (0)), (.int false .i64 (0))])) ::
  (160, [(.int false .i64 (0)), (.int false .i64 (3435973836))], (.tuple [(.int false .i64 (0)), (.int false .i64 (0))])) ::
  (161, [(.int false .i64 (0)), (.int false .i64 (3435973836))], (.tuple [(.int false .i64 (0)), (.int false .i64 (0))])) ::
  (160, [(.int false .i64 (0)), (.int false .i64 (3435973838))], (.tuple [(.int false .i64 (0)), (.int false .i64 (0))])) ::
  (161, [(.int false .i64 (0)), (.int false .i64 (3435973838))], (.tuple [(.int false .i64 (0)), (.int false .i64 (0))])) ::
  (171, [(.int false .i64 (0)), (.int false .i64 (2)), (.int false .i64 (1))], (.tuple [(.int false .i64 (0)), (.int false .i64 (0))])) ::
  (172, [(.int false .i64 (0)), (.int false .i64 (2)), (.int false .i64 (1))], (.tuple [(.int false .i64 (0)), (.int false .i64 (0))])) ::
  (162, [(.int false .i64 (42949672953)), (.int false .i64 (0))], (.tuple [(.int false .i64 (0)), (.int false .i64 (0))])) ::
  (163, [(.int false .i64 (42949672953)), (.int false .i64 (0))], (.tuple [(.int false .i64 (0)), (.int false .i64 (0))])) ::
  (162, [(.int false .i64 (42949672965)), (.int false .i64 (0))], (.tuple [(.int false .i64 (0)), (.int false .i64 (0))])) ::
  (163, [(.int false .i64 (42949672965)), (.int false .i64 (0))], (.tuple [(.int false .i64 (0)), (.int false .i64 (0))])) ::
  (160, [(.int false .i64 (0)), (.int false .i64 (7730941132))], (.tuple [(.int false .i64 (0)), (.int false .i64 (0))])) ::
  (161, [(.int false .i64 (0)), (.int false .i64 (7730941132))], (.tuple [(.int false .i64 (0)), (.int false .i64 (0))])) ::
  (160, [(.int false .i64 (0)), (.int false .i64 (7730941134))], (.tuple [(.int false .i64 (0)), (.int false .i64 (0))])) ::
  (161, [(.int false .i64 (0)), (.int false .i64 (7730941134))], (.tuple [(.int false .i64 (0)), (.int false .i64 (0))])) ::
  (171, [(.int false .i64 (128849018880)), (.int false .i64 (20000000)), (.int false .i64 (1000000000))], (.tuple [(.int false .i64 (2576980377)), (.int false .i64 (0))])) ::
  (172, [(.int false .i64 (128849018880)), (.int false .i64 (20000000)), (.int false .i64 (1000000000))], (.tuple [(.int false .i64 (2576980378)), (.int false .i64 (0))])) ::
  (171, [(.int false .i64 (2576980377)), (.int false .i64 (20000000)), (.int false .i64 (1000000000))], (.tuple [(.int false .i64 (51539607)), (.int false .i64 (0))])) ::
  (172, [(.int false .i64 (2576980378)), (.int false .i64 (20000000)), (.int false .i64 (1000000000))], (.tuple [(.int false .i64 (51539608)), (.int false .i64 (0))])) ::
  (171, [(.int false .i64 (51539607)), (.int false .i64 (1000000)), (.int false .i64 (1000000))], (.tuple [(.int false .i64 (51539607)), (.int false .i64 (0))])) ::
  (172, [(.int false .i64 (51539608)), (.int false .i64 (1000000)), (.int false .i64 (1000000))], (.tuple [(.int false .i64 (51539608)), (.int false .i64 (0))])) ::
  (160, [(.int false .i64 (51539607)), (.int false .i64 (3435973836))], (.tuple [(.int false .i64 (64424508)), (.int false .i64 (0))])) ::
  (161, [(.int false .i64 (51539607)), (.int false .i64 (3435973836))], (.tuple [(.int false .i64 (64424509)), (.int false .i64 (0))])) ::
  (160, [(.int false .i64 (51539607)), (.int false .i64 (3435973838))], (.tuple [(.int false .i64 (64424508)), (.int false .i64 (0))])) ::
  (161, [(.int false .i64 (51539607)), (.int false .i64 (3435973838))], (.tuple [(.int false .i64 (64424509)), (.int false .i64 (0))])) ::
  (160, [(.int false .i64 (51539608)), (.int false .i64 (3435973836))], (.tuple [(.int false .i64 (64424510)), (.int false .i64 (0))])) ::
  (161, [(.int false .i64 (51539608)), (.int false .i64 (3435973836))], (.tuple [(.int false .i64 (64424511)), (.int false .i64 (0))])) ::
  (160, [(.int false .i64 (51539608)), (.int false .i64 (3435973838))], (.tuple [(.int false .i64 (64424509)), (.int false .i64 (0))])) ::
  (161, [(.int false .i64 (51539608)), (.int false .i64 (3435973838))], (.tuple [(.int false .i64 (64424510)), (.int false .i64 (0))])) ::
  (171, [(.int false .i64 (2576980377)), (.int false .i64 (2)), (.int false .i64 (1))], (.tuple [(.int false .i64 (5153960754)), (.int false .i64 (0))])) ::
  (172, [(.int false .i64 (2576980378)), (.int false .i64 (2)), (.int false .i64 (1))], (.tuple [(.int false .i64 (5153960756)), (.int false .i64 (0))])) ::
  (162, [(.int false .i64 (42949672953)), (.int false .i64 (64424508))], (.tuple [(.int false .i64 (644245079)), (.int false .i64 (0))])) ::
  (163, [(.int false .i64 (42949672953)), (.int false .i64 (64424508))], (.tuple [(.int false .i64 (644245080)), (.int false .i64 (0))])) ::
  (162, [(.int false .i64 (42949672953)), (.int false .i64 (64424511))], (.tuple [(.int false .i64 (644245109)), (.int false .i64 (0))])) ::
  (163, [(.int false .i64 (42949672953)), (.int false .i64 (64424511))], (.tuple [(.int false .i64 (644245110)), (.int false .i64 (0))])) ::
  (162, [(.int false .i64 (42949672965)), (.int false .i64 (64424508))], (.tuple [(.int false .i64 (644245080)), (.int false .i64 (0))])) ::
  (163, [(.int false .i64 (42949672965)), (.int false .i64 (64424508))], (.tuple [(.int false .i64 (644245081)), (.int false .i64 (0))])) ::
  (162, [(.int false .i64 (42949672965)), (.int false .i64 (64424511))], (.tuple [(.int false .i64 (644245110)), (.int false .i64 (0))])) ::
  (163, [(.int false .i64 (42949672965)), (.int false .i64 (64424511))], (.tuple [(.int false .i64 (644245111)), (.int false .i64 (0))])) ::
  (160, [(.int false .i64 (5798205833)), (.int false .i64 (7730941132))], (.tuple [(.int false .i64 (3221225463)), (.int false .i64 (0))])) ::
  (161, [(.int false .i64 (5798205833)), (.int false .i64 (7730941132))], (.tuple [(.int false .i64 (3221225464)), (.int false .i64 (0))])) ::
  (160, [(.int false .i64 (5798205833)), (.int false .i64 (7730941134))], (.tuple [(.int false .i64 (3221225462)), (.int false .i64 (0))])) ::
  (161, [(.int false .i64 (5798205833)), (.int false .i64 (7730941134))], (.tuple [(.int false .i64 (3221225463)), (.int false .i64 (0))])) ::
  (160, [(.int false .i64 (5798205867)), (.int false .i64 (7730941132))], (.tuple [(.int false .i64 (3221225482)), (.int false .i64 (0))])) ::
  (161, [(.int false .i64 (5798205867)), (.int false .i64 (7730941132))], (.tuple [(.int false .i64 (3221225483)), (.int false .i64 (0))])) ::
  (160, [(.int false .i64 (5798205867)), (.int false .i64 (7730941134))], (.tuple [(.int false .i64 (3221225481)), (.int false .i64 (0))])) ::
  (161, [(.int false .i64 (5798205867)), (.int false .i64 (7730941134))], (.tuple [(.int false .i64 (3221225482)), (.int false .i64 (0))])) ::
  (162, [(.int false .i64 (3221225462)), (.int false .i64 (0))], (.tuple [(.int false .i64 (0)), (.int false .i64 (0))])) ::
  (163, [(.int false .i64 (3221225462)), (.int false .i64 (0))], (.tuple [(.int false .i64 (0)), (.int false .i64 (0))])) ::
  (162, [(.int false .i64 (3221225483)), (.int false .i64 (0))], (.tuple [(.int false .i64 (0)), (.int false .i64 (0))])) ::
  (163, [(.int false .i64 (3221225483)), (.int false .i64 (0))], (.tuple [(.int false .i64 (0)), (.int false .i64 (0))])) ::
  (160, [(.int false .i64 (-2378773575)), (.int false .i64 (4294967296))], (.tuple [(.int false .i64 (-2378773575)), (.int false .i64 (0))])) ::
  (161, [(.int false .i64 (-2378773575)), (.int false .i64 (4294967296))], (.tuple [(.int false .i64 (-2378773575)), (.int false .i64 (0))])) ::
  (160, [(.int false .i64 (-2378773563)), (.int false .i64 (4294967296))], (.tuple [(.int false .i64 (-2378773563)), (.int false .i64 (0))])) ::
  (161, [(.int false .i64 (-2378773563)), (.int false .i64 (4294967296))], (.tuple [(.int false .i64 (-2378773563)), (.int false .i64 (0))])) ::
  (162, [(.int false .i64 (40503790521)), (.int false .i64 (0))], (.tuple [(.int false .i64 (0)), (.int false .i64 (0))])) ::
  (163, [(.int false .i64 (40503790521)), (.int false .i64 (0))], (.tuple [(.int false .i64 (0)), (.int false .i64 (0))])) ::
  (162, [(.int false .i64 (40638008260)), (.int false .i64 (0))], (.tuple [(.int false .i64 (0)), (.int false .i64 (0))])) ::
  (163, [(.int false .i64 (40638008260)), (.int false .i64 (0))], (.tuple [(.int false .i64 (0)), (.int false .i64 (0))])) ::
  (162, [(.int false .i64 (40503790521)), (.int false .i64 (4294967296))], (.tuple [(.int false .i64 (40503790521)), (.int false .i64 (0))])) ::
  (163, [(.int false .i64 (40503790521)), (.int false .i64 (4294967296))], (.tuple [(.int false .i64 (40503790521)), (.int false .i64 (0))])) ::
  (162, [(.int false .i64 (40638008260)), (.int false .i64 (4294967296))], (.tuple [(.int false .i64 (40638008260)), (.int false .i64 (0))])) ::
  (163, [(.int false .i64 (40638008260)), (.int false .i64 (4294967296))], (.tuple [(.int false .i64 (40638008260)), (.int false .i64 (0))])) ::
  (162, [(.int false .i64 (38423415737)), (.int false .i64 (0))], (.tuple [(.int false .i64 (0)), (.int false .i64 (0))])) ::
  (163, [(.int false .i64 (38423415737)), (.int false .i64 (0))], (.tuple [(.int false .i64 (0)), (.int false .i64 (0))])) ::
  (162, [(.int false .i64 (42718383044)), (.int false .i64 (0))], (.tuple [(.int false .i64 (0)), (.int false .i64 (0))])) ::
  (163, [(.int false .i64 (42718383044)), (.int false .i64 (0))], (.tuple [(.int false .i64 (0)), (.int false .i64 (0))])) ::
  (162, [(.int false .i64 (38423415737)), (.int false .i64 (4294967296))], (.tuple [(.int false .i64 (38423415737)), (.int false .i64 (0))])) ::
  (163, [(.int false .i64 (38423415737)), (.int false .i64 (4294967296))], (.tuple [(.int false .i64 (38423415737)), (.int false .i64 (0))])) ::
  (162, [(.int false .i64 (42718383044)), (.int false .i64 (4294967296))], (.tuple [(.int false .i64 (42718383044)), (.int false .i64 (0))])) ::
  (163, [(.int false .i64 (42718383044)), (.int false .i64 (4294967296))], (.tuple [(.int false .i64 (42718383044)), (.int false .i64 (0))])) ::
  (162, [(.int false .i64 (6211161017)), (.int false .i64 (0))], (.tuple [(.int false .i64 (0)), (.int false .i64 (0))])) ::
  (163, [(.int false .i64 (6211161017)), (.int false .i64 (0))], (.tuple [(.int false .i64 (0)), (.int false .i64 (0))])) ::
  (162, [(.int false .i64 (74930637764)), (.int false .i64 (0))], (.tuple [(.int false .i64 (0)), (.int false .i64 (0))])) ::
  (163, [(.int false .i64 (74930637764)), (.int false .i64 (0))], (.tuple [(.int false .i64 (0)), (.int false .i64 (0))])) ::
  (162, [(.int false .i64 (6211161017)), (.int false .i64 (4294967296))], (.tuple [(.int false .i64 (6211161017)), (.int false .i64 (0))])) ::
  (163, [(.int false .i64 (6211161017)), (.int false .i64 (4294967296))], (.tuple [(.int false .i64 (6211161017)), (.int false .i64 (0))])) ::
  (162, [(.int false .i64 (74930637764)), (.int false .i64 (4294967296))], (.tuple [(.int false .i64 (74930637764)), (.int false .i64 (0))])) ::
  (163, [(.int false .i64 (74930637764)), (.int false .i64 (4294967296))], (.tuple [(.int false .i64 (74930637764)), (.int false .i64 (0))])) ::
  (162, [(.int false .i64 (42949672959)), (.int false .i64 (0))], (.tuple [(.int false .i64 (0)), (.int false .i64 (0))])) ::
  (163, [(.int false .i64 (42949672959)), (.int false .i64 (0))], (.tuple [(.int false .i64 (0)), (.int false .i64 (0))])) ::
  (162, [(.int false .i64 (42949672959)), (.int false .i64 (4294967296))], (.tuple [(.int false .i64 (42949672959)), (.int false .i64 (0))])) ::
  (163, [(.int false .i64 (42949672959)), (.int false .i64 (4294967296))], (.tuple [(.int false .i64 (42949672959)), (.int false .i64 (0))])) ::
  (162, [(.int false .i64 (42949672953)), (.int false .i64 (4294967296))], (.tuple [(.int false .i64 (42949672953)), (.int false .i64 (0))])) ::
  (163, [(.int false .i64 (42949672953)), (.int false .i64 (4294967296))], (.tuple [(.int false .i64 (42949672953)), (.int false .i64 (0))])) ::
  (162, [(.int false .i64 (42949672965)), (.int false .i64 (4294967296))], (.tuple [(.int false .i64 (42949672965)), (.int false .i64 (0))])) ::
  (163, [(.int false .i64 (42949672965)), (.int false .i64 (4294967296))], (.tuple [(.int false .i64 (42949672965)), (.int false .i64 (0))])) ::
  (160, [(.int false .i64 (-6)), (.int false .i64 (4294967296))], (.tuple [(.int false .i64 (-6)), (.int false .i64 (0))])) ::
  (161, [(.int false .i64 (-6)), (.int false .i64 (4294967296))], (.tuple [(.int false .i64 (-6)), (.int false .i64 (0))])) ::
  (160, [(.int false .i64 (6)), (.int false .i64 (4294967296))], (.tuple [(.int false .i64 (6)), (.int false .i64 (0))])) ::
  (161, [(.int false .i64 (6)), (.int false .i64 (4294967296))], (.tuple [(.int false .i64 (6)), (.int false .i64 (0))])) ::
  []
set_option maxRecDepth 100000 in
theorem table1_ok : ∀ x ∈ table1, MemoOk Tryz.prog glob hG x :=
  more call0 (more call1 (more call2 (more call3 (more call4 (more call5 (more call6 (more call7 (more call8 (more call9 (more call10 (more call11 (more call12 (more call13 (more call14 (more call15 (more call16 (more call17 (more call18 (more call19 (more call20 (more call21 (more call22 (more call23 (more call24 (more call25 (more call26 (more call27 (more call28 (more call29 (more call30 (more call31 (more call32 (more call33 (more call34 (more call35 (more call36 (more call37 (more call38 (more call39 (more call40 (more call41 (more call42 (more call43 (more call44 (more call45 (more call46 (more call47 (more call48 (more call49 (more call50 (more call51 (more call52 (more call53 (more call54 (more call55 (more call56 (more call57 (more call58 (more call59 (more call60 (more call61 (more call62 (more call63 (more call64 (more call65 (more call66 (more call67 (more call68 (more call69 (more call70 (more call71 (more call72 (more call73 (more call74 (more call75 (more call76 (more call77 (more call78 (more call79 (more call80 (more call81 (more call82 (more call83 (more call84 (more call85 (more call86 (more call87 (more call88 (more call89 (more call90 (more call91 (more call92 (more call93 (more call94 (more call95 (more call96 (more call97 (more call98 (more call99 (more call100 (more call101 (more call102 (more call103 (more call104 (more call105 (more call106 (more call107 (more call108 (more call109 (more call110 (more call111 (more call112 (more call113 (more call114 (more call115 (more call116 (more call117 (more call118 (more call119 (more call120 (more call121 (more call122 (more call123 (more call124 (more call125 (more call126 (more call127 (more call128 (more call129 (more call130 (more call131 (more call132 (more call133 (more call134 (more call135 (more call136 (more call137 (more call138 (more call139 (more call140 (more call141 (more call142 (more call143 (more call144 (more call145 (more call146 (more call147 (more call148 (more call149 (more call150 (more call151 (more call152 (more call153 (more call154 (more call155 (more call156 (more call157 (more call158 (more call159 (more call160 (more call161 (more call162 (more call163 (more call164 (more call165 (more call166 (more call167 (more call168 (more call169 (more call170 (more call171 (more call172 (more call173 (more call174 (more call175 (more call176 (more call177 (more call178 (more call179 (more call180 (more call181 (more call182 (more call183 (more call184 (more call185 (more call186 (more call187 (more call188 (more call189 (more call190 (more call191 (more call192 (more call193 (more call194 (more call195 (more call196 (more call197 (more call198 (more call199 (more call200 (more call201 (more call202 (more call203 (more call204 (more call205 (more call206 (more call207 (more call208 (more call209 (more call210 (more call211 (more call212 (more call213 (more call214 (more call215 (more call216 (more call217 (more call218 (more call219 (more call220 (more call221 (more call222 (more call223 (more call224 (more call225 (more call226 (more call227 (more call228 (more call229 (more call230 (more call231 (more call232 (more call233 (more call234 (more call235 (more call236 (more call237 (more call238 (more call239 (more call240 (more call241 (more call242 (more call243 (more call244 (more call245 (more call246 (more call247 (more call248 (more call249 (more call250 (more call251 (more call252 (more call253 (more call254 (more call255 (more call256 (more call257 (more call258 (more call259 (more call260 (more call261 (more call262 (more call263 (more call264 (more call265 (more call266 (more call267 (more call268 (more call269 (more call270 (more call271 (more call272 (more call273 (more call274 (more call275 (more call276 (more call277 (more call278 (more call279 (more call280 (more call281 (more call282 (more call283 (more call284 (more call285 (more call286 (more call287 (more call288 (more call289 (more call290 (more call291 (more call292 (more call293 (more call294 (more call295 (more call296 (more call297 (more call298 (more call299 (more call300 (more call301 (more call302 (more call303 (more call304 (more call305 (more call306 (more call307 (more call308 (more call309 (more call310 (more call311 (more call312 (more call313 (more call314 (more call315 (more call316 (more call317 (more call318 (more call319 (more call320 (more call321 (more call322 (more call323 (more call324 (more call325 (more call326 (more call327 (more call328 (more call329 (more call330 (more call331 (more call332 (more call333 (more call334 (more call335 (more call336 (more call337 (more call338 (more call339 (more call340 (more call341 (more call342 (more call343 (more call344 (more call345 (more call346 (more call347 (more call348 (more call349 (more call350 (more call351 (more call352 (more call353 (more call354 (more call355 (more call356 (more call357 (more call358 (more call359 (more call360 (more call361 (more call362 (more call363 (more call364 (more call365 (more call366 (more call367 (more call368 (more call369 (more call370 (more call371 (more call372 (more call373 (more call374 (more call375 (more call376 (more call377 (more call378 (more call379 (more call380 (more call381 (more call382 (more call383 (more call384 (more call385 (more call386 (more call387 (more call388 (more call389 (more call390 (more call391 (more call392 (more call393 (more call394 (more call395 (more call396 (more call397 (more call398 (more call399 (more call400 (more call401 (more call402 (more call403 (more call404 (more call405 (more call406 (more call407 (more call408 (more call409 (more call410 (more call411 (more call412 (more call413 (more call414 (more call415 (more call416 (more call417 (more call418 (more call419 (more call420 (more call421 (more call422 (more call423 (none_known))))))))))))))))))))))))))))))))))))))))))))))))))))))))))))))))))))))))))))))))))))))))))))))))))))))))))))))))))))))))))))))))))))))))))))))))))))))))))))))))))))))))))))))))))))))))))))))))))))))))))))))))))))))))))))))))))))))))))))))))))))))))))))))))))))))))))))))))))))))))))))))))))))))))))))))))))))))))))))))))))))))))))))))))))))))))))))))))))))))))))))))))))))))))))))))))))))))))))))))))))))))))))))))))))))))))

end Go.Proofs.YtdljkgcdgidldaaGreatDoor
