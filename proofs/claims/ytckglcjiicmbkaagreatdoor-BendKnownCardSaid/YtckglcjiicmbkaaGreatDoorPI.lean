/- What is proved: BendKnown returns true (part 9 of 18). No conditions beyond those of the row. -/
import Derived.Test.YtckglcjiicmbkaaGreatDoorPH
set_option linter.unusedVariables false
set_option linter.unusedSimpArgs false
set_option linter.unusedSectionVars false
/- What is proved: calls of the law BendKnown, of which the answers are known (level 1). No conditions. -/
namespace Go.Proofs.YtckglcjiicmbkaaGreatDoor
open Go Go.Eng

def table1 : List (FuncId × List AV × AV) :=
  (183, [(.int false .i64 (21474836480)), (.int false .i64 (0)), (.int false .i64 (1000000000))], (.tuple [(.int false .i64 (0)), (.int false .i64 (0))])) ::
  (184, [(.int false .i64 (21474836480)), (.int false .i64 (0)), (.int false .i64 (1000000000))], (.tuple [(.int false .i64 (0)), (.int false .i64 (0))])) ::
  (183, [(.int false .i64 (0)), (.int false .i64 (0)), (.int false .i64 (1000000000))], (.tuple [(.int false .i64 (0)), (.int false .i64 (0))])) ::
  (184, [(.int false .i64 (0)), (.int false .i64 (0)), (.int false .i64 (1000000000))], (.tuple [(.int false .i64 (0)), (.int false .i64 (0))])) ::
  (183, [(.int false .i64 (0)), (.int false .i64 (1000000)), (.int false .i64 (1000000))], (.tuple [(.int false .i64 (0)), (.int false .i64 (0))])) ::
  (184, [(.int false .i64 (0)), (.int false .i64 (1000000)), (.int false .i64 (1000000))], (.tuple [(.int false .i64 (0)), (.int false .i64 (0))])) ::
  (137, [(.int false .i64 (4294967296))], (.tuple [(.int false .i64 (4294967296)), (.int false .i64 (0))])) ::
  (138, [(.int false .i64 (4294967296))], (.tuple [(.int false .i64 (4294967296)), (.int false .i64 (0))])) ::
  (144, [(.int false .i64 (0)), (.int false .i64 (8589934592))], (.tuple [(.int false .i64 (0)), (.int false .i64 (0))])) ::
  (145, [(.int false .i64 (0)), (.int false .i64 (8589934592))], (.tuple [(.int false .i64 (0)), (.int false .i64 (0))])) ::
  (183, [(.int false .i64 (4294967296)), (.int false .i64 (0)), (.int false .i64 (1000000000))], (.tuple [(.int false .i64 (0)), (.int false .i64 (0))])) ::
  (184, [(.int false .i64 (4294967296)), (.int false .i64 (0)), (.int false .i64 (1000000000))], (.tuple [(.int false .i64 (0)), (.int false .i64 (0))])) ::
  (144, [(.int false .i64 (0)), (.int false .i64 (4294967296))], (.tuple [(.int false .i64 (0)), (.int false .i64 (0))])) ::
  (145, [(.int false .i64 (0)), (.int false .i64 (4294967296))], (.tuple [(.int false .i64 (0)), (.int false .i64 (0))])) ::
  (183, [(.int false .i64 (8589934592)), (.int false .i64 (0)), (.int false .i64 (1000000000))], (.tuple [(.int false .i64 (0)), (.int false .i64 (0))])) ::
  (184, [(.int false .i64 (8589934592)), (.int false .i64 (0)), (.int false .i64 (1000000000))], (.tuple [(.int false .i64 (0)), (.int false .i64 (0))])) ::
  (144, [(.int false .i64 (4294967296)), (.int false .i64 (4294967296))], (.tuple [(.int false .i64 (4294967296)), (.int false .i64 (0))])) ::
  (145, [(.int false .i64 (4294967296)), (.int false .i64 (4294967296))], (.tuple [(.int false .i64 (4294967296)), (.int false .i64 (0))])) ::
  (183, [(.int false .i64 (15461882265600)), (.int false .i64 (10000000)), (.int false .i64 (1000000000))], (.tuple [(.int false .i64 (154618822656)), (.int false .i64 (0))])) ::
  (184, [(.int false .i64 (15461882265600)), (.int false .i64 (10000000)), (.int false .i64 (1000000000))], (.tuple [(.int false .i64 (154618822656)), (.int false .i64 (0))])) ::
  (183, [(.int false .i64 (154618822656)), (.int false .i64 (10000000)), (.int false .i64 (1000000000))], (.tuple [(.int false .i64 (1546188226)), (.int false .i64 (0))])) ::
  (184, [(.int false .i64 (154618822656)), (.int false .i64 (10000000)), (.int false .i64 (1000000000))], (.tuple [(.int false .i64 (1546188227)), (.int false .i64 (0))])) ::
  (183, [(.int false .i64 (1546188226)), (.int false .i64 (1000000)), (.int false .i64 (1000000))], (.tuple [(.int false .i64 (1546188226)), (.int false .i64 (0))])) ::
  (184, [(.int false .i64 (1546188227)), (.int false .i64 (1000000)), (.int false .i64 (1000000))], (.tuple [(.int false .i64 (1546188227)), (.int false .i64 (0))])) ::
  (137, [(.int false .i64 (2748779069))], (.tuple [(.int false .i64 (3435973836)), (.int false .i64 (0))])) ::
  (138, [(.int false .i64 (2748779070))], (.tuple [(.int false .i64 (3435973838)), (.int false .i64 (0))])) ::
  (144, [(.int false .i64 (154618822656)), (.int false .i64 (7730941132))], (.tuple [(.int false .i64 (85899345928)), (.int false .i64 (0))])) ::
  (145, [(.int false .i64 (154618822656)), (.int false .i64 (7730941132))], (.tuple [(.int false .i64 (85899345929)), (.int false .i64 (0))])) ::
  (144, [(.int false .i64 (154618822656)), (.int false .i64 (7730941134))], (.tuple [(.int false .i64 (85899345906)), (.int false .i64 (0))])) ::
  (145, [(.int false .i64 (154618822656)), (.int false .i64 (7730941134))], (.tuple [(.int false .i64 (85899345907)), (.int false .i64 (0))])) ::
  (183, [(.int false .i64 (257698037760)), (.int false .i64 (10000000)), (.int false .i64 (1000000000))], (.tuple [(.int false .i64 (2576980377)), (.int false .i64 (0))])) ::
  (184, [(.int false .i64 (257698037760)), (.int false .i64 (10000000)), (.int false .i64 (1000000000))], (.tuple [(.int false .i64 (2576980378)), (.int false .i64 (0))])) ::
  (144, [(.int false .i64 (2576980377)), (.int false .i64 (3435973836))], (.tuple [(.int false .i64 (3221225472)), (.int false .i64 (0))])) ::
  (145, [(.int false .i64 (2576980377)), (.int false .i64 (3435973836))], (.tuple [(.int false .i64 (3221225472)), (.int false .i64 (0))])) ::
  (144, [(.int false .i64 (2576980377)), (.int false .i64 (3435973838))], (.tuple [(.int false .i64 (3221225470)), (.int false .i64 (0))])) ::
  (145, [(.int false .i64 (2576980377)), (.int false .i64 (3435973838))], (.tuple [(.int false .i64 (3221225471)), (.int false .i64 (0))])) ::
  (144, [(.int false .i64 (2576980378)), (.int false .i64 (3435973836))], (.tuple [(.int false .i64 (3221225473)), (.int false .i64 (0))])) ::
  (145, [(.int false .i64 (2576980378)), (.int false .i64 (3435973836))], (.tuple [(.int false .i64 (3221225474)), (.int false .i64 (0))])) ::
  (144, [(.int false .i64 (2576980378)), (.int false .i64 (3435973838))], (.tuple [(.int false .i64 (3221225471)), (.int false .i64 (0))])) ::
  (145, [(.int false .i64 (2576980378)), (.int false .i64 (3435973838))], (.tuple [(.int false .i64 (3221225472)), (.int false .i64 (0))])) ::
  (183, [(.int false .i64 (0)), (.int false .i64 (10000000)), (.int false .i64 (1000000000))], (.tuple [(.int false .i64 (0)), (.int false .i64 (0))])) ::
  (184, [(.int false .i64 (0)), (.int false .i64 (10000000)), (.int false .i64 (1000000000))], (.tuple [(.int false .i64 (0)), (.int false .i64 (0))])) ::
  (144, [(.int false .i64 (0)), (.int false .i64 (3435973836))], (.tuple [(.int false .i64 (0)), (.int false .i64 (0))])) ::
  (145, [(.int false .i64 (0)), (.int false .i64 (3435973836))], (.tuple [(.int false .i64 (0)), (.int false .i64 (0))])) ::
  (144, [(.int false .i64 (0)), (.int false .i64 (3435973838))], (.tuple [(.int false .i64 (0)), (.int false .i64 (0))])) ::
  (145, [(.int false .i64 (0)), (.int false .i64 (3435973838))], (.tuple [(.int false .i64 (0)), (.int false .i64 (0))])) ::
  (137, [(.int false .i64 (6710886397))], (.tuple [(.int false .i64 (5368709118)), (.int false .i64 (0))])) ::
  (138, [(.int false .i64 (6710886404))], (.tuple [(.int false .i64 (5368709122)), (.int false .i64 (0))])) ::
  (144, [(.int false .i64 (-3221225474)), (.int false .i64 (5368709118))], (.tuple [(.int false .i64 (-2576980381)), (.int false .i64 (0))])) ::
  (145, [(.int false .i64 (-3221225474)), (.int false .i64 (5368709118))], (.tuple [(.int false .i64 (-2576980380)), (.int false .i64 (0))])) ::
  (144, [(.int false .i64 (-3221225474)), (.int false .i64 (5368709122))], (.tuple [(.int false .i64 (-2576980379)), (.int false .i64 (0))])) ::
  (145, [(.int false .i64 (-3221225474)), (.int false .i64 (5368709122))], (.tuple [(.int false .i64 (-2576980378)), (.int false .i64 (0))])) ::
  (144, [(.int false .i64 (-3221225470)), (.int false .i64 (5368709118))], (.tuple [(.int false .i64 (-2576980377)), (.int false .i64 (0))])) ::
  (145, [(.int false .i64 (-3221225470)), (.int false .i64 (5368709118))], (.tuple [(.int false .i64 (-2576980376)), (.int false .i64 (0))])) ::
  (144, [(.int false .i64 (-3221225470)), (.int false .i64 (5368709122))], (.tuple [(.int false .i64 (-2576980376)), (.int false .i64 (0))])) ::
  (145, [(.int false .i64 (-3221225470)), (.int false .i64 (5368709122))], (.tuple [(.int false .i64 (-2576980375)), (.int false .i64 (0))])) ::
  (144, [(.int false .i64 (0)), (.int false .i64 (5368709118))], (.tuple [(.int false .i64 (0)), (.int false .i64 (0))])) ::
  (145, [(.int false .i64 (0)), (.int false .i64 (5368709118))], (.tuple [(.int false .i64 (0)), (.int false .i64 (0))])) ::
  (144, [(.int false .i64 (0)), (.int false .i64 (5368709122))], (.tuple [(.int false .i64 (0)), (.int false .i64 (0))])) ::
  (145, [(.int false .i64 (0)), (.int false .i64 (5368709122))], (.tuple [(.int false .i64 (0)), (.int false .i64 (0))])) ::
  (144, [(.int false .i64 (4294967296)), (.int false .i64 (5368709118))], (.tuple [(.int false .i64 (3435973838)), (.int false .i64 (0))])) ::
  (145, [(.int false .i64 (4294967296)), (.int false .i64 (5368709118))], (.tuple [(.int false .i64 (3435973839)), (.int false .i64 (0))])) ::
  (144, [(.int false .i64 (4294967296)), (.int false .i64 (5368709122))], (.tuple [(.int false .i64 (3435973835)), (.int false .i64 (0))])) ::
  (145, [(.int false .i64 (4294967296)), (.int false .i64 (5368709122))], (.tuple [(.int false .i64 (3435973836)), (.int false .i64 (0))])) ::
  (180, [(.int false .i64 (0)), (.int false .i64 (0))], (.tuple [(.int false .i64 (0)), (.int false .i64 (0))])) ::
  (181, [(.int false .i64 (0)), (.int false .i64 (0))], (.tuple [(.int false .i64 (0)), (.int false .i64 (0))])) ::
  (180, [(.int false .i64 (3221225472)), (.int false .i64 (0))], (.tuple [(.int false .i64 (0)), (.int false .i64 (0))])) ::
  (181, [(.int false .i64 (3221225472)), (.int false .i64 (0))], (.tuple [(.int false .i64 (0)), (.int false .i64 (0))])) ::
  (180, [(.int false .i64 (2684354560)), (.int false .i64 (4294967296))], (.tuple [(.int false .i64 (2684354560)), (.int false .i64 (0))])) ::
  (181, [(.int false .i64 (2684354560)), (.int false .i64 (4294967296))], (.tuple [(.int false .i64 (2684354560)), (.int false .i64 (0))])) ::
  (183, [(.int false .i64 (0)), (.int false .i64 (10000000)), (.int false .i64 (15000000))], (.tuple [(.int false .i64 (0)), (.int false .i64 (0))])) ::
  (184, [(.int false .i64 (0)), (.int false .i64 (10000000)), (.int false .i64 (15000000))], (.tuple [(.int false .i64 (0)), (.int false .i64 (0))])) ::
  (183, [(.int false .i64 (3221225472)), (.int false .i64 (10000000)), (.int false .i64 (15000000))], (.tuple [(.int false .i64 (2147483648)), (.int false .i64 (0))])) ::
  (184, [(.int false .i64 (3221225472)), (.int false .i64 (10000000)), (.int false .i64 (15000000))], (.tuple [(.int false .i64 (2147483648)), (.int false .i64 (0))])) ::
  (183, [(.int false .i64 (2684354560)), (.int false .i64 (10000000)), (.int false .i64 (15000000))], (.tuple [(.int false .i64 (1789569706)), (.int false .i64 (0))])) ::
  (184, [(.int false .i64 (2684354560)), (.int false .i64 (10000000)), (.int false .i64 (15000000))], (.tuple [(.int false .i64 (1789569707)), (.int false .i64 (0))])) ::
  (180, [(.int false .i64 (2147483648)), (.int false .i64 (0))], (.tuple [(.int false .i64 (0)), (.int false .i64 (0))])) ::
  (181, [(.int false .i64 (2147483648)), (.int false .i64 (0))], (.tuple [(.int false .i64 (0)), (.int false .i64 (0))])) ::
  (180, [(.int false .i64 (1789569706)), (.int false .i64 (4294967296))], (.tuple [(.int false .i64 (1789569706)), (.int false .i64 (0))])) ::
  (181, [(.int false .i64 (1789569706)), (.int false .i64 (4294967296))], (.tuple [(.int false .i64 (1789569706)), (.int false .i64 (0))])) ::
  (180, [(.int false .i64 (1789569707)), (.int false .i64 (4294967296))], (.tuple [(.int false .i64 (1789569707)), (.int false .i64 (0))])) ::
  (181, [(.int false .i64 (1789569707)), (.int false .i64 (4294967296))], (.tuple [(.int false .i64 (1789569707)), (.int false .i64 (0))])) ::
  (180, [(.int false .i64 (0)), (.int false .i64 (1789569706))], (.tuple [(.int false .i64 (0)), (.int false .i64 (0))])) ::
  (181, [(.int false .i64 (0)), (.int false .i64 (1789569706))], (.tuple [(.int false .i64 (0)), (.int false .i64 (0))])) ::
  (180, [(.int false .i64 (0)), (.int false .i64 (1789569707))], (.tuple [(.int false .i64 (0)), (.int false .i64 (0))])) ::
  (181, [(.int false .i64 (0)), (.int false .i64 (1789569707))], (.tuple [(.int false .i64 (0)), (.int false .i64 (0))])) ::
  (180, [(.int false .i64 (4294967296)), (.int false .i64 (1789569706))], (.tuple [(.int false .i64 (1789569706)), (.int false .i64 (0))])) ::
  (181, [(.int false .i64 (4294967296)), (.int false .i64 (1789569706))], (.tuple [(.int false .i64 (1789569706)), (.int false .i64 (0))])) ::
  (180, [(.int false .i64 (4294967296)), (.int false .i64 (1789569707))], (.tuple [(.int false .i64 (1789569707)), (.int false .i64 (0))])) ::
  (181, [(.int false .i64 (4294967296)), (.int false .i64 (1789569707))], (.tuple [(.int false .i64 (1789569707)), (.int false .i64 (0))])) ::
  (180, [(.int false .i64 (2147483648)), (.int false .i64 (2147483648))], (.tuple [(.int false .i64 (1073741824)), (.int false .i64 (0))])) ::
  (181, [(.int false .i64 (2147483648)), (.int false .i64 (2147483648))], (.tuple [(.int false .i64 (1073741824)), (.int false .i64 (0))])) ::
  (180, [(.int false .i64 (-1)), (.int false .i64 (-1))], (.tuple [(.int false .i64 (0)), (.int false .i64 (0))])) ::
  (181, [(.int false .i64 (-1)), (.int false .i64 (-1))], (.tuple [(.int false .i64 (1)), (.int false .i64 (0))])) ::
  (180, [(.int false .i64 (-1)), (.int false .i64 (1))], (.tuple [(.int false .i64 (-1)), (.int false .i64 (0))])) ::
  (181, [(.int false .i64 (-1)), (.int false .i64 (1))], (.tuple [(.int false .i64 (0)), (.int false .i64 (0))])) ::
  (180, [(.int false .i64 (1)), (.int false .i64 (-1))], (.tuple [(.int false .i64 (-1)), (.int false .i64 (0))])) ::
  (181, [(.int false .i64 (1)), (.int false .i64 (-1))], (.tuple [(.int false .i64 (0)), (.int false .i64 (0))])) ::
  (180, [(.int false .i64 (1)), (.int false .i64 (1))], (.tuple [(.int false .i64 (0)), (.int false .i64 (0))])) ::
  (181, [(.int false .i64 (1)), (.int false .i64 (1))], (.tuple [(.int false .i64 (1)), (.int false .i64 (0))])) ::
  (137, [(.int false .i64 (3221225471))], (.tuple [(.int false .i64 (3719550786)), (.int false .i64 (0))])) ::
  (138, [(.int false .i64 (3221225473))], (.tuple [(.int false .i64 (3719550788)), (.int false .i64 (0))])) ::
  (180, [(.int false .i64 (0)), (.int false .i64 (3719550786))], (.tuple [(.int false .i64 (0)), (.int false .i64 (0))])) ::
  (181, [(.int false .i64 (0)), (.int false .i64 (3719550786))], (.tuple [(.int false .i64 (0)), (.int false .i64 (0))])) ::
  (180, [(.int false .i64 (0)), (.int false .i64 (3719550788))], (.tuple [(.int false .i64 (0)), (.int false .i64 (0))])) ::
  (181, [(.int false .i64 (0)), (.int false .i64 (3719550788))], (.tuple [(.int false .i64 (0)), (.int false .i64 (0))])) ::
  (180, [(.int false .i64 (4294967296)), (.int false .i64 (3719550786))], (.tuple [(.int false .i64 (3719550786)), (.int false .i64 (0))])) ::
  (181, [(.int false .i64 (4294967296)), (.int false .i64 (3719550786))], (.tuple [(.int false .i64 (3719550786)), (.int false .i64 (0))])) ::
  (180, [(.int false .i64 (4294967296)), (.int false .i64 (3719550788))], (.tuple [(.int false .i64 (3719550788)), (.int false .i64 (0))])) ::
  (181, [(.int false .i64 (4294967296)), (.int false .i64 (3719550788))], (.tuple [(.int false .i64 (3719550788)), (.int false .i64 (0))])) ::
  (183, [(.int false .i64 (0)), (.int false .i64 (15000000)), (.int false .i64 (10000000))], (.tuple [(.int false .i64 (0)), (.int false .i64 (0))])) ::
  (184, [(.int false .i64 (0)), (.int false .i64 (15000000)), (.int false .i64 (10000000))], (.tuple [(.int false .i64 (0)), (.int false .i64 (0))])) ::
  (183, [(.int false .i64 (3221225472)), (.int false .i64 (15000000)), (.int false .i64 (10000000))], (.tuple [(.int false .i64 (4831838208)), (.int false .i64 (0))])) ::
  (184, [(.int false .i64 (3221225472)), (.int false .i64 (15000000)), (.int false .i64 (10000000))], (.tuple [(.int false .i64 (4831838208)), (.int false .i64 (0))])) ::
  (183, [(.int false .i64 (2684354560)), (.int false .i64 (15000000)), (.int false .i64 (10000000))], (.tuple [(.int false .i64 (4026531840)), (.int false .i64 (0))])) ::
  (184, [(.int false .i64 (2684354560)), (.int false .i64 (15000000)), (.int false .i64 (10000000))], (.tuple [(.int false .i64 (4026531840)), (.int false .i64 (0))])) ::
  (180, [(.int false .i64 (4831838208)), (.int false .i64 (0))], (.tuple [(.int false .i64 (0)), (.int false .i64 (0))])) ::
  (181, [(.int false .i64 (4831838208)), (.int false .i64 (0))], (.tuple [(.int false .i64 (0)), (.int false .i64 (0))])) ::
  (180, [(.int false .i64 (4026531840)), (.int false .i64 (4294967296))], (.tuple [(.int false .i64 (4026531840)), (.int false .i64 (0))])) ::
  (181, [(.int false .i64 (4026531840)), (.int false .i64 (4294967296))], (.tuple [(.int false .i64 (4026531840)), (.int false .i64 (0))])) ::
  (180, [(.int false .i64 (0)), (.int false .i64 (4026531840))], (.tuple [(.int false .i64 (0)), (.int false .i64 (0))])) ::
  (181, [(.int false .i64 (0)), (.int false .i64 (4026531840))], (.tuple [(.int false .i64 (0)), (.int false .i64 (0))])) ::
  (180, [(.int false .i64 (4294967296)), (.int false .i64 (4026531840))], (.tuple [(.int false .i64 (4026531840)), (.int false .i64 (0))])) ::
  (181, [(.int false .i64 (4294967296)), (.int false .i64 (4026531840))], (.tuple [(.int false .i64 (4026531840)), (.int false .i64 (0))])) ::
  (180, [(.int false .i64 (4831838208)), (.int false .i64 (4831838208))], (.tuple [(.int false .i64 (5435817984)), (.int false .i64 (0))])) ::
  (181, [(.int false .i64 (4831838208)), (.int false .i64 (4831838208))], (.tuple [(.int false .i64 (5435817984)), (.int false .i64 (0))])) ::
  (180, [(.int false .i64 (0)), (.int false .i64 (4294967296))], (.tuple [(.int false .i64 (0)), (.int false .i64 (0))])) ::
  (181, [(.int false .i64 (0)), (.int false .i64 (4294967296))], (.tuple [(.int false .i64 (0)), (.int false .i64 (0))])) ::
  (180, [(.int false .i64 (3221225472)), (.int false .i64 (4294967296))], (.tuple [(.int false .i64 (3221225472)), (.int false .i64 (0))])) ::
  (181, [(.int false .i64 (3221225472)), (.int false .i64 (4294967296))], (.tuple [(.int false .i64 (3221225472)), (.int false .i64 (0))])) ::
  (180, [(.int false .i64 (0)), (.int false .i64 (3221225472))], (.tuple [(.int false .i64 (0)), (.int false .i64 (0))])) ::
  (181, [(.int false .i64 (0)), (.int false .i64 (3221225472))], (.tuple [(.int false .i64 (0)), (.int false .i64 (0))])) ::
  (180, [(.int false .i64 (4294967296)), (.int false .i64 (3221225472))], (.tuple [(.int false .i64 (3221225472)), (.int false .i64 (0))])) ::
  (181, [(.int false .i64 (4294967296)), (.int false .i64 (3221225472))], (.tuple [(.int false .i64 (3221225472)), (.int false .i64 (0))])) ::
  (137, [(.int false .i64 (3221225472))], (.tuple [(.int false .i64 (3719550786)), (.int false .i64 (0))])) ::
  (138, [(.int false .i64 (3221225472))], (.tuple [(.int false .i64 (3719550787)), (.int false .i64 (0))])) ::
  (180, [(.int false .i64 (0)), (.int false .i64 (-3719550787))], (.tuple [(.int false .i64 (0)), (.int false .i64 (0))])) ::
  (181, [(.int false .i64 (0)), (.int false .i64 (-3719550787))], (.tuple [(.int false .i64 (0)), (.int false .i64 (0))])) ::
  (180, [(.int false .i64 (0)), (.int false .i64 (-3719550786))], (.tuple [(.int false .i64 (0)), (.int false .i64 (0))])) ::
  (181, [(.int false .i64 (0)), (.int false .i64 (-3719550786))], (.tuple [(.int false .i64 (0)), (.int false .i64 (0))])) ::
  (180, [(.int false .i64 (4294967296)), (.int false .i64 (-3719550787))], (.tuple [(.int false .i64 (-3719550787)), (.int false .i64 (0))])) ::
  (181, [(.int false .i64 (4294967296)), (.int false .i64 (-3719550787))], (.tuple [(.int false .i64 (-3719550787)), (.int false .i64 (0))])) ::
  (180, [(.int false .i64 (4294967296)), (.int false .i64 (-3719550786))], (.tuple [(.int false .i64 (-3719550786)), (.int false .i64 (0))])) ::
  (181, [(.int false .i64 (4294967296)), (.int false .i64 (-3719550786))], (.tuple [(.int false .i64 (-3719550786)), (.int false .i64 (0))])) ::
  (180, [(.int false .i64 (4294967296)), (.int false .i64 (4294967296))], (.tuple [(.int false .i64 (4294967296)), (.int false .i64 (0))])) ::
  (181, [(.int false .i64 (4294967296)), (.int false .i64 (4294967296))], (.tuple [(.int false .i64 (4294967296)), (.int false .i64 (0))])) ::
  (183, [(.int false .i64 (0)), (.int false .i64 (10000000)), (.int false .i64 (10000000))], (.tuple [(.int false .i64 (0)), (.int false .i64 (0))])) ::
  (184, [(.int false .i64 (0)), (.int false .i64 (10000000)), (.int false .i64 (10000000))], (.tuple [(.int false .i64 (0)), (.int false .i64 (0))])) ::
  (183, [(.int false .i64 (4294967296)), (.int false .i64 (10000000)), (.int false .i64 (10000000))], (.tuple [(.int false .i64 (4294967296)), (.int false .i64 (0))])) ::
  (184, [(.int false .i64 (4294967296)), (.int false .i64 (10000000)), (.int false .i64 (10000000))], (.tuple [(.int false .i64 (4294967296)), (.int false .i64 (0))])) ::
  (183, [(.int false .i64 (4294967296)), (.int false .i64 (10000000)), (.int false .i64 (100000))], (.tuple [(.int false .i64 (429496729600)), (.int false .i64 (0))])) ::
  (184, [(.int false .i64 (4294967296)), (.int false .i64 (10000000)), (.int false .i64 (100000))], (.tuple [(.int false .i64 (429496729600)), (.int false .i64 (0))])) ::
  (183, [(.int false .i64 (4294967296)), (.int false .i64 (0)), (.int false .i64 (10000000))], (.tuple [(.int false .i64 (0)), (.int false .i64 (0))])) ::
  (184, [(.int false .i64 (4294967296)), (.int false .i64 (0)), (.int false .i64 (10000000))], (.tuple [(.int false .i64 (0)), (.int false .i64 (0))])) ::
  (183, [(.int false .i64 (429496729600)), (.int false .i64 (500000)), (.int false .i64 (1000000000))], (.tuple [(.int false .i64 (214748364)), (.int false .i64 (0))])) ::
  (184, [(.int false .i64 (429496729600)), (.int false .i64 (500000)), (.int false .i64 (1000000000))], (.tuple [(.int false .i64 (214748365)), (.int false .i64 (0))])) ::
  (183, [(.int false .i64 (214748364)), (.int false .i64 (10000000)), (.int false .i64 (10000000))], (.tuple [(.int false .i64 (214748364)), (.int false .i64 (0))])) ::
  (184, [(.int false .i64 (214748365)), (.int false .i64 (10000000)), (.int false .i64 (10000000))], (.tuple [(.int false .i64 (214748365)), (.int false .i64 (0))])) ::
  (180, [(.int false .i64 (4294967296)), (.int false .i64 (214748364))], (.tuple [(.int false .i64 (214748364)), (.int false .i64 (0))])) ::
  (181, [(.int false .i64 (4294967296)), (.int false .i64 (214748364))], (.tuple [(.int false .i64 (214748364)), (.int false .i64 (0))])) ::
  (180, [(.int false .i64 (4294967296)), (.int false .i64 (214748365))], (.tuple [(.int false .i64 (214748365)), (.int false .i64 (0))])) ::
  (181, [(.int false .i64 (4294967296)), (.int false .i64 (214748365))], (.tuple [(.int false .i64 (214748365)), (.int false .i64 (0))])) ::
  (180, [(.int false .i64 (0)), (.int false .i64 (214748364))], (.tuple [(.int false .i64 (0)), (.int false .i64 (0))])) ::
  (181, [(.int false .i64 (0)), (.int false .i64 (214748364))], (.tuple [(.int false .i64 (0)), (.int false .i64 (0))])) ::
  (180, [(.int false .i64 (0)), (.int false .i64 (214748365))], (.tuple [(.int false .i64 (0)), (.int false .i64 (0))])) ::
  (181, [(.int false .i64 (0)), (.int false .i64 (214748365))], (.tuple [(.int false .i64 (0)), (.int false .i64 (0))])) ::
  (180, [(.int false .i64 (214748364)), (.int false .i64 (0))], (.tuple [(.int false .i64 (0)), (.int false .i64 (0))])) ::
  (181, [(.int false .i64 (214748364)), (.int false .i64 (0))], (.tuple [(.int false .i64 (0)), (.int false .i64 (0))])) ::
  (180, [(.int false .i64 (214748365)), (.int false .i64 (0))], (.tuple [(.int false .i64 (0)), (.int false .i64 (0))])) ::
  (181, [(.int false .i64 (214748365)), (.int false .i64 (0))], (.tuple [(.int false .i64 (0)), (.int false .i64 (0))])) ::
  (180, [(.int false .i64 (214748364)), (.int false .i64 (214748364))], (.tuple [(.int false .i64 (10737418)), (.int false .i64 (0))])) ::
  (181, [(.int false .i64 (214748364)), (.int false .i64 (214748364))], (.tuple [(.int false .i64 (10737419)), (.int false .i64 (0))])) ::
  (180, [(.int false .i64 (214748364)), (.int false .i64 (214748365))], (.tuple [(.int false .i64 (10737418)), (.int false .i64 (0))])) ::
  (181, [(.int false .i64 (214748364)), (.int false .i64 (214748365))], (.tuple [(.int false .i64 (10737419)), (.int false .i64 (0))])) ::
  (180, [(.int false .i64 (214748365)), (.int false .i64 (214748364))], (.tuple [(.int false .i64 (10737418)), (.int false .i64 (0))])) ::
  (181, [(.int false .i64 (214748365)), (.int false .i64 (214748364))], (.tuple [(.int false .i64 (10737419)), (.int false .i64 (0))])) ::
  (180, [(.int false .i64 (214748365)), (.int false .i64 (214748365))], (.tuple [(.int false .i64 (10737418)), (.int false .i64 (0))])) ::
  (181, [(.int false .i64 (214748365)), (.int false .i64 (214748365))], (.tuple [(.int false .i64 (10737419)), (.int false .i64 (0))])) ::
  (137, [(.int false .i64 (4284229877))], (.tuple [(.int false .i64 (4289595226)), (.int false .i64 (0))])) ::
  (138, [(.int false .i64 (4284229878))], (.tuple [(.int false .i64 (4289595228)), (.int false .i64 (0))])) ::
  (180, [(.int false .i64 (0)), (.int false .i64 (4289595226))], (.tuple [(.int false .i64 (0)), (.int false .i64 (0))])) ::
  (181, [(.int false .i64 (0)), (.int false .i64 (4289595226))], (.tuple [(.int false .i64 (0)), (.int false .i64 (0))])) ::
  (180, [(.int false .i64 (0)), (.int false .i64 (4289595228))], (.tuple [(.int false .i64 (0)), (.int false .i64 (0))])) ::
  (181, [(.int false .i64 (0)), (.int false .i64 (4289595228))], (.tuple [(.int false .i64 (0)), (.int false .i64 (0))])) ::
  (180, [(.int false .i64 (4294967296)), (.int false .i64 (4289595226))], (.tuple [(.int false .i64 (4289595226)), (.int false .i64 (0))])) ::
  (181, [(.int false .i64 (4294967296)), (.int false .i64 (4289595226))], (.tuple [(.int false .i64 (4289595226)), (.int false .i64 (0))])) ::
  (180, [(.int false .i64 (4294967296)), (.int false .i64 (4289595228))], (.tuple [(.int false .i64 (4289595228)), (.int false .i64 (0))])) ::
  (181, [(.int false .i64 (4294967296)), (.int false .i64 (4289595228))], (.tuple [(.int false .i64 (4289595228)), (.int false .i64 (0))])) ::
  (183, [(.int false .i64 (42949672960)), (.int false .i64 (10000000)), (.int false .i64 (1000000000))], (.tuple [(.int false .i64 (429496729)), (.int false .i64 (0))])) ::
  (184, [(.int false .i64 (42949672960)), (.int false .i64 (10000000)), (.int false .i64 (1000000000))], (.tuple [(.int false .i64 (429496730)), (.int false .i64 (0))])) ::
  (183, [(.int false .i64 (429496729)), (.int false .i64 (10000000)), (.int false .i64 (10000000))], (.tuple [(.int false .i64 (429496729)), (.int false .i64 (0))])) ::
  (184, [(.int false .i64 (429496730)), (.int false .i64 (10000000)), (.int false .i64 (10000000))], (.tuple [(.int false .i64 (429496730)), (.int false .i64 (0))])) ::
  (137, [(.int false .i64 (4337916968))], (.tuple [(.int false .i64 (4316388711)), (.int false .i64 (0))])) ::
  (138, [(.int false .i64 (4337916970))], (.tuple [(.int false .i64 (4316388713)), (.int false .i64 (0))])) ::
  (144, [(.int false .i64 (-429496730)), (.int false .i64 (4316388711))], (.tuple [(.int false .i64 (-427365220)), (.int false .i64 (0))])) ::
  (145, [(.int false .i64 (-429496730)), (.int false .i64 (4316388711))], (.tuple [(.int false .i64 (-427365219)), (.int false .i64 (0))])) ::
  (144, [(.int false .i64 (-429496730)), (.int false .i64 (4316388713))], (.tuple [(.int false .i64 (-427365220)), (.int false .i64 (0))])) ::
  (145, [(.int false .i64 (-429496730)), (.int false .i64 (4316388713))], (.tuple [(.int false .i64 (-427365219)), (.int false .i64 (0))])) ::
  (144, [(.int false .i64 (-429496729)), (.int false .i64 (4316388711))], (.tuple [(.int false .i64 (-427365219)), (.int false .i64 (0))])) ::
  (145, [(.int false .i64 (-429496729)), (.int false .i64 (4316388711))], (.tuple [(.int false .i64 (-427365218)), (.int false .i64 (0))])) ::
  (144, [(.int false .i64 (-429496729)), (.int false .i64 (4316388713))], (.tuple [(.int false .i64 (-427365219)), (.int false .i64 (0))])) ::
  (145, [(.int false .i64 (-429496729)), (.int false .i64 (4316388713))], (.tuple [(.int false .i64 (-427365218)), (.int false .i64 (0))])) ::
  (144, [(.int false .i64 (0)), (.int false .i64 (4316388711))], (.tuple [(.int false .i64 (0)), (.int false .i64 (0))])) ::
  (145, [(.int false .i64 (0)), (.int false .i64 (4316388711))], (.tuple [(.int false .i64 (0)), (.int false .i64 (0))])) ::
  (144, [(.int false .i64 (0)), (.int false .i64 (4316388713))], (.tuple [(.int false .i64 (0)), (.int false .i64 (0))])) ::
  (145, [(.int false .i64 (0)), (.int false .i64 (4316388713))], (.tuple [(.int false .i64 (0)), (.int false .i64 (0))])) ::
  (144, [(.int false .i64 (4294967296)), (.int false .i64 (4316388711))], (.tuple [(.int false .i64 (4273652191)), (.int false .i64 (0))])) ::
  (145, [(.int false .i64 (4294967296)), (.int false .i64 (4316388711))], (.tuple [(.int false .i64 (4273652192)), (.int false .i64 (0))])) ::
  (144, [(.int false .i64 (4294967296)), (.int false .i64 (4316388713))], (.tuple [(.int false .i64 (4273652189)), (.int false .i64 (0))])) ::
  (145, [(.int false .i64 (4294967296)), (.int false .i64 (4316388713))], (.tuple [(.int false .i64 (4273652190)), (.int false .i64 (0))])) ::
  (183, [(.int false .i64 (4303561524)), (.int false .i64 (1000000000)), (.int false .i64 (1000000000))], (.tuple [(.int false .i64 (4303561524)), (.int false .i64 (0))])) ::
  (184, [(.int false .i64 (4303561527)), (.int false .i64 (1000000000)), (.int false .i64 (1000000000))], (.tuple [(.int false .i64 (4303561527)), (.int false .i64 (0))])) ::
  (183, [(.int false .i64 (4303561524)), (.int false .i64 (1000000)), (.int false .i64 (1000000))], (.tuple [(.int false .i64 (4303561524)), (.int false .i64 (0))])) ::
  (184, [(.int false .i64 (4303561527)), (.int false .i64 (1000000)), (.int false .i64 (1000000))], (.tuple [(.int false .i64 (4303561527)), (.int false .i64 (0))])) ::
  (180, [(.int false .i64 (-4294967296)), (.int false .i64 (4294967296))], (.tuple [(.int false .i64 (-4294967296)), (.int false .i64 (0))])) ::
  (181, [(.int false .i64 (-4294967296)), (.int false .i64 (4294967296))], (.tuple [(.int false .i64 (-4294967296)), (.int false .i64 (0))])) ::
  (180, [(.int false .i64 (0)), (.int false .i64 (-4294967296))], (.tuple [(.int false .i64 (0)), (.int false .i64 (0))])) ::
  (181, [(.int false .i64 (0)), (.int false .i64 (-4294967296))], (.tuple [(.int false .i64 (0)), (.int false .i64 (0))])) ::
  (180, [(.int false .i64 (4294967296)), (.int false .i64 (-4294967296))], (.tuple [(.int false .i64 (-4294967296)), (.int false .i64 (0))])) ::
  (181, [(.int false .i64 (4294967296)), (.int false .i64 (-4294967296))], (.tuple [(.int false .i64 (-4294967296)), (.int false .i64 (0))])) ::
  (144, [(.int false .i64 (0)), (.int false .i64 (-4294967296))], (.tuple [(.int false .i64 (0)), (.int false .i64 (0))])) ::
  (145, [(.int false .i64 (0)), (.int false .i64 (-4294967296))], (.tuple [(.int false .i64 (0)), (.int false .i64 (0))])) ::
  (144, [(.int false .i64 (429496729)), (.int false .i64 (4316388711))], (.tuple [(.int false .i64 (427365218)), (.int false .i64 (0))])) ::
  (145, [(.int false .i64 (429496729)), (.int false .i64 (4316388711))], (.tuple [(.int false .i64 (427365219)), (.int false .i64 (0))])) ::
  (144, [(.int false .i64 (429496729)), (.int false .i64 (4316388713))], (.tuple [(.int false .i64 (427365218)), (.int false .i64 (0))])) ::
  (145, [(.int false .i64 (429496729)), (.int false .i64 (4316388713))], (.tuple [(.int false .i64 (427365219)), (.int false .i64 (0))])) ::
  (144, [(.int false .i64 (429496730)), (.int false .i64 (4316388711))], (.tuple [(.int false .i64 (427365219)), (.int false .i64 (0))])) ::
  (145, [(.int false .i64 (429496730)), (.int false .i64 (4316388711))], (.tuple [(.int false .i64 (427365220)), (.int false .i64 (0))])) ::
  (144, [(.int false .i64 (429496730)), (.int false .i64 (4316388713))], (.tuple [(.int false .i64 (427365219)), (.int false .i64 (0))])) ::
  (145, [(.int false .i64 (429496730)), (.int false .i64 (4316388713))], (.tuple [(.int false .i64 (427365220)), (.int false .i64 (0))])) ::
  []
theorem table1_ok : ∀ x ∈ table1, MemoOk Tryz.prog glob hG x :=
  more call0 (more call1 (more call2 (more call3 (more call4 (more call5 (more call6 (more call7 (more call8 (more call9 (more call10 (more call11 (more call12 (more call13 (more call14 (more call15 (more call16 (more call17 (more call18 (more call19 (more call20 (more call21 (more call22 (more call23 (more call24 (more call25 (more call26 (more call27 (more call28 (more call29 (more call30 (more call31 (more call32 (more call33 (more call34 (more call35 (more call36 (more call37 (more call38 (more call39 (more call40 (more call41 (more call42 (more call43 (more call44 (more call45 (more call46 (more call47 (more call48 (more call49 (more call50 (more call51 (more call52 (more call53 (more call54 (more call55 (more call56 (more call57 (more call58 (more call59 (more call60 (more call61 (more call62 (more call63 (more call64 (more call65 (more call66 (more call67 (more call68 (more call69 (more call70 (more call71 (more call72 (more call73 (more call74 (more call75 (more call76 (more call77 (more call78 (more call79 (more call80 (more call81 (more call82 (more call83 (more call84 (more call85 (more call86 (more call87 (more call88 (more call89 (more call90 (more call91 (more call92 (more call93 (more call94 (more call95 (more call96 (more call97 (more call98 (more call99 (more call100 (more call101 (more call102 (more call103 (more call104 (more call105 (more call106 (more call107 (more call108 (more call109 (more call110 (more call111 (more call112 (more call113 (more call114 (more call115 (more call116 (more call117 (more call118 (more call119 (more call120 (more call121 (more call122 (more call123 (more call124 (more call125 (more call126 (more call127 (more call128 (more call129 (more call130 (more call131 (more call132 (more call133 (more call134 (more call135 (more call136 (more call137 (more call138 (more call139 (more call140 (more call141 (more call142 (more call143 (more call144 (more call145 (more call146 (more call147 (more call148 (more call149 (more call150 (more call151 (more call152 (more call153 (more call154 (more call155 (more call156 (more call157 (more call158 (more call159 (more call160 (more call161 (more call162 (more call163 (more call164 (more call165 (more call166 (more call167 (more call168 (more call169 (more call170 (more call171 (more call172 (more call173 (more call174 (more call175 (more call176 (more call177 (more call178 (more call179 (more call180 (more call181 (more call182 (more call183 (more call184 (more call185 (more call186 (more call187 (more call188 (more call189 (more call190 (more call191 (more call192 (more call193 (more call194 (more call195 (more call196 (more call197 (more call198 (more call199 (more call200 (more call201 (more call202 (more call203 (more call204 (more call205 (more call206 (more call207 (more call208 (more call209 (more call210 (more call211 (more call212 (more call213 (more call214 (more call215 (more call216 (more call217 (more call218 (more call219 (more call220 (more call221 (more call222 (more call223 (more call224 (more call225 (more call226 (more call227 (more call228 (more call229 (none_known))))))))))))))))))))))))))))))))))))))))))))))))))))))))))))))))))))))))))))))))))))))))))))))))))))))))))))))))))))))))))))))))))))))))))))))))))))))))))))))))))))))))))))))))))))))))))))))))))))))))))))))))))))))))))))))))))))))

end Go.Proofs.YtckglcjiicmbkaaGreatDoor
