/- What is proved: MtfBounds returns true, whatever the input (part 33). No conditions beyond those of the row. -/
import Derived.Test.YtbiiiloimbjpaaaDoorPf
set_option linter.unusedVariables false
set_option linter.unusedSimpArgs false
set_option linter.unusedSectionVars false
namespace Go.Proofs.YtbiiiloimbjpaaaDoor.K
open Go Go.Eng Go.Dg Go.Ar Go.Vc Go.Iv
noncomputable section
theorem ac1 (G:BdF) (z:Nat->Int) (f w:Int) (x:Bool):bdL G 16 z f w x=bdR G 16 z f w x:=by kernel_rfl
theorem ac2 (G:BdF) (z:Nat->Int) (f w:Int) (x:Bool):bdL G 17 z f w x=bdR G 17 z f w x:=by kernel_rfl
theorem ac3 (G:BdF) (z:Nat->Int) (f w:Int) (x:Bool):bdL G 18 z f w x=bdR G 18 z f w x:=by kernel_rfl
theorem ac4 (G:BdF) (z:Nat->Int) (f w:Int) (x:Bool):bdL G 19 z f w x=bdR G 19 z f w x:=by kernel_rfl
theorem ac5 (G:BdF) (z:Nat->Int) (f w:Int) (x:Bool):bdL G 20 z f w x=bdR G 20 z f w x:=by kernel_rfl
theorem ac6 (G:BdF) (z:Nat->Int) (f w:Int) (x:Bool):bdL G 21 z f w x=bdR G 21 z f w x:=by kernel_rfl
theorem ac7 (G:BdF) (z:Nat->Int) (f w:Int) (x:Bool):bdL G 22 z f w x=bdR G 22 z f w x:=by kernel_rfl
theorem ac8 (G:BdF) (z:Nat->Int) (f w:Int) (x:Bool):bdL G 23 z f w x=bdR G 23 z f w x:=by kernel_rfl
end
end Go.Proofs.YtbiiiloimbjpaaaDoor.K
