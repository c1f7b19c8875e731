/- What is proved: MtfMoves returns true, whatever the input (part 33). No conditions beyond those of the row. -/
import Derived.Test.YtbiiiloimbjpaaaDoorPf
set_option linter.unusedVariables false
set_option linter.unusedSimpArgs false
set_option linter.unusedSectionVars false
namespace Go.Proofs.YtbiiiloimbjpaaaDoor.K
open Go Go.Eng Go.Dg Go.Ar Go.Vc Go.Iv
noncomputable section
theorem adN (G:MuF) (z:Nat->Int) (f w q:Int) (x:Bool):mvL G 16 z f w q x=mvR G 16 z f q x:=by kernel_rfl
theorem adO (G:MuF) (z:Nat->Int) (f w q:Int) (x:Bool):mvL G 17 z f w q x=mvR G 17 z f q x:=by kernel_rfl
theorem adP (G:MuF) (z:Nat->Int) (f w q:Int) (x:Bool):mvL G 18 z f w q x=mvR G 18 z f q x:=by kernel_rfl
theorem adQ (G:MuF) (z:Nat->Int) (f w q:Int) (x:Bool):mvL G 19 z f w q x=mvR G 19 z f q x:=by kernel_rfl
theorem adR (G:MuF) (z:Nat->Int) (f w q:Int) (x:Bool):mvL G 20 z f w q x=mvR G 20 z f q x:=by kernel_rfl
theorem adS (G:MuF) (z:Nat->Int) (f w q:Int) (x:Bool):mvL G 21 z f w q x=mvR G 21 z f q x:=by kernel_rfl
theorem adT (G:MuF) (z:Nat->Int) (f w q:Int) (x:Bool):mvL G 22 z f w q x=mvR G 22 z f q x:=by kernel_rfl
theorem adU (G:MuF) (z:Nat->Int) (f w q:Int) (x:Bool):mvL G 23 z f w q x=mvR G 23 z f q x:=by kernel_rfl
end
end Go.Proofs.YtbiiiloimbjpaaaDoor.K
