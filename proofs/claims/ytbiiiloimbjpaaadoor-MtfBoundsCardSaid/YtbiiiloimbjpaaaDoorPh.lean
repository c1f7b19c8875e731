/- What is proved: MtfBounds returns true, whatever the input (part 34). No conditions beyond those of the row. -/
import Derived.Test.YtbiiiloimbjpaaaDoorPf
set_option linter.unusedVariables false
set_option linter.unusedSimpArgs false
set_option linter.unusedSectionVars false
namespace Go.Proofs.YtbiiiloimbjpaaaDoor.K
open Go Go.Eng Go.Dg Go.Ar Go.Vc Go.Iv
noncomputable section
theorem ac9 (G:BdF) (z:Nat->Int) (f w:Int) (x:Bool):bdL G 24 z f w x=bdR G 24 z f w x:=by kernel_rfl
theorem ada (G:BdF) (z:Nat->Int) (f w:Int) (x:Bool):bdL G 25 z f w x=bdR G 25 z f w x:=by kernel_rfl
theorem adb (G:BdF) (z:Nat->Int) (f w:Int) (x:Bool):bdL G 26 z f w x=bdR G 26 z f w x:=by kernel_rfl
theorem adc (G:BdF) (z:Nat->Int) (f w:Int) (x:Bool):bdL G 27 z f w x=bdR G 27 z f w x:=by kernel_rfl
theorem ade (G:BdF) (z:Nat->Int) (f w:Int) (x:Bool):bdL G 28 z f w x=bdR G 28 z f w x:=by kernel_rfl
theorem adf (G:BdF) (z:Nat->Int) (f w:Int) (x:Bool):bdL G 29 z f w x=bdR G 29 z f w x:=by kernel_rfl
theorem adg (G:BdF) (z:Nat->Int) (f w:Int) (x:Bool):bdL G 30 z f w x=bdR G 30 z f w x:=by kernel_rfl
def adh:List Nat:=[25,71,117,163,209,255,301,347,393,439,485,531,577,623,669,715,761,807,853,899,945,991,1037,1083,1129,1175,1221,1267,1313,1359,1405]
theorem aeo (G:BdF) (k:Nat) (z:Nat->Int) (f w:Int) (x:Bool):dF 5 1 ((run (cBd G 1481 adh) 9000).call 3 [.agg [.pslice 4 30 true (k:Int),.int true .u8 w],.int true .u16 f,.bool true x] (hG.push0 (tX .i16 (zN z 60 0))))=some (.p (eqL z k 30 0/\bdP G 8 (qF f) x (Gu (wD w) z 8 0)),.bool true (bdV G 8 (qF f) x (Gu (wD w) z 8 0))):=by kernel_rfl
end
end Go.Proofs.YtbiiiloimbjpaaaDoor.K
