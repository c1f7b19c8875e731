/- What is proved: MtfMoves returns true, whatever the input (part 34). No conditions beyond those of the row. -/
import Derived.Test.YtbiiiloimbjpaaaDoorPf
set_option linter.unusedVariables false
set_option linter.unusedSimpArgs false
set_option linter.unusedSectionVars false
namespace Go.Proofs.YtbiiiloimbjpaaaDoor.K
open Go Go.Eng Go.Dg Go.Ar Go.Vc Go.Iv
noncomputable section
theorem adV (G:MuF) (z:Nat->Int) (f w q:Int) (x:Bool):mvL G 24 z f w q x=mvR G 24 z f q x:=by kernel_rfl
theorem adW (G:MuF) (z:Nat->Int) (f w q:Int) (x:Bool):mvL G 25 z f w q x=mvR G 25 z f q x:=by kernel_rfl
theorem adX (G:MuF) (z:Nat->Int) (f w q:Int) (x:Bool):mvL G 26 z f w q x=mvR G 26 z f q x:=by kernel_rfl
theorem adY (G:MuF) (z:Nat->Int) (f w q:Int) (x:Bool):mvL G 27 z f w q x=mvR G 27 z f q x:=by kernel_rfl
theorem adZ (G:MuF) (z:Nat->Int) (f w q:Int) (x:Bool):mvL G 28 z f w q x=mvR G 28 z f q x:=by kernel_rfl
theorem ad1 (G:MuF) (z:Nat->Int) (f w q:Int) (x:Bool):mvL G 29 z f w q x=mvR G 29 z f q x:=by kernel_rfl
theorem ad2 (G:MuF) (z:Nat->Int) (f w q:Int) (x:Bool):mvL G 30 z f w q x=mvR G 30 z f q x:=by kernel_rfl
def ad3:List Nat:=[27,73,119,165,211,257,303,349,395,441,487,533,579,625,671,717,763,809,855,901,947,993,1039,1085,1131,1177,1223,1269,1315,1361,1407]
theorem afa (G:MuF) (k:Nat) (z:Nat->Int) (f w q:Int) (x:Bool):dK 5 1 ((run (cMv G ad3) 9000).call 4 [.agg [.pslice 4 30 true (k:Int),.int true .u8 w],.int true .u16 f,.int true .i32 q,.bool true x] (hG.push0 (wK .i16 (zN z 60 0))))=some (.p (eqL z k 30 0/\mvP G 8 (qF f) q x (Jg 0 z 8 0)),.bool true (mvV G 8 (qF f) q x (Jg 0 z 8 0))):=by kernel_rfl
end
end Go.Proofs.YtbiiiloimbjpaaaDoor.K
