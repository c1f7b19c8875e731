/- What is proved: MtfBounds returns true, whatever the input (part 32). No conditions beyond those of the row. -/
import Derived.Test.YtbiiiloimbjpaaaDoorPe
set_option linter.unusedVariables false
set_option linter.unusedSimpArgs false
set_option linter.unusedSectionVars false
namespace Go.Proofs.YtbiiiloimbjpaaaDoor.K
open Go Go.Eng Go.Dg Go.Ar Go.Vc Go.Iv
noncomputable section
structure BdF where
 M:Nat->Int->Bool->List Int->Prop
 T:Nat->Int->Bool->List Int->Prop
 K:Nat->List Int->Prop
 A:Nat->Int->Bool->List Int->Sp
def vBa (G:BdF):Nat->List Int->List Nu->Option (Prop×AV):=fun n ys xs=>match xs with
 | [.n f,.t b]=>match Nat.ble n 8&&(Nat.blt 0 n&&Nat.beq ys.length (4*n)) with
  | true=>some (G.T n f b ys,.agg [.int true .i64 (G.A n f b ys).lo,.int true .i64 (G.A n f b ys).hi])
  | false=>none
 | _=>none
def vBk (G:BdF):Nat->List Int->List Nu->Option (Prop×AV):=fun n ys xs=>match xs with
 | []=>match Nat.ble n 8&&(Nat.blt 0 n&&Nat.beq ys.length (4*n)) with
  | true=>some (G.K n ys,.int false .i64 0)
  | false=>none
 | _=>none
def R5 (G:BdF):List (FuncId×fI):=[(6,Jo (.bool false true)),(9,sMu ⟨G.M,G.A⟩),(17,zC hG .i64 4 [.i .i64,.b] (vBa G)),(14,zC hG .i64 4 [] (vBk G))]
def hBd (k:Nat) (H:List Nat) (c t:Nat):Option AV:=match Nat.beq t 37&&Nat.beq c k with
 | true=>some (.bool false false)
 | false=>hWn H 17 (.bool false true) c t
noncomputable def cBd (G:BdF) (k:Nat) (H:List Nat):Ctx:=gz (mkN Tryd.prog glob hG (R5 G) [] ext) (hBd k H)
section
variable (G:BdF) (k:Nat) (f:Int) (x:Bool) (l:List Int)
def bdP:Prop:=G.M k 0 x l/\G.M k f x l/\G.K k l/\((decide (f<0)=true->true=false)/\(decide (f<0)=false->(decide (f>2000)=true->true=false)/\(decide (f>2000)=false->decide (wr (f*1)>2000)=false)))/\G.T k (wr (0*f)) x l/\G.T k (wr (1*f)) x l
def bdV:Bool:=bif (G.A k 0 x l).lo==4294967296&&((G.A k 0 x l).hi==4294967296&&true) then bif decide ((G.A k f x l).lo<=4294967296) then bif decide ((G.A k f x l).lo>=0) then bif decide ((G.A k f x l).lo<=(G.A k f x l).hi) then
 bif !!((G.A k (wr (0*f)) x l).lo==4294967296&&((G.A k (wr (0*f)) x l).hi==4294967296&&true))&&!!((G.A k (wr (1*f)) x l).lo==(G.A k f x l).lo&&((G.A k (wr (1*f)) x l).hi==(G.A k f x l).hi&&true)) then true else false else false else false else false else false
end
def wD (w:Int):Int:=wr (w.tmod 8)
def bdL (G:BdF) (n:Nat) (z:Nat->Int) (f w:Int) (x:Bool):Option (Nd×AV):=dF 5 1 ((run (cBd G (101+46*n) []) 9000).call 3 [.agg [.pslice 4 n false (n:Int),.int true .u8 w],.int true .u16 f,.bool true x] (hG.push0 (tX .i16 (zN z (2*n) 0))))
def bdR (G:BdF) (n:Nat) (z:Nat->Int) (f w:Int) (x:Bool):Option (Nd×AV):=some (.p (eqZ z n 0/\bdP G (min n 8) (qF f) x (Gu (wD w) z (min n 8) 0)),.bool true (bdV G (min n 8) (qF f) x (Gu (wD w) z (min n 8) 0)))
theorem aee (G:BdF) (z:Nat->Int) (f w:Int) (x:Bool):dF 5 1 ((run (cBd G 102 []) 9000).call 3 [.agg [.pslice 4 0 false 0,.int true .u8 w],.int true .u16 f,.bool true x] (hG.push0 (tX .i16 (zN z 0 0))))=some (.p (bdP G 1 (qF f) x [0,0,0,0]),.bool true (bdV G 1 (qF f) x [0,0,0,0])):=by kernel_rfl
theorem aef (G:BdF) (z:Nat->Int) (f w:Int) (x:Bool):bdL G 1 z f w x=bdR G 1 z f w x:=by kernel_rfl
theorem aeg (G:BdF) (z:Nat->Int) (f w:Int) (x:Bool):bdL G 2 z f w x=bdR G 2 z f w x:=by kernel_rfl
theorem aeh (G:BdF) (z:Nat->Int) (f w:Int) (x:Bool):bdL G 3 z f w x=bdR G 3 z f w x:=by kernel_rfl
theorem aei (G:BdF) (z:Nat->Int) (f w:Int) (x:Bool):bdL G 4 z f w x=bdR G 4 z f w x:=by kernel_rfl
theorem aej (G:BdF) (z:Nat->Int) (f w:Int) (x:Bool):bdL G 5 z f w x=bdR G 5 z f w x:=by kernel_rfl
theorem aek (G:BdF) (z:Nat->Int) (f w:Int) (x:Bool):bdL G 6 z f w x=bdR G 6 z f w x:=by kernel_rfl
theorem ael (G:BdF) (z:Nat->Int) (f w:Int) (x:Bool):bdL G 7 z f w x=bdR G 7 z f w x:=by kernel_rfl
theorem aem (G:BdF) (z:Nat->Int) (f w:Int) (x:Bool):bdL G 8 z f w x=bdR G 8 z f w x:=by kernel_rfl
theorem aen (G:BdF) (z:Nat->Int) (f w:Int) (x:Bool):bdL G 9 z f w x=bdR G 9 z f w x:=by kernel_rfl
theorem acV (G:BdF) (z:Nat->Int) (f w:Int) (x:Bool):bdL G 10 z f w x=bdR G 10 z f w x:=by kernel_rfl
theorem acW (G:BdF) (z:Nat->Int) (f w:Int) (x:Bool):bdL G 11 z f w x=bdR G 11 z f w x:=by kernel_rfl
theorem acX (G:BdF) (z:Nat->Int) (f w:Int) (x:Bool):bdL G 12 z f w x=bdR G 12 z f w x:=by kernel_rfl
theorem acY (G:BdF) (z:Nat->Int) (f w:Int) (x:Bool):bdL G 13 z f w x=bdR G 13 z f w x:=by kernel_rfl
theorem acZ (G:BdF) (z:Nat->Int) (f w:Int) (x:Bool):bdL G 14 z f w x=bdR G 14 z f w x:=by kernel_rfl
theorem ac0 (G:BdF) (z:Nat->Int) (f w:Int) (x:Bool):bdL G 15 z f w x=bdR G 15 z f w x:=by kernel_rfl
end
end Go.Proofs.YtbiiiloimbjpaaaDoor.K
