/- What is proved: MtfMoves returns true, whatever the input (part 32). No conditions beyond those of the row. -/
import Derived.Test.YtbiiiloimbjpaaaDoorPe
set_option linter.unusedVariables false
set_option linter.unusedSimpArgs false
set_option linter.unusedSectionVars false
namespace Go.Proofs.YtbiiiloimbjpaaaDoor.K
open Go Go.Eng Go.Dg Go.Ar Go.Vc Go.Iv
noncomputable section
def SL (G:MuF):List (FuncId×fO):=[(6,JO (.bool false true)),(9,sMu G)]
def hWn:List Nat->Nat->AV->Nat->Nat->Option AV
 | [],_,_,_,_=>none
 | a :: l,t',v,c,t=>match Nat.beq t t'&&Nat.beq a c with
  | true=>some v
  | false=>hWn l t' v c t
noncomputable def cMv (G:MuF) (H:List Nat):Ctx:=gG (mkN Tryd.prog glob hG (SL G) [] ext) (hWn H 17 (.bool false true))
def zN (z:Nat->Int):Nat->Nat->List Int
 | 0,_=>[]
 | n+1,i=>z i :: zN z n (i+1)
def mvX (u:Int):Int:=wr (wr u*2 ^ min (Int.toNat 24) IntKind.i64.bits)
def Jg (w:Int) (z:Nat->Int):Nat->Nat->List Int
 | 0,_=>[]
 | n+1,i=>mvX (z (2*i)) :: wr (mvX (z (2*i))+w) :: wr (mvX (z (2*i+1)) - w) :: mvX (z (2*i+1)) :: Jg w z n (i+1)
def trL:List Int->List Int
 | a :: b :: c :: d :: l=>wr (0 - b) :: wr (0 - a) :: wr (0 - d) :: wr (0 - c) :: trL l
 | _=>[]
def eqZ (z:Nat->Int):Nat->Nat->Prop
 | 0,_=>True
 | 1,i=>z (2*i+1)=z (2*i+1)
 | n+2,i=>z (2*i+1)=z (2*i+1)/\eqZ z (n+1) (i+1)
def eqL (z:Nat->Int) (k:Nat):Nat->Nat->Prop
 | 0,i=>decide ((i:Int)<(k:Int))=true
 | n+1,i=>(decide ((i:Int)<(k:Int))=true/\z (2*i+1)=z (2*i+1)/\(k:Int)=(k:Int))/\eqL z k n (i+1)
section
variable (G:MuF) (k:Nat) (f q:Int) (x:Bool) (l:List Int)
def mvP:Prop:=G.M k f x l/\G.M k f x (l.map fun c=>wr (c+wr q))/\G.M k f x (trL l)
def mvV:Bool:=bif bif decide ((G.A k f x l).lo<=(G.A k f x (l.map fun c=>wr (c+wr q))).hi) then decide ((G.A k f x (l.map fun c=>wr (c+wr q))).lo<=(G.A k f x l).hi) else false then (G.A k f x l).lo==(G.A k f x (trL l)).lo&&((G.A k f x l).hi==(G.A k f x (trL l)).hi&&true) else false
end
def qF (f:Int):Int:=(wr f).tmod 2001
def mvL (G:MuF) (n:Nat) (z:Nat->Int) (f w q:Int) (x:Bool):Option (Nd×AV):=dK 5 1 ((run (cMv G []) 9000).call 4 [.agg [.pslice 4 n false (n:Int),.int true .u8 w],.int true .u16 f,.int true .i32 q,.bool true x] (hG.push0 (wK .i16 (zN z (2*n) 0))))
def mvR (G:MuF) (n:Nat) (z:Nat->Int) (f q:Int) (x:Bool):Option (Nd×AV):=some (.p (eqZ z n 0/\mvP G (min n 8) (qF f) q x (Jg 0 z (min n 8) 0)),.bool true (mvV G (min n 8) (qF f) q x (Jg 0 z (min n 8) 0)))
theorem ae0 (G:MuF) (z:Nat->Int) (f w q:Int) (x:Bool):mvL G 0 z f w q x=some (.p (mvP G 1 (qF f) q x [0,0,0,0]),.bool true (mvV G 1 (qF f) q x [0,0,0,0])):=by kernel_rfl
theorem ae1 (G:MuF) (z:Nat->Int) (f w q:Int) (x:Bool):mvL G 1 z f w q x=mvR G 1 z f q x:=by kernel_rfl
theorem ae2 (G:MuF) (z:Nat->Int) (f w q:Int) (x:Bool):mvL G 2 z f w q x=mvR G 2 z f q x:=by kernel_rfl
theorem ae3 (G:MuF) (z:Nat->Int) (f w q:Int) (x:Bool):mvL G 3 z f w q x=mvR G 3 z f q x:=by kernel_rfl
theorem ae4 (G:MuF) (z:Nat->Int) (f w q:Int) (x:Bool):mvL G 4 z f w q x=mvR G 4 z f q x:=by kernel_rfl
theorem ae5 (G:MuF) (z:Nat->Int) (f w q:Int) (x:Bool):mvL G 5 z f w q x=mvR G 5 z f q x:=by kernel_rfl
theorem ae6 (G:MuF) (z:Nat->Int) (f w q:Int) (x:Bool):mvL G 6 z f w q x=mvR G 6 z f q x:=by kernel_rfl
theorem ae7 (G:MuF) (z:Nat->Int) (f w q:Int) (x:Bool):mvL G 7 z f w q x=mvR G 7 z f q x:=by kernel_rfl
theorem ae8 (G:MuF) (z:Nat->Int) (f w q:Int) (x:Bool):mvL G 8 z f w q x=mvR G 8 z f q x:=by kernel_rfl
theorem ae9 (G:MuF) (z:Nat->Int) (f w q:Int) (x:Bool):mvL G 9 z f w q x=mvR G 9 z f q x:=by kernel_rfl
theorem adH (G:MuF) (z:Nat->Int) (f w q:Int) (x:Bool):mvL G 10 z f w q x=mvR G 10 z f q x:=by kernel_rfl
theorem adI (G:MuF) (z:Nat->Int) (f w q:Int) (x:Bool):mvL G 11 z f w q x=mvR G 11 z f q x:=by kernel_rfl
theorem adJ (G:MuF) (z:Nat->Int) (f w q:Int) (x:Bool):mvL G 12 z f w q x=mvR G 12 z f q x:=by kernel_rfl
theorem adK (G:MuF) (z:Nat->Int) (f w q:Int) (x:Bool):mvL G 13 z f w q x=mvR G 13 z f q x:=by kernel_rfl
theorem adL (G:MuF) (z:Nat->Int) (f w q:Int) (x:Bool):mvL G 14 z f w q x=mvR G 14 z f q x:=by kernel_rfl
theorem adM (G:MuF) (z:Nat->Int) (f w q:Int) (x:Bool):mvL G 15 z f w q x=mvR G 15 z f q x:=by kernel_rfl
end
end Go.Proofs.YtbiiiloimbjpaaaDoor.K
