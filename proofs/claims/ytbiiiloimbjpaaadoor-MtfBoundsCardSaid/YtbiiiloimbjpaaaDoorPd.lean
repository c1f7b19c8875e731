/- What is proved: MtfBounds returns true, whatever the input (part 30). No conditions beyond those of the row. -/
import Derived.Test.YtbiiiloimbjpaaaDoorPc
set_option linter.unusedVariables false
set_option linter.unusedSimpArgs false
set_option linter.unusedSectionVars false
namespace Go.Proofs.YtbiiiloimbjpaaaDoor.K
open Go Go.Eng Go.Dg Go.Ar Go.Vc
noncomputable section
def aD (x:Bool):List Int->List (Int×Int)
 | a :: b :: c :: d :: l=>(match x with|true=>(a,b)|false=>(c,d)) :: aD x l
 | _=>[]
def aaV (a b:Int):Int:=(wr (a+b)).fdiv (2 ^ min (Int.toNat 1) IntKind.i64.bits)
def dZ (f:Int) (v:Int×Int):Int:=mdW (wr (f*mdW (aaV v.1 v.2)))
section
variable (F:MtF)
def atS (m f:Int):Sp->List (Int×Int)->Sp
 | s,[]=>s
 | s,v :: l=>atS m f (F.ad s.lo s.hi (F.lo m (dZ f v) 4294967296) (F.hi m (dZ f v) 4294967296)) l
def atW (m f:Int):Sp->(Int×Int)->List (Int×Int)->Prop
 | s,v,[]=>F.ok v.1 v.2=true/\F.n m (dZ f v) 4294967296=true/\(F.ad s.lo s.hi (F.lo m (dZ f v) 4294967296) (F.hi m (dZ f v) 4294967296)).e=0
 | s,v,w :: l=>(F.ok v.1 v.2=true/\F.n m (dZ f v) 4294967296=true/\(F.ad s.lo s.hi (F.lo m (dZ f v) 4294967296) (F.hi m (dZ f v) 4294967296)).e=0)/\atW m f (F.ad s.lo s.hi (F.lo m (dZ f v) 4294967296) (F.hi m (dZ f v) 4294967296)) w l
def atA (m f:Int):List (Int×Int)->Sp
 | []=>⟨0,0,0⟩
 | v :: l=>atS F m f ⟨F.lo m (dZ f v) 4294967296,F.hi m (dZ f v) 4294967296,0⟩ l
def atC (m f:Int):List (Int×Int)->Prop
 | []=>True
 | v :: l=>match l with
  | []=>F.ok v.1 v.2=true/\F.n m (dZ f v) 4294967296=true
  | w :: l=>(F.ok v.1 v.2=true/\F.n m (dZ f v) 4294967296=true)/\atW F m f ⟨F.lo m (dZ f v) 4294967296,F.hi m (dZ f v) 4294967296,0⟩ w l
def atB (m f:Int) (l:List (Int×Int)):Sp:=F.sq (atA F m f l).lo (atA F m f l).hi
def atQ (f:Int) (l:List (Int×Int)):Sp:=F.ad (atB F 1 f l).lo (atB F 1 f l).hi (atB F 0 f l).lo (atB F 0 f l).hi
def atT (f:Int) (l:List (Int×Int)):Sp:=F.rt (atQ F f l).lo (atQ F f l).hi
def atO (n:Nat) (f:Int) (l:List (Int×Int)):Sp:=F.sc (atT F f l).lo (atT F f l).hi 1 (n:Int)
def atP (n:Nat) (f:Int) (l:List (Int×Int)):Prop:=(atC F 1 f l/\atC F 0 f l) /\
 ((atB F 1 f l).e=0/\((atA F 0 f l).lo=(atA F 0 f l).lo/\(atA F 0 f l).hi=(atA F 0 f l).hi)/\((atA F 0 f l).lo=(atA F 0 f l).lo/\(atA F 0 f l).hi=(atA F 0 f l).hi)/\(atB F 0 f l).e=0/\(atQ F f l).e=0)/\(atT F f l).e=0/\(atO F n f l).e=0
def akS:Sp->List (Int×Int)->Sp
 | s,[]=>s
 | s,v :: l=>akS (F.ad s.lo s.hi v.1 v.2) l
def akW:Sp->(Int×Int)->List (Int×Int)->Prop
 | s,v,[]=>(s.lo=s.lo/\s.hi=s.hi)/\(F.ad s.lo s.hi v.1 v.2).e=0
 | s,v,w :: l=>((s.lo=s.lo/\s.hi=s.hi)/\(F.ad s.lo s.hi v.1 v.2).e=0)/\akW (F.ad s.lo s.hi v.1 v.2) w l
def akO (n:Nat):List (Int×Int)->Sp
 | []=>⟨0,0,0⟩
 | v :: l=>F.sc (akS F ⟨v.1,v.2,0⟩ l).lo (akS F ⟨v.1,v.2,0⟩ l).hi 1 (n:Int)
def akC (n:Nat):List (Int×Int)->Prop
 | []=>True
 | v :: l=>match l with
  | []=>(akO F n [v]).e=0
  | w :: l=>akW F ⟨v.1,v.2,0⟩ w l/\(akO F n (v :: w :: l)).e=0
def akR:List (Int×Int)->List (Int×Int)->Prop
 | v :: l,w :: k=>match l,k with
  | [],[]=>F.ok v.1 v.2=true/\F.ok w.1 w.2=true
  | l,k=>(F.ok v.1 v.2=true/\F.ok w.1 w.2=true)/\akR l k
 | _,_=>True
def akP (n:Nat) (l k:List (Int×Int)):Prop:=akR F l k/\(akC F n l/\akC F n k/\(akO F n l).lo=(akO F n l).lo/\(akO F n l).hi=(akO F n l).hi)/\(akO F n k).lo=(akO F n k).lo/\(akO F n k).hi=(akO F n k).hi
def vAt:Nat->List Int->List Nu->Option (Prop×AV):=fun n ys xs=>match xs with
 | [.n f,.t b]=>match Nat.ble n 8&&(Nat.blt 0 n&&Nat.beq ys.length (4*n)) with
  | true=>some (atP F n f (aD b ys),.agg [.int true .i64 (atO F n f (aD b ys)).lo,.int true .i64 (atO F n f (aD b ys)).hi])
  | false=>none
 | _=>none
def vAk:Nat->List Int->List Nu->Option (Prop×AV):=fun n ys xs=>match xs with
 | []=>match Nat.ble n 8&&(Nat.blt 0 n&&Nat.beq ys.length (4*n)) with
  | true=>some (akP F n (aD true ys) (aD false ys),.int false .i64 0)
  | false=>none
 | _=>none
end
theorem adX (F:MtF) (a0 b0 c0 d0 f:Int):dF 5 1 ((run (cAt F) 6000).call 17 [.gslice 4 0 1 4,.int true .i64 f,.bool false true] (hG.push0 (.grown (bM .i64 [a0,b0,c0,d0]))))=some (.p (atP F 1 f (aD true [a0,b0,c0,d0])),.agg [.int true .i64 (atO F 1 f (aD true [a0,b0,c0,d0])).lo,.int true .i64 (atO F 1 f (aD true [a0,b0,c0,d0])).hi]):=by kernel_rfl
theorem adY (F:MtF) (a0 b0 c0 d0 f:Int):dF 5 1 ((run (cAt F) 6000).call 17 [.gslice 4 0 1 4,.int true .i64 f,.bool false false] (hG.push0 (.grown (bM .i64 [a0,b0,c0,d0]))))=some (.p (atP F 1 f (aD false [a0,b0,c0,d0])),.agg [.int true .i64 (atO F 1 f (aD false [a0,b0,c0,d0])).lo,.int true .i64 (atO F 1 f (aD false [a0,b0,c0,d0])).hi]):=by kernel_rfl
theorem ak1 (F:MtF) (a0 b0 c0 d0:Int):dF 5 1 ((run (cAt F) 6000).call 14 [.gslice 4 0 1 4] (hG.push0 (.grown (bM .i64 [a0,b0,c0,d0]))))=some (.p (akP F 1 (aD true [a0,b0,c0,d0]) (aD false [a0,b0,c0,d0])),.int false .i64 0):=by kernel_rfl
theorem adZ (F:MtF) (a0 b0 c0 d0 a1 b1 c1 d1 f:Int):dF 5 1 ((run (cAt F) 6000).call 17 [.gslice 4 0 2 4,.int true .i64 f,.bool false true] (hG.push0 (.grown (bM .i64 [a0,b0,c0,d0,a1,b1,c1,d1]))))=some (.p (atP F 2 f (aD true [a0,b0,c0,d0,a1,b1,c1,d1])),.agg [.int true .i64 (atO F 2 f (aD true [a0,b0,c0,d0,a1,b1,c1,d1])).lo,.int true .i64 (atO F 2 f (aD true [a0,b0,c0,d0,a1,b1,c1,d1])).hi]):=by kernel_rfl
theorem ad1 (F:MtF) (a0 b0 c0 d0 a1 b1 c1 d1 f:Int):dF 5 1 ((run (cAt F) 6000).call 17 [.gslice 4 0 2 4,.int true .i64 f,.bool false false] (hG.push0 (.grown (bM .i64 [a0,b0,c0,d0,a1,b1,c1,d1]))))=some (.p (atP F 2 f (aD false [a0,b0,c0,d0,a1,b1,c1,d1])),.agg [.int true .i64 (atO F 2 f (aD false [a0,b0,c0,d0,a1,b1,c1,d1])).lo,.int true .i64 (atO F 2 f (aD false [a0,b0,c0,d0,a1,b1,c1,d1])).hi]):=by kernel_rfl
theorem ak2 (F:MtF) (a0 b0 c0 d0 a1 b1 c1 d1:Int):dF 5 1 ((run (cAt F) 6000).call 14 [.gslice 4 0 2 4] (hG.push0 (.grown (bM .i64 [a0,b0,c0,d0,a1,b1,c1,d1]))))=some (.p (akP F 2 (aD true [a0,b0,c0,d0,a1,b1,c1,d1]) (aD false [a0,b0,c0,d0,a1,b1,c1,d1])),.int false .i64 0):=by kernel_rfl
theorem ad2 (F:MtF) (a0 b0 c0 d0 a1 b1 c1 d1 a2 b2 c2 d2 f:Int):dF 5 1 ((run (cAt F) 6000).call 17 [.gslice 4 0 3 4,.int true .i64 f,.bool false true] (hG.push0 (.grown (bM .i64 [a0,b0,c0,d0,a1,b1,c1,d1,a2,b2,c2,d2]))))=some (.p (atP F 3 f (aD true [a0,b0,c0,d0,a1,b1,c1,d1,a2,b2,c2,d2])),.agg [.int true .i64 (atO F 3 f (aD true [a0,b0,c0,d0,a1,b1,c1,d1,a2,b2,c2,d2])).lo,.int true .i64 (atO F 3 f (aD true [a0,b0,c0,d0,a1,b1,c1,d1,a2,b2,c2,d2])).hi]):=by kernel_rfl
theorem ad3 (F:MtF) (a0 b0 c0 d0 a1 b1 c1 d1 a2 b2 c2 d2 f:Int):dF 5 1 ((run (cAt F) 6000).call 17 [.gslice 4 0 3 4,.int true .i64 f,.bool false false] (hG.push0 (.grown (bM .i64 [a0,b0,c0,d0,a1,b1,c1,d1,a2,b2,c2,d2]))))=some (.p (atP F 3 f (aD false [a0,b0,c0,d0,a1,b1,c1,d1,a2,b2,c2,d2])),.agg [.int true .i64 (atO F 3 f (aD false [a0,b0,c0,d0,a1,b1,c1,d1,a2,b2,c2,d2])).lo,.int true .i64 (atO F 3 f (aD false [a0,b0,c0,d0,a1,b1,c1,d1,a2,b2,c2,d2])).hi]):=by kernel_rfl
theorem ak3 (F:MtF) (a0 b0 c0 d0 a1 b1 c1 d1 a2 b2 c2 d2:Int):dF 5 1 ((run (cAt F) 6000).call 14 [.gslice 4 0 3 4] (hG.push0 (.grown (bM .i64 [a0,b0,c0,d0,a1,b1,c1,d1,a2,b2,c2,d2]))))=some (.p (akP F 3 (aD true [a0,b0,c0,d0,a1,b1,c1,d1,a2,b2,c2,d2]) (aD false [a0,b0,c0,d0,a1,b1,c1,d1,a2,b2,c2,d2])),.int false .i64 0):=by kernel_rfl
theorem ad4 (F:MtF) (a0 b0 c0 d0 a1 b1 c1 d1 a2 b2 c2 d2 a3 b3 c3 d3 f:Int):dF 5 1 ((run (cAt F) 6000).call 17 [.gslice 4 0 4 4,.int true .i64 f,.bool false true] (hG.push0 (.grown (bM .i64 [a0,b0,c0,d0,a1,b1,c1,d1,a2,b2,c2,d2,a3,b3,c3,d3]))))=some (.p (atP F 4 f (aD true [a0,b0,c0,d0,a1,b1,c1,d1,a2,b2,c2,d2,a3,b3,c3,d3])),.agg [.int true .i64 (atO F 4 f (aD true [a0,b0,c0,d0,a1,b1,c1,d1,a2,b2,c2,d2,a3,b3,c3,d3])).lo,.int true .i64 (atO F 4 f (aD true [a0,b0,c0,d0,a1,b1,c1,d1,a2,b2,c2,d2,a3,b3,c3,d3])).hi]):=by kernel_rfl
theorem ad5 (F:MtF) (a0 b0 c0 d0 a1 b1 c1 d1 a2 b2 c2 d2 a3 b3 c3 d3 f:Int):dF 5 1 ((run (cAt F) 6000).call 17 [.gslice 4 0 4 4,.int true .i64 f,.bool false false] (hG.push0 (.grown (bM .i64 [a0,b0,c0,d0,a1,b1,c1,d1,a2,b2,c2,d2,a3,b3,c3,d3]))))=some (.p (atP F 4 f (aD false [a0,b0,c0,d0,a1,b1,c1,d1,a2,b2,c2,d2,a3,b3,c3,d3])),.agg [.int true .i64 (atO F 4 f (aD false [a0,b0,c0,d0,a1,b1,c1,d1,a2,b2,c2,d2,a3,b3,c3,d3])).lo,.int true .i64 (atO F 4 f (aD false [a0,b0,c0,d0,a1,b1,c1,d1,a2,b2,c2,d2,a3,b3,c3,d3])).hi]):=by kernel_rfl
theorem ak4 (F:MtF) (a0 b0 c0 d0 a1 b1 c1 d1 a2 b2 c2 d2 a3 b3 c3 d3:Int):dF 5 1 ((run (cAt F) 6000).call 14 [.gslice 4 0 4 4] (hG.push0 (.grown (bM .i64 [a0,b0,c0,d0,a1,b1,c1,d1,a2,b2,c2,d2,a3,b3,c3,d3]))))=some (.p (akP F 4 (aD true [a0,b0,c0,d0,a1,b1,c1,d1,a2,b2,c2,d2,a3,b3,c3,d3]) (aD false [a0,b0,c0,d0,a1,b1,c1,d1,a2,b2,c2,d2,a3,b3,c3,d3])),.int false .i64 0):=by kernel_rfl
theorem ad6 (F:MtF) (a0 b0 c0 d0 a1 b1 c1 d1 a2 b2 c2 d2 a3 b3 c3 d3 a4 b4 c4 d4 f:Int):dF 5 1 ((run (cAt F) 6000).call 17 [.gslice 4 0 5 4,.int true .i64 f,.bool false true] (hG.push0 (.grown (bM .i64 [a0,b0,c0,d0,a1,b1,c1,d1,a2,b2,c2,d2,a3,b3,c3,d3,a4,b4,c4,d4]))))=some (.p (atP F 5 f (aD true [a0,b0,c0,d0,a1,b1,c1,d1,a2,b2,c2,d2,a3,b3,c3,d3,a4,b4,c4,d4])),.agg [.int true .i64 (atO F 5 f (aD true [a0,b0,c0,d0,a1,b1,c1,d1,a2,b2,c2,d2,a3,b3,c3,d3,a4,b4,c4,d4])).lo,.int true .i64 (atO F 5 f (aD true [a0,b0,c0,d0,a1,b1,c1,d1,a2,b2,c2,d2,a3,b3,c3,d3,a4,b4,c4,d4])).hi]):=by kernel_rfl
theorem ad7 (F:MtF) (a0 b0 c0 d0 a1 b1 c1 d1 a2 b2 c2 d2 a3 b3 c3 d3 a4 b4 c4 d4 f:Int):dF 5 1 ((run (cAt F) 6000).call 17 [.gslice 4 0 5 4,.int true .i64 f,.bool false false] (hG.push0 (.grown (bM .i64 [a0,b0,c0,d0,a1,b1,c1,d1,a2,b2,c2,d2,a3,b3,c3,d3,a4,b4,c4,d4]))))=some (.p (atP F 5 f (aD false [a0,b0,c0,d0,a1,b1,c1,d1,a2,b2,c2,d2,a3,b3,c3,d3,a4,b4,c4,d4])),.agg [.int true .i64 (atO F 5 f (aD false [a0,b0,c0,d0,a1,b1,c1,d1,a2,b2,c2,d2,a3,b3,c3,d3,a4,b4,c4,d4])).lo,.int true .i64 (atO F 5 f (aD false [a0,b0,c0,d0,a1,b1,c1,d1,a2,b2,c2,d2,a3,b3,c3,d3,a4,b4,c4,d4])).hi]):=by kernel_rfl
theorem ak5 (F:MtF) (a0 b0 c0 d0 a1 b1 c1 d1 a2 b2 c2 d2 a3 b3 c3 d3 a4 b4 c4 d4:Int):dF 5 1 ((run (cAt F) 6000).call 14 [.gslice 4 0 5 4] (hG.push0 (.grown (bM .i64 [a0,b0,c0,d0,a1,b1,c1,d1,a2,b2,c2,d2,a3,b3,c3,d3,a4,b4,c4,d4]))))=some (.p (akP F 5 (aD true [a0,b0,c0,d0,a1,b1,c1,d1,a2,b2,c2,d2,a3,b3,c3,d3,a4,b4,c4,d4]) (aD false [a0,b0,c0,d0,a1,b1,c1,d1,a2,b2,c2,d2,a3,b3,c3,d3,a4,b4,c4,d4])),.int false .i64 0):=by kernel_rfl
theorem ad8 (F:MtF) (a0 b0 c0 d0 a1 b1 c1 d1 a2 b2 c2 d2 a3 b3 c3 d3 a4 b4 c4 d4 a5 b5 c5 d5 f:Int):dF 5 1 ((run (cAt F) 6000).call 17 [.gslice 4 0 6 4,.int true .i64 f,.bool false true] (hG.push0 (.grown (bM .i64 [a0,b0,c0,d0,a1,b1,c1,d1,a2,b2,c2,d2,a3,b3,c3,d3,a4,b4,c4,d4,a5,b5,c5,d5]))))=some (.p (atP F 6 f (aD true [a0,b0,c0,d0,a1,b1,c1,d1,a2,b2,c2,d2,a3,b3,c3,d3,a4,b4,c4,d4,a5,b5,c5,d5])),.agg [.int true .i64 (atO F 6 f (aD true [a0,b0,c0,d0,a1,b1,c1,d1,a2,b2,c2,d2,a3,b3,c3,d3,a4,b4,c4,d4,a5,b5,c5,d5])).lo,.int true .i64 (atO F 6 f (aD true [a0,b0,c0,d0,a1,b1,c1,d1,a2,b2,c2,d2,a3,b3,c3,d3,a4,b4,c4,d4,a5,b5,c5,d5])).hi]):=by kernel_rfl
theorem ad9 (F:MtF) (a0 b0 c0 d0 a1 b1 c1 d1 a2 b2 c2 d2 a3 b3 c3 d3 a4 b4 c4 d4 a5 b5 c5 d5 f:Int):dF 5 1 ((run (cAt F) 6000).call 17 [.gslice 4 0 6 4,.int true .i64 f,.bool false false] (hG.push0 (.grown (bM .i64 [a0,b0,c0,d0,a1,b1,c1,d1,a2,b2,c2,d2,a3,b3,c3,d3,a4,b4,c4,d4,a5,b5,c5,d5]))))=some (.p (atP F 6 f (aD false [a0,b0,c0,d0,a1,b1,c1,d1,a2,b2,c2,d2,a3,b3,c3,d3,a4,b4,c4,d4,a5,b5,c5,d5])),.agg [.int true .i64 (atO F 6 f (aD false [a0,b0,c0,d0,a1,b1,c1,d1,a2,b2,c2,d2,a3,b3,c3,d3,a4,b4,c4,d4,a5,b5,c5,d5])).lo,.int true .i64 (atO F 6 f (aD false [a0,b0,c0,d0,a1,b1,c1,d1,a2,b2,c2,d2,a3,b3,c3,d3,a4,b4,c4,d4,a5,b5,c5,d5])).hi]):=by kernel_rfl
theorem ak6 (F:MtF) (a0 b0 c0 d0 a1 b1 c1 d1 a2 b2 c2 d2 a3 b3 c3 d3 a4 b4 c4 d4 a5 b5 c5 d5:Int):dF 5 1 ((run (cAt F) 6000).call 14 [.gslice 4 0 6 4] (hG.push0 (.grown (bM .i64 [a0,b0,c0,d0,a1,b1,c1,d1,a2,b2,c2,d2,a3,b3,c3,d3,a4,b4,c4,d4,a5,b5,c5,d5]))))=some (.p (akP F 6 (aD true [a0,b0,c0,d0,a1,b1,c1,d1,a2,b2,c2,d2,a3,b3,c3,d3,a4,b4,c4,d4,a5,b5,c5,d5]) (aD false [a0,b0,c0,d0,a1,b1,c1,d1,a2,b2,c2,d2,a3,b3,c3,d3,a4,b4,c4,d4,a5,b5,c5,d5])),.int false .i64 0):=by kernel_rfl
theorem aea (F:MtF) (a0 b0 c0 d0 a1 b1 c1 d1 a2 b2 c2 d2 a3 b3 c3 d3 a4 b4 c4 d4 a5 b5 c5 d5 a6 b6 c6 d6 f:Int):dF 5 1 ((run (cAt F) 6000).call 17 [.gslice 4 0 7 4,.int true .i64 f,.bool false true] (hG.push0 (.grown (bM .i64 [a0,b0,c0,d0,a1,b1,c1,d1,a2,b2,c2,d2,a3,b3,c3,d3,a4,b4,c4,d4,a5,b5,c5,d5,a6,b6,c6,d6]))))=some (.p (atP F 7 f (aD true [a0,b0,c0,d0,a1,b1,c1,d1,a2,b2,c2,d2,a3,b3,c3,d3,a4,b4,c4,d4,a5,b5,c5,d5,a6,b6,c6,d6])),.agg [.int true .i64 (atO F 7 f (aD true [a0,b0,c0,d0,a1,b1,c1,d1,a2,b2,c2,d2,a3,b3,c3,d3,a4,b4,c4,d4,a5,b5,c5,d5,a6,b6,c6,d6])).lo,.int true .i64 (atO F 7 f (aD true [a0,b0,c0,d0,a1,b1,c1,d1,a2,b2,c2,d2,a3,b3,c3,d3,a4,b4,c4,d4,a5,b5,c5,d5,a6,b6,c6,d6])).hi]):=by kernel_rfl
theorem aeb (F:MtF) (a0 b0 c0 d0 a1 b1 c1 d1 a2 b2 c2 d2 a3 b3 c3 d3 a4 b4 c4 d4 a5 b5 c5 d5 a6 b6 c6 d6 f:Int):dF 5 1 ((run (cAt F) 6000).call 17 [.gslice 4 0 7 4,.int true .i64 f,.bool false false] (hG.push0 (.grown (bM .i64 [a0,b0,c0,d0,a1,b1,c1,d1,a2,b2,c2,d2,a3,b3,c3,d3,a4,b4,c4,d4,a5,b5,c5,d5,a6,b6,c6,d6]))))=some (.p (atP F 7 f (aD false [a0,b0,c0,d0,a1,b1,c1,d1,a2,b2,c2,d2,a3,b3,c3,d3,a4,b4,c4,d4,a5,b5,c5,d5,a6,b6,c6,d6])),.agg [.int true .i64 (atO F 7 f (aD false [a0,b0,c0,d0,a1,b1,c1,d1,a2,b2,c2,d2,a3,b3,c3,d3,a4,b4,c4,d4,a5,b5,c5,d5,a6,b6,c6,d6])).lo,.int true .i64 (atO F 7 f (aD false [a0,b0,c0,d0,a1,b1,c1,d1,a2,b2,c2,d2,a3,b3,c3,d3,a4,b4,c4,d4,a5,b5,c5,d5,a6,b6,c6,d6])).hi]):=by kernel_rfl
theorem ak7 (F:MtF) (a0 b0 c0 d0 a1 b1 c1 d1 a2 b2 c2 d2 a3 b3 c3 d3 a4 b4 c4 d4 a5 b5 c5 d5 a6 b6 c6 d6:Int):dF 5 1 ((run (cAt F) 6000).call 14 [.gslice 4 0 7 4] (hG.push0 (.grown (bM .i64 [a0,b0,c0,d0,a1,b1,c1,d1,a2,b2,c2,d2,a3,b3,c3,d3,a4,b4,c4,d4,a5,b5,c5,d5,a6,b6,c6,d6]))))=some (.p (akP F 7 (aD true [a0,b0,c0,d0,a1,b1,c1,d1,a2,b2,c2,d2,a3,b3,c3,d3,a4,b4,c4,d4,a5,b5,c5,d5,a6,b6,c6,d6]) (aD false [a0,b0,c0,d0,a1,b1,c1,d1,a2,b2,c2,d2,a3,b3,c3,d3,a4,b4,c4,d4,a5,b5,c5,d5,a6,b6,c6,d6])),.int false .i64 0):=by kernel_rfl
theorem aec (F:MtF) (a0 b0 c0 d0 a1 b1 c1 d1 a2 b2 c2 d2 a3 b3 c3 d3 a4 b4 c4 d4 a5 b5 c5 d5 a6 b6 c6 d6 a7 b7 c7 d7 f:Int):dF 5 1 ((run (cAt F) 6000).call 17 [.gslice 4 0 8 4,.int true .i64 f,.bool false true] (hG.push0 (.grown (bM .i64 [a0,b0,c0,d0,a1,b1,c1,d1,a2,b2,c2,d2,a3,b3,c3,d3,a4,b4,c4,d4,a5,b5,c5,d5,a6,b6,c6,d6,a7,b7,c7,d7]))))=some (.p (atP F 8 f (aD true [a0,b0,c0,d0,a1,b1,c1,d1,a2,b2,c2,d2,a3,b3,c3,d3,a4,b4,c4,d4,a5,b5,c5,d5,a6,b6,c6,d6,a7,b7,c7,d7])),.agg [.int true .i64 (atO F 8 f (aD true [a0,b0,c0,d0,a1,b1,c1,d1,a2,b2,c2,d2,a3,b3,c3,d3,a4,b4,c4,d4,a5,b5,c5,d5,a6,b6,c6,d6,a7,b7,c7,d7])).lo,.int true .i64 (atO F 8 f (aD true [a0,b0,c0,d0,a1,b1,c1,d1,a2,b2,c2,d2,a3,b3,c3,d3,a4,b4,c4,d4,a5,b5,c5,d5,a6,b6,c6,d6,a7,b7,c7,d7])).hi]):=by kernel_rfl
theorem aed (F:MtF) (a0 b0 c0 d0 a1 b1 c1 d1 a2 b2 c2 d2 a3 b3 c3 d3 a4 b4 c4 d4 a5 b5 c5 d5 a6 b6 c6 d6 a7 b7 c7 d7 f:Int):dF 5 1 ((run (cAt F) 6000).call 17 [.gslice 4 0 8 4,.int true .i64 f,.bool false false] (hG.push0 (.grown (bM .i64 [a0,b0,c0,d0,a1,b1,c1,d1,a2,b2,c2,d2,a3,b3,c3,d3,a4,b4,c4,d4,a5,b5,c5,d5,a6,b6,c6,d6,a7,b7,c7,d7]))))=some (.p (atP F 8 f (aD false [a0,b0,c0,d0,a1,b1,c1,d1,a2,b2,c2,d2,a3,b3,c3,d3,a4,b4,c4,d4,a5,b5,c5,d5,a6,b6,c6,d6,a7,b7,c7,d7])),.agg [.int true .i64 (atO F 8 f (aD false [a0,b0,c0,d0,a1,b1,c1,d1,a2,b2,c2,d2,a3,b3,c3,d3,a4,b4,c4,d4,a5,b5,c5,d5,a6,b6,c6,d6,a7,b7,c7,d7])).lo,.int true .i64 (atO F 8 f (aD false [a0,b0,c0,d0,a1,b1,c1,d1,a2,b2,c2,d2,a3,b3,c3,d3,a4,b4,c4,d4,a5,b5,c5,d5,a6,b6,c6,d6,a7,b7,c7,d7])).hi]):=by kernel_rfl
theorem ak8 (F:MtF) (a0 b0 c0 d0 a1 b1 c1 d1 a2 b2 c2 d2 a3 b3 c3 d3 a4 b4 c4 d4 a5 b5 c5 d5 a6 b6 c6 d6 a7 b7 c7 d7:Int):dF 5 1 ((run (cAt F) 6000).call 14 [.gslice 4 0 8 4] (hG.push0 (.grown (bM .i64 [a0,b0,c0,d0,a1,b1,c1,d1,a2,b2,c2,d2,a3,b3,c3,d3,a4,b4,c4,d4,a5,b5,c5,d5,a6,b6,c6,d6,a7,b7,c7,d7]))))=some (.p (akP F 8 (aD true [a0,b0,c0,d0,a1,b1,c1,d1,a2,b2,c2,d2,a3,b3,c3,d3,a4,b4,c4,d4,a5,b5,c5,d5,a6,b6,c6,d6,a7,b7,c7,d7]) (aD false [a0,b0,c0,d0,a1,b1,c1,d1,a2,b2,c2,d2,a3,b3,c3,d3,a4,b4,c4,d4,a5,b5,c5,d5,a6,b6,c6,d6,a7,b7,c7,d7])),.int false .i64 0):=by kernel_rfl
theorem RI {n:Nat} (h:n<=8):n=0\/n=1\/n=2\/n=3\/n=4\/n=5\/n=6\/n=7\/n=8:=by omega
def sAt (F:MtF):fI:=zC hG .i64 4 [.i .i64,.b] (vAt F)
def sAk (F:MtF):fI:=zC hG .i64 4 [] (vAk F)
theorem WJ:NOk Tryd.prog glob hG 17 (sAt mtF):=by
 refine zD J2 uz xg (fun n ys xs p v hV hp=>?_) ⟨_,Tryd.func17,rfl⟩
 unfold vAt at hV
 split at hV
 .rename_i f b
  split at hV
  .rename_i hb
   simp only [Bool.and_eq_true] at hb
   have h8:=Nat.le_of_ble_eq_true hb.1
   have hl:=Nat.eq_of_beq_eq_true hb.2.2
   cases hV
   rcases RI h8 with rfl|rfl|rfl|rfl|rfl|rfl|rfl|rfl|rfl
   .cases hb.2.1
   .match ys,hl with
    | [a0,b0,c0,d0],_=>cases b with
     | true=>exact ⟨rfl,cAt mtF,6000,[.int true .i64 f,.bool false true],_,_,bX,rfl,rfl,⟨⟨rfl,rfl⟩,rfl,trivial⟩,adX mtF a0 b0 c0 d0 f,hp,rfl,⟨⟨rfl,rfl⟩,⟨rfl,rfl⟩,trivial⟩⟩
     | false=>exact ⟨rfl,cAt mtF,6000,[.int true .i64 f,.bool false false],_,_,bX,rfl,rfl,⟨⟨rfl,rfl⟩,rfl,trivial⟩,adY mtF a0 b0 c0 d0 f,hp,rfl,⟨⟨rfl,rfl⟩,⟨rfl,rfl⟩,trivial⟩⟩
   .match ys,hl with
    | [a0,b0,c0,d0,a1,b1,c1,d1],_=>cases b with
     | true=>exact ⟨rfl,cAt mtF,6000,[.int true .i64 f,.bool false true],_,_,bX,rfl,rfl,⟨⟨rfl,rfl⟩,rfl,trivial⟩,adZ mtF a0 b0 c0 d0 a1 b1 c1 d1 f,hp,rfl,⟨⟨rfl,rfl⟩,⟨rfl,rfl⟩,trivial⟩⟩
     | false=>exact ⟨rfl,cAt mtF,6000,[.int true .i64 f,.bool false false],_,_,bX,rfl,rfl,⟨⟨rfl,rfl⟩,rfl,trivial⟩,ad1 mtF a0 b0 c0 d0 a1 b1 c1 d1 f,hp,rfl,⟨⟨rfl,rfl⟩,⟨rfl,rfl⟩,trivial⟩⟩
   .match ys,hl with
    | [a0,b0,c0,d0,a1,b1,c1,d1,a2,b2,c2,d2],_=>cases b with
     | true=>exact ⟨rfl,cAt mtF,6000,[.int true .i64 f,.bool false true],_,_,bX,rfl,rfl,⟨⟨rfl,rfl⟩,rfl,trivial⟩,ad2 mtF a0 b0 c0 d0 a1 b1 c1 d1 a2 b2 c2 d2 f,hp,rfl,⟨⟨rfl,rfl⟩,⟨rfl,rfl⟩,trivial⟩⟩
     | false=>exact ⟨rfl,cAt mtF,6000,[.int true .i64 f,.bool false false],_,_,bX,rfl,rfl,⟨⟨rfl,rfl⟩,rfl,trivial⟩,ad3 mtF a0 b0 c0 d0 a1 b1 c1 d1 a2 b2 c2 d2 f,hp,rfl,⟨⟨rfl,rfl⟩,⟨rfl,rfl⟩,trivial⟩⟩
   .match ys,hl with
    | [a0,b0,c0,d0,a1,b1,c1,d1,a2,b2,c2,d2,a3,b3,c3,d3],_=>cases b with
     | true=>exact ⟨rfl,cAt mtF,6000,[.int true .i64 f,.bool false true],_,_,bX,rfl,rfl,⟨⟨rfl,rfl⟩,rfl,trivial⟩,ad4 mtF a0 b0 c0 d0 a1 b1 c1 d1 a2 b2 c2 d2 a3 b3 c3 d3 f,hp,rfl,⟨⟨rfl,rfl⟩,⟨rfl,rfl⟩,trivial⟩⟩
     | false=>exact ⟨rfl,cAt mtF,6000,[.int true .i64 f,.bool false false],_,_,bX,rfl,rfl,⟨⟨rfl,rfl⟩,rfl,trivial⟩,ad5 mtF a0 b0 c0 d0 a1 b1 c1 d1 a2 b2 c2 d2 a3 b3 c3 d3 f,hp,rfl,⟨⟨rfl,rfl⟩,⟨rfl,rfl⟩,trivial⟩⟩
   .match ys,hl with
    | [a0,b0,c0,d0,a1,b1,c1,d1,a2,b2,c2,d2,a3,b3,c3,d3,a4,b4,c4,d4],_=>cases b with
     | true=>exact ⟨rfl,cAt mtF,6000,[.int true .i64 f,.bool false true],_,_,bX,rfl,rfl,⟨⟨rfl,rfl⟩,rfl,trivial⟩,ad6 mtF a0 b0 c0 d0 a1 b1 c1 d1 a2 b2 c2 d2 a3 b3 c3 d3 a4 b4 c4 d4 f,hp,rfl,⟨⟨rfl,rfl⟩,⟨rfl,rfl⟩,trivial⟩⟩
     | false=>exact ⟨rfl,cAt mtF,6000,[.int true .i64 f,.bool false false],_,_,bX,rfl,rfl,⟨⟨rfl,rfl⟩,rfl,trivial⟩,ad7 mtF a0 b0 c0 d0 a1 b1 c1 d1 a2 b2 c2 d2 a3 b3 c3 d3 a4 b4 c4 d4 f,hp,rfl,⟨⟨rfl,rfl⟩,⟨rfl,rfl⟩,trivial⟩⟩
   .match ys,hl with
    | [a0,b0,c0,d0,a1,b1,c1,d1,a2,b2,c2,d2,a3,b3,c3,d3,a4,b4,c4,d4,a5,b5,c5,d5],_=>cases b with
     | true=>exact ⟨rfl,cAt mtF,6000,[.int true .i64 f,.bool false true],_,_,bX,rfl,rfl,⟨⟨rfl,rfl⟩,rfl,trivial⟩,ad8 mtF a0 b0 c0 d0 a1 b1 c1 d1 a2 b2 c2 d2 a3 b3 c3 d3 a4 b4 c4 d4 a5 b5 c5 d5 f,hp,rfl,⟨⟨rfl,rfl⟩,⟨rfl,rfl⟩,trivial⟩⟩
     | false=>exact ⟨rfl,cAt mtF,6000,[.int true .i64 f,.bool false false],_,_,bX,rfl,rfl,⟨⟨rfl,rfl⟩,rfl,trivial⟩,ad9 mtF a0 b0 c0 d0 a1 b1 c1 d1 a2 b2 c2 d2 a3 b3 c3 d3 a4 b4 c4 d4 a5 b5 c5 d5 f,hp,rfl,⟨⟨rfl,rfl⟩,⟨rfl,rfl⟩,trivial⟩⟩
   .match ys,hl with
    | [a0,b0,c0,d0,a1,b1,c1,d1,a2,b2,c2,d2,a3,b3,c3,d3,a4,b4,c4,d4,a5,b5,c5,d5,a6,b6,c6,d6],_=>cases b with
     | true=>exact ⟨rfl,cAt mtF,6000,[.int true .i64 f,.bool false true],_,_,bX,rfl,rfl,⟨⟨rfl,rfl⟩,rfl,trivial⟩,aea mtF a0 b0 c0 d0 a1 b1 c1 d1 a2 b2 c2 d2 a3 b3 c3 d3 a4 b4 c4 d4 a5 b5 c5 d5 a6 b6 c6 d6 f,hp,rfl,⟨⟨rfl,rfl⟩,⟨rfl,rfl⟩,trivial⟩⟩
     | false=>exact ⟨rfl,cAt mtF,6000,[.int true .i64 f,.bool false false],_,_,bX,rfl,rfl,⟨⟨rfl,rfl⟩,rfl,trivial⟩,aeb mtF a0 b0 c0 d0 a1 b1 c1 d1 a2 b2 c2 d2 a3 b3 c3 d3 a4 b4 c4 d4 a5 b5 c5 d5 a6 b6 c6 d6 f,hp,rfl,⟨⟨rfl,rfl⟩,⟨rfl,rfl⟩,trivial⟩⟩
   .match ys,hl with
    | [a0,b0,c0,d0,a1,b1,c1,d1,a2,b2,c2,d2,a3,b3,c3,d3,a4,b4,c4,d4,a5,b5,c5,d5,a6,b6,c6,d6,a7,b7,c7,d7],_=>cases b with
     | true=>exact ⟨rfl,cAt mtF,6000,[.int true .i64 f,.bool false true],_,_,bX,rfl,rfl,⟨⟨rfl,rfl⟩,rfl,trivial⟩,aec mtF a0 b0 c0 d0 a1 b1 c1 d1 a2 b2 c2 d2 a3 b3 c3 d3 a4 b4 c4 d4 a5 b5 c5 d5 a6 b6 c6 d6 a7 b7 c7 d7 f,hp,rfl,⟨⟨rfl,rfl⟩,⟨rfl,rfl⟩,trivial⟩⟩
     | false=>exact ⟨rfl,cAt mtF,6000,[.int true .i64 f,.bool false false],_,_,bX,rfl,rfl,⟨⟨rfl,rfl⟩,rfl,trivial⟩,aed mtF a0 b0 c0 d0 a1 b1 c1 d1 a2 b2 c2 d2 a3 b3 c3 d3 a4 b4 c4 d4 a5 b5 c5 d5 a6 b6 c6 d6 a7 b7 c7 d7 f,hp,rfl,⟨⟨rfl,rfl⟩,⟨rfl,rfl⟩,trivial⟩⟩
  .cases hV
 .cases hV
theorem WK:NOk Tryd.prog glob hG 14 (sAk mtF):=by
 refine zD J2 uz xg (fun n ys xs p v hV hp=>?_) ⟨_,Tryd.func14,rfl⟩
 unfold vAk at hV
 split at hV
 .split at hV
  .rename_i hb
   simp only [Bool.and_eq_true] at hb
   have h8:=Nat.le_of_ble_eq_true hb.1
   have hl:=Nat.eq_of_beq_eq_true hb.2.2
   cases hV
   rcases RI h8 with rfl|rfl|rfl|rfl|rfl|rfl|rfl|rfl|rfl
   .cases hb.2.1
   .match ys,hl with
    | [a0,b0,c0,d0],_=>exact ⟨rfl,cAt mtF,6000,[],_,_,bX,rfl,rfl,trivial,ak1 mtF a0 b0 c0 d0,hp,rfl,⟨rfl,rfl⟩⟩
   .match ys,hl with
    | [a0,b0,c0,d0,a1,b1,c1,d1],_=>exact ⟨rfl,cAt mtF,6000,[],_,_,bX,rfl,rfl,trivial,ak2 mtF a0 b0 c0 d0 a1 b1 c1 d1,hp,rfl,⟨rfl,rfl⟩⟩
   .match ys,hl with
    | [a0,b0,c0,d0,a1,b1,c1,d1,a2,b2,c2,d2],_=>exact ⟨rfl,cAt mtF,6000,[],_,_,bX,rfl,rfl,trivial,ak3 mtF a0 b0 c0 d0 a1 b1 c1 d1 a2 b2 c2 d2,hp,rfl,⟨rfl,rfl⟩⟩
   .match ys,hl with
    | [a0,b0,c0,d0,a1,b1,c1,d1,a2,b2,c2,d2,a3,b3,c3,d3],_=>exact ⟨rfl,cAt mtF,6000,[],_,_,bX,rfl,rfl,trivial,ak4 mtF a0 b0 c0 d0 a1 b1 c1 d1 a2 b2 c2 d2 a3 b3 c3 d3,hp,rfl,⟨rfl,rfl⟩⟩
   .match ys,hl with
    | [a0,b0,c0,d0,a1,b1,c1,d1,a2,b2,c2,d2,a3,b3,c3,d3,a4,b4,c4,d4],_=>exact ⟨rfl,cAt mtF,6000,[],_,_,bX,rfl,rfl,trivial,ak5 mtF a0 b0 c0 d0 a1 b1 c1 d1 a2 b2 c2 d2 a3 b3 c3 d3 a4 b4 c4 d4,hp,rfl,⟨rfl,rfl⟩⟩
   .match ys,hl with
    | [a0,b0,c0,d0,a1,b1,c1,d1,a2,b2,c2,d2,a3,b3,c3,d3,a4,b4,c4,d4,a5,b5,c5,d5],_=>exact ⟨rfl,cAt mtF,6000,[],_,_,bX,rfl,rfl,trivial,ak6 mtF a0 b0 c0 d0 a1 b1 c1 d1 a2 b2 c2 d2 a3 b3 c3 d3 a4 b4 c4 d4 a5 b5 c5 d5,hp,rfl,⟨rfl,rfl⟩⟩
   .match ys,hl with
    | [a0,b0,c0,d0,a1,b1,c1,d1,a2,b2,c2,d2,a3,b3,c3,d3,a4,b4,c4,d4,a5,b5,c5,d5,a6,b6,c6,d6],_=>exact ⟨rfl,cAt mtF,6000,[],_,_,bX,rfl,rfl,trivial,ak7 mtF a0 b0 c0 d0 a1 b1 c1 d1 a2 b2 c2 d2 a3 b3 c3 d3 a4 b4 c4 d4 a5 b5 c5 d5 a6 b6 c6 d6,hp,rfl,⟨rfl,rfl⟩⟩
   .match ys,hl with
    | [a0,b0,c0,d0,a1,b1,c1,d1,a2,b2,c2,d2,a3,b3,c3,d3,a4,b4,c4,d4,a5,b5,c5,d5,a6,b6,c6,d6,a7,b7,c7,d7],_=>exact ⟨rfl,cAt mtF,6000,[],_,_,bX,rfl,rfl,trivial,ak8 mtF a0 b0 c0 d0 a1 b1 c1 d1 a2 b2 c2 d2 a3 b3 c3 d3 a4 b4 c4 d4 a5 b5 c5 d5 a6 b6 c6 d6 a7 b7 c7 d7,hp,rfl,⟨rfl,rfl⟩⟩
  .cases hV
 .cases hV
end
end Go.Proofs.YtbiiiloimbjpaaaDoor.K
