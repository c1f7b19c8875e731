/- What is proved: MtfMoves returns true, whatever the input (part 30). No conditions beyond those of the row. -/
import Derived.Test.YtbiiiloimbjpaaaDoorPc
set_option linter.unusedVariables false
set_option linter.unusedSimpArgs false
set_option linter.unusedSectionVars false
namespace Go.Proofs.YtbiiiloimbjpaaaDoor.K
open Go Go.Eng Go.Dg Go.Ar Go.Vc
noncomputable section
def aG (x:Bool):List Int->List (Int×Int)
 | a :: b :: c :: d :: l=>(match x with|true=>(a,b)|false=>(c,d)) :: aG x l
 | _=>[]
def abM (a b:Int):Int:=(wr (a+b)).fdiv (2 ^ min (Int.toNat 1) IntKind.i64.bits)
def dV (f:Int) (v:Int×Int):Int:=mdW (wr (f*mdW (abM v.1 v.2)))
section
variable (F:MtF)
def atS (m f:Int):Sp->List (Int×Int)->Sp
 | s,[]=>s
 | s,v :: l=>atS m f (F.ad s.lo s.hi (F.lo m (dV f v) 4294967296) (F.hi m (dV f v) 4294967296)) l
def atW (m f:Int):Sp->(Int×Int)->List (Int×Int)->Prop
 | s,v,[]=>F.ok v.1 v.2=true/\F.n m (dV f v) 4294967296=true/\(F.ad s.lo s.hi (F.lo m (dV f v) 4294967296) (F.hi m (dV f v) 4294967296)).e=0
 | s,v,w :: l=>(F.ok v.1 v.2=true/\F.n m (dV f v) 4294967296=true/\(F.ad s.lo s.hi (F.lo m (dV f v) 4294967296) (F.hi m (dV f v) 4294967296)).e=0)/\atW m f (F.ad s.lo s.hi (F.lo m (dV f v) 4294967296) (F.hi m (dV f v) 4294967296)) w l
def atA (m f:Int):List (Int×Int)->Sp
 | []=>⟨0,0,0⟩
 | v :: l=>atS F m f ⟨F.lo m (dV f v) 4294967296,F.hi m (dV f v) 4294967296,0⟩ l
def atC (m f:Int):List (Int×Int)->Prop
 | []=>True
 | v :: l=>match l with
  | []=>F.ok v.1 v.2=true/\F.n m (dV f v) 4294967296=true
  | w :: l=>(F.ok v.1 v.2=true/\F.n m (dV f v) 4294967296=true)/\atW F m f ⟨F.lo m (dV f v) 4294967296,F.hi m (dV f v) 4294967296,0⟩ w l
def atB (m f:Int) (l:List (Int×Int)):Sp:=F.sq (atA F m f l).lo (atA F m f l).hi
def atQ (f:Int) (l:List (Int×Int)):Sp:=F.ad (atB F 1 f l).lo (atB F 1 f l).hi (atB F 0 f l).lo (atB F 0 f l).hi
def atT (f:Int) (l:List (Int×Int)):Sp:=F.rt (atQ F f l).lo (atQ F f l).hi
def atO (n:Nat) (f:Int) (l:List (Int×Int)):Sp:=F.sc (atT F f l).lo (atT F f l).hi 1 (n:Int)
def atP (n:Nat) (f:Int) (l:List (Int×Int)):Prop:=(atC F 1 f l/\atC F 0 f l) /\
 ((atB F 1 f l).e=0/\((atA F 0 f l).lo=(atA F 0 f l).lo/\(atA F 0 f l).hi=(atA F 0 f l).hi)/\((atA F 0 f l).lo=(atA F 0 f l).lo/\(atA F 0 f l).hi=(atA F 0 f l).hi)/\(atB F 0 f l).e=0/\(atQ F f l).e=0)/\(atT F f l).e=0/\(atO F n f l).e=0
def akS:Sp->List (Int×Int)->Sp
 | s,[]=>s
 | s,v :: l=>akS (F.ad s.lo s.hi v.1 v.2) l
def akW:Sp->(Int×Int)->List (Int×Int)->Prop
 | s,v,[]=>(s.lo=s.lo/\s.hi=s.hi)/\(F.ad s.lo s.hi v.1 v.2).e=0
 | s,v,w :: l=>((s.lo=s.lo/\s.hi=s.hi)/\(F.ad s.lo s.hi v.1 v.2).e=0)/\akW (F.ad s.lo s.hi v.1 v.2) w l
def akO (n:Nat):List (Int×Int)->Sp
 | []=>⟨0,0,0⟩
 | v :: l=>F.sc (akS F ⟨v.1,v.2,0⟩ l).lo (akS F ⟨v.1,v.2,0⟩ l).hi 1 (n:Int)
def akC (n:Nat):List (Int×Int)->Prop
 | []=>True
 | v :: l=>match l with
  | []=>(akO F n [v]).e=0
  | w :: l=>akW F ⟨v.1,v.2,0⟩ w l/\(akO F n (v :: w :: l)).e=0
def akR:List (Int×Int)->List (Int×Int)->Prop
 | v :: l,w :: k=>match l,k with
  | [],[]=>F.ok v.1 v.2=true/\F.ok w.1 w.2=true
  | l,k=>(F.ok v.1 v.2=true/\F.ok w.1 w.2=true)/\akR l k
 | _,_=>True
def akP (n:Nat) (l k:List (Int×Int)):Prop:=akR F l k/\(akC F n l/\akC F n k/\(akO F n l).lo=(akO F n l).lo/\(akO F n l).hi=(akO F n l).hi)/\(akO F n k).lo=(akO F n k).lo/\(akO F n k).hi=(akO F n k).hi
def vAt:Nat->List Int->List Nu->Option (Prop×AV):=fun n ys xs=>match xs with
 | [.n f,.t b]=>match Nat.ble n 8&&(Nat.blt 0 n&&Nat.beq ys.length (4*n)) with
  | true=>some (atP F n f (aG b ys),.agg [.int true .i64 (atO F n f (aG b ys)).lo,.int true .i64 (atO F n f (aG b ys)).hi])
  | false=>none
 | _=>none
def vAk:Nat->List Int->List Nu->Option (Prop×AV):=fun n ys xs=>match xs with
 | []=>match Nat.ble n 8&&(Nat.blt 0 n&&Nat.beq ys.length (4*n)) with
  | true=>some (akP F n (aG true ys) (aG false ys),.int false .i64 0)
  | false=>none
 | _=>none
end
theorem aeI (F:MtF) (a0 b0 c0 d0 f:Int):dK 5 1 ((run (cAt F) 6000).call 17 [.gslice 4 0 1 4,.int true .i64 f,.bool false true] (hG.push0 (.grown (bO .i64 [a0,b0,c0,d0]))))=some (.p (atP F 1 f (aG true [a0,b0,c0,d0])),.agg [.int true .i64 (atO F 1 f (aG true [a0,b0,c0,d0])).lo,.int true .i64 (atO F 1 f (aG true [a0,b0,c0,d0])).hi]):=by kernel_rfl
theorem aeJ (F:MtF) (a0 b0 c0 d0 f:Int):dK 5 1 ((run (cAt F) 6000).call 17 [.gslice 4 0 1 4,.int true .i64 f,.bool false false] (hG.push0 (.grown (bO .i64 [a0,b0,c0,d0]))))=some (.p (atP F 1 f (aG false [a0,b0,c0,d0])),.agg [.int true .i64 (atO F 1 f (aG false [a0,b0,c0,d0])).lo,.int true .i64 (atO F 1 f (aG false [a0,b0,c0,d0])).hi]):=by kernel_rfl
theorem ak1 (F:MtF) (a0 b0 c0 d0:Int):dK 5 1 ((run (cAt F) 6000).call 14 [.gslice 4 0 1 4] (hG.push0 (.grown (bO .i64 [a0,b0,c0,d0]))))=some (.p (akP F 1 (aG true [a0,b0,c0,d0]) (aG false [a0,b0,c0,d0])),.int false .i64 0):=by kernel_rfl
theorem aeK (F:MtF) (a0 b0 c0 d0 a1 b1 c1 d1 f:Int):dK 5 1 ((run (cAt F) 6000).call 17 [.gslice 4 0 2 4,.int true .i64 f,.bool false true] (hG.push0 (.grown (bO .i64 [a0,b0,c0,d0,a1,b1,c1,d1]))))=some (.p (atP F 2 f (aG true [a0,b0,c0,d0,a1,b1,c1,d1])),.agg [.int true .i64 (atO F 2 f (aG true [a0,b0,c0,d0,a1,b1,c1,d1])).lo,.int true .i64 (atO F 2 f (aG true [a0,b0,c0,d0,a1,b1,c1,d1])).hi]):=by kernel_rfl
theorem aeL (F:MtF) (a0 b0 c0 d0 a1 b1 c1 d1 f:Int):dK 5 1 ((run (cAt F) 6000).call 17 [.gslice 4 0 2 4,.int true .i64 f,.bool false false] (hG.push0 (.grown (bO .i64 [a0,b0,c0,d0,a1,b1,c1,d1]))))=some (.p (atP F 2 f (aG false [a0,b0,c0,d0,a1,b1,c1,d1])),.agg [.int true .i64 (atO F 2 f (aG false [a0,b0,c0,d0,a1,b1,c1,d1])).lo,.int true .i64 (atO F 2 f (aG false [a0,b0,c0,d0,a1,b1,c1,d1])).hi]):=by kernel_rfl
theorem ak2 (F:MtF) (a0 b0 c0 d0 a1 b1 c1 d1:Int):dK 5 1 ((run (cAt F) 6000).call 14 [.gslice 4 0 2 4] (hG.push0 (.grown (bO .i64 [a0,b0,c0,d0,a1,b1,c1,d1]))))=some (.p (akP F 2 (aG true [a0,b0,c0,d0,a1,b1,c1,d1]) (aG false [a0,b0,c0,d0,a1,b1,c1,d1])),.int false .i64 0):=by kernel_rfl
theorem aeM (F:MtF) (a0 b0 c0 d0 a1 b1 c1 d1 a2 b2 c2 d2 f:Int):dK 5 1 ((run (cAt F) 6000).call 17 [.gslice 4 0 3 4,.int true .i64 f,.bool false true] (hG.push0 (.grown (bO .i64 [a0,b0,c0,d0,a1,b1,c1,d1,a2,b2,c2,d2]))))=some (.p (atP F 3 f (aG true [a0,b0,c0,d0,a1,b1,c1,d1,a2,b2,c2,d2])),.agg [.int true .i64 (atO F 3 f (aG true [a0,b0,c0,d0,a1,b1,c1,d1,a2,b2,c2,d2])).lo,.int true .i64 (atO F 3 f (aG true [a0,b0,c0,d0,a1,b1,c1,d1,a2,b2,c2,d2])).hi]):=by kernel_rfl
theorem aeN (F:MtF) (a0 b0 c0 d0 a1 b1 c1 d1 a2 b2 c2 d2 f:Int):dK 5 1 ((run (cAt F) 6000).call 17 [.gslice 4 0 3 4,.int true .i64 f,.bool false false] (hG.push0 (.grown (bO .i64 [a0,b0,c0,d0,a1,b1,c1,d1,a2,b2,c2,d2]))))=some (.p (atP F 3 f (aG false [a0,b0,c0,d0,a1,b1,c1,d1,a2,b2,c2,d2])),.agg [.int true .i64 (atO F 3 f (aG false [a0,b0,c0,d0,a1,b1,c1,d1,a2,b2,c2,d2])).lo,.int true .i64 (atO F 3 f (aG false [a0,b0,c0,d0,a1,b1,c1,d1,a2,b2,c2,d2])).hi]):=by kernel_rfl
theorem ak3 (F:MtF) (a0 b0 c0 d0 a1 b1 c1 d1 a2 b2 c2 d2:Int):dK 5 1 ((run (cAt F) 6000).call 14 [.gslice 4 0 3 4] (hG.push0 (.grown (bO .i64 [a0,b0,c0,d0,a1,b1,c1,d1,a2,b2,c2,d2]))))=some (.p (akP F 3 (aG true [a0,b0,c0,d0,a1,b1,c1,d1,a2,b2,c2,d2]) (aG false [a0,b0,c0,d0,a1,b1,c1,d1,a2,b2,c2,d2])),.int false .i64 0):=by kernel_rfl
theorem aeO (F:MtF) (a0 b0 c0 d0 a1 b1 c1 d1 a2 b2 c2 d2 a3 b3 c3 d3 f:Int):dK 5 1 ((run (cAt F) 6000).call 17 [.gslice 4 0 4 4,.int true .i64 f,.bool false true] (hG.push0 (.grown (bO .i64 [a0,b0,c0,d0,a1,b1,c1,d1,a2,b2,c2,d2,a3,b3,c3,d3]))))=some (.p (atP F 4 f (aG true [a0,b0,c0,d0,a1,b1,c1,d1,a2,b2,c2,d2,a3,b3,c3,d3])),.agg [.int true .i64 (atO F 4 f (aG true [a0,b0,c0,d0,a1,b1,c1,d1,a2,b2,c2,d2,a3,b3,c3,d3])).lo,.int true .i64 (atO F 4 f (aG true [a0,b0,c0,d0,a1,b1,c1,d1,a2,b2,c2,d2,a3,b3,c3,d3])).hi]):=by kernel_rfl
theorem aeP (F:MtF) (a0 b0 c0 d0 a1 b1 c1 d1 a2 b2 c2 d2 a3 b3 c3 d3 f:Int):dK 5 1 ((run (cAt F) 6000).call 17 [.gslice 4 0 4 4,.int true .i64 f,.bool false false] (hG.push0 (.grown (bO .i64 [a0,b0,c0,d0,a1,b1,c1,d1,a2,b2,c2,d2,a3,b3,c3,d3]))))=some (.p (atP F 4 f (aG false [a0,b0,c0,d0,a1,b1,c1,d1,a2,b2,c2,d2,a3,b3,c3,d3])),.agg [.int true .i64 (atO F 4 f (aG false [a0,b0,c0,d0,a1,b1,c1,d1,a2,b2,c2,d2,a3,b3,c3,d3])).lo,.int true .i64 (atO F 4 f (aG false [a0,b0,c0,d0,a1,b1,c1,d1,a2,b2,c2,d2,a3,b3,c3,d3])).hi]):=by kernel_rfl
theorem ak4 (F:MtF) (a0 b0 c0 d0 a1 b1 c1 d1 a2 b2 c2 d2 a3 b3 c3 d3:Int):dK 5 1 ((run (cAt F) 6000).call 14 [.gslice 4 0 4 4] (hG.push0 (.grown (bO .i64 [a0,b0,c0,d0,a1,b1,c1,d1,a2,b2,c2,d2,a3,b3,c3,d3]))))=some (.p (akP F 4 (aG true [a0,b0,c0,d0,a1,b1,c1,d1,a2,b2,c2,d2,a3,b3,c3,d3]) (aG false [a0,b0,c0,d0,a1,b1,c1,d1,a2,b2,c2,d2,a3,b3,c3,d3])),.int false .i64 0):=by kernel_rfl
theorem aeQ (F:MtF) (a0 b0 c0 d0 a1 b1 c1 d1 a2 b2 c2 d2 a3 b3 c3 d3 a4 b4 c4 d4 f:Int):dK 5 1 ((run (cAt F) 6000).call 17 [.gslice 4 0 5 4,.int true .i64 f,.bool false true] (hG.push0 (.grown (bO .i64 [a0,b0,c0,d0,a1,b1,c1,d1,a2,b2,c2,d2,a3,b3,c3,d3,a4,b4,c4,d4]))))=some (.p (atP F 5 f (aG true [a0,b0,c0,d0,a1,b1,c1,d1,a2,b2,c2,d2,a3,b3,c3,d3,a4,b4,c4,d4])),.agg [.int true .i64 (atO F 5 f (aG true [a0,b0,c0,d0,a1,b1,c1,d1,a2,b2,c2,d2,a3,b3,c3,d3,a4,b4,c4,d4])).lo,.int true .i64 (atO F 5 f (aG true [a0,b0,c0,d0,a1,b1,c1,d1,a2,b2,c2,d2,a3,b3,c3,d3,a4,b4,c4,d4])).hi]):=by kernel_rfl
theorem aeR (F:MtF) (a0 b0 c0 d0 a1 b1 c1 d1 a2 b2 c2 d2 a3 b3 c3 d3 a4 b4 c4 d4 f:Int):dK 5 1 ((run (cAt F) 6000).call 17 [.gslice 4 0 5 4,.int true .i64 f,.bool false false] (hG.push0 (.grown (bO .i64 [a0,b0,c0,d0,a1,b1,c1,d1,a2,b2,c2,d2,a3,b3,c3,d3,a4,b4,c4,d4]))))=some (.p (atP F 5 f (aG false [a0,b0,c0,d0,a1,b1,c1,d1,a2,b2,c2,d2,a3,b3,c3,d3,a4,b4,c4,d4])),.agg [.int true .i64 (atO F 5 f (aG false [a0,b0,c0,d0,a1,b1,c1,d1,a2,b2,c2,d2,a3,b3,c3,d3,a4,b4,c4,d4])).lo,.int true .i64 (atO F 5 f (aG false [a0,b0,c0,d0,a1,b1,c1,d1,a2,b2,c2,d2,a3,b3,c3,d3,a4,b4,c4,d4])).hi]):=by kernel_rfl
theorem ak5 (F:MtF) (a0 b0 c0 d0 a1 b1 c1 d1 a2 b2 c2 d2 a3 b3 c3 d3 a4 b4 c4 d4:Int):dK 5 1 ((run (cAt F) 6000).call 14 [.gslice 4 0 5 4] (hG.push0 (.grown (bO .i64 [a0,b0,c0,d0,a1,b1,c1,d1,a2,b2,c2,d2,a3,b3,c3,d3,a4,b4,c4,d4]))))=some (.p (akP F 5 (aG true [a0,b0,c0,d0,a1,b1,c1,d1,a2,b2,c2,d2,a3,b3,c3,d3,a4,b4,c4,d4]) (aG false [a0,b0,c0,d0,a1,b1,c1,d1,a2,b2,c2,d2,a3,b3,c3,d3,a4,b4,c4,d4])),.int false .i64 0):=by kernel_rfl
theorem aeS (F:MtF) (a0 b0 c0 d0 a1 b1 c1 d1 a2 b2 c2 d2 a3 b3 c3 d3 a4 b4 c4 d4 a5 b5 c5 d5 f:Int):dK 5 1 ((run (cAt F) 6000).call 17 [.gslice 4 0 6 4,.int true .i64 f,.bool false true] (hG.push0 (.grown (bO .i64 [a0,b0,c0,d0,a1,b1,c1,d1,a2,b2,c2,d2,a3,b3,c3,d3,a4,b4,c4,d4,a5,b5,c5,d5]))))=some (.p (atP F 6 f (aG true [a0,b0,c0,d0,a1,b1,c1,d1,a2,b2,c2,d2,a3,b3,c3,d3,a4,b4,c4,d4,a5,b5,c5,d5])),.agg [.int true .i64 (atO F 6 f (aG true [a0,b0,c0,d0,a1,b1,c1,d1,a2,b2,c2,d2,a3,b3,c3,d3,a4,b4,c4,d4,a5,b5,c5,d5])).lo,.int true .i64 (atO F 6 f (aG true [a0,b0,c0,d0,a1,b1,c1,d1,a2,b2,c2,d2,a3,b3,c3,d3,a4,b4,c4,d4,a5,b5,c5,d5])).hi]):=by kernel_rfl
theorem aeT (F:MtF) (a0 b0 c0 d0 a1 b1 c1 d1 a2 b2 c2 d2 a3 b3 c3 d3 a4 b4 c4 d4 a5 b5 c5 d5 f:Int):dK 5 1 ((run (cAt F) 6000).call 17 [.gslice 4 0 6 4,.int true .i64 f,.bool false false] (hG.push0 (.grown (bO .i64 [a0,b0,c0,d0,a1,b1,c1,d1,a2,b2,c2,d2,a3,b3,c3,d3,a4,b4,c4,d4,a5,b5,c5,d5]))))=some (.p (atP F 6 f (aG false [a0,b0,c0,d0,a1,b1,c1,d1,a2,b2,c2,d2,a3,b3,c3,d3,a4,b4,c4,d4,a5,b5,c5,d5])),.agg [.int true .i64 (atO F 6 f (aG false [a0,b0,c0,d0,a1,b1,c1,d1,a2,b2,c2,d2,a3,b3,c3,d3,a4,b4,c4,d4,a5,b5,c5,d5])).lo,.int true .i64 (atO F 6 f (aG false [a0,b0,c0,d0,a1,b1,c1,d1,a2,b2,c2,d2,a3,b3,c3,d3,a4,b4,c4,d4,a5,b5,c5,d5])).hi]):=by kernel_rfl
theorem ak6 (F:MtF) (a0 b0 c0 d0 a1 b1 c1 d1 a2 b2 c2 d2 a3 b3 c3 d3 a4 b4 c4 d4 a5 b5 c5 d5:Int):dK 5 1 ((run (cAt F) 6000).call 14 [.gslice 4 0 6 4] (hG.push0 (.grown (bO .i64 [a0,b0,c0,d0,a1,b1,c1,d1,a2,b2,c2,d2,a3,b3,c3,d3,a4,b4,c4,d4,a5,b5,c5,d5]))))=some (.p (akP F 6 (aG true [a0,b0,c0,d0,a1,b1,c1,d1,a2,b2,c2,d2,a3,b3,c3,d3,a4,b4,c4,d4,a5,b5,c5,d5]) (aG false [a0,b0,c0,d0,a1,b1,c1,d1,a2,b2,c2,d2,a3,b3,c3,d3,a4,b4,c4,d4,a5,b5,c5,d5])),.int false .i64 0):=by kernel_rfl
theorem aeU (F:MtF) (a0 b0 c0 d0 a1 b1 c1 d1 a2 b2 c2 d2 a3 b3 c3 d3 a4 b4 c4 d4 a5 b5 c5 d5 a6 b6 c6 d6 f:Int):dK 5 1 ((run (cAt F) 6000).call 17 [.gslice 4 0 7 4,.int true .i64 f,.bool false true] (hG.push0 (.grown (bO .i64 [a0,b0,c0,d0,a1,b1,c1,d1,a2,b2,c2,d2,a3,b3,c3,d3,a4,b4,c4,d4,a5,b5,c5,d5,a6,b6,c6,d6]))))=some (.p (atP F 7 f (aG true [a0,b0,c0,d0,a1,b1,c1,d1,a2,b2,c2,d2,a3,b3,c3,d3,a4,b4,c4,d4,a5,b5,c5,d5,a6,b6,c6,d6])),.agg [.int true .i64 (atO F 7 f (aG true [a0,b0,c0,d0,a1,b1,c1,d1,a2,b2,c2,d2,a3,b3,c3,d3,a4,b4,c4,d4,a5,b5,c5,d5,a6,b6,c6,d6])).lo,.int true .i64 (atO F 7 f (aG true [a0,b0,c0,d0,a1,b1,c1,d1,a2,b2,c2,d2,a3,b3,c3,d3,a4,b4,c4,d4,a5,b5,c5,d5,a6,b6,c6,d6])).hi]):=by kernel_rfl
theorem aeV (F:MtF) (a0 b0 c0 d0 a1 b1 c1 d1 a2 b2 c2 d2 a3 b3 c3 d3 a4 b4 c4 d4 a5 b5 c5 d5 a6 b6 c6 d6 f:Int):dK 5 1 ((run (cAt F) 6000).call 17 [.gslice 4 0 7 4,.int true .i64 f,.bool false false] (hG.push0 (.grown (bO .i64 [a0,b0,c0,d0,a1,b1,c1,d1,a2,b2,c2,d2,a3,b3,c3,d3,a4,b4,c4,d4,a5,b5,c5,d5,a6,b6,c6,d6]))))=some (.p (atP F 7 f (aG false [a0,b0,c0,d0,a1,b1,c1,d1,a2,b2,c2,d2,a3,b3,c3,d3,a4,b4,c4,d4,a5,b5,c5,d5,a6,b6,c6,d6])),.agg [.int true .i64 (atO F 7 f (aG false [a0,b0,c0,d0,a1,b1,c1,d1,a2,b2,c2,d2,a3,b3,c3,d3,a4,b4,c4,d4,a5,b5,c5,d5,a6,b6,c6,d6])).lo,.int true .i64 (atO F 7 f (aG false [a0,b0,c0,d0,a1,b1,c1,d1,a2,b2,c2,d2,a3,b3,c3,d3,a4,b4,c4,d4,a5,b5,c5,d5,a6,b6,c6,d6])).hi]):=by kernel_rfl
theorem ak7 (F:MtF) (a0 b0 c0 d0 a1 b1 c1 d1 a2 b2 c2 d2 a3 b3 c3 d3 a4 b4 c4 d4 a5 b5 c5 d5 a6 b6 c6 d6:Int):dK 5 1 ((run (cAt F) 6000).call 14 [.gslice 4 0 7 4] (hG.push0 (.grown (bO .i64 [a0,b0,c0,d0,a1,b1,c1,d1,a2,b2,c2,d2,a3,b3,c3,d3,a4,b4,c4,d4,a5,b5,c5,d5,a6,b6,c6,d6]))))=some (.p (akP F 7 (aG true [a0,b0,c0,d0,a1,b1,c1,d1,a2,b2,c2,d2,a3,b3,c3,d3,a4,b4,c4,d4,a5,b5,c5,d5,a6,b6,c6,d6]) (aG false [a0,b0,c0,d0,a1,b1,c1,d1,a2,b2,c2,d2,a3,b3,c3,d3,a4,b4,c4,d4,a5,b5,c5,d5,a6,b6,c6,d6])),.int false .i64 0):=by kernel_rfl
theorem aeW (F:MtF) (a0 b0 c0 d0 a1 b1 c1 d1 a2 b2 c2 d2 a3 b3 c3 d3 a4 b4 c4 d4 a5 b5 c5 d5 a6 b6 c6 d6 a7 b7 c7 d7 f:Int):dK 5 1 ((run (cAt F) 6000).call 17 [.gslice 4 0 8 4,.int true .i64 f,.bool false true] (hG.push0 (.grown (bO .i64 [a0,b0,c0,d0,a1,b1,c1,d1,a2,b2,c2,d2,a3,b3,c3,d3,a4,b4,c4,d4,a5,b5,c5,d5,a6,b6,c6,d6,a7,b7,c7,d7]))))=some (.p (atP F 8 f (aG true [a0,b0,c0,d0,a1,b1,c1,d1,a2,b2,c2,d2,a3,b3,c3,d3,a4,b4,c4,d4,a5,b5,c5,d5,a6,b6,c6,d6,a7,b7,c7,d7])),.agg [.int true .i64 (atO F 8 f (aG true [a0,b0,c0,d0,a1,b1,c1,d1,a2,b2,c2,d2,a3,b3,c3,d3,a4,b4,c4,d4,a5,b5,c5,d5,a6,b6,c6,d6,a7,b7,c7,d7])).lo,.int true .i64 (atO F 8 f (aG true [a0,b0,c0,d0,a1,b1,c1,d1,a2,b2,c2,d2,a3,b3,c3,d3,a4,b4,c4,d4,a5,b5,c5,d5,a6,b6,c6,d6,a7,b7,c7,d7])).hi]):=by kernel_rfl
theorem aeX (F:MtF) (a0 b0 c0 d0 a1 b1 c1 d1 a2 b2 c2 d2 a3 b3 c3 d3 a4 b4 c4 d4 a5 b5 c5 d5 a6 b6 c6 d6 a7 b7 c7 d7 f:Int):dK 5 1 ((run (cAt F) 6000).call 17 [.gslice 4 0 8 4,.int true .i64 f,.bool false false] (hG.push0 (.grown (bO .i64 [a0,b0,c0,d0,a1,b1,c1,d1,a2,b2,c2,d2,a3,b3,c3,d3,a4,b4,c4,d4,a5,b5,c5,d5,a6,b6,c6,d6,a7,b7,c7,d7]))))=some (.p (atP F 8 f (aG false [a0,b0,c0,d0,a1,b1,c1,d1,a2,b2,c2,d2,a3,b3,c3,d3,a4,b4,c4,d4,a5,b5,c5,d5,a6,b6,c6,d6,a7,b7,c7,d7])),.agg [.int true .i64 (atO F 8 f (aG false [a0,b0,c0,d0,a1,b1,c1,d1,a2,b2,c2,d2,a3,b3,c3,d3,a4,b4,c4,d4,a5,b5,c5,d5,a6,b6,c6,d6,a7,b7,c7,d7])).lo,.int true .i64 (atO F 8 f (aG false [a0,b0,c0,d0,a1,b1,c1,d1,a2,b2,c2,d2,a3,b3,c3,d3,a4,b4,c4,d4,a5,b5,c5,d5,a6,b6,c6,d6,a7,b7,c7,d7])).hi]):=by kernel_rfl
theorem ak8 (F:MtF) (a0 b0 c0 d0 a1 b1 c1 d1 a2 b2 c2 d2 a3 b3 c3 d3 a4 b4 c4 d4 a5 b5 c5 d5 a6 b6 c6 d6 a7 b7 c7 d7:Int):dK 5 1 ((run (cAt F) 6000).call 14 [.gslice 4 0 8 4] (hG.push0 (.grown (bO .i64 [a0,b0,c0,d0,a1,b1,c1,d1,a2,b2,c2,d2,a3,b3,c3,d3,a4,b4,c4,d4,a5,b5,c5,d5,a6,b6,c6,d6,a7,b7,c7,d7]))))=some (.p (akP F 8 (aG true [a0,b0,c0,d0,a1,b1,c1,d1,a2,b2,c2,d2,a3,b3,c3,d3,a4,b4,c4,d4,a5,b5,c5,d5,a6,b6,c6,d6,a7,b7,c7,d7]) (aG false [a0,b0,c0,d0,a1,b1,c1,d1,a2,b2,c2,d2,a3,b3,c3,d3,a4,b4,c4,d4,a5,b5,c5,d5,a6,b6,c6,d6,a7,b7,c7,d7])),.int false .i64 0):=by kernel_rfl
theorem Sq {n:Nat} (h:n<=8):n=0\/n=1\/n=2\/n=3\/n=4\/n=5\/n=6\/n=7\/n=8:=by omega
def sAt (F:MtF):fO:=GN hG .i64 4 [.i .i64,.b] (vAt F)
def sAk (F:MtF):fO:=GN hG .i64 4 [] (vAk F)
theorem adC:NOk Tryd.prog glob hG 17 (sAt mtF):=by
 refine zW Kr uH xA (fun n ys xs p v hV hp=>?_) ⟨_,Tryd.func17,rfl⟩
 unfold vAt at hV
 split at hV
 .rename_i f b
  split at hV
  .rename_i hb
   simp only [Bool.and_eq_true] at hb
   have h8:=Nat.le_of_ble_eq_true hb.1
   have hl:=Nat.eq_of_beq_eq_true hb.2.2
   cases hV
   rcases Sq h8 with rfl|rfl|rfl|rfl|rfl|rfl|rfl|rfl|rfl
   .cases hb.2.1
   .match ys,hl with
    | [a0,b0,c0,d0],_=>cases b with
     | true=>exact ⟨rfl,cAt mtF,6000,[.int true .i64 f,.bool false true],_,_,bZ,rfl,rfl,⟨⟨rfl,rfl⟩,rfl,trivial⟩,aeI mtF a0 b0 c0 d0 f,hp,rfl,⟨⟨rfl,rfl⟩,⟨rfl,rfl⟩,trivial⟩⟩
     | false=>exact ⟨rfl,cAt mtF,6000,[.int true .i64 f,.bool false false],_,_,bZ,rfl,rfl,⟨⟨rfl,rfl⟩,rfl,trivial⟩,aeJ mtF a0 b0 c0 d0 f,hp,rfl,⟨⟨rfl,rfl⟩,⟨rfl,rfl⟩,trivial⟩⟩
   .match ys,hl with
    | [a0,b0,c0,d0,a1,b1,c1,d1],_=>cases b with
     | true=>exact ⟨rfl,cAt mtF,6000,[.int true .i64 f,.bool false true],_,_,bZ,rfl,rfl,⟨⟨rfl,rfl⟩,rfl,trivial⟩,aeK mtF a0 b0 c0 d0 a1 b1 c1 d1 f,hp,rfl,⟨⟨rfl,rfl⟩,⟨rfl,rfl⟩,trivial⟩⟩
     | false=>exact ⟨rfl,cAt mtF,6000,[.int true .i64 f,.bool false false],_,_,bZ,rfl,rfl,⟨⟨rfl,rfl⟩,rfl,trivial⟩,aeL mtF a0 b0 c0 d0 a1 b1 c1 d1 f,hp,rfl,⟨⟨rfl,rfl⟩,⟨rfl,rfl⟩,trivial⟩⟩
   .match ys,hl with
    | [a0,b0,c0,d0,a1,b1,c1,d1,a2,b2,c2,d2],_=>cases b with
     | true=>exact ⟨rfl,cAt mtF,6000,[.int true .i64 f,.bool false true],_,_,bZ,rfl,rfl,⟨⟨rfl,rfl⟩,rfl,trivial⟩,aeM mtF a0 b0 c0 d0 a1 b1 c1 d1 a2 b2 c2 d2 f,hp,rfl,⟨⟨rfl,rfl⟩,⟨rfl,rfl⟩,trivial⟩⟩
     | false=>exact ⟨rfl,cAt mtF,6000,[.int true .i64 f,.bool false false],_,_,bZ,rfl,rfl,⟨⟨rfl,rfl⟩,rfl,trivial⟩,aeN mtF a0 b0 c0 d0 a1 b1 c1 d1 a2 b2 c2 d2 f,hp,rfl,⟨⟨rfl,rfl⟩,⟨rfl,rfl⟩,trivial⟩⟩
   .match ys,hl with
    | [a0,b0,c0,d0,a1,b1,c1,d1,a2,b2,c2,d2,a3,b3,c3,d3],_=>cases b with
     | true=>exact ⟨rfl,cAt mtF,6000,[.int true .i64 f,.bool false true],_,_,bZ,rfl,rfl,⟨⟨rfl,rfl⟩,rfl,trivial⟩,aeO mtF a0 b0 c0 d0 a1 b1 c1 d1 a2 b2 c2 d2 a3 b3 c3 d3 f,hp,rfl,⟨⟨rfl,rfl⟩,⟨rfl,rfl⟩,trivial⟩⟩
     | false=>exact ⟨rfl,cAt mtF,6000,[.int true .i64 f,.bool false false],_,_,bZ,rfl,rfl,⟨⟨rfl,rfl⟩,rfl,trivial⟩,aeP mtF a0 b0 c0 d0 a1 b1 c1 d1 a2 b2 c2 d2 a3 b3 c3 d3 f,hp,rfl,⟨⟨rfl,rfl⟩,⟨rfl,rfl⟩,trivial⟩⟩
   .match ys,hl with
    | [a0,b0,c0,d0,a1,b1,c1,d1,a2,b2,c2,d2,a3,b3,c3,d3,a4,b4,c4,d4],_=>cases b with
     | true=>exact ⟨rfl,cAt mtF,6000,[.int true .i64 f,.bool false true],_,_,bZ,rfl,rfl,⟨⟨rfl,rfl⟩,rfl,trivial⟩,aeQ mtF a0 b0 c0 d0 a1 b1 c1 d1 a2 b2 c2 d2 a3 b3 c3 d3 a4 b4 c4 d4 f,hp,rfl,⟨⟨rfl,rfl⟩,⟨rfl,rfl⟩,trivial⟩⟩
     | false=>exact ⟨rfl,cAt mtF,6000,[.int true .i64 f,.bool false false],_,_,bZ,rfl,rfl,⟨⟨rfl,rfl⟩,rfl,trivial⟩,aeR mtF a0 b0 c0 d0 a1 b1 c1 d1 a2 b2 c2 d2 a3 b3 c3 d3 a4 b4 c4 d4 f,hp,rfl,⟨⟨rfl,rfl⟩,⟨rfl,rfl⟩,trivial⟩⟩
   .match ys,hl with
    | [a0,b0,c0,d0,a1,b1,c1,d1,a2,b2,c2,d2,a3,b3,c3,d3,a4,b4,c4,d4,a5,b5,c5,d5],_=>cases b with
     | true=>exact ⟨rfl,cAt mtF,6000,[.int true .i64 f,.bool false true],_,_,bZ,rfl,rfl,⟨⟨rfl,rfl⟩,rfl,trivial⟩,aeS mtF a0 b0 c0 d0 a1 b1 c1 d1 a2 b2 c2 d2 a3 b3 c3 d3 a4 b4 c4 d4 a5 b5 c5 d5 f,hp,rfl,⟨⟨rfl,rfl⟩,⟨rfl,rfl⟩,trivial⟩⟩
     | false=>exact ⟨rfl,cAt mtF,6000,[.int true .i64 f,.bool false false],_,_,bZ,rfl,rfl,⟨⟨rfl,rfl⟩,rfl,trivial⟩,aeT mtF a0 b0 c0 d0 a1 b1 c1 d1 a2 b2 c2 d2 a3 b3 c3 d3 a4 b4 c4 d4 a5 b5 c5 d5 f,hp,rfl,⟨⟨rfl,rfl⟩,⟨rfl,rfl⟩,trivial⟩⟩
   .match ys,hl with
    | [a0,b0,c0,d0,a1,b1,c1,d1,a2,b2,c2,d2,a3,b3,c3,d3,a4,b4,c4,d4,a5,b5,c5,d5,a6,b6,c6,d6],_=>cases b with
     | true=>exact ⟨rfl,cAt mtF,6000,[.int true .i64 f,.bool false true],_,_,bZ,rfl,rfl,⟨⟨rfl,rfl⟩,rfl,trivial⟩,aeU mtF a0 b0 c0 d0 a1 b1 c1 d1 a2 b2 c2 d2 a3 b3 c3 d3 a4 b4 c4 d4 a5 b5 c5 d5 a6 b6 c6 d6 f,hp,rfl,⟨⟨rfl,rfl⟩,⟨rfl,rfl⟩,trivial⟩⟩
     | false=>exact ⟨rfl,cAt mtF,6000,[.int true .i64 f,.bool false false],_,_,bZ,rfl,rfl,⟨⟨rfl,rfl⟩,rfl,trivial⟩,aeV mtF a0 b0 c0 d0 a1 b1 c1 d1 a2 b2 c2 d2 a3 b3 c3 d3 a4 b4 c4 d4 a5 b5 c5 d5 a6 b6 c6 d6 f,hp,rfl,⟨⟨rfl,rfl⟩,⟨rfl,rfl⟩,trivial⟩⟩
   .match ys,hl with
    | [a0,b0,c0,d0,a1,b1,c1,d1,a2,b2,c2,d2,a3,b3,c3,d3,a4,b4,c4,d4,a5,b5,c5,d5,a6,b6,c6,d6,a7,b7,c7,d7],_=>cases b with
     | true=>exact ⟨rfl,cAt mtF,6000,[.int true .i64 f,.bool false true],_,_,bZ,rfl,rfl,⟨⟨rfl,rfl⟩,rfl,trivial⟩,aeW mtF a0 b0 c0 d0 a1 b1 c1 d1 a2 b2 c2 d2 a3 b3 c3 d3 a4 b4 c4 d4 a5 b5 c5 d5 a6 b6 c6 d6 a7 b7 c7 d7 f,hp,rfl,⟨⟨rfl,rfl⟩,⟨rfl,rfl⟩,trivial⟩⟩
     | false=>exact ⟨rfl,cAt mtF,6000,[.int true .i64 f,.bool false false],_,_,bZ,rfl,rfl,⟨⟨rfl,rfl⟩,rfl,trivial⟩,aeX mtF a0 b0 c0 d0 a1 b1 c1 d1 a2 b2 c2 d2 a3 b3 c3 d3 a4 b4 c4 d4 a5 b5 c5 d5 a6 b6 c6 d6 a7 b7 c7 d7 f,hp,rfl,⟨⟨rfl,rfl⟩,⟨rfl,rfl⟩,trivial⟩⟩
  .cases hV
 .cases hV
theorem adD:NOk Tryd.prog glob hG 14 (sAk mtF):=by
 refine zW Kr uH xA (fun n ys xs p v hV hp=>?_) ⟨_,Tryd.func14,rfl⟩
 unfold vAk at hV
 split at hV
 .split at hV
  .rename_i hb
   simp only [Bool.and_eq_true] at hb
   have h8:=Nat.le_of_ble_eq_true hb.1
   have hl:=Nat.eq_of_beq_eq_true hb.2.2
   cases hV
   rcases Sq h8 with rfl|rfl|rfl|rfl|rfl|rfl|rfl|rfl|rfl
   .cases hb.2.1
   .match ys,hl with
    | [a0,b0,c0,d0],_=>exact ⟨rfl,cAt mtF,6000,[],_,_,bZ,rfl,rfl,trivial,ak1 mtF a0 b0 c0 d0,hp,rfl,⟨rfl,rfl⟩⟩
   .match ys,hl with
    | [a0,b0,c0,d0,a1,b1,c1,d1],_=>exact ⟨rfl,cAt mtF,6000,[],_,_,bZ,rfl,rfl,trivial,ak2 mtF a0 b0 c0 d0 a1 b1 c1 d1,hp,rfl,⟨rfl,rfl⟩⟩
   .match ys,hl with
    | [a0,b0,c0,d0,a1,b1,c1,d1,a2,b2,c2,d2],_=>exact ⟨rfl,cAt mtF,6000,[],_,_,bZ,rfl,rfl,trivial,ak3 mtF a0 b0 c0 d0 a1 b1 c1 d1 a2 b2 c2 d2,hp,rfl,⟨rfl,rfl⟩⟩
   .match ys,hl with
    | [a0,b0,c0,d0,a1,b1,c1,d1,a2,b2,c2,d2,a3,b3,c3,d3],_=>exact ⟨rfl,cAt mtF,6000,[],_,_,bZ,rfl,rfl,trivial,ak4 mtF a0 b0 c0 d0 a1 b1 c1 d1 a2 b2 c2 d2 a3 b3 c3 d3,hp,rfl,⟨rfl,rfl⟩⟩
   .match ys,hl with
    | [a0,b0,c0,d0,a1,b1,c1,d1,a2,b2,c2,d2,a3,b3,c3,d3,a4,b4,c4,d4],_=>exact ⟨rfl,cAt mtF,6000,[],_,_,bZ,rfl,rfl,trivial,ak5 mtF a0 b0 c0 d0 a1 b1 c1 d1 a2 b2 c2 d2 a3 b3 c3 d3 a4 b4 c4 d4,hp,rfl,⟨rfl,rfl⟩⟩
   .match ys,hl with
    | [a0,b0,c0,d0,a1,b1,c1,d1,a2,b2,c2,d2,a3,b3,c3,d3,a4,b4,c4,d4,a5,b5,c5,d5],_=>exact ⟨rfl,cAt mtF,6000,[],_,_,bZ,rfl,rfl,trivial,ak6 mtF a0 b0 c0 d0 a1 b1 c1 d1 a2 b2 c2 d2 a3 b3 c3 d3 a4 b4 c4 d4 a5 b5 c5 d5,hp,rfl,⟨rfl,rfl⟩⟩
   .match ys,hl with
    | [a0,b0,c0,d0,a1,b1,c1,d1,a2,b2,c2,d2,a3,b3,c3,d3,a4,b4,c4,d4,a5,b5,c5,d5,a6,b6,c6,d6],_=>exact ⟨rfl,cAt mtF,6000,[],_,_,bZ,rfl,rfl,trivial,ak7 mtF a0 b0 c0 d0 a1 b1 c1 d1 a2 b2 c2 d2 a3 b3 c3 d3 a4 b4 c4 d4 a5 b5 c5 d5 a6 b6 c6 d6,hp,rfl,⟨rfl,rfl⟩⟩
   .match ys,hl with
    | [a0,b0,c0,d0,a1,b1,c1,d1,a2,b2,c2,d2,a3,b3,c3,d3,a4,b4,c4,d4,a5,b5,c5,d5,a6,b6,c6,d6,a7,b7,c7,d7],_=>exact ⟨rfl,cAt mtF,6000,[],_,_,bZ,rfl,rfl,trivial,ak8 mtF a0 b0 c0 d0 a1 b1 c1 d1 a2 b2 c2 d2 a3 b3 c3 d3 a4 b4 c4 d4 a5 b5 c5 d5 a6 b6 c6 d6 a7 b7 c7 d7,hp,rfl,⟨rfl,rfl⟩⟩
  .cases hV
 .cases hV
end
end Go.Proofs.YtbiiiloimbjpaaaDoor.K
