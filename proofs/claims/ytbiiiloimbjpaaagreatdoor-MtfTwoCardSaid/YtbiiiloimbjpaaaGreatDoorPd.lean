/- What is proved: MtfTwo returns true, whatever the input (part 30). No conditions beyond those of the row. -/
import Derived.Test.YtbiiiloimbjpaaaGreatDoorPc
set_option linter.unusedVariables false
set_option linter.unusedSimpArgs false
set_option linter.unusedSectionVars false
namespace Go.Proofs.YtbiiiloimbjpaaaGreatDoor.K
open Go Go.Eng Go.Dg Go.Ar Go.Vc
noncomputable section
def twQ (f:Int):Int:=wr (2*(wr f).tmod 1001)
def anW (v:Int):Int:=(wr (v+v)).fdiv (2 ^ min (Int.toNat 1) IntKind.i64.bits)
def nP (f v:Int):Int:=mdW (wr (twQ f*mdW (anW v)))
def twK (f v w:Int):Int:=(wr (wr ((twQ f).tdiv 2)*wr (v - w))).tmod 4294967296
section
variable (F:TwF) (v w f:Int)
def twA (m:Int):Sp:=F.ad (F.lo m (nP f v) 4294967296) (F.hi m (nP f v) 4294967296) (F.lo m (nP f w) 4294967296) (F.hi m (nP f w) 4294967296)
def twS (m:Int):Sp:=F.sq (twA F v w f m).lo (twA F v w f m).hi
def anX:Sp:=F.ad (twS F v w f 1).lo (twS F v w f 1).hi (twS F v w f 0).lo (twS F v w f 0).hi
def twR:Sp:=F.rt (anX F v w f).lo (anX F v w f).hi
def twO:Sp:=F.sc (twR F v w f).lo (twR F v w f).hi 1 ((2:Nat):Int)
def twC:Sp:=F.sc (F.ad v v w w).lo (F.ad v v w w).hi 1 ((2:Nat):Int)
def twN:Prop:=(((F.ok v v=true/\F.ok w w=true)/\(((v=v/\v=v)/\(F.ad v v w w).e=0)/\(twC F v w).e=0)/\(twC F v w).lo=(twC F v w).lo/\(twC F v w).hi=(twC F v w).hi)/\((decide (twQ f<0)=true->true=false)/\(decide (twQ f<0)=false->decide (twQ f>2000)=false)) /\
 (((F.ok v v=true/\F.n 1 (nP f v) 4294967296=true)/\F.ok w w=true/\F.n 1 (nP f w) 4294967296=true/\(twA F v w f 1).e=0)/\(F.ok v v=true/\F.n 0 (nP f v) 4294967296=true)/\F.ok w w=true/\F.n 0 (nP f w) 4294967296=true/\(twA F v w f 0).e=0) /\
 ((twS F v w f 1).e=0/\((twA F v w f 0).lo=(twA F v w f 0).lo/\(twA F v w f 0).hi=(twA F v w f 0).hi)/\((twA F v w f 0).lo=(twA F v w f 0).lo/\(twA F v w f 0).hi=(twA F v w f 0).hi)/\(twS F v w f 0).e=0/\(anX F v w f).e=0)/\(twR F v w f).e=0/\(twO F v w f).e=0)/\F.nr 1 (twK f v w) 4294967296=true
def twH (c d:Int):Int:=bif decide (d<=0) then wr (0 - c) else bif decide (c<0) then (if d>wr (0 - c) then d else wr (0 - c)) else d
def twL (c d:Int):Int:=bif decide (d<=0) then wr (0 - d) else bif decide (c<0) then 0 else c
def twV:Bool:=bif decide ((twO F v w f).lo<=twH (F.lo 1 (twK f v w) 4294967296) (F.hi 1 (twK f v w) 4294967296)) then decide (twL (F.lo 1 (twK f v w) 4294967296) (F.hi 1 (twK f v w) 4294967296)<=(twO F v w f).hi) else false
end
theorem anY (F:TwF) (v w f:Int):Pb hG.size hG.clock ((run (cTw F) 3000).call 5 [.agg [.int true .i32 v,.int true .i32 w],.int true .u16 f] hG)=some (.p (twN F (wr v) (wr w) f),.bool true (twV F (wr v) (wr w) f)):=by kernel_rfl
end
end Go.Proofs.YtbiiiloimbjpaaaGreatDoor.K
