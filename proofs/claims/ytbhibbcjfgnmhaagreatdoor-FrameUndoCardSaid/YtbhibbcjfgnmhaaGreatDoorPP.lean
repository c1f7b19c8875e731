/- What is proved: FrameUndo returns true, whatever the input (part 16). No conditions beyond those of the row. -/
import Derived.Test.YtbhibbcjfgnmhaaGreatDoorPF
import Derived.Test.YtbhibbcjfgnmhaaGreatDoorPO
set_option linter.unusedVariables false
set_option linter.unusedSimpArgs false
set_option linter.unusedSectionVars false
namespace Go.Proofs.YtbhibbcjfgnmhaaGreatDoor.K
open Go Go.Eng Go.Dg Go.Ar Go.Vc Go.Sn
noncomputable section
def hs (p q n:Int):Bool:=bif decide (p<=n) then decide (n<=q) else false
def unV (U:Mat):Bool:=bif (!hs U.x.a U.x.b 4294967296)||(!!hs U.x.a U.x.b 4294967296)&&((!hs U.x.c U.x.d 0)||(!!hs U.x.c U.x.d 0)&&!hs U.x.e U.x.f 0)||(!!hs U.x.a U.x.b 4294967296)&&((!!hs U.x.c U.x.d 0)&&!!hs U.x.e U.x.f 0)&&((!hs U.y.a U.y.b 0)||(!!hs U.y.a U.y.b 0)&&((!hs U.y.c U.y.d 4294967296)||(!!hs U.y.c U.y.d 4294967296)&&!hs U.y.e U.y.f 0)||(!!hs U.y.a U.y.b 0)&&((!!hs U.y.c U.y.d 4294967296)&&!!hs U.y.e U.y.f 0)&&((!hs U.z.a U.z.b 0)||(!!hs U.z.a U.z.b 0)&&((!hs U.z.c U.z.d 0)||(!!hs U.z.c U.z.d 0)&&!hs U.z.e U.z.f 4294967296))) then false else true
def unA (a:Int):Int:=wr (a.tmod 90000001)
def unB (a:Int):Int:=wr (0 - wr (a.tmod 90000001))
def unN (F:UnF) (x k:Int) (g1 g2:Bool) (o1 o2:Int) (R Q:Mat):Prop:=(x.tmod 3=k/\x.tmod 3=k)/\(g1=false/\g2=false)/\(o1=0/\F.mo uM R=0)/\o2=0/\F.mo (F.mv uM R) Q=0
def unL (x a:Int):List AV:=[.int true .u8 x,.int true .i32 a]
theorem Wq (F:UnF) (x a:Int):uW hG.size hG.clock ((run (cUn F 0) 3000).call 3 (unL x a) hG)=some (.p (unN F x 0 (brG 0 0 0 (unA a) 0 0) (brG 0 0 0 (unB a) 0 0) (F.ro (unA a) 0 0) (F.ro (unB a) 0 0) (F.rv (unA a) 0 0) (F.rv (unB a) 0 0)),.bool true (unV (F.mv (F.mv uM (F.rv (unA a) 0 0)) (F.rv (unB a) 0 0)))):=by kernel_rfl
theorem Ws (F:UnF) (x a:Int):uW hG.size hG.clock ((run (cUn F 1) 3000).call 3 (unL x a) hG)=some (.p (unN F x 1 (brG 0 0 0 0 (unA a) 0) (brG 0 0 0 0 (unB a) 0) (F.ro 0 (unA a) 0) (F.ro 0 (unB a) 0) (F.rv 0 (unA a) 0) (F.rv 0 (unB a) 0)),.bool true (unV (F.mv (F.mv uM (F.rv 0 (unA a) 0)) (F.rv 0 (unB a) 0)))):=by kernel_rfl
theorem Wt (F:UnF) (x a:Int):uW hG.size hG.clock ((run (cUn F 2) 3000).call 3 (unL x a) hG)=some (.p (unN F x 2 (brG 0 0 0 0 0 (unA a)) (brG 0 0 0 0 0 (unB a)) (F.ro 0 0 (unA a)) (F.ro 0 0 (unB a)) (F.rv 0 0 (unA a)) (F.rv 0 0 (unB a))),.bool true (unV (F.mv (F.mv uM (F.rv 0 0 (unA a))) (F.rv 0 0 (unB a))))):=by kernel_rfl
end
end Go.Proofs.YtbhibbcjfgnmhaaGreatDoor.K
