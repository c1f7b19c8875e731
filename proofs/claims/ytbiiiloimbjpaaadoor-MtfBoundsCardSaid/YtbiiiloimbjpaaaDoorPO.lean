/- What is proved: MtfBounds returns true, whatever the input (part 15). No conditions beyond those of the row. -/
import Derived.Test.YtbiiiloimbjpaaaDoorPL
import Derived.Test.YtbiiiloimbjpaaaDoorPM
import Derived.Test.YtbiiiloimbjpaaaDoorPN
set_option linter.unusedVariables false
set_option linter.unusedSimpArgs false
set_option linter.unusedSectionVars false
namespace Go.Ln
open Go.Sn
theorem ab4:ak (dX*((0*65536:Nat):Rat)) 0 1461501637330902918203684832716283019655932542976 0:=by
 rw [show ((0*65536:Nat):Rat)=0 by decide +kernel,Rat.mul_zero]
 exact ⟨⟨by decide +kernel,by decide +kernel⟩,⟨by decide +kernel,by decide +kernel⟩⟩
theorem We:(∀ i,i<300->ae dX 0 0 (0+i))/\(false=true->ae dX 0 0 (0+300))/\(false=false->ak (dX*(((0+300)*65536:Nat):Rat)) 491723767112793555795498612041774758507992057067 1376297487019907789050452753447037442090982847263 133958303):=
 ag qw.1 qw.2 Gm (xb:=0) (xj:=0) (b:=0) (n:=300) (by decide) (by decide +kernel) ab4 abW
theorem ab5:ak (dX*((300*65536:Nat):Rat)) 491723767112793555795498612041774758507992057067 1376297487019907789050452753447037442090982847263 133958303:=We.2.2 rfl
theorem Wh:(∀ i,i<157->ae dX 1099511627776 0 (300+i))/\(false=true->ae dX 1099511627776 0 (300+157))/\(false=false->ak (dX*(((300+157)*65536:Nat):Rat)) 729644950198729587218318087119915998754557351695 1266335375234540110609189336721958329832559696295 234910995):=
 ag qw.1 qw.2 Gm (xb:=1099511627776) (xj:=0) (b:=300) (n:=157) (by decide) (by decide +kernel) ab5 abX
theorem ab6:ak (dX*((457*65536:Nat):Rat)) 729644950198729587218318087119915998754557351695 1266335375234540110609189336721958329832559696295 234910995:=Wh.2.2 rfl
theorem Wj:(∀ i,i<1->ae dX 457 50048 (457+i))/\(false=true->ae dX 457 50048 (457+1))/\(false=false->ak (dX*(((457+1)*65536:Nat):Rat)) 731092931013171720070226495733466350965335483406 1265499965287822447093903958231062750521594118680 235627513):=
 ag qw.1 qw.2 Gm (xb:=457) (xj:=50048) (b:=457) (n:=1) (by decide) (by decide +kernel) ab6 abY
theorem ab7:ak (dX*((458*65536:Nat):Rat)) 731092931013171720070226495733466350965335483406 1265499965287822447093903958231062750521594118680 235627513:=Wj.2.2 rfl
theorem Wl:(∀ i,i<300->ae dX 1099511627776 0 (458+i))/\(false=true->ae dX 1099511627776 0 (458+300))/\(false=false->ak (dX*(((458+300)*65536:Nat):Rat)) 1114249708893877961256421979335504232843459056456 945745537737724831270633298625650855402991968426 496215464):=
 ag qw.1 qw.2 Gm (xb:=1099511627776) (xj:=0) (b:=458) (n:=300) (by decide) (by decide +kernel) ab7 abZ
theorem ab8:ak (dX*((758*65536:Nat):Rat)) 1114249708893877961256421979335504232843459056456 945745537737724831270633298625650855402991968426 496215464:=Wl.2.2 rfl
theorem Wm:(∀ i,i<300->ae dX 1099511627776 0 (758+i))/\(false=true->ae dX 1099511627776 0 (758+300))/\(false=false->ak (dX*(((758+300)*65536:Nat):Rat)) 1367487098036901671079540867482308849593552803733 515718986099526260404082505738404267698583895357 859324643):=
 ag qw.1 qw.2 Gm (xb:=1099511627776) (xj:=0) (b:=758) (n:=300) (by decide) (by decide +kernel) ab8 ab0
theorem ab9:ak (dX*((1058*65536:Nat):Rat)) 1367487098036901671079540867482308849593552803733 515718986099526260404082505738404267698583895357 859324643:=Wm.2.2 rfl
theorem Wn:(∀ i,i<300->ae dX 1099511627776 0 (1058+i))/\(false=true->ae dX 1099511627776 0 (1058+300))/\(false=false->ak (dX*(((1058+300)*65536:Nat):Rat)) 1461278102347580420390992143793243405547439853059 25560585289941313696877371623118747667185928943 1348183688):=
 ag qw.1 qw.2 Gm (xb:=1099511627776) (xj:=0) (b:=1058) (n:=300) (by decide) (by decide +kernel) ab9 ab1
theorem aca:ak (dX*((1358*65536:Nat):Rat)) 1461278102347580420390992143793243405547439853059 25560585289941313696877371623118747667185928943 1348183688:=Wn.2.2 rfl
theorem Wo:(∀ i,i<15->ae dX 1099511627776 0 (1358+i))/\(false=true->ae dX 1099511627776 0 (1358+15))/\(false=false->ak (dX*(((1358+15)*65536:Nat):Rat)) 1461501556362323844055996107259669251754042917643 486488864438371563241217903659373086848347437 1376494256):=
 ag qw.1 qw.2 Gm (xb:=1099511627776) (xj:=0) (b:=1358) (n:=15) (by decide) (by decide +kernel) aca ab2
theorem acb:ak (dX*((1373*65536:Nat):Rat)) 1461501556362323844055996107259669251754042917643 486488864438371563241217903659373086848347437 1376494256:=Wo.2.2 rfl
theorem acd:(∀ i,i<0->ae dX 1373 19072 (1373+i))/\(true=true->ae dX 1373 19072 (1373+0))/\(true=false->ak (dX*(((1373+0)*65536:Nat):Rat)) 0 0 0):=
 ag qw.1 qw.2 Gm (xb:=1373) (xj:=19072) (b:=1373) (n:=0) (by decide) (by decide +kernel) acb ab3
theorem YR {u:Nat} (h0:0<u) (h1:u<90000000) (h2:u≠30000000):∃ k:Int,LC (dX*(u:Rat)) k:=by
 have key:∀ b j,b=u / 65536->j=u % 65536->∃ xb xj,ae dX xb xj b/\¬(b=xb/\j=xj):=by
  intro b j hb hj
  rcases Nat.lt_or_ge b 300 with g|g
  .refine ⟨0,0,?_,by omega⟩
   have:=We.1 (b - 0) (by omega)
   rwa [show 0+(b - 0)=b by omega] at this
  rcases Nat.lt_or_ge b 457 with g|g
  .refine ⟨1099511627776,0,?_,by omega⟩
   have:=Wh.1 (b - 300) (by omega)
   rwa [show 300+(b - 300)=b by omega] at this
  rcases Nat.lt_or_ge b 458 with g|g
  .refine ⟨457,50048,?_,by omega⟩
   have:=Wj.1 (b - 457) (by omega)
   rwa [show 457+(b - 457)=b by omega] at this
  rcases Nat.lt_or_ge b 758 with g|g
  .refine ⟨1099511627776,0,?_,by omega⟩
   have:=Wl.1 (b - 458) (by omega)
   rwa [show 458+(b - 458)=b by omega] at this
  rcases Nat.lt_or_ge b 1058 with g|g
  .refine ⟨1099511627776,0,?_,by omega⟩
   have:=Wm.1 (b - 758) (by omega)
   rwa [show 758+(b - 758)=b by omega] at this
  rcases Nat.lt_or_ge b 1358 with g|g
  .refine ⟨1099511627776,0,?_,by omega⟩
   have:=Wn.1 (b - 1058) (by omega)
   rwa [show 1058+(b - 1058)=b by omega] at this
  rcases Nat.lt_or_ge b 1373 with g|g
  .refine ⟨1099511627776,0,?_,by omega⟩
   have:=Wo.1 (b - 1358) (by omega)
   rwa [show 1358+(b - 1358)=b by omega] at this
  refine ⟨1373,19072,?_,by omega⟩
  have:=acd.2.1 rfl
  rwa [show 1373+0=b by omega] at this
 obtain ⟨xb,xj,k1,k2⟩:=key _ _ rfl rfl
 have:=k1 (u % 65536) (by omega) k2
 rwa [show u / 65536*65536+u % 65536=u by omega] at this
def af:Rat:=hp / 1073741824
def bH:Nat:=2138057168129933494956740945523582396803
def bI:Nat:=1461501637330902916639783589834270518403524363581
theorem bL:ak af bH bI 2:=⟨⟨by decide +kernel,by decide +kernel⟩,⟨by decide +kernel,by decide +kernel⟩⟩
theorem az:0<=af/\af*65536<=1 / 500:=by decide +kernel
end Go.Ln
