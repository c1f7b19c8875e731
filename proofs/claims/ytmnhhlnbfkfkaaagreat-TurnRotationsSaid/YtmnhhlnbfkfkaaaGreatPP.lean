/- What is proved: TurnRotations returns true, whatever the input (part 16). No conditions beyond those of the row. -/
import Derived.Test.YtmnhhlnbfkfkaaaGreatPF
import Derived.Test.YtmnhhlnbfkfkaaaGreatPH
import Derived.Test.YtmnhhlnbfkfkaaaGreatPI
import Derived.Test.YtmnhhlnbfkfkaaaGreatPJ
import Derived.Test.YtmnhhlnbfkfkaaaGreatPK
import Derived.Test.YtmnhhlnbfkfkaaaGreatPN
import Derived.Test.YtmnhhlnbfkfkaaaGreatPO
import Derived.KernelRfl
set_option linter.unusedVariables false
set_option linter.unusedSimpArgs false
set_option linter.unusedSectionVars false
namespace Go.Dg
open Go Go.Eng
def Zv (z:Int):Int:=zv (decide (z<0)) (aa z.natAbs)
theorem bV (z:Int):Zv z=z:=gF z
def kJ (v:Int) (a b:List Int):Int:=(v*zv false a).tdiv (zv false b)
def jI (v:Int) (a b:List Int):Int:=(Zv (kJ v a b)*zv false a).tdiv (zv false b)
def cI (v:Int) (a b:List Int):Int:=-Zv (jI v a b)
def dw (v:Int) (a b:List Int) (k:Int):Int:=(Zv (cI v a b)*Zv 1).tdiv (Zv k)
def rqk (i:Int):Int:=IntKind.i64.wrap (i*IntKind.i64.wrap (i+1))
def rT (a b:List Int) (i t:Int):Int:=dw (Zv t) a b (rqk i)
def rT0 (a b:List Int):Int:=dw (zv false a) a b (rqk 2)
def rnT (y w i t:Int):Int:=(-(((t*y).tdiv w)*y).tdiv w).tdiv (i*(i+1))
def rnN (y w:Int):Nat->Int->Int->Int->Int
 | 0,_,_,s=>s
 | n+1,i,t,s=>match decide (rnT y w i t=0) with
  | true=>s
  | false=>rnN y w n (i+2) (rnT y w i t) (s+rnT y w i t)
theorem Fl {y w:Int} {n:Nat} {i t s:Int} (h:rnT y w i t=0):rnN y w (n+1) i t s=s:=by rw [rnN,decide_eq_true h]
theorem uU {y w:Int} {n:Nat} {i t s:Int} (h:rnT y w i t≠0):rnN y w (n+1) i t s=rnN y w n (i+2) (rnT y w i t) (s+rnT y w i t):=by rw [rnN,decide_eq_false h]
theorem DA {i:Int} (h0:2<=i) (h1:i<=400):rqk i=i*(i+1):=by
 have e:i*(i+1)<=400*401:=Int.mul_le_mul (a:=i) (b:=i+1) (c:=400) (d:=401) h1 (by omega) (by omega) (by decide)
 have e2:2*3<=i*(i+1):=Int.mul_le_mul (a:=2) (b:=3) (c:=i) (d:=i+1) h0 (by omega) (by decide) (by omega)
 unfold rqk
 rw [show IntKind.i64.wrap (i+1)=i+1 from iw (by omega) (by omega),iw (by omega) (by omega)]
theorem Fm {v k:Int} {a b:List Int}:dw v a b k=(-(((v*val a).tdiv (val b))*val a).tdiv (val b)).tdiv k:=by
 unfold dw cI jI kJ
 simp only [bV,Int.mul_one]
 rfl
theorem Fo {a b:List Int} {i t:Int} (h0:2<=i) (h1:i<=400):rT a b i t=rnT (val a) (val b) i t:=by
 unfold rT rnT
 rw [Fm,DA h0 h1,bV]
theorem yT {a b:List Int}:rT0 a b=rnT (val a) (val b) 2 (val a):=by
 unfold rT0 rnT
 rw [Fm,DA (by decide) (by decide)]; rfl
theorem BJ {x w c d n:Int} (hw:0<w) (hd:0<d) (h:d*(x.natAbs:Int)<=c*n*w) (hc:0<=c*n):d*((x.tdiv w).natAbs:Int)<=c*n:=by
 rw [Int.natAbs_tdiv]
 show d*((x.natAbs / w.natAbs:Nat):Int)<=c*n
 have e:((x.natAbs / w.natAbs:Nat):Int)=(x.natAbs:Int) / w:=by
  push_cast
  rw [Int.natAbs_of_nonneg (show 0<=w by omega)]
 rw [e]
 have h1:=Int.ediv_mul_le (x.natAbs:Int) (b:=w) (by omega)
 refine Int.le_of_mul_le_mul_right ?_ hw
 have:=Int.mul_le_mul_of_nonneg_left h1 (show 0<=d by omega)
 rw [Int.mul_assoc]
 omega
theorem Fp {v y w:Int} (hy:0<=y) (hw:0<w) (hyw:5*y<=8*w):5*(((v*y).tdiv w).natAbs:Int)<=8*v.natAbs:=by
 refine BJ hw (by decide) ?_ (by omega)
 rw [Int.natAbs_mul]
 push_cast
 rw [Int.natAbs_of_nonneg hy]
 have:=Int.mul_le_mul_of_nonneg_left hyw (show 0<=(v.natAbs:Int) by omega)
 grind
theorem Mz {v y w i:Int} (hy:0<=y) (hw:0<w) (hyw:5*y<=8*w) (hi:2<=i):2*((rnT y w i v).natAbs:Int)<=v.natAbs:=by
 have b1:=Fp (v:=v) hy hw hyw
 have b2:=Fp (v:=(v*y).tdiv w) hy hw hyw
 have hii:6<=i*(i+1):=Int.mul_le_mul (a:=2) (b:=3) (c:=i) (d:=i+1) hi (by omega) (by decide) (by omega)
 unfold rnT
 have e:((-(((v*y).tdiv w)*y).tdiv w).natAbs:Int)=(((((v*y).tdiv w)*y).tdiv w).natAbs:Int):=by rw [Int.natAbs_neg]
 have:=BJ (x:=-(((v*y).tdiv w)*y).tdiv w) (w:=i*(i+1)) (c:=1) (d:=2) (n:=v.natAbs) (by omega) (by decide) (by
  rw [e]
  have:=Int.mul_le_mul_of_nonneg_left hii (show 0<=(v.natAbs:Int) by omega)
  grind) (by omega)
 omega
end Go.Dg
namespace Go.Proofs.YtmnhhlnbfkfkaaaGreat.K
open Go Go.Eng Go.Dg Go.Ar Go.Vc
noncomputable section
inductive RnS where
 | a0
 | am (i t s:Int) (z:Bool)
 | ad (i t s:Int)
def rnP:RnS->Patch
 | .a0=>⟨(7,.int true .i64 2) :: az 10 26,[],[]⟩
 | .am i t s _=>⟨(7,.int true .i64 i) :: az 10 26,[(5,.cells (lgA 8 s)),(6,.cells (lgA 7 t))],[.rows .i64 (aa s.natAbs),.rows .i64 (aa t.natAbs)]⟩
 | .ad i t s=>⟨(7,.int true .i64 i) :: az 10 26,[(5,.cells (lgA 7 s)),(6,.cells (lgA 8 t))],[.rows .i64 (aa t.natAbs),.rows .i64 (aa s.natAbs)]⟩
def rnX (s:Int):Patch:=⟨(7,.any false) :: az 10 26,[(5,.cells (lgA 7 s)),(6,.dead)],[.dead,.rows .i64 (aa s.natAbs)]⟩
def rnR (a b:List Int):RnS->Int
 | .a0=>rnN (val a) (val b) 200 2 (val a) (val a)
 | .am i t s _=>rnN (val a) (val b) (201 - (i / 2).toNat) i t s
 | .ad _ _ s=>s
def rnU (a b:List Int):SumL RnS:=
 {
  S:=rnP
  I:=fun x=>match x with
   | .a0=>True
   | .am i t s z=>z=decide (rT a b i t=0)/\t≠0/\i % 2=0/\2<i/\i<=300/\2 ^ (i / 2).toNat*t.natAbs<=4*ag/\0<s/\s+t.natAbs<=4*ag/\t.natAbs<=s
   | .ad i t s=>t=0/\0<s/\s<=4*ag
  μ:=fun x=>match x with
   | .a0=>800
   | .am i _ _ _=>(400 - i).toNat+1
   | .ad _ _ _=>0
  F:=fun x=>(.exit 0,rnX (rnR a b x))
  next:=fun x=>match x with
   | .a0=>.am 4 (rT0 a b) (zv false a+Zv (rT0 a b)) (decide (rT a b 4 (rT0 a b)=0))
   | .am i t s true=>.ad (i+2) (rT a b i t) s
   | .am i t s false=>.am (i+2) (rT a b i t) (Zv s+Zv (rT a b i t)) (decide (rT a b (i+2) (rT a b i t)=0))
   | .ad i t s=>.ad i t s
  ids:=fun x=>match x with
   | .a0=>[12,13]
   | .am _ _ _ true=>[8,14]
   | .am _ _ _ false=>[14,15]
   | .ad _ _ _=>[7,8]
  X:=fun x _=>match x with
   | .ad _ _ s=>some (rnX s,[7,8])
   | _=>none }
end
end Go.Proofs.YtmnhhlnbfkfkaaaGreat.K
namespace Go.Proofs.YtmnhhlnbfkfkaaaGreat.K
open Go Go.Eng Go.Dg
noncomputable section
def BK (a b:List Int):Prop:=(2:Int)=(2:Int)
theorem MA (a b:List Int):fit (rnS a b) (rnS a b) (ac (rnS a b) ((rnU a b).S .a0)) ([])=some (.p (BK a b)):=by kernel_rfl
def MB (a b:List Int):Prop:=(decide ((↑a.length:Int)>(0:Int))=true/\((((↑a.length:Int)=(↑a.length:Int)/\(↑a.length:Int)=(↑a.length:Int)/\(↑b.length:Int)=(↑b.length:Int))/\paC false false false a a b)/\((false=false/\(↑b.length:Int)=(↑b.length:Int))/\false=false/\(↑a.length:Int)=(↑a.length:Int))/\(((↑(aa (kJ (zv false a) a b).natAbs).length:Int)=(↑(aa (kJ (zv false a) a b).natAbs).length:Int)/\(↑a.length:Int)=(↑a.length:Int)/\(↑b.length:Int)=(↑b.length:Int))/\paC (decide (kJ (zv false a) a b<(0:Int))) false false (aa (kJ (zv false a) a b).natAbs) a b)/\(↑(aa (jI (zv false a) a b).natAbs).length:Int)=(↑(aa (jI (zv false a) a b).natAbs).length:Int)/\okL (decide (jI (zv false a) a b<(0:Int))) (aa (jI (zv false a) a b).natAbs))/\(Int.natAbs (1:Int)<=(9223372036854775808:Nat)/\(decide (cI (zv false a) a b<(0:Int))=decide (cI (zv false a) a b<(0:Int))/\(↑(aa (cI (zv false a) a b).natAbs).length:Int)=(↑(aa (cI (zv false a) a b).natAbs).length:Int))/\(IntKind.i64.wrap ((2:Int)*IntKind.i64.wrap ((2:Int)+(1:Int)))).natAbs<=(9223372036854775808:Nat)/\(decide (cI (zv false a) a b<(0:Int))=decide (cI (zv false a) a b<(0:Int))/\(↑(aa (cI (zv false a) a b).natAbs).length:Int)=(↑(aa (cI (zv false a) a b).natAbs).length:Int))/\((↑(aa (cI (zv false a) a b).natAbs).length:Int)=(↑(aa (cI (zv false a) a b).natAbs).length:Int)/\(↑(aa (Int.natAbs (1:Int))).length:Int)=(↑(aa (Int.natAbs (1:Int))).length:Int)/\(↑(aa (IntKind.i64.wrap ((2:Int)*IntKind.i64.wrap ((2:Int)+(1:Int)))).natAbs).length:Int)=(↑(aa (IntKind.i64.wrap ((2:Int)*IntKind.i64.wrap ((2:Int)+(1:Int)))).natAbs).length:Int))/\paC (decide (cI (zv false a) a b<(0:Int))) (decide ((1:Int)<(0:Int))) (decide (IntKind.i64.wrap ((2:Int)*IntKind.i64.wrap ((2:Int)+(1:Int)))<(0:Int))) (aa (cI (zv false a) a b).natAbs) (aa (Int.natAbs (1:Int))) (aa (IntKind.i64.wrap ((2:Int)*IntKind.i64.wrap ((2:Int)+(1:Int)))).natAbs))/\((↑a.length:Int)=(↑a.length:Int)/\(↑(aa (dw (zv false a) a b (rqk 2)).natAbs).length:Int)=(↑(aa (dw (zv false a) a b (rqk 2)).natAbs).length:Int))/\okL false a/\okL (decide (dw (zv false a) a b (rqk 2)<(0:Int))) (aa (dw (zv false a) a b (rqk 2)).natAbs)/\a≠[]/\aa (dw (zv false a) a b (rqk 2)).natAbs≠[]/\val a+val (aa (dw (zv false a) a b (rqk 2)).natAbs)<pw (400000:Nat))/\(true=true->(IntKind.i64.wrap ((2:Int)+(2:Int))=(4:Int)/\((decide (dw (zv false a) a b (rqk 2)<(0:Int))=decide (rT0 a b<(0:Int))/\(↑(aa (dw (zv false a) a b (rqk 2)).natAbs).length:Int)=(↑(aa (rT0 a b).natAbs).length:Int))/\decide (zv false a+zv (decide (dw (zv false a) a b (rqk 2)<(0:Int))) (aa (dw (zv false a) a b (rqk 2)).natAbs)<(0:Int))=decide (zv false a+Zv (rT0 a b)<(0:Int))/\(↑(aa (zv false a+zv (decide (dw (zv false a) a b (rqk 2)<(0:Int))) (aa (dw (zv false a) a b (rqk 2)).natAbs)).natAbs).length:Int)=(↑(aa (zv false a+Zv (rT0 a b)).natAbs).length:Int))/\aa (zv false a+zv (decide (dw (zv false a) a b (rqk 2)<(0:Int))) (aa (dw (zv false a) a b (rqk 2)).natAbs)).natAbs=aa (zv false a+Zv (rT0 a b)).natAbs/\aa (dw (zv false a) a b (rqk 2)).natAbs=aa (rT0 a b).natAbs)/\(rnU a b).I ((rnU a b).next RnS.a0)/\(rnU a b).μ ((rnU a b).next RnS.a0)<(rnU a b).μ RnS.a0/\(rnU a b).F ((rnU a b).next RnS.a0)=(rnU a b).F RnS.a0)
theorem aaL (a b:List Int):aW (rnS a b) ((rnU a b).way (.a0)) ((run cRu 300).code BI rnA (ac (rnS a b) ((rnU a b).S .a0)))=some (.p (MB a b)):=by kernel_rfl
def MC (a b:List Int) (i t s:Int):Prop:=(decide ((↑(aa t.natAbs).length:Int)>(0:Int))=true/\((((↑(aa t.natAbs).length:Int)=(↑(aa t.natAbs).length:Int)/\(↑a.length:Int)=(↑a.length:Int)/\(↑b.length:Int)=(↑b.length:Int))/\paC (decide (t<(0:Int))) false false (aa t.natAbs) a b)/\((false=false/\(↑b.length:Int)=(↑b.length:Int))/\false=false/\(↑a.length:Int)=(↑a.length:Int))/\(((↑(aa (kJ (Zv t) a b).natAbs).length:Int)=(↑(aa (kJ (Zv t) a b).natAbs).length:Int)/\(↑a.length:Int)=(↑a.length:Int)/\(↑b.length:Int)=(↑b.length:Int))/\paC (decide (kJ (Zv t) a b<(0:Int))) false false (aa (kJ (Zv t) a b).natAbs) a b)/\(↑(aa (jI (Zv t) a b).natAbs).length:Int)=(↑(aa (jI (Zv t) a b).natAbs).length:Int)/\okL (decide (jI (Zv t) a b<(0:Int))) (aa (jI (Zv t) a b).natAbs))/\(Int.natAbs (1:Int)<=(9223372036854775808:Nat)/\(decide (cI (Zv t) a b<(0:Int))=decide (cI (Zv t) a b<(0:Int))/\(↑(aa (cI (Zv t) a b).natAbs).length:Int)=(↑(aa (cI (Zv t) a b).natAbs).length:Int))/\(IntKind.i64.wrap (i*IntKind.i64.wrap (i+(1:Int)))).natAbs<=(9223372036854775808:Nat)/\(decide (cI (Zv t) a b<(0:Int))=decide (cI (Zv t) a b<(0:Int))/\(↑(aa (cI (Zv t) a b).natAbs).length:Int)=(↑(aa (cI (Zv t) a b).natAbs).length:Int))/\((↑(aa (cI (Zv t) a b).natAbs).length:Int)=(↑(aa (cI (Zv t) a b).natAbs).length:Int)/\(↑(aa (Int.natAbs (1:Int))).length:Int)=(↑(aa (Int.natAbs (1:Int))).length:Int)/\(↑(aa (IntKind.i64.wrap (i*IntKind.i64.wrap (i+(1:Int)))).natAbs).length:Int)=(↑(aa (IntKind.i64.wrap (i*IntKind.i64.wrap (i+(1:Int)))).natAbs).length:Int))/\paC (decide (cI (Zv t) a b<(0:Int))) (decide ((1:Int)<(0:Int))) (decide (IntKind.i64.wrap (i*IntKind.i64.wrap (i+(1:Int)))<(0:Int))) (aa (cI (Zv t) a b).natAbs) (aa (Int.natAbs (1:Int))) (aa (IntKind.i64.wrap (i*IntKind.i64.wrap (i+(1:Int)))).natAbs))/\((↑(aa s.natAbs).length:Int)=(↑(aa s.natAbs).length:Int)/\(↑(aa (dw (Zv t) a b (rqk i)).natAbs).length:Int)=(↑(aa (dw (Zv t) a b (rqk i)).natAbs).length:Int))/\okL (decide (s<(0:Int))) (aa s.natAbs)/\okL (decide (dw (Zv t) a b (rqk i)<(0:Int))) (aa (dw (Zv t) a b (rqk i)).natAbs)/\aa s.natAbs≠[]/\aa (dw (Zv t) a b (rqk i)).natAbs≠[]/\val (aa s.natAbs)+val (aa (dw (Zv t) a b (rqk i)).natAbs)<pw (400000:Nat))/\(true=true->(IntKind.i64.wrap (i+(2:Int))=i+(2:Int)/\((decide (dw (Zv t) a b (rqk i)<(0:Int))=decide (rT a b i t<(0:Int))/\(↑(aa (dw (Zv t) a b (rqk i)).natAbs).length:Int)=(↑(aa (rT a b i t).natAbs).length:Int))/\decide (zv (decide (s<(0:Int))) (aa s.natAbs)+zv (decide (dw (Zv t) a b (rqk i)<(0:Int))) (aa (dw (Zv t) a b (rqk i)).natAbs)<(0:Int))=decide (Zv s+Zv (rT a b i t)<(0:Int))/\(↑(aa (zv (decide (s<(0:Int))) (aa s.natAbs)+zv (decide (dw (Zv t) a b (rqk i)<(0:Int))) (aa (dw (Zv t) a b (rqk i)).natAbs)).natAbs).length:Int)=(↑(aa (Zv s+Zv (rT a b i t)).natAbs).length:Int))/\aa (zv (decide (s<(0:Int))) (aa s.natAbs)+zv (decide (dw (Zv t) a b (rqk i)<(0:Int))) (aa (dw (Zv t) a b (rqk i)).natAbs)).natAbs=aa (Zv s+Zv (rT a b i t)).natAbs/\aa (dw (Zv t) a b (rqk i)).natAbs=aa (rT a b i t).natAbs)/\(rnU a b).I ((rnU a b).next (RnS.am i t s false))/\(rnU a b).μ ((rnU a b).next (RnS.am i t s false))<(rnU a b).μ (RnS.am i t s false)/\(rnU a b).F ((rnU a b).next (RnS.am i t s false))=(rnU a b).F (RnS.am i t s false))
theorem aaM (a b:List Int) (i t s:Int):aW (rnS a b) ((rnU a b).way ((.am i t s false))) ((run cRu 300).code BI rnA (ac (rnS a b) ((rnU a b).S (.am i t s false))))=some (.p (MC a b i t s)):=by kernel_rfl
def MD (a b:List Int) (i t s:Int):Prop:=(decide ((↑(aa t.natAbs).length:Int)>(0:Int))=true/\((((↑(aa t.natAbs).length:Int)=(↑(aa t.natAbs).length:Int)/\(↑a.length:Int)=(↑a.length:Int)/\(↑b.length:Int)=(↑b.length:Int))/\paC (decide (t<(0:Int))) false false (aa t.natAbs) a b)/\((false=false/\(↑b.length:Int)=(↑b.length:Int))/\false=false/\(↑a.length:Int)=(↑a.length:Int))/\(((↑(aa (kJ (Zv t) a b).natAbs).length:Int)=(↑(aa (kJ (Zv t) a b).natAbs).length:Int)/\(↑a.length:Int)=(↑a.length:Int)/\(↑b.length:Int)=(↑b.length:Int))/\paC (decide (kJ (Zv t) a b<(0:Int))) false false (aa (kJ (Zv t) a b).natAbs) a b)/\(↑(aa (jI (Zv t) a b).natAbs).length:Int)=(↑(aa (jI (Zv t) a b).natAbs).length:Int)/\okL (decide (jI (Zv t) a b<(0:Int))) (aa (jI (Zv t) a b).natAbs))/\(Int.natAbs (1:Int)<=(9223372036854775808:Nat)/\(decide (cI (Zv t) a b<(0:Int))=decide (cI (Zv t) a b<(0:Int))/\(↑(aa (cI (Zv t) a b).natAbs).length:Int)=(↑(aa (cI (Zv t) a b).natAbs).length:Int))/\(IntKind.i64.wrap (i*IntKind.i64.wrap (i+(1:Int)))).natAbs<=(9223372036854775808:Nat)/\(decide (cI (Zv t) a b<(0:Int))=decide (cI (Zv t) a b<(0:Int))/\(↑(aa (cI (Zv t) a b).natAbs).length:Int)=(↑(aa (cI (Zv t) a b).natAbs).length:Int))/\((↑(aa (cI (Zv t) a b).natAbs).length:Int)=(↑(aa (cI (Zv t) a b).natAbs).length:Int)/\(↑(aa (Int.natAbs (1:Int))).length:Int)=(↑(aa (Int.natAbs (1:Int))).length:Int)/\(↑(aa (IntKind.i64.wrap (i*IntKind.i64.wrap (i+(1:Int)))).natAbs).length:Int)=(↑(aa (IntKind.i64.wrap (i*IntKind.i64.wrap (i+(1:Int)))).natAbs).length:Int))/\paC (decide (cI (Zv t) a b<(0:Int))) (decide ((1:Int)<(0:Int))) (decide (IntKind.i64.wrap (i*IntKind.i64.wrap (i+(1:Int)))<(0:Int))) (aa (cI (Zv t) a b).natAbs) (aa (Int.natAbs (1:Int))) (aa (IntKind.i64.wrap (i*IntKind.i64.wrap (i+(1:Int)))).natAbs))/\((↑(aa s.natAbs).length:Int)==(0:Int))=false/\((↑(aa (dw (Zv t) a b (rqk i)).natAbs).length:Int)==(0:Int))=true)/\(true=true->(IntKind.i64.wrap (i+(2:Int))=i+(2:Int)/\((decide (dw (Zv t) a b (rqk i)<(0:Int))=decide (rT a b i t<(0:Int))/\(↑(aa (dw (Zv t) a b (rqk i)).natAbs).length:Int)=(↑(aa (rT a b i t).natAbs).length:Int))/\decide (s<(0:Int))=decide (s<(0:Int))/\(↑(aa s.natAbs).length:Int)=(↑(aa s.natAbs).length:Int))/\aa (dw (Zv t) a b (rqk i)).natAbs=aa (rT a b i t).natAbs/\aa s.natAbs=aa s.natAbs)/\(rnU a b).I ((rnU a b).next (RnS.am i t s true))/\(rnU a b).μ ((rnU a b).next (RnS.am i t s true))<(rnU a b).μ (RnS.am i t s true)/\(rnU a b).F ((rnU a b).next (RnS.am i t s true))=(rnU a b).F (RnS.am i t s true))
theorem aaN (a b:List Int) (i t s:Int):aW (rnS a b) ((rnU a b).way ((.am i t s true))) ((run cRl 300).code BI rnA (ac (rnS a b) ((rnU a b).S (.am i t s true))))=some (.p (MD a b i t s)):=by kernel_rfl
def RO (a b:List Int) (i t s:Int):Prop:=decide ((↑(aa t.natAbs).length:Int)>(0:Int))=false/\(true=true->((decide (s<(0:Int))=decide (s<(0:Int))/\(↑(aa s.natAbs).length:Int)=(↑(aa s.natAbs).length:Int))/\aa s.natAbs=aa s.natAbs)/\(rnU a b).F (RnS.ad i t s)=(Ex.exit (0:Nat),rnX s))
theorem acs (a b:List Int) (i t s:Int):aW (rnS a b) ((rnU a b).way ((.ad i t s))) ((run cRe 300).code BI rnA (ac (rnS a b) ((rnU a b).S (.ad i t s))))=some (.p (RO a b i t s)):=by kernel_rfl
end
end Go.Proofs.YtmnhhlnbfkfkaaaGreat.K
namespace Go.Proofs.YtmnhhlnbfkfkaaaGreat.K
open Go Go.Eng Go.Dg Go.Ar Go.Vc
noncomputable section
structure RnD (a b:List Int):Prop where
 d:Dig a
 t:Top a
 l:a.length<=10
 e:b=[0,0,0,0,10000]
 v0:0<val a
 v1:5*val a<=8*ag
 t0:rT0 a b≠0
theorem sC:0<ag:=by decide
theorem RnD.w {a b:List Int} (h:RnD a b):val b=ag:=by rw [h.e]; rfl
theorem okA {z:Int} (h:(z.natAbs:Int)<=100*ag):okL (decide (z<0)) (aa z.natAbs)/\(aa z.natAbs).length<=5:=by
 have e1:100*ag<pw 5:=by decide
 have e2:=bK (show 5<=500000 by omega)
 exact ⟨lJ (Int.lt_of_lt_of_le (Int.lt_of_le_of_lt h e1) e2),dW (Int.lt_of_le_of_lt h e1)⟩
theorem okK {i:Int} (h0:2<=i) (h1:i<=400):okL (decide (rqk i<0)) (aa (rqk i).natAbs)/\(aa (rqk i).natAbs).length<=5/\aa (rqk i).natAbs≠[]/\(rqk i).natAbs<=9223372036854775808:=by
 have e:i*(i+1)<=400*401:=Int.mul_le_mul (a:=i) (b:=i+1) (c:=400) (d:=401) h1 (by omega) (by omega) (by decide)
 have e2:2*3<=i*(i+1):=Int.mul_le_mul (a:=2) (b:=3) (c:=i) (d:=i+1) h0 (by omega) (by decide) (by omega)
 rw [DA h0 h1]
 have e3:(1000000:Int)<=100*ag:=by decide
 obtain ⟨a,b⟩:=okA (z:=i*(i+1)) (by omega)
 refine ⟨a,b,fun h=>?_,by omega⟩
 have:=ku (n:=(i*(i+1)).natAbs) (by omega)
 rw [h] at this
 exact absurd this (by decide)
theorem aaO:okL (decide ((1:Int)<0)) (aa (Int.natAbs 1))/\(aa (Int.natAbs 1)).length<=5:=by
 have e3:(1:Int)<=100*ag:=by decide
 exact okA (z:=1) (by omega)
theorem aaP {a b:List Int} (h:RnD a b) {p:Bool} {tl:List Int} (hp:okL p tl) (hl:tl.length<=10) {v:Int} (hv:zv p tl=v) (hb:(v.natAbs:Int)<=2*ag) {i:Int} (h0:2<=i) (h1:i<=400):
  paC p false false tl a b/\paC (decide (kJ v a b<0)) false false (aa (kJ v a b).natAbs) a b/\okL (decide (jI v a b<0)) (aa (jI v a b).natAbs)/\paC (decide (cI v a b<0)) (decide ((1:Int)<0)) (decide (rqk i<0)) (aa (cI v a b).natAbs) (aa (Int.natAbs 1)) (aa (rqk i).natAbs):=by
 have hw:=h.w
 have tp:=sC
 have hA:okL false a:=⟨h.d,h.t,fun h=>(by cases h),by have:=h.l; show a.length<=500000; omega⟩
 have hB:okL false b/\b≠[]/\b.length=5:=by rw [h.e]; exact ⟨(fX rfl).1,(by decide),rfl⟩
 have la:=h.l
 have y0:=h.v0
 have y1:=h.v1
 have e1:(kJ v a b)=(v*val a).tdiv (val b):=rfl
 have b1:=Fp (v:=v) (y:=val a) (w:=ag) (by omega) tp y1
 have e2:jI v a b=((v*val a).tdiv (val b)*val a).tdiv (val b):=by unfold jI; rw [bV]; rfl
 have b2:=Fp (v:=(v*val a).tdiv ag) (y:=val a) (w:=ag) (by omega) tp y1
 have e3:cI v a b=-jI v a b:=by unfold cI; rw [bV]
 rw [hw] at e1 e2
 have n1:((kJ v a b).natAbs:Int)<=100*ag:=by rw [e1]; omega
 have n2:((jI v a b).natAbs:Int)<=100*ag:=by rw [e2]; omega
 have n3:((cI v a b).natAbs:Int)<=100*ag:=by rw [e3,Int.natAbs_neg]; exact n2
 obtain ⟨o1,l1⟩:=okA n1
 obtain ⟨o2,l2⟩:=okA n2
 obtain ⟨o3,l3⟩:=okA n3
 obtain ⟨k1,k2,k3,_⟩:=okK h0 h1
 obtain ⟨c1,c2⟩:=aaO
 obtain ⟨hB1,hB2,hB3⟩:=hB
 exact ⟨⟨hp,hA,hB1,hB2,by omega⟩,⟨o1,hA,hB1,hB2,by omega⟩,o2,⟨o3,c1,k1,k3,by omega⟩⟩
theorem RnD.ra {a b:List Int} (h:RnD a b):0<=val a/\0<ag/\5*val a<=8*ag:=⟨by have:=h.v0; omega,sC,h.v1⟩
theorem S7 {a b:List Int} (h:RnD a b) {i t:Int} (h0:2<=i) (h1:i<=400):2*((rT a b i t).natAbs:Int)<=t.natAbs:=by
 rw [Fo h0 h1,h.w]
 exact Mz h.ra.1 h.ra.2.1 h.ra.2.2 h0
theorem ME {a b:List Int} (h:RnD a b):2*((rT0 a b).natAbs:Int)<=val a:=by
 rw [yT,h.w]
 have:=Mz (v:=val a) h.ra.1 h.ra.2.1 h.ra.2.2 (i:=2) (by decide)
 rw [Int.natAbs_of_nonneg h.ra.1] at this
 exact this
theorem Fq {n:Nat} {t:Int} (h0:t≠0) (h:2 ^ n*(t.natAbs:Int)<=4*ag):n<=134:=by
 refine Nat.le_of_not_lt fun hn=>?_
 have h1:(2:Int) ^ 135<=2 ^ n:=by
  have:=Nat.pow_le_pow_right (n:=2) (by decide) (show 135<=n by omega)
  have e1:((2 ^ 135:Nat):Int)<=((2 ^ n:Nat):Int):=by exact_mod_cast this
  simpa using e1
 have h2:(2:Int) ^ n*1<=2 ^ n*(t.natAbs:Int):=Int.mul_le_mul_of_nonneg_left (by omega) (by omega)
 have e:4*ag<(2:Int) ^ 135:=by decide
 omega
theorem jl {z:Int} (h:z≠0):aa z.natAbs≠[]/\0<(aa z.natAbs).length:=by
 have:=ku (n:=z.natAbs) (by omega)
 exact ⟨fun h=>by rw [h] at this; exact absurd this (by decide),this⟩
theorem iS (z:Int):val (aa z.natAbs)=z.natAbs:=dk _
theorem MG:100*ag<pw 400000:=by
 have e1:100*ag<pw 5:=by decide
 exact Int.lt_of_lt_of_le e1 (bK (by omega))
theorem Hw {a b:List Int} (h:RnD a b):(rnU a b).I ((rnU a b).next .a0):=by
 have b0:=ME h
 have y0:=h.v0
 have y1:=h.v1
 have z:=h.t0
 show decide (rT a b 4 (rT0 a b)=0)=decide (rT a b 4 (rT0 a b)=0)/\rT0 a b≠0/\(4:Int) % 2=0/\(2:Int)<4/\(4:Int)<=300/\(2:Int) ^ 2*((rT0 a b).natAbs:Int)<=4*ag/\0<zv false a+Zv (rT0 a b)/\zv false a+Zv (rT0 a b)+((rT0 a b).natAbs:Int)<=4*ag/\((rT0 a b).natAbs:Int)<=zv false a+Zv (rT0 a b)
 rw [bV,show zv false a=val a from rfl,show (2:Int) ^ 2=4 from rfl]
 refine ⟨rfl,z,by decide,by decide,by decide,by omega,by omega,by omega,by omega⟩
theorem MH {a b:List Int} (h:RnD a b) {i t s:Int} (hI:(rnU a b).I (.am i t s false)):(rnU a b).I ((rnU a b).next (.am i t s false)):=by
 obtain ⟨hz,t0,i0,i1,i2,pw,s0,s1,ts⟩:=(show false=decide (rT a b i t=0)/\t≠0/\i % 2=0/\2<i/\i<=300/\2 ^ (i / 2).toNat*(t.natAbs:Int)<=4*ag/\0<s/\s+(t.natAbs:Int)<=4*ag/\(t.natAbs:Int)<=s from hI)
 have hz:=of_decide_eq_false hz.symm
 have b1:=S7 h (i:=i) (t:=t) (by omega) (by omega)
 have k:=Fq t0 pw
 have hp:(2:Int) ^ ((i+2) / 2).toNat*((rT a b i t).natAbs:Int)<=4*ag:=by
  rw [show ((i+2) / 2).toNat=(i / 2).toNat+1 by omega,Int.pow_succ,Int.mul_assoc]
  have:(2:Int) ^ (i / 2).toNat*(2*((rT a b i t).natAbs:Int))<=2 ^ (i / 2).toNat*(t.natAbs:Int):=Int.mul_le_mul_of_nonneg_left b1 (Int.pow_nonneg (by decide))
  omega
 show decide (rT a b (i+2) (rT a b i t)=0)=decide (rT a b (i+2) (rT a b i t)=0)/\rT a b i t≠0/\(i+2) % 2=0/\2<i+2/\i+2<=300/\(2:Int) ^ ((i+2) / 2).toNat*((rT a b i t).natAbs:Int)<=4*ag/\0<Zv s+Zv (rT a b i t)/\Zv s+Zv (rT a b i t)+((rT a b i t).natAbs:Int)<=4*ag/\((rT a b i t).natAbs:Int)<=Zv s+Zv (rT a b i t)
 rw [bV,bV]
 refine ⟨rfl,hz,by omega,by omega,by omega,hp,by omega,by omega,by omega⟩
theorem Hx {a b:List Int} (h:RnD a b):rnR a b ((rnU a b).next .a0)=rnR a b .a0:=by
 show rnN (val a) (val b) 199 4 (rT0 a b) (zv false a+Zv (rT0 a b))=rnN (val a) (val b) (199+1) 2 (val a) (val a)
 have e:=uU (y:=val a) (w:=val b) (n:=199) (i:=2) (t:=val a) (s:=val a) (by rw [<- yT]; exact h.t0)
 rw [<- yT] at e
 rw [e,bV]
 rfl
theorem MI {a b:List Int} {i t s:Int} (h0:2<i) (h1:i<=300) (hz:rT a b i t≠0):rnR a b ((rnU a b).next (.am i t s false))=rnR a b (.am i t s false):=by
 show rnN (val a) (val b) (201 - ((i+2) / 2).toNat) (i+2) (rT a b i t) (Zv s+Zv (rT a b i t))=rnN (val a) (val b) (201 - (i / 2).toNat) i t s
 rw [show 201 - (i / 2).toNat=(200 - (i / 2).toNat)+1 by omega,uU (by rw [<- Fo (by omega) (by omega)]; exact hz),show 201 - ((i+2) / 2).toNat=200 - (i / 2).toNat by omega,bV,bV,<- Fo (by omega) (by omega)]
theorem MJ {a b:List Int} {i t s:Int} {z:Bool} (h0:2<i) (h1:i<=300) (hz:rT a b i t=0):rnR a b (.am i t s z)=s:=by
 show rnN (val a) (val b) (201 - (i / 2).toNat) i t s=s
 rw [show 201 - (i / 2).toNat=(200 - (i / 2).toNat)+1 by omega,Fl (by rw [<- Fo (by omega) (by omega)]; exact hz)]
theorem RP {a b:List Int} (h:RnD a b):CodeOk Hv BI (.loop rnA) (rnS a b) ⟨.tt,[⟨.tt,.exit 0,ac (rnS a b) (rnX (rnR a b .a0))⟩]⟩:=by
 refine cB (rnU a b) (y0:=.a0) trivial ⟨_,MA a b,rfl⟩ (by kernel_rfl) (fun x hx=>?_) rfl
 have hA:okL false a:=⟨h.d,h.t,fun h=>(by cases h),by have:=h.l; show a.length<=500000; omega⟩
 have y0:=h.v0
 have y1:=h.v1
 have tp:=sC
 have pb:=MG
 have ob:Int.natAbs (1:Int)<=9223372036854775808:=by decide
 cases x with
 | a0=>
  have hb:=ME h
  have n2:((val a).natAbs:Int)<=2*ag:=by rw [Int.natAbs_of_nonneg (by omega)]; omega
  obtain ⟨p1,p2,p3,p4⟩:=aaP h hA h.l (v:=zv false a) rfl n2 (i:=2) (by decide) (by decide)
  obtain ⟨o1,l1⟩:=okA (z:=rT0 a b) (by omega)
  have nz:=jl h.t0
  have va:a≠[]:=fun e=>by rw [e] at y0; exact absurd y0 (by decide)
  have al0:0<a.length:=List.length_pos_iff.2 va
  have al:decide ((a.length:Int)>0)=true:=decide_eq_true (by omega)
  have k6:(Int.ofNat 6).natAbs<=9223372036854775808:=by decide
  have sm:val a+val (aa (rT0 a b).natAbs)<pw 400000:=by rw [iS]; omega
  refine ⟨cRu,300,My,rfl,rfl,_,aaL a b,?_,fun _=>?_⟩
  .repeat' first|with_reducible refine And.intro ?_ ?_|assumption|exact nz.1|exact rfl
  .refine ⟨?_,Hw h,by show (400 - 4:Int).toNat+1<800; decide,congrArg (fun z=>(Ex.exit 0,rnX z)) (Hx h)⟩
   repeat' first|with_reducible refine And.intro ?_ ?_|exact rfl|decide
 | am i t s z=>
  obtain ⟨hz,t0,i0,i1,i2,pw2,s0,s1,ts⟩:=(show z=decide (rT a b i t=0)/\t≠0/\i % 2=0/\2<i/\i<=300/\2 ^ (i / 2).toNat*(t.natAbs:Int)<=4*ag/\0<s/\s+(t.natAbs:Int)<=4*ag/\(t.natAbs:Int)<=s from hx)
  have b1:=S7 h (i:=i) (t:=t) (by omega) (by omega)
  have n2:(t.natAbs:Int)<=2*ag:=by omega
  obtain ⟨ot,lt⟩:=okA (z:=t) (by omega)
  obtain ⟨os,ls⟩:=okA (z:=s) (by omega)
  obtain ⟨p1,p2,p3,p4⟩:=aaP h ot (by omega) (v:=Zv t) rfl (by rw [bV]; exact n2) (i:=i) (by omega) (by omega)
  obtain ⟨o1,l1⟩:=okA (z:=rT a b i t) (by omega)
  have nt:=jl t0
  have ns:=jl (z:=s) (by omega)
  have tl:decide (((aa t.natAbs).length:Int)>0)=true:=decide_eq_true (by omega)
  have kk:=(okK (i:=i) (by omega) (by omega)).2.2.2
  have w2:IntKind.i64.wrap (i+2)=i+2:=iw (by omega) (by omega)
  cases z with
  | false=>
   have hz:=of_decide_eq_false hz.symm
   have nz:=jl hz
   have sm:val (aa s.natAbs)+val (aa (rT a b i t).natAbs)<pw 400000:=by rw [iS,iS]; omega
   have k:=Fq t0 pw2
   refine ⟨cRu,300,My,rfl,rfl,_,aaM a b i t s,?_,fun _=>?_⟩
   .repeat' first|with_reducible refine And.intro ?_ ?_|assumption|exact nz.1|exact ns.1|exact rfl
   .refine ⟨?_,MH h hx,by show (400 - (i+2)).toNat+1<(400 - i).toNat+1; omega,congrArg (fun z=>(Ex.exit 0,rnX z)) (MI i1 i2 hz)⟩
    repeat' first|with_reducible refine And.intro ?_ ?_|assumption|exact rfl
  | true=>
   have hz:=of_decide_eq_true hz.symm
   have z0:(((aa (rT a b i t).natAbs).length:Int)==0)=true:=by rw [hz,show aa (Int.natAbs 0)=[] from bQ]; rfl
   have s1':(((aa s.natAbs).length:Int)==0)=false:=beq_eq_false_iff_ne.2 (by omega)
   refine ⟨cRl,300,WY,rfl,rfl,_,aaN a b i t s,?_,fun _=>?_⟩
   .repeat' first|with_reducible refine And.intro ?_ ?_|assumption|exact rfl
   .refine ⟨?_,⟨hz,s0,by omega⟩,by show 0<(400 - i).toNat+1; omega,congrArg (fun z=>(Ex.exit 0,rnX z)) (MJ i1 i2 hz).symm⟩
    repeat' first|with_reducible refine And.intro ?_ ?_|assumption|exact rfl
 | ad i t s=>
  obtain ⟨t0,s0,s1⟩:=(show t=0/\0<s/\s<=4*ag from hx)
  subst t0
  exact ⟨cRe,300,WZ,rfl,rfl,_,acs a b i 0 s,by rw [show aa (0:Int).natAbs=[] from bQ]; rfl,fun _=>⟨⟨⟨rfl,rfl⟩,rfl⟩,rfl⟩⟩
def W4 (a b:List Int):Ctx:=aw Hv [aR 55 (rnS a b).hp.clock BI rnA (rnS a b) (.exit 0) (rnX (rnR a b .a0))]
theorem RQ {a b:List Int} (h:RnD a b):CtxOk (W4 a b):=ak sB (RP h) (aq sB)
end
end Go.Proofs.YtmnhhlnbfkfkaaaGreat.K
namespace Go.Proofs.YtmnhhlnbfkfkaaaGreat.K
open Go Go.Eng Go.Dg
noncomputable section
def RS (a b:List Int):Prop:=((false=false/\(↑a.length:Int)=(↑a.length:Int))/\At (BI) (BI) (rnA) (rnA) (rnS a b) (rnS a b))
def W5 (a b:List Int):AV:=(AV.agg [AV.bool true (decide (rnR a b RnS.a0<(0:Int))),AV.lslice 2 (↑(aa (rnR a b RnS.a0).natAbs).length:Int)])
def W6 (a b:List Int):Hp:=⟨[{ wr:=13,body:=ABody.rows IntKind.i64 (aa (rnR a b RnS.a0).natAbs) },{ wr:=(0:Nat),body:=ABody.rows IntKind.i64 b },{ wr:=(0:Nat),body:=ABody.rows IntKind.i64 a }],3,16⟩
theorem acu (a b:List Int):(run (W4 a b) 300).call 55 (Dz a b) (rnH a b)=some ⟨.p (RS a b),[⟨.tt,W5 a b,W6 a b⟩]⟩:=by kernel_rfl
end
end Go.Proofs.YtmnhhlnbfkfkaaaGreat.K
namespace Go.Proofs.YtmnhhlnbfkfkaaaGreat.K
open Go Go.Eng Go.Dg Go.Ar Go.Vc
noncomputable section
def rnV:List Nu->List (List Int)->Option (Prop×To)
 | [.t p,.t q],[a,b]=>some (p=false/\q=false/\RnD a b,lgT false (rnR a b .a0))
 | _,_=>none
theorem W7:NOk Tryz.prog (fun _=>none) hG0 55 (au hG0 .i64 psA rnV):=by
 refine bb (fun xs ys p t e h=>?_) ⟨_,Tryz.func55,rfl⟩
 unfold rnV at e
 split at e
 .rename_i p q a b
  cases e
  obtain ⟨rfl,rfl,h⟩:=h
  exact ⟨W4 a b,300,Dz a b,_,_,_,_,_,RQ h,rfl,rfl,⟨⟨rfl,rfl,trivial⟩,⟨rfl,rfl,trivial⟩,trivial⟩,acu a b,rfl,⟨⟨rfl,rfl⟩,rfl,rfl,rfl⟩,rfl,rfl,⟨rfl,rfl,rfl⟩⟩
 .cases e
def tRi:List (FuncId×ew):=
 (84,au hG0 .i64 [.st [.nu .b,.li]] riV) ::
 (85,au hG0 .i64 psA orV) ::
 (54,au hG0 .i64 [.nu (.i .i64)] ofV) :: []
theorem W8:∀ x∈tRi,NOk Tryz.prog (fun _=>none) hG0 x.1 x.2:=by
 intro x hx
 simp only [tRi,List.mem_cons,List.not_mem_nil,or_false] at hx
 rcases hx with rfl|rfl|rfl
 .exact Bv
 .exact BA
 .exact Fg
def hRi (T:Nat):Nat->Nat->Option AV:=fun c t=>match Nat.beq t 22||Nat.beq t 32 with
 | true=>some (.bool false false)
 | false=>match Nat.beq t 28 with
  | true=>match Nat.blt c T with
   | true=>some (.bool false true)
   | false=>some (.bool false false)
  | false=>none
def DB (T:Nat):Ctx:=aO (mkN Tryz.prog (fun _=>none) hG0 tRi [] dJ) (hRi T)
theorem yU (T:Nat):CtxOk (DB T):=aj (fO aP (cq _) W8 (fun x h=>by cases h)) _
def qK (n:Nat):List AV:=[.agg [.bool true false,.lslice 0 n]]
def inH (a:List Int):Hp:=dV true hG0 [(.i64,a)]
end
end Go.Proofs.YtmnhhlnbfkfkaaaGreat.K
namespace Go.Proofs.YtmnhhlnbfkfkaaaGreat.K
open Go Go.Eng Go.Dg
noncomputable section
def RT (z:Int):Prop:=(((↑(0:Nat):Int)=(↑([]:List Int).length:Int)/\okL false []/\([]:List Int).length<=(600:Nat))/\((-9223372036854775808:Int).natAbs<=(9223372036854775808:Nat)/\Int.natAbs (9223372036854775807:Int)<=(9223372036854775808:Nat))/\((((↑(0:Nat):Int)=(↑([]:List Int).length:Int)/\(↑(aa (-9223372036854775808:Int).natAbs).length:Int)=(↑(aa (-9223372036854775808:Int).natAbs).length:Int))/\okL false []/\okL (decide ((-9223372036854775808:Int)<(0:Int))) (aa (-9223372036854775808:Int).natAbs))/\(decide (mL (zv false []) (zv (decide ((-9223372036854775808:Int)<(0:Int))) (aa (-9223372036854775808:Int).natAbs))<(0:Int))=true->true=false)/\(decide (mL (zv false []) (zv (decide ((-9223372036854775808:Int)<(0:Int))) (aa (-9223372036854775808:Int).natAbs))<(0:Int))=false->(((↑(0:Nat):Int)=(↑([]:List Int).length:Int)/\(↑(aa (Int.natAbs (9223372036854775807:Int))).length:Int)=(↑(aa (Int.natAbs (9223372036854775807:Int))).length:Int))/\okL false []/\okL (decide ((9223372036854775807:Int)<(0:Int))) (aa (Int.natAbs (9223372036854775807:Int))))/\decide (mL (zv false []) (zv (decide ((9223372036854775807:Int)<(0:Int))) (aa (Int.natAbs (9223372036854775807:Int))))>(0:Int))=false))/\decide (IntKind.i64.wrap ((↑(0:Nat):Int) - (1:Int))>=(0:Int))=false)
def W9 (z:Int):AV:=(AV.tuple [AV.int false IntKind.i64 (Int.ofNat (0:Nat)),AV.int false IntKind.i64 (Int.ofNat (0:Nat))])
def Xa (z:Int):Hp:=⟨[{ wr:=(0:Nat),body:=ABody.rows IntKind.i64 [] }],1,36⟩
theorem acv (z:Int):(run (DB 0) 300).call 60 (qK 0) (inH [])=some ⟨.p (RT z),[⟨.tt,W9 z,Xa z⟩]⟩:=by kernel_rfl
def RU (x:Int):Prop:=(((↑(1:Nat):Int)=(↑[x].length:Int)/\okL false [x]/\[x].length<=(600:Nat))/\((-9223372036854775808:Int).natAbs<=(9223372036854775808:Nat)/\Int.natAbs (9223372036854775807:Int)<=(9223372036854775808:Nat))/\((((↑(1:Nat):Int)=(↑[x].length:Int)/\(↑(aa (-9223372036854775808:Int).natAbs).length:Int)=(↑(aa (-9223372036854775808:Int).natAbs).length:Int))/\okL false [x]/\okL (decide ((-9223372036854775808:Int)<(0:Int))) (aa (-9223372036854775808:Int).natAbs))/\(decide (mL (zv false [x]) (zv (decide ((-9223372036854775808:Int)<(0:Int))) (aa (-9223372036854775808:Int).natAbs))<(0:Int))=true->true=false)/\(decide (mL (zv false [x]) (zv (decide ((-9223372036854775808:Int)<(0:Int))) (aa (-9223372036854775808:Int).natAbs))<(0:Int))=false->(((↑(1:Nat):Int)=(↑[x].length:Int)/\(↑(aa (Int.natAbs (9223372036854775807:Int))).length:Int)=(↑(aa (Int.natAbs (9223372036854775807:Int))).length:Int))/\okL false [x]/\okL (decide ((9223372036854775807:Int)<(0:Int))) (aa (Int.natAbs (9223372036854775807:Int))))/\decide (mL (zv false [x]) (zv (decide ((9223372036854775807:Int)<(0:Int))) (aa (Int.natAbs (9223372036854775807:Int))))>(0:Int))=false))/\(decide (IntKind.i64.wrap ((↑(1:Nat):Int) - (1:Int))>=(0:Int))=true/\false=false/\((0:Int)<=IntKind.i64.wrap ((↑(1:Nat):Int) - (1:Int))/\IntKind.i64.wrap ((↑(1:Nat):Int) - (1:Int))<(↑(1:Nat):Int))/\(IntKind.i64.wrap ((↑(1:Nat):Int) - (1:Int))).toNat < [x].length)/\decide (IntKind.i64.wrap (IntKind.i64.wrap ((↑(1:Nat):Int) - (1:Int)) - (1:Int))>=(0:Int))=false)
def Xb (x:Int):AV:=(AV.tuple [AV.int true IntKind.i64 (IntKind.i64.wrap (Int.ofNat (0:Nat) + [x].getD (IntKind.i64.wrap ((↑(1:Nat):Int) - (1:Int))).toNat (0:Int))),AV.int false IntKind.i64 (Int.ofNat (0:Nat))])
def Xc (x:Int):Hp:=⟨[{ wr:=(0:Nat),body:=ABody.rows IntKind.i64 [x] }],1,53⟩
theorem acw (x:Int):(run (DB 40) 300).call 60 (qK 1) (inH [x])=some ⟨.p (RU x),[⟨.tt,Xb x,Xc x⟩]⟩:=by kernel_rfl
def RV (x y:Int):Prop:=(((↑(2:Nat):Int)=(↑[x,y].length:Int)/\okL false [x,y]/\[x,y].length<=(600:Nat))/\((-9223372036854775808:Int).natAbs<=(9223372036854775808:Nat)/\Int.natAbs (9223372036854775807:Int)<=(9223372036854775808:Nat))/\((((↑(2:Nat):Int)=(↑[x,y].length:Int)/\(↑(aa (-9223372036854775808:Int).natAbs).length:Int)=(↑(aa (-9223372036854775808:Int).natAbs).length:Int))/\okL false [x,y]/\okL (decide ((-9223372036854775808:Int)<(0:Int))) (aa (-9223372036854775808:Int).natAbs))/\(decide (mL (zv false [x,y]) (zv (decide ((-9223372036854775808:Int)<(0:Int))) (aa (-9223372036854775808:Int).natAbs))<(0:Int))=true->true=false)/\(decide (mL (zv false [x,y]) (zv (decide ((-9223372036854775808:Int)<(0:Int))) (aa (-9223372036854775808:Int).natAbs))<(0:Int))=false->(((↑(2:Nat):Int)=(↑[x,y].length:Int)/\(↑(aa (Int.natAbs (9223372036854775807:Int))).length:Int)=(↑(aa (Int.natAbs (9223372036854775807:Int))).length:Int))/\okL false [x,y]/\okL (decide ((9223372036854775807:Int)<(0:Int))) (aa (Int.natAbs (9223372036854775807:Int))))/\decide (mL (zv false [x,y]) (zv (decide ((9223372036854775807:Int)<(0:Int))) (aa (Int.natAbs (9223372036854775807:Int))))>(0:Int))=false))/\(decide (IntKind.i64.wrap ((↑(2:Nat):Int) - (1:Int))>=(0:Int))=true/\false=false/\((0:Int)<=IntKind.i64.wrap ((↑(2:Nat):Int) - (1:Int))/\IntKind.i64.wrap ((↑(2:Nat):Int) - (1:Int))<(↑(2:Nat):Int))/\(IntKind.i64.wrap ((↑(2:Nat):Int) - (1:Int))).toNat < [x,y].length)/\(decide (IntKind.i64.wrap (IntKind.i64.wrap ((↑(2:Nat):Int) - (1:Int)) - (1:Int))>=(0:Int))=true/\false=false/\((0:Int)<=IntKind.i64.wrap (IntKind.i64.wrap ((↑(2:Nat):Int) - (1:Int)) - (1:Int))/\IntKind.i64.wrap (IntKind.i64.wrap ((↑(2:Nat):Int) - (1:Int)) - (1:Int))<(↑(2:Nat):Int))/\(IntKind.i64.wrap (IntKind.i64.wrap ((↑(2:Nat):Int) - (1:Int)) - (1:Int))).toNat < [x,y].length)/\decide (IntKind.i64.wrap (IntKind.i64.wrap (IntKind.i64.wrap ((↑(2:Nat):Int) - (1:Int)) - (1:Int)) - (1:Int))>=(0:Int))=false)
def Xd (x y:Int):AV:=(AV.tuple [AV.int true IntKind.i64 (IntKind.i64.wrap (IntKind.i64.wrap (IntKind.i64.wrap (Int.ofNat (0:Nat) + [x,y].getD (IntKind.i64.wrap ((↑(2:Nat):Int) - (1:Int))).toNat (0:Int))*(1000000000:Int)) + [x,y].getD (IntKind.i64.wrap (IntKind.i64.wrap ((↑(2:Nat):Int) - (1:Int)) - (1:Int))).toNat (0:Int))),AV.int false IntKind.i64 (Int.ofNat (0:Nat))])
def Xe (x y:Int):Hp:=⟨[{ wr:=(0:Nat),body:=ABody.rows IntKind.i64 [x,y] }],1,70⟩
theorem acx (x y:Int):(run (DB 60) 300).call 60 (qK 2) (inH [x,y])=some ⟨.p (RV x y),[⟨.tt,Xd x y,Xe x y⟩]⟩:=by kernel_rfl
end
end Go.Proofs.YtmnhhlnbfkfkaaaGreat.K
namespace Go.Proofs.YtmnhhlnbfkfkaaaGreat.K
open Go Go.Eng Go.Dg Go.Ar Go.Vc
noncomputable section
def inV:List Nu->List (List Int)->Option (Prop×To)
 | [.t p],[a]=>some (p=false/\okL false a/\a.length<=2,.tu [.nu .i64 (val a),.nu .i64 0])
 | _,_=>none
theorem Xf {a:List Int} (h:okL false a) (hl:a.length<=2):okL (decide ((-9223372036854775808:Int)<0)) (aa (-9223372036854775808:Int).natAbs)/\okL (decide ((9223372036854775807:Int)<0)) (aa (Int.natAbs 9223372036854775807)) /\
  decide (mL (zv false a) (zv (decide ((-9223372036854775808:Int)<0)) (aa (-9223372036854775808:Int).natAbs))<0)=false/\decide (mL (zv false a) (zv (decide ((9223372036854775807:Int)<0)) (aa (Int.natAbs 9223372036854775807)))>0)=false:=by
 have h1:=ba h.1
 have h2:=af h.1
 have h3:=bK hl
 have e:pw 2=1000000000000000000:=by decide
 have t:(9223372036854775808:Int)<=100*ag:=by decide
 refine ⟨(okA (z:=-9223372036854775808) (by decide)).1,(okA (z:=9223372036854775807) (by omega)).1,?_,?_⟩
 .rw [gF,show zv false a=val a from rfl]
  unfold mL
  rw [if_neg (by omega),if_neg (by omega)]; rfl
 .rw [gF,show zv false a=val a from rfl]
  unfold mL
  rw [if_neg (by omega),if_pos (by omega)]; rfl
theorem Xg:NOk Tryz.prog (fun _=>none) hG0 60 (au hG0 .i64 [.st [.nu .b,.li]] inV):=by
 refine bb (fun xs ys p t e h=>?_) ⟨_,Tryz.func60,rfl⟩
 unfold inV at e
 split at e
 .rename_i p a
  cases e
  obtain ⟨rfl,ha,hl⟩:=h
  obtain ⟨o1,o2,o3,o4⟩:=Xf ha hl
  have b1:(-9223372036854775808:Int).natAbs<=9223372036854775808:=by decide
  have b2:Int.natAbs 9223372036854775807<=9223372036854775808:=by decide
  match a,hl with
  | [],_=>
   refine ⟨DB 0,300,qK 0,_,_,_,_,_,yU _,rfl,rfl,⟨⟨rfl,rfl,trivial⟩,trivial⟩,acv 0,rfl,?_,rfl,rfl,⟨rfl,rfl⟩⟩
   exact ⟨⟨rfl,ha,by show 0<=600; omega⟩,⟨b1,b2⟩,⟨⟨⟨rfl,rfl⟩,ha,o1⟩,fun h=>(by rw [o3] at h; cases h),fun _=>⟨⟨⟨rfl,rfl⟩,ha,o2⟩,o4⟩⟩,by decide⟩
  | [x],_=>
   have hx:=ha.1 x (by simp)
   refine ⟨DB 40,300,qK 1,_,_,_,_,_,yU _,rfl,rfl,⟨⟨rfl,rfl,trivial⟩,trivial⟩,acw x,rfl,?_,rfl,rfl,⟨?_,rfl⟩⟩
   .exact ⟨⟨rfl,ha,by show 1<=600; omega⟩,⟨b1,b2⟩,⟨⟨⟨rfl,rfl⟩,ha,o1⟩,fun h=>(by rw [o3] at h; cases h),fun _=>⟨⟨⟨rfl,rfl⟩,ha,o2⟩,o4⟩⟩,⟨by decide,rfl,⟨by decide,by decide⟩,by show 0<1; omega⟩,by decide⟩
   .show IntKind.i64.wrap (0+x)=val [x]
    rw [Int.zero_add,iw (by omega) (by omega)]
    show x=x+1000000000*0
    omega
  | [x,y],_=>
   have hx:=ha.1 x (by simp)
   have hy:=ha.1 y (by simp)
   refine ⟨DB 60,300,qK 2,_,_,_,_,_,yU _,rfl,rfl,⟨⟨rfl,rfl,trivial⟩,trivial⟩,acx x y,rfl,?_,rfl,rfl,⟨?_,rfl⟩⟩
   .exact ⟨⟨rfl,ha,by show 2<=600; omega⟩,⟨b1,b2⟩,⟨⟨⟨rfl,rfl⟩,ha,o1⟩,fun h=>(by rw [o3] at h; cases h),fun _=>⟨⟨⟨rfl,rfl⟩,ha,o2⟩,o4⟩⟩,⟨by decide,rfl,⟨by decide,by decide⟩,by show 1<2; omega⟩,⟨by decide,rfl,⟨by decide,by decide⟩,by show 0<2; omega⟩,by decide⟩
   .show IntKind.i64.wrap (IntKind.i64.wrap (IntKind.i64.wrap (0+y)*1000000000)+x)=val [x,y]
    rw [Int.zero_add,iw (n:=y) (by omega) (by omega),iw (n:=y*1000000000) (by omega) (by omega),iw (by omega) (by omega)]
    show y*1000000000+x=x+1000000000*(y+1000000000*0)
    omega
 .cases e
def tRz:List (FuncId×ew):=
 (50,au hG0 .i64 [.nu (.i .i64)] WT) ::
 (53,au hG0 .i64 [.nu (.i .i64),.nu (.i .i64),.st [.nu .b,.li]] Mr) ::
 (55,au hG0 .i64 psA rnV) ::
 (59,au hG0 .i64 psA saV) ::
 (60,au hG0 .i64 [.st [.nu .b,.li]] inV) :: tRq
theorem Xh:∀ x∈tRz,NOk Tryz.prog (fun _=>none) hG0 x.1 x.2:=by
 intro x hx
 rcases List.mem_cons.1 hx with rfl|hx
 .exact Ms
 rcases List.mem_cons.1 hx with rfl|hx
 .exact RK
 rcases List.mem_cons.1 hx with rfl|hx
 .exact W7
 rcases List.mem_cons.1 hx with rfl|hx
 .exact Ff
 rcases List.mem_cons.1 hx with rfl|hx
 .exact Xg
 exact Mx x hx
def cRz (l:List (Nat×Bool)):Ctx:=aO (mkN Tryz.prog (fun _=>none) hG0 tRz [] dJ) (hZ (l.map fun x=>(x.1,match x.2 with|true=>.bool false true|false=>.bool false false)))
theorem yV (l:List (Nat×Bool)):CtxOk (cRz l):=aj (fO aP (cq _) Xh (fun x h=>by cases h)) _
def qzA:Int:=Zv (bif (1:Int)==1 then iQ else iR)*Zv 10
def qzB:Int:=Zv (bif (3:Int)==1 then iQ else iR)*Zv 4
def qzR:Int:=Zv qzA+Zv qzB
def qzY (m d:Int):Int:=(Zv qzR*Zv m).tdiv (Zv d)
def qzS (m d:Int):Int:=rnR (aa (qzY m d).natAbs) (aa ag.natAbs) .a0
def qzL (m d:Int):Int:=Zv (qzS m d) - Zv 100000000
def qzH (m d:Int):Int:=Zv (qzS m d)+Zv 100000000
def uV (m d:Int):Int:=Zv (qzL m d)*Zv 4294967296
def uW (m d:Int):Int:=Zv (qzH m d)*Zv 4294967296
def qzD (m d:Int):Int:=(Zv (uV m d)).tdiv (Zv ag)
def qzU (m d:Int):Int:=(Zv (uW m d)).tdiv (Zv ag)
end
end Go.Proofs.YtmnhhlnbfkfkaaaGreat.K
namespace Go.Proofs.YtmnhhlnbfkfkaaaGreat.K
open Go Go.Eng Go.Dg
noncomputable section
def yW (m d:Int):Int:=Zv (uV m d)
def yX (m d:Int):Int:=Zv (uW m d)
def DC (m d:Int):Prop:=((m==(0:Int))=false/\(m==d)=false/\(IntKind.i64.wrap ((3:Int)*m)==d)=false/\(40:Int)=(40:Int)/\(((↑(aa ag.natAbs).length:Int)=(↑(aa ag.natAbs).length:Int)/\((1:Int)=(1:Int)/\(7:Int)=(7:Int)\/(1:Int)=(3:Int)/\(7:Int)=(79:Int))/\decide (ag<(0:Int))=false/\aa ag.natAbs=[(0:Int),(0:Int),(0:Int),(0:Int),(10000:Int)])/\(decide (ag<(0:Int))=decide (ag<(0:Int))/\(↑(aa ag.natAbs).length:Int)=(↑(aa ag.natAbs).length:Int))/\Int.natAbs (10:Int)<=(9223372036854775808:Nat)/\(decide (ag<(0:Int))=decide (ag<(0:Int))/\(↑(aa ag.natAbs).length:Int)=(↑(aa ag.natAbs).length:Int))/\(((↑(aa (bif (1:Int)==(1:Int) then iQ else iR).natAbs).length:Int)=(↑(aa (bif (1:Int)==(1:Int) then iQ else iR).natAbs).length:Int)/\(↑(aa (Int.natAbs (10:Int))).length:Int)=(↑(aa (Int.natAbs (10:Int))).length:Int))/\okL (decide ((bif (1:Int)==(1:Int) then iQ else iR)<(0:Int))) (aa (bif (1:Int)==(1:Int) then iQ else iR).natAbs)/\okL (decide ((10:Int)<(0:Int))) (aa (Int.natAbs (10:Int)))/\(aa (bif (1:Int)==(1:Int) then iQ else iR).natAbs).length+(aa (Int.natAbs (10:Int))).length<=(500000:Nat))/\(decide (ag<(0:Int))=decide (ag<(0:Int))/\(↑(aa ag.natAbs).length:Int)=(↑(aa ag.natAbs).length:Int))/\((↑(aa ag.natAbs).length:Int)=(↑(aa ag.natAbs).length:Int)/\((3:Int)=(1:Int)/\(79:Int)=(7:Int)\/(3:Int)=(3:Int)/\(79:Int)=(79:Int))/\decide (ag<(0:Int))=false/\aa ag.natAbs=[(0:Int),(0:Int),(0:Int),(0:Int),(10000:Int)])/\Int.natAbs (4:Int)<=(9223372036854775808:Nat)/\(((↑(aa (bif (3:Int)==(1:Int) then iQ else iR).natAbs).length:Int)=(↑(aa (bif (3:Int)==(1:Int) then iQ else iR).natAbs).length:Int)/\(↑(aa (Int.natAbs (4:Int))).length:Int)=(↑(aa (Int.natAbs (4:Int))).length:Int))/\okL (decide ((bif (3:Int)==(1:Int) then iQ else iR)<(0:Int))) (aa (bif (3:Int)==(1:Int) then iQ else iR).natAbs)/\okL (decide ((4:Int)<(0:Int))) (aa (Int.natAbs (4:Int)))/\(aa (bif (3:Int)==(1:Int) then iQ else iR).natAbs).length+(aa (Int.natAbs (4:Int))).length<=(500000:Nat))/\((↑(aa (qzA).natAbs).length:Int)=(↑(aa (qzA).natAbs).length:Int)/\(↑(aa (qzB).natAbs).length:Int)=(↑(aa (qzB).natAbs).length:Int))/\okL (decide (qzA<(0:Int))) (aa (qzA).natAbs)/\okL (decide (qzB<(0:Int))) (aa (qzB).natAbs)/\aa (qzA).natAbs≠[]/\aa (qzB).natAbs≠[]/\val (aa (qzA).natAbs)+val (aa (qzB).natAbs)<pw (400000:Nat))/\(m.natAbs<=(9223372036854775808:Nat)/\((decide (ag<(0:Int))=decide (ag<(0:Int))/\(↑(aa ag.natAbs).length:Int)=(↑(aa ag.natAbs).length:Int))/\decide (qzR<(0:Int))=decide (qzR<(0:Int))/\(↑(aa (qzR).natAbs).length:Int)=(↑(aa (qzR).natAbs).length:Int))/\d.natAbs<=(9223372036854775808:Nat)/\((decide (ag<(0:Int))=decide (ag<(0:Int))/\(↑(aa ag.natAbs).length:Int)=(↑(aa ag.natAbs).length:Int))/\decide (qzR<(0:Int))=decide (qzR<(0:Int))/\(↑(aa (qzR).natAbs).length:Int)=(↑(aa (qzR).natAbs).length:Int))/\(((↑(aa (qzR).natAbs).length:Int)=(↑(aa (qzR).natAbs).length:Int)/\(↑(aa m.natAbs).length:Int)=(↑(aa m.natAbs).length:Int)/\(↑(aa d.natAbs).length:Int)=(↑(aa d.natAbs).length:Int))/\paC (decide (qzR<(0:Int))) (decide (m<(0:Int))) (decide (d<(0:Int))) (aa (qzR).natAbs) (aa m.natAbs) (aa d.natAbs))/\(decide (ag<(0:Int))=decide (ag<(0:Int))/\(↑(aa ag.natAbs).length:Int)=(↑(aa ag.natAbs).length:Int))/\((↑(aa (qzY m d).natAbs).length:Int)=(↑(aa (qzY m d).natAbs).length:Int)/\(↑(aa ag.natAbs).length:Int)=(↑(aa ag.natAbs).length:Int))/\decide (qzY m d<(0:Int))=false/\decide (ag<(0:Int))=false/\RnD (aa (qzY m d).natAbs) (aa ag.natAbs))/\Int.natAbs (100000000:Int)<=(9223372036854775808:Nat)/\((((↑(aa (qzS m d).natAbs).length:Int)=(↑(aa (qzS m d).natAbs).length:Int)/\(↑(aa (Int.natAbs (100000000:Int))).length:Int)=(↑(aa (Int.natAbs (100000000:Int))).length:Int))/\okL (decide (qzS m d<(0:Int))) (aa (qzS m d).natAbs)/\okL (decide ((100000000:Int)<(0:Int))) (aa (Int.natAbs (100000000:Int)))/\decide (qzS m d<(0:Int))=decide ((100000000:Int)<(0:Int))/\aa (qzS m d).natAbs≠[]/\aa (Int.natAbs (100000000:Int))≠[])/\(decide (ag<(0:Int))=decide (ag<(0:Int))/\(↑(aa ag.natAbs).length:Int)=(↑(aa ag.natAbs).length:Int))/\Int.natAbs (4294967296:Int)<=(9223372036854775808:Nat)/\(decide (ag<(0:Int))=decide (ag<(0:Int))/\(↑(aa ag.natAbs).length:Int)=(↑(aa ag.natAbs).length:Int))/\(((↑(aa (qzL m d).natAbs).length:Int)=(↑(aa (qzL m d).natAbs).length:Int)/\(↑(aa (Int.natAbs (4294967296:Int))).length:Int)=(↑(aa (Int.natAbs (4294967296:Int))).length:Int))/\okL (decide (qzL m d<(0:Int))) (aa (qzL m d).natAbs)/\okL (decide ((4294967296:Int)<(0:Int))) (aa (Int.natAbs (4294967296:Int)))/\(aa (qzL m d).natAbs).length+(aa (Int.natAbs (4294967296:Int))).length<=(500000:Nat))/\(decide (ag<(0:Int))=decide (ag<(0:Int))/\(↑(aa ag.natAbs).length:Int)=(↑(aa ag.natAbs).length:Int))/\(((↑(aa (uV m d).natAbs).length:Int)=(↑(aa (uV m d).natAbs).length:Int)/\(↑(aa ag.natAbs).length:Int)=(↑(aa ag.natAbs).length:Int))/\okL (decide (uV m d<(0:Int))) (aa (uV m d).natAbs)/\okL (decide (ag<(0:Int))) (aa ag.natAbs)/\aa ag.natAbs≠[]/\(aa (uV m d).natAbs).length+(aa ag.natAbs).length<=(400000:Nat))/\decide ((yW m d).tmod (Zv (ag))<(0:Int))=false)/\((((↑(aa (qzS m d).natAbs).length:Int)=(↑(aa (qzS m d).natAbs).length:Int)/\(↑(aa (Int.natAbs (100000000:Int))).length:Int)=(↑(aa (Int.natAbs (100000000:Int))).length:Int))/\okL (decide (qzS m d<(0:Int))) (aa (qzS m d).natAbs)/\okL (decide ((100000000:Int)<(0:Int))) (aa (Int.natAbs (100000000:Int)))/\aa (qzS m d).natAbs≠[]/\aa (Int.natAbs (100000000:Int))≠[]/\val (aa (qzS m d).natAbs)+val (aa (Int.natAbs (100000000:Int)))<pw (400000:Nat))/\(decide (ag<(0:Int))=decide (ag<(0:Int))/\(↑(aa ag.natAbs).length:Int)=(↑(aa ag.natAbs).length:Int))/\Int.natAbs (4294967296:Int)<=(9223372036854775808:Nat)/\(decide (ag<(0:Int))=decide (ag<(0:Int))/\(↑(aa ag.natAbs).length:Int)=(↑(aa ag.natAbs).length:Int))/\(((↑(aa (qzH m d).natAbs).length:Int)=(↑(aa (qzH m d).natAbs).length:Int)/\(↑(aa (Int.natAbs (4294967296:Int))).length:Int)=(↑(aa (Int.natAbs (4294967296:Int))).length:Int))/\okL (decide (qzH m d<(0:Int))) (aa (qzH m d).natAbs)/\okL (decide ((4294967296:Int)<(0:Int))) (aa (Int.natAbs (4294967296:Int)))/\(aa (qzH m d).natAbs).length+(aa (Int.natAbs (4294967296:Int))).length<=(500000:Nat))/\(decide (ag<(0:Int))=decide (ag<(0:Int))/\(↑(aa ag.natAbs).length:Int)=(↑(aa ag.natAbs).length:Int))/\(((↑(aa (uW m d).natAbs).length:Int)=(↑(aa (uW m d).natAbs).length:Int)/\(↑(aa ag.natAbs).length:Int)=(↑(aa ag.natAbs).length:Int))/\okL (decide (uW m d<(0:Int))) (aa (uW m d).natAbs)/\okL (decide (ag<(0:Int))) (aa ag.natAbs)/\aa ag.natAbs≠[]/\(aa (uW m d).natAbs).length+(aa ag.natAbs).length<=(400000:Nat))/\decide ((yX m d).tmod (Zv (ag))<(0:Int))=false)/\((((↑(aa (qzD m d).natAbs).length:Int)=(↑(aa (qzD m d).natAbs).length:Int)/\(↑(aa (qzU m d).natAbs).length:Int)=(↑(aa (qzU m d).natAbs).length:Int))/\Sm (aa (qzD m d).natAbs)/\Sm (aa (qzU m d).natAbs))/\decide (decide (qzD m d<(0:Int))=decide (qzU m d<(0:Int))/\aa (qzD m d).natAbs=aa (qzU m d).natAbs)=true)/\(↑(aa (qzD m d).natAbs).length:Int)=(↑(aa (qzD m d).natAbs).length:Int)/\decide (qzD m d<(0:Int))=false/\okL false (aa (qzD m d).natAbs)/\(aa (qzD m d).natAbs).length<=(2:Nat))
def MK (m d:Int):AV:=(AV.agg [AV.int true IntKind.i64 (val (aa (qzD m d).natAbs)),AV.int true IntKind.i64 (IntKind.i64.wrap (val (aa (qzD m d).natAbs)+(1:Int)))])
def aaQ (m d:Int):Hp:=⟨[],(0:Nat),112⟩
theorem rqt (m d:Int):(run (cRz [(15,false),(19,false),(24,false),(14,false),(64,true)]) 300).call 30 (lN m d) hG0=some ⟨.p (DC m d),[⟨.tt,MK m d,aaQ m d⟩]⟩:=by kernel_rfl
def Xi (m d:Int):Prop:=((m==(0:Int))=true)
def aaR (m d:Int):AV:=(AV.agg [AV.int false IntKind.i64 (Int.ofNat (0:Nat)),AV.int false IntKind.i64 (Int.ofNat (0:Nat))])
def aaS (m d:Int):Hp:=⟨[],(0:Nat),7⟩
theorem rq0 (m d:Int):(run (cRz [(15,true)]) 300).call 30 (lN m d) hG0=some ⟨.p (Xi m d),[⟨.tt,aaR m d,aaS m d⟩]⟩:=by kernel_rfl
def Xj (m d:Int):Prop:=((m==(0:Int))=false/\(m==d)=true)
def aaT (m d:Int):AV:=(AV.agg [AV.int false IntKind.i64 (Int.ofNat 4294967296),AV.int false IntKind.i64 (Int.ofNat 4294967296)])
def aaU (m d:Int):Hp:=⟨[],(0:Nat),10⟩
theorem rqo (m d:Int):(run (cRz [(15,false),(19,true)]) 300).call 30 (lN m d) hG0=some ⟨.p (Xj m d),[⟨.tt,aaT m d,aaU m d⟩]⟩:=by kernel_rfl
def Xk (m d:Int):Prop:=((m==(0:Int))=false/\(m==d)=false/\(IntKind.i64.wrap ((3:Int)*m)==d)=true)
def aaV (m d:Int):AV:=(AV.agg [AV.int false IntKind.i64 (Int.ofNat 2147483648),AV.int false IntKind.i64 (Int.ofNat 2147483648)])
def aaW (m d:Int):Hp:=⟨[],(0:Nat),14⟩
theorem rqh (m d:Int):(run (cRz [(15,false),(19,false),(24,true)]) 300).call 30 (lN m d) hG0=some ⟨.p (Xk m d),[⟨.tt,aaV m d,aaW m d⟩]⟩:=by kernel_rfl
end
end Go.Proofs.YtmnhhlnbfkfkaaaGreat.K
namespace Go.Sn
open Go.Dg
def WW:Int:=10000000000000000000000000000000000000000
def V:Rat:=10000000000000000000000000000000000000000
theorem RW:((WW:Int):Rat)=V:=by decide
theorem uX:0<WW:=by decide
def rP (y:Int):Nat->Int
 | 0=>y
 | j+1=>rP y j*y / WW*y / WW / ((2*(j:Int)+2)*(2*(j:Int)+2+1))
def rSm (y:Int):Nat->Int
 | 0=>0
 | j+1=>match decide (j % 2=0) with|true=>rSm y j+rP y j|false=>rSm y j - rP y j
def sgn (j:Nat) (x:Int):Int:=match decide (j % 2=0) with|true=>x|false=>-x
theorem Fr {y:Int} (h0:0<=y):∀ j,0<=rP y j
 | 0=>h0
 | j+1=>by
  have p:=uX
  have ih:=Fr h0 j
  have hk:6<=(2*(j:Int)+2)*(2*(j:Int)+2+1):=Int.mul_le_mul (a:=2) (b:=3) (by omega) (by omega) (by decide) (by omega)
  exact Int.ediv_nonneg (Int.ediv_nonneg (Int.mul_nonneg (Int.ediv_nonneg (Int.mul_nonneg ih h0) (by omega)) h0) (by omega)) (by omega)
theorem RX {y:Int} {j:Nat} (h:rP y j=0):∀ n,j<=n->rP y n=0:=by
 intro n hn
 induction n with
 | zero=>
  have:j=0:=by omega
  subst this; exact h
 | succ n ih=>
  rcases Nat.lt_or_ge n j with h1|h1
  .have:j=n+1:=by omega
   subst this; exact h
  .rw [rP,ih h1]; simp
theorem BL {y:Int} {j:Nat} (h:rP y j=0):∀ n,j<=n->rSm y n=rSm y j:=by
 intro n hn
 induction n with
 | zero=>
  have:j=0:=by omega
  subst this; rfl
 | succ n ih=>
  rcases Nat.lt_or_ge n j with h1|h1
  .have:j=n+1:=by omega
   subst this; rfl
  .rw [rSm,RX h n h1,ih h1]
   split <;> omega
theorem Fs {y i t:Int} (h0:0<=y) (ht:0<=t) (hi:2<=i):rnT y WW i t=-(t*y / WW*y / WW / (i*(i+1)))/\rnT y WW i (-t)=t*y / WW*y / WW / (i*(i+1)):=by
 have p:=uX
 have a0:0<=t*y:=Int.mul_nonneg ht h0
 have a1:0<=t*y / WW:=Int.ediv_nonneg a0 (by omega)
 have a2:0<=t*y / WW*y:=Int.mul_nonneg a1 h0
 have a3:0<=t*y / WW*y / WW:=Int.ediv_nonneg a2 (by omega)
 have e1:(t*y).tdiv WW=t*y / WW:=Int.tdiv_eq_ediv_of_nonneg a0
 have e2:(t*y / WW*y).tdiv WW=t*y / WW*y / WW:=Int.tdiv_eq_ediv_of_nonneg a2
 have e3:(t*y / WW*y / WW).tdiv (i*(i+1))=t*y / WW*y / WW / (i*(i+1)):=Int.tdiv_eq_ediv_of_nonneg a3
 unfold rnT
 constructor
 .rw [e1,e2,Int.neg_tdiv,e3]
 .have f1:(-t*y).tdiv WW=-(t*y / WW):=by rw [Int.neg_mul,Int.neg_tdiv,e1]
  have f2:(-(t*y / WW)*y).tdiv WW=-(t*y / WW*y / WW):=by rw [Int.neg_mul,Int.neg_tdiv,e2]
  rw [f1,f2,Int.neg_neg,e3]
theorem ML {y:Int} (h0:0<=y):∀ (n j:Nat),rnN y WW n (2*(j:Int)+2) (sgn j (rP y j)) (rSm y (j+1))=rSm y (j+1+n)
 | 0,_=>rfl
 | n+1,j=>by
  have nn:=Fr h0 j
  obtain ⟨t1,t2⟩:=Fs (i:=2*(j:Int)+2) h0 nn (by omega)
  have et:rnT y WW (2*(j:Int)+2) (sgn j (rP y j))=sgn (j+1) (rP y (j+1)):=by
   unfold sgn
   by_cases hj:j % 2=0
   .rw [decide_eq_true hj,decide_eq_false (show ¬(j+1) % 2=0 by omega)]; exact t1
   .rw [decide_eq_false hj,decide_eq_true (show (j+1) % 2=0 by omega)]; exact t2
  have es:rSm y (j+1)+sgn (j+1) (rP y (j+1))=rSm y (j+1+1):=by
   show _=(match decide ((j+1) % 2=0) with|true=>rSm y (j+1)+rP y (j+1)|false=>rSm y (j+1) - rP y (j+1))
   unfold sgn
   by_cases hj:(j+1) % 2=0
   .rw [decide_eq_true hj]
   .rw [decide_eq_false hj]
    show rSm y (j+1) + -rP y (j+1)=rSm y (j+1) - rP y (j+1)
    omega
  by_cases h:rP y (j+1)=0
  .have hz:rnT y WW (2*(j:Int)+2) (sgn j (rP y j))=0:=by rw [et,h]; unfold sgn; split <;> rfl
   rw [Fl hz,BL h (j+1+(n+1)) (by omega)]
  .have hz:rnT y WW (2*(j:Int)+2) (sgn j (rP y j))≠0:=by rw [et]; unfold sgn; split <;> omega
   rw [uU hz,et,es]
   have ih:=ML h0 n (j+1)
   rw [show j+1+(n+1)=j+1+1+n by omega,<- ih]
   have e1:2*(j:Int)+2+2=2*((j+1:Nat):Int)+2:=by push_cast; omega
   rw [e1]
theorem aaX {U x p y a1 a2 t t' k r:Rat} (hU:0<U) (x0:0<=x) (x1:x<=8 / 5) (hy:y=x*U) (nj:0<=p) (i1:p<=U*t) (i2:U*t<=p+5)
  (ta:a1*U<=p*y) (tb:p*y<(a1+1)*U) (sa:a2*U<=a1*y) (sb:a1*y<(a2+1)*U) (ua:r*k<=a2) (ub:a2<(r+1)*k) (hk:6<=k) (e3:k*t'=x*x*t):r<=U*t'/\U*t'<=r+5:=by
 subst hy
 have x2:x*x<=64 / 25:=by
  have a:=Rat.mul_le_mul_of_nonneg_left x1 x0
  grind
 have xx0:0<=x*x:=Rat.mul_nonneg x0 x0
 have c1:a1<=p*x:=Rat.le_of_mul_le_mul_right (c:=U) (by grind) hU
 have c2:p*x<a1+1:=by
  apply Rat.not_le.1
  intro h
  have:=Rat.mul_le_mul_of_nonneg_right h (show 0<=U by grind)
  grind
 have c3:a2<=a1*x:=Rat.le_of_mul_le_mul_right (c:=U) (by grind) hU
 have c4:a1*x<a2+1:=by
  apply Rat.not_le.1
  intro h
  have:=Rat.mul_le_mul_of_nonneg_right h (show 0<=U by grind)
  grind
 have d1:a2<=x*x*(U*t):=by
  have h1:=Rat.mul_le_mul_of_nonneg_right c1 x0
  have h2:=Rat.mul_le_mul_of_nonneg_left i1 xx0
  grind
 have d2:x*x*(U*t)<a2+1+8 / 5+64 / 5:=by
  have h1:=Rat.mul_le_mul_of_nonneg_left i2 xx0
  have h2:=Rat.mul_le_mul_of_nonneg_right (show p*x<=a1+1 by grind) x0
  grind
 have hk0:0<k:=by grind
 constructor
 .refine Rat.le_of_mul_le_mul_right (c:=k) ?_ hk0
  have:U*t'*k=x*x*(U*t):=by grind
  grind
 .refine Rat.le_of_mul_le_mul_right (c:=k) ?_ hk0
  have:U*t'*k=x*x*(U*t):=by grind
  grind
theorem MN {y:Int} (h0:0<=y) (h1:y*10<=16*WW):0<=(y:Rat) / V/\(y:Rat) / V<=8 / 5/\(y:Rat)=(y:Rat) / V*V:=by
 have hU:(0:Rat)<V:=by decide
 have y0:(0:Rat)<=(y:Rat):=by exact_mod_cast h0
 have y1:(y:Rat)*10<=16*V:=by rw [<- RW]; exact_mod_cast h1
 have hx:(y:Rat) / V*V=(y:Rat):=by grind
 refine ⟨?_,?_,hx.symm⟩
 .refine Rat.le_of_mul_le_mul_right (c:=V) ?_ hU
  rw [hx]; grind
 .refine Rat.le_of_mul_le_mul_right (c:=V) ?_ hU
  rw [hx]; grind
theorem Ft {y:Int} (h0:0<=y) (h1:y*10<=16*WW):∀ j:Nat,(rP y j:Rat)<=V*e ((y:Rat) / V) (2*j+1)/\V*e ((y:Rat) / V) (2*j+1)<=(rP y j:Rat)+5:=by
 have hU:(0:Rat)<V:=by decide
 have hP:0<WW:=uX
 obtain ⟨x0,x1,hx⟩:=MN h0 h1
 intro j
 induction j with
 | zero=>
  have e1:e ((y:Rat) / V) (2*0+1)=(y:Rat) / V:=by simp only [e]; grind
  rw [e1]
  show (y:Rat)<=V*((y:Rat) / V)/\V*((y:Rat) / V)<=(y:Rat)+5
  grind
 | succ j ih=>
  obtain ⟨i1,i2⟩:=ih
  have nj:(0:Rat)<=(rP y j:Rat):=by exact_mod_cast Fr h0 j
  have hk:6<=(2*(j:Int)+2)*(2*(j:Int)+2+1):=Int.mul_le_mul (a:=2) (b:=3) (by omega) (by omega) (by decide) (by omega)
  have hkr:(6:Rat)<=(((2*(j:Int)+2)*(2*(j:Int)+2+1):Int):Rat):=by exact_mod_cast hk
  have ta:=lT (rP y j*y) WW hP
  have tb:=lU (rP y j*y) WW hP
  have sa:=lT (rP y j*y / WW*y) WW hP
  have sb:=lU (rP y j*y / WW*y) WW hP
  have ua:=lT (rP y j*y / WW*y / WW) ((2*(j:Int)+2)*(2*(j:Int)+2+1)) (by omega)
  have ub:=lU (rP y j*y / WW*y / WW) ((2*(j:Int)+2)*(2*(j:Int)+2+1)) (by omega)
  have e3:∀ x:Rat,(((2*(j:Int)+2)*(2*(j:Int)+2+1):Int):Rat)*e x (2*j+3)=x*x*e x (2*j+1):=by
   intro x
   have a:=fk x (2*j+1)
   have b:=fk x (2*j+2)
   have c:(((2*(j:Int)+2)*(2*(j:Int)+2+1):Int):Rat)=((2*j+1+1:Nat):Rat)*((2*j+2+1:Nat):Rat):=by push_cast; grind
   rw [c,Rat.mul_assoc,show 2*j+3=2*j+2+1 by omega,b]
   have:((2*j+1+1:Nat):Rat)*(x*e x (2*j+2))=x*(((2*j+1+1:Nat):Rat)*e x (2*j+1+1)):=by grind
   rw [this,a]; grind
  rw [RW,Rat.intCast_mul] at ta tb sa sb
  exact aaX hU x0 x1 hx nj i1 i2 ta tb sa sb ua ub hkr (e3 _)
theorem RY {y:Int} (h0:0<=y) (h1:y*10<=16*WW):∀ j:Nat,(rSm y j:Rat)<=V*qS ((y:Rat) / V) j+5*j/\V*qS ((y:Rat) / V) j<=(rSm y j:Rat)+5*j:=by
 intro j
 induction j with
 | zero=>
  have z:qS ((y:Rat) / V) 0=0:=rfl
  have z2:rSm y 0=0:=rfl
  rw [z,z2]; simp; decide +kernel
 | succ j ih=>
  obtain ⟨i1,i2⟩:=ih
  obtain ⟨t1,t2⟩:=Ft h0 h1 j
  rw [rSm,qS]
  have c:((j+1:Nat):Rat)=(j:Rat)+1:=by push_cast; rfl
  rw [c]
  by_cases h:j % 2=0
  .rw [decide_eq_true h]; dsimp only; push_cast; grind
  .rw [decide_eq_false h]; dsimp only; push_cast; grind
theorem acy:V*e (8 / 5) 65<1:=by decide +kernel
theorem MO {y:Int} (h0:0<=y) (h1:y*10<=16*WW):(rnN y WW 200 2 y y:Rat)<=V*S 64 ((y:Rat) / V)+160/\V*S 64 ((y:Rat) / V)<=(rnN y WW 200 2 y y:Rat)+160:=by
 obtain ⟨x0,x1,hx⟩:=MN h0 h1
 have z:rP y 32=0:=by
  have a:=(Ft h0 h1 32).1
  have b:=K8 x0 x1 65
  have c:=acy
  have d:V*e ((y:Rat) / V) 65<=V*e (8 / 5) 65:=Rat.mul_le_mul_of_nonneg_left b (by decide)
  have f:(rP y 32:Rat)<1:=by
   have:V*e ((y:Rat) / V) (2*32+1)=V*e ((y:Rat) / V) 65:=rfl
   grind
  have g:rP y 32<1:=by exact_mod_cast f
  have:=Fr h0 32
  omega
 have es:rnN y WW 200 2 y y=rSm y 32:=by
  have a:=ML h0 200 0
  have b:rSm y (0+1)=y:=by show 0+y=y; omega
  rw [b] at a
  rw [show (2:Int)=2*((0:Nat):Int)+2 by decide]
  exact Eq.trans a (BL z _ (by omega))
 have n:=RY h0 h1 32
 rw [es]
 have e2:S 64 ((y:Rat) / V)=qS ((y:Rat) / V) 32:=Ys _ 32
 rw [e2]
 have:(5:Rat)*((32:Nat):Rat)=160:=by decide +kernel
 rw [this] at n
 exact n
def RR:Int:=15707963267948966192313216916397514420992
def dL (m d:Int):Int:=RR*m / d
def qL (m d:Int):Int:=rnN (dL m d) WW 200 2 (dL m d) (dL m d)
theorem Xl:hp*V<=((RR:Int):Rat)/\((RR:Int):Rat)<=hp*V+17:=by
 refine ⟨?_,?_⟩ <;> decide +kernel
theorem sE {m d:Int} (hm:0<=m) (hd:m<=d) (h0:0<d):0<=dL m d/\dL m d<=RR/\dL m d*10<=16*WW:=by
 have y1:dL m d<=RR:=Int.ediv_le_of_le_mul h0 (Int.mul_le_mul_of_nonneg_left hd (by decide))
 have:RR*10<=16*WW:=by decide
 exact ⟨Int.ediv_nonneg (Int.mul_nonneg (by decide) hm) (by omega),y1,by omega⟩
theorem wx {m d:Int} (hm:0<=m) (hd:m<=d) (h0:0<d):(qL m d:Rat)<=V*tru ((m:Rat) / (d:Rat))+245/\V*tru ((m:Rat) / (d:Rat))<=(qL m d:Rat)+245:=by
 obtain ⟨q0,q1,qd⟩:=Yu hm hd h0
 obtain ⟨p0,p1⟩:=Lb q0 q1
 obtain ⟨r0,r1⟩:=Xl
 have hU:(0:Rat)<V:=by decide
 have d0:(0:Rat)<(d:Rat):=by exact_mod_cast h0
 obtain ⟨y0,_,y2⟩:=sE hm hd h0
 obtain ⟨x0,x1,hx⟩:=MN y0 y2
 have n:=MO y0 y2
 have a:=lT (RR*m) d h0
 have b:=lU (RR*m) d h0
 have ya:(dL m d:Rat)<=(RR:Rat)*((m:Rat) / (d:Rat)):=by
  refine Rat.le_of_mul_le_mul_right (c:=(d:Rat)) ?_ d0
  rw [Rat.mul_assoc,qd]
  rw [Rat.intCast_mul] at a
  exact a
 have yb:(RR:Rat)*((m:Rat) / (d:Rat))<=(dL m d:Rat)+1:=by
  refine Rat.le_of_mul_le_mul_right (c:=(d:Rat)) ?_ d0
  rw [Rat.mul_assoc,qd]
  rw [Rat.intCast_mul] at b
  unfold dL
  grind
 generalize (m:Rat) / (d:Rat)=q at *
 have c1:=Rat.mul_le_mul_of_nonneg_right r0 q0
 have c2:=Rat.mul_le_mul_of_nonneg_right r1 q0
 have l:=SG x0 x1 p0 p1 (d:=17 / V)
  (by
   refine Rat.le_of_mul_le_mul_right (c:=V) ?_ hU
   have:(hp*q+17 / V)*V=hp*V*q+17:=by grind
   rw [<- hx,this]; grind)
  (by
   refine Rat.le_of_mul_le_mul_right (c:=V) ?_ hU
   have:((dL m d:Rat) / V+17 / V)*V=(dL m d:Rat) / V*V+17:=by grind
   rw [this,<- hx]; grind)
 have u1:=Rat.mul_le_mul_of_nonneg_left l.1 (show 0<=V by grind)
 have u2:=Rat.mul_le_mul_of_nonneg_left l.2 (show 0<=V by grind)
 have eu:∀ s:Rat,V*(s+5*(17 / V))=V*s+85:=fun s=>by grind
 rw [eu] at u1 u2
 unfold tru qL
 grind
theorem Xm {m d k:Int} (hm:0<m) (hd:m<d) (h:GT ((m:Rat) / (d:Rat)) k):∀ z:Int,-100000000<=z->z<=100000000->(qL m d+z)*4294967296 / WW=k:=by
 have P0:0<WW:=uX
 have near:=wx (m:=m) (d:=d) (by omega) (by omega) (by omega)
 obtain ⟨k1,k2⟩:=h
 generalize hT:tru ((m:Rat) / (d:Rat))=T at *
 have hd1:(100000000+245)*4294967296<V*dl:=by decide +kernel
 have hU:(0:Rat)<V:=by decide
 have m1:=Rat.mul_le_mul_of_nonneg_left k1 (show 0<=V by grind)
 have m2:=Rat.mul_le_mul_of_nonneg_left k2 (show 0<=V by grind)
 intro z z0 z1
 have z0r:((-100000000:Int):Rat)<=(z:Rat):=Rat.intCast_le_intCast.2 z0
 have z1r:(z:Rat)<=((100000000:Int):Rat):=Rat.intCast_le_intCast.2 z1
 have e1:((-100000000:Int):Rat)=-100000000:=by decide +kernel
 have e2:((100000000:Int):Rat)=100000000:=by decide +kernel
 have e3:((4294967296:Int):Rat)=4294967296:=by decide +kernel
 rw [e1] at z0r
 rw [e2] at z1r
 apply E9 P0
 .apply Rat.intCast_le_intCast.1
  rw [Rat.intCast_mul,Rat.intCast_mul,Rat.intCast_add,RW,e3]
  grind
 .apply Rat.intCast_lt_intCast.1
  rw [Rat.intCast_mul,Rat.intCast_mul,Rat.intCast_add,Rat.intCast_add,RW,e3,Rat.intCast_one]
  grind
theorem RZ {m d:Int} (hm:0<m) (hd:m<=d) (hD:d<=4294967296):100000000000000000000000000000000000<=gB m d/\gB m d<=RG:=by
 have y0:0<=aX m d:=Int.ediv_nonneg (Int.mul_nonneg (by decide) (by omega)) (by omega)
 have y1:aX m d<=RG:=Int.ediv_le_of_le_mul (by omega) (Int.mul_le_mul_of_nonneg_left (by omega) (by decide))
 have rp:RG*10<=16*PP:=by decide
 have y3:365700000000000000000000000000000000<=aX m d:=by
  refine (Int.le_ediv_iff_mul_le (by omega)).2 ?_
  have a:365700000000000000000000000000000000*d<=365700000000000000000000000000000000*4294967296:=Int.mul_le_mul_of_nonneg_left hD (by decide)
  have b:RG*1<=RG*m:=Int.mul_le_mul_of_nonneg_left (by omega) (by decide)
  have c:(365700000000000000000000000000000000:Int)*4294967296<=RG*1:=by decide
  omega
 obtain ⟨s0,s1⟩:=La y0 (by omega)
 have es:=(qC y0 (by omega)).1
 have bd:=SF s0 s1 y0 15
 have t0:=jF s0 s1 y0 0
 have t32:0<=pT (aX m d*aX m d / PP) (aX m d) (2*15+2):=(jF s0 s1 y0 32).1
 have n1:gB m d=pS (aX m d*aX m d / PP) (aX m d) (2*15+2):=es
 have t0':2*pT (aX m d*aX m d / PP) (aX m d) 1<=aX m d:=t0.2
 have lo:aX m d - pT (aX m d*aX m d / PP) (aX m d) 1<=gB m d:=by rw [n1]; exact bd.1
 have hi:gB m d<=aX m d:=by rw [n1]; omega
 omega
theorem R0 {m d:Int} (hm:0<m) (hd:m<=d) (hD:d<=4294967296):1000000000<=qL m d/\qL m d<=2*WW:=by
 obtain ⟨a,b⟩:=RZ hm hd hD
 have n1:=wu (m:=m) (d:=d) (by omega) hd (by omega)
 have n2:=wx (m:=m) (d:=d) (by omega) hd (by omega)
 generalize tru ((m:Rat) / (d:Rat))=T at *
 have hU:(0:Rat)<U:=by decide
 have hV:(0:Rat)<V:=by decide
 have uv:U=100000*V:=by decide +kernel
 have ar:((100000000000000000000000000000000000:Int):Rat)<=(gB m d:Rat):=Rat.intCast_le_intCast.2 a
 have br:(gB m d:Rat)<=((RG:Int):Rat):=Rat.intCast_le_intCast.2 b
 have e1:((100000000000000000000000000000000000:Int):Rat)=100000000000000000000000000000000000:=by decide +kernel
 have e2:((RG:Int):Rat)+245+100000*245<=100000*(2*V):=by decide +kernel
 have e3:((1000000000:Int):Rat)=1000000000:=by decide +kernel
 have e4:((2*WW:Int):Rat)=2*V:=by decide +kernel
 rw [e1] at ar
 rw [uv] at n1
 constructor
 .apply Rat.intCast_le_intCast.1
  rw [e3]; grind
 .apply Rat.intCast_le_intCast.1
  rw [e4]; grind
theorem Xn {m d:Int} (hm:0<m) (hd:m<=d) (hD:d<=4294967296):0<dL m d/\rnT (dL m d) WW 2 (dL m d)≠0:=by
 obtain ⟨y0,y1,y2⟩:=sE (m:=m) (d:=d) (by omega) hd (by omega)
 have P0:=uX
 have y3:3657000000000000000000000000000<=dL m d:=by
  refine (Int.le_ediv_iff_mul_le (by omega)).2 ?_
  have a:3657000000000000000000000000000*d<=3657000000000000000000000000000*4294967296:=Int.mul_le_mul_of_nonneg_left hD (by decide)
  have b:RR*1<=RR*m:=Int.mul_le_mul_of_nonneg_left (by omega) (by decide)
  have c:(3657000000000000000000000000000:Int)*4294967296<=RR*1:=by decide
  omega
 refine ⟨by omega,?_⟩
 rw [(Fs (i:=2) y0 y0 (by decide)).1]
 have q1:3657000000000000000000000000000*3657000000000000000000000000000<=dL m d*dL m d:=Int.mul_le_mul y3 y3 (by decide) y0
 have q2:(1337364900000000000000:Int)<=dL m d*dL m d / WW:=(Int.le_ediv_iff_mul_le P0).2 (Int.le_trans (by decide) q1)
 have q3:1337364900000000000000*3657000000000000000000000000000<=dL m d*dL m d / WW*dL m d:=Int.mul_le_mul q2 y3 (by decide) (Int.ediv_nonneg (Int.mul_nonneg y0 y0) (by omega))
 have q4:(1000:Int)<=dL m d*dL m d / WW*dL m d / WW:=(Int.le_ediv_iff_mul_le P0).2 (Int.le_trans (by decide) q3)
 have q5:(1:Int)<=dL m d*dL m d / WW*dL m d / WW / (2*(2+1)):=(Int.le_ediv_iff_mul_le (by decide)).2 (by omega)
 omega
def quR (m d:Int):Bool:=decide (0<=m)&&(decide (m<=d)&&(decide (d<=4294967296)&&(m==0||(m==d||(3*m==d||(d==360000000&&m.tmod 4==0))))))
theorem MP {m d:Int} (h:quR m d=true):0<=m/\m<=d/\d<=4294967296/\(m=0\/m=d\/3*m=d\/(0<m/\m<d/\d<=4294967296/\3*m≠d/\∃ k,GT ((m:Rat) / (d:Rat)) k)):=by
 unfold quR at h
 simp only [Bool.and_eq_true,Bool.or_eq_true,decide_eq_true_eq,beq_iff_eq] at h
 obtain ⟨a,b,c,f⟩:=h
 refine ⟨a,b,c,?_⟩
 rcases f with f|f|f|f
 .exact .inl f
 .exact .inr (.inl f)
 .exact .inr (.inr (.inl f))
 .obtain ⟨rfl,f⟩:=f
  by_cases z:m=0
  .exact .inl z
  by_cases z1:m=360000000
  .exact .inr (.inl z1)
  by_cases z3:3*m=360000000
  .exact .inr (.inr (.inl z3))
  exact .inr (.inr (.inr ⟨by omega,by omega,by decide,z3,Fc (by omega) (by omega) z3 (by rw [Int.tmod_eq_emod_of_nonneg a] at f; exact f)⟩))
end Go.Sn
namespace Go.Proofs.YtmnhhlnbfkfkaaaGreat.K
open Go Go.Eng Go.Dg Go.Ar Go.Vc Go.Sn
noncomputable section
theorem DD:ag=WW:=rfl
theorem MQ:qzR=RR:=by
 unfold qzR qzA qzB
 simp only [bV]
 decide
theorem MR {m d:Int} (hm:0<=m) (hd:0<d):qzY m d=dL m d:=by
 unfold qzY dL
 rw [bV,bV,bV,MQ,Int.tdiv_eq_ediv_of_nonneg (Int.mul_nonneg (by decide) hm)]
theorem Xo {m d:Int} (hm:0<=m) (hmd:m<=d) (hd:0<d):qzS m d=qL m d:=by
 have b:=sE hm hmd hd
 unfold qzS qL
 rw [MR hm hd]
 show rnN (val (aa (dL m d).natAbs)) (val (aa ag.natAbs)) 200 2 (val (aa (dL m d).natAbs)) (val (aa (dL m d).natAbs))=_
 rw [iS,iS,Int.natAbs_of_nonneg b.1,DD,Int.natAbs_of_nonneg (show 0<=WW by decide)]
theorem R2:PureOk Tryz.prog 30 (Qo quR fun m d=>(cM m d,cN m d)):=by
 refine num_ok' (fun xs hk hN=>?_) ⟨_,Tryz.func30,rfl⟩
 obtain ⟨m,_,rfl,h1⟩:=kn hk; obtain ⟨d,_,rfl,h2⟩:=kn h1; obtain rfl:=k0 h2
 have hN:quR m d=true:=hN
 obtain ⟨m0,m1,dd,hc⟩:=MP hN
 have goal:∀ τ W v0,v0=AV.agg [.int true .i64 (cM m d),.int true .i64 (cN m d)]->VRel τ v0 W->VRel τ (AV.agg [.int true .i64 (cM m d),.int true .i64 (cN m d)]) W:=fun τ W v0 e h=>e ▸ h
 by_cases hz:m=0
 .refine ⟨cRz [(15,true)],300,.p _,_,yV _,rfl,fun _=>rfl,rfl,iZ (rq0 m d),beq_iff_eq.2 hz,fun τ W h=>?_⟩
  show VRel τ (.agg [.int true .i64 (cM m d),.int true .i64 (cN m d)]) W
  unfold cM cN
  rw [if_pos hz,if_pos hz]; exact h
 by_cases hd:m=d
 .refine ⟨cRz [(15,false),(19,true)],300,.p _,_,yV _,rfl,fun _=>rfl,rfl,iZ (rqo m d),⟨beq_eq_false_iff_ne.2 hz,beq_iff_eq.2 hd⟩,fun τ W h=>?_⟩
  show VRel τ (.agg [.int true .i64 (cM m d),.int true .i64 (cN m d)]) W
  unfold cM cN
  rw [if_neg hz,if_neg hz,if_pos hd,if_pos hd]; exact h
 have w3:IntKind.i64.wrap (3*m)=3*m:=iw (by omega) (by omega)
 by_cases h3:3*m=d
 .refine ⟨cRz [(15,false),(19,false),(24,true)],300,.p _,_,yV _,rfl,fun _=>rfl,rfl,iZ (rqh m d),⟨beq_eq_false_iff_ne.2 hz,beq_eq_false_iff_ne.2 hd,by rw [w3]; exact beq_iff_eq.2 h3⟩,fun τ W h=>?_⟩
  show VRel τ (.agg [.int true .i64 (cM m d),.int true .i64 (cN m d)]) W
  unfold cM cN
  rw [if_neg hz,if_neg hz,if_neg hd,if_neg hd,if_pos h3,if_pos h3]; exact h
 obtain ⟨n0,n1,nd,_,k,hk⟩:0<m/\m<d/\d<=4294967296/\3*m≠d/\∃ k,GT ((m:Rat) / (d:Rat)) k:=by
  rcases hc with h|h|h|h
  .exact absurd h hz
  .exact absurd h hd
  .exact absurd h h3
  .exact h
 obtain ⟨g,el⟩:=Dc n0 n1 nd hk
 have rk:=Xm n0 n1 hk
 have tp:=sC
 obtain ⟨y0,y1,y2⟩:=sE (m:=m) (d:=d) (by omega) (by omega) (by omega)
 obtain ⟨ry,rt⟩:=Xn n0 (by omega) nd
 obtain ⟨s0,s1⟩:=R0 n0 (by omega) nd
 have eY:qzY m d=dL m d:=MR (by omega) (by omega)
 have eS:qzS m d=qL m d:=Xo (by omega) (by omega) (by omega)
 have eL:qzL m d=qL m d - 100000000:=by unfold qzL; rw [bV,bV,eS]
 have eH:qzH m d=qL m d+100000000:=by unfold qzH; rw [bV,bV,eS]
 have eLo:uV m d=(qL m d - 100000000)*4294967296:=by unfold uV; rw [bV,bV,eL]
 have eHo:uW m d=(qL m d+100000000)*4294967296:=by unfold uW; rw [bV,bV,eH]
 have eD:qzD m d=k:=by
  unfold qzD
  rw [bV,bV,eLo,DD,Int.tdiv_eq_ediv_of_nonneg (by omega)]
  exact rk (-100000000) (by decide) (by decide)
 have eU:qzU m d=k:=by
  unfold qzU
  rw [bV,bV,eHo,DD,Int.tdiv_eq_ediv_of_nonneg (by omega)]
  exact rk 100000000 (by decide) (by decide)
 have k0:0<=k:=by rw [<- eD]; unfold qzD; rw [bV,bV,eLo]; exact Int.tdiv_nonneg (by omega) (by decide)
 have k1:k<=12884901888:=by
  have g1:=g.hi
  have p:=dG
  rw [<- el]
  refine Int.ediv_le_of_le_mul p ?_
  have e:(12884901888:Int)*PP=3*PP*4294967296:=by decide
  rw [e]
  exact Int.mul_le_mul_of_nonneg_right (by omega) (by decide)
 refine ⟨cRz [(15,false),(19,false),(24,false),(14,false),(64,true)],300,.p _,_,yV _,rfl,fun _=>rfl,rfl,iZ (rqt m d),?_,fun τ W h=>?_⟩
 .have pb:=MG
  have big:∀ {z:Int},(z.natAbs:Int)<pw 20->okL (decide (z<0)) (aa z.natAbs)/\(aa z.natAbs).length<=20:=fun h=>
   ⟨lJ (Int.lt_of_lt_of_le h (bK (by omega))),dW h⟩
  have p20:100*ag*(100*ag)<pw 20:=by decide
  have v1:(m==(0:Int))=false:=beq_eq_false_iff_ne.2 hz
  have v2:(m==d)=false:=beq_eq_false_iff_ne.2 hd
  have v3:(IntKind.i64.wrap ((3:Int)*m)==d)=false:=by rw [w3]; exact beq_eq_false_iff_ne.2 h3
  have c1:((1:Int)=1/\(7:Int)=7\/(1:Int)=3/\(7:Int)=79):=.inl ⟨rfl,rfl⟩
  have c2:((3:Int)=1/\(79:Int)=7\/(3:Int)=3/\(79:Int)=79):=.inr ⟨rfl,rfl⟩
  have c3:=BH
  have aA:okL (decide ((bif (1:Int)==1 then iQ else iR)<0)) (aa (bif (1:Int)==1 then iQ else iR).natAbs)/\(aa (bif (1:Int)==1 then iQ else iR).natAbs).length<=5:=okA (by decide)
  have aB:okL (decide ((bif (3:Int)==1 then iQ else iR)<0)) (aa (bif (3:Int)==1 then iQ else iR).natAbs)/\(aa (bif (3:Int)==1 then iQ else iR).natAbs).length<=5:=okA (by decide)
  have a10:okL (decide ((10:Int)<0)) (aa (Int.natAbs 10))/\(aa (Int.natAbs 10)).length<=5:=okA (z:=10) (by decide)
  have a4:okL (decide ((4:Int)<0)) (aa (Int.natAbs 4))/\(aa (Int.natAbs 4)).length<=5:=okA (z:=4) (by decide)
  have aE:okL (decide ((100000000:Int)<0)) (aa (Int.natAbs 100000000))/\(aa (Int.natAbs 100000000)).length<=5:=okA (z:=100000000) (by decide)
  have aF:okL (decide ((4294967296:Int)<0)) (aa (Int.natAbs 4294967296))/\(aa (Int.natAbs 4294967296)).length<=5:=okA (z:=4294967296) (by decide)
  have aT:okL (decide (ag<0)) (aa ag.natAbs)/\(aa ag.natAbs).length<=5:=okA (by decide)
  have n8:aa (Int.natAbs 100000000)≠[]:=(jl (z:=100000000) (by decide)).1
  have nT:aa ag.natAbs≠[]:=(jl (z:=ag) (by decide)).1
  have eA:qzA=iQ*10:=by unfold qzA; rw [bV,bV]; rfl
  have eB:qzB=iR*4:=by unfold qzB; rw [bV,bV]; rfl
  have qA:okL (decide (qzA<0)) (aa qzA.natAbs)/\(aa qzA.natAbs).length<=5:=okA (by rw [eA]; decide)
  have qB:okL (decide (qzB<0)) (aa qzB.natAbs)/\(aa qzB.natAbs).length<=5:=okA (by rw [eB]; decide)
  have qR:okL (decide (qzR<0)) (aa qzR.natAbs)/\(aa qzR.natAbs).length<=5:=okA (by rw [MQ]; decide)
  have mA:aa qzA.natAbs≠[]:=(jl (z:=qzA) (by rw [eA]; decide)).1
  have mB:aa qzB.natAbs≠[]:=(jl (z:=qzB) (by rw [eB]; decide)).1
  have sAB:val (aa qzA.natAbs)+val (aa qzB.natAbs)<pw 400000:=by
   rw [iS,iS,eA,eB]
   exact Int.lt_of_le_of_lt (b:=100*ag) (by decide) pb
  have t40:(4294967296:Int)<=100*ag:=by decide
  have am:okL (decide (m<0)) (aa m.natAbs)/\(aa m.natAbs).length<=5:=okA (by omega)
  have ad:okL (decide (d<0)) (aa d.natAbs)/\(aa d.natAbs).length<=5:=okA (by omega)
  have nd0:aa d.natAbs≠[]:=(jl (z:=d) (by omega)).1
  have bm:m.natAbs<=9223372036854775808:=by omega
  have bd:d.natAbs<=9223372036854775808:=by omega
  have paR:paC (decide (qzR<0)) (decide (m<0)) (decide (d<0)) (aa qzR.natAbs) (aa m.natAbs) (aa d.natAbs):=⟨qR.1,am.1,ad.1,nd0,by have:=qR.2; have:=am.2; have:=ad.2; omega⟩
  have yN:decide (qzY m d<0)=false:=decide_eq_false (by rw [eY]; omega)
  have W2:RR<=2*ag:=by decide
  have aY:okL (decide (qzY m d<0)) (aa (qzY m d).natAbs)/\(aa (qzY m d).natAbs).length<=5:=okA (by rw [eY,Int.natAbs_of_nonneg y0]; omega)
  have vY:val (aa (qzY m d).natAbs)=dL m d:=by rw [iS,eY,Int.natAbs_of_nonneg y0]
  have vT:val (aa ag.natAbs)=WW:=by rw [c3]; rfl
  have rD:RnD (aa (qzY m d).natAbs) (aa ag.natAbs):=by
   refine ⟨ax _,e9 _,by have:=aY.2; omega,c3,by rw [vY]; exact ry,by rw [vY]; have e:ag=WW:=rfl; omega,?_⟩
   rw [yT,vY,vT]; exact rt
  have W3:2*WW<=2*ag:=by decide
  have aS:okL (decide (qzS m d<0)) (aa (qzS m d).natAbs)/\(aa (qzS m d).natAbs).length<=5:=okA (by rw [eS]; omega)
  have sN:decide (qzS m d<0)=decide ((100000000:Int)<0):=by rw [eS]; exact decide_eq_false (by omega)
  have nS:aa (qzS m d).natAbs≠[]:=(jl (z:=qzS m d) (by rw [eS]; omega)).1
  have aL:okL (decide (qzL m d<0)) (aa (qzL m d).natAbs)/\(aa (qzL m d).natAbs).length<=5:=okA (by rw [eL]; omega)
  have aH:okL (decide (qzH m d<0)) (aa (qzH m d).natAbs)/\(aa (qzH m d).natAbs).length<=5:=okA (by rw [eH]; omega)
  have b40:3*ag*4294967296<pw 20:=by decide
  have aLo:=big (z:=uV m d) (by rw [eLo]; omega)
  have aHo:=big (z:=uW m d) (by rw [eHo]; omega)
  have sS:val (aa (qzS m d).natAbs)+val (aa (Int.natAbs 100000000))<pw 400000:=by
   rw [iS,iS,eS]
   have e8:((Int.natAbs 100000000:Nat):Int)=100000000:=by decide
   rw [e8]
   clear sAB
   generalize pw 400000=Q at *
   omega
  have lo0:decide ((yW m d).tmod (Zv ag)<0)=false:=decide_eq_false (by
   have:0<=(yW m d).tmod (Zv ag):=Int.tmod_nonneg _ (by unfold yW; rw [bV,eLo]; omega)
   exact Int.not_lt.2 this)
  have hi0:decide ((yX m d).tmod (Zv ag)<0)=false:=decide_eq_false (by
   have:0<=(yX m d).tmod (Zv ag):=Int.tmod_nonneg _ (by unfold yX; rw [bV,eHo]; omega)
   exact Int.not_lt.2 this)
  have aD:okL (decide (qzD m d<0)) (aa (qzD m d).natAbs)/\(aa (qzD m d).natAbs).length<=5:=okA (by rw [eD]; omega)
  have aU:okL (decide (qzU m d<0)) (aa (qzU m d).natAbs)/\(aa (qzU m d).natAbs).length<=5:=okA (by rw [eU]; omega)
  have same:decide (decide (qzD m d<0)=decide (qzU m d<0)/\aa (qzD m d).natAbs=aa (qzU m d).natAbs)=true:=by rw [eD,eU]; simp
  have dN:decide (qzD m d<0)=false:=decide_eq_false (by rw [eD]; omega)
  have oD:okL false (aa (qzD m d).natAbs):=by have:=aD.1; rwa [dN] at this
  have lD:(aa (qzD m d).natAbs).length<=2:=by
   have e2:pw 2=1000000000000000000:=by decide
   exact dW (by rw [eD,e2]; omega)
  have smD:Sm (aa (qzD m d).natAbs):=by show _<=500000; omega
  have smU:Sm (aa (qzU m d).natAbs):=by have:=aU.2; show _<=500000; omega
  have l1:(aa (bif (1:Int)==1 then iQ else iR).natAbs).length+(aa (Int.natAbs 10)).length<=500000:=by have:=aA.2; have:=a10.2; omega
  have l2:(aa (bif (3:Int)==1 then iQ else iR).natAbs).length+(aa (Int.natAbs 4)).length<=500000:=by have:=aB.2; have:=a4.2; omega
  have l3:(aa (qzL m d).natAbs).length+(aa (Int.natAbs 4294967296)).length<=500000:=by have:=aL.2; have:=aF.2; omega
  have l4:(aa (uV m d).natAbs).length+(aa ag.natAbs).length<=400000:=by have:=aLo.2; have:=aT.2; omega
  have l5:(aa (qzH m d).natAbs).length+(aa (Int.natAbs 4294967296)).length<=500000:=by have:=aH.2; have:=aF.2; omega
  have l6:(aa (uW m d).natAbs).length+(aa ag.natAbs).length<=400000:=by have:=aHo.2; have:=aT.2; omega
  have f1:=aA.1; have f2:=aB.1; have f3:=a10.1; have f4:=a4.1; have f5:=aE.1; have f6:=aF.1; have f7:=aT.1
  have f8:=qA.1; have f9:=qB.1; have f10:=aS.1; have f11:=aL.1; have f12:=aH.1; have f13:=aLo.1; have f14:=aHo.1
  have i1:Int.natAbs 10<=9223372036854775808:=by decide
  have i2:Int.natAbs 4<=9223372036854775808:=by decide
  have i3:Int.natAbs 100000000<=9223372036854775808:=by decide
  have i4:Int.natAbs 4294967296<=9223372036854775808:=by decide
  have c4:decide (ag<0)=false:=by decide
  show DC m d
  unfold DC
  repeat' first|with_reducible refine And.intro ?_ ?_|with_reducible exact rfl|with_reducible assumption
 .show VRel τ (.agg [.int true .i64 (cM m d),.int true .i64 (cN m d)]) W
  unfold cM cN
  rw [if_neg hz,if_neg hz,if_neg hd,if_neg hd,if_neg h3,if_neg h3,el]
  have e5:MK m d=.agg [.int true .i64 k,.int true .i64 (k+1)]:=by
   unfold MK
   rw [iS,eD,Int.natAbs_of_nonneg k0,iw (by omega) (by omega)]
  rw [<- e5]; exact h
end
end Go.Proofs.YtmnhhlnbfkfkaaaGreat.K
namespace Go.Dg
open Go Go.Eng Go.Sn Go.Ar
def rrR (n d:Int):Int:=bif decide (n.tmod d<0) then wr (n.tmod d+d) else n.tmod d
def rrQ (n d:Int):Int:=wr ((wr (4*rrR n d)).tdiv d)
def rrM (n d:Int):Int:=(wr (4*rrR n d)).tmod d
def rrA (o:Bool) (n d:Int):Int:=bif o then wr (d - rrM n d) else rrM n d
theorem S8 {n d:Int} (h0:1<=d) (h1:d<=4294967296):rrQ n d=snQ n d/\rrM n d=snM n d/\∀ o,rrA o n d=bif o then d - snM n d else snM n d:=by
 have hR:rrR n d=snR n d:=by
  have e0:0<=n % d:=Int.emod_nonneg _ (by omega)
  have e1:n % d<d:=Int.emod_lt_of_pos _ (by omega)
  unfold rrR snR
  have h:=Int.tmod_eq_emod (a:=n) (b:=d)
  split at h
  .rw [show n.tmod d=n % d by omega,decide_eq_false (by omega)]; rfl
  .rename_i hh
   have hd:(d.natAbs:Int)=d:=Int.natAbs_of_nonneg (by omega)
   rw [hd] at h
   rw [h]
   have:n % d - d<0:=by omega
   rw [decide_eq_true this]
   show wr (n % d - d+d)=n % d
   rw [Int.sub_add_cancel,jH (by omega) (by omega)]
 obtain ⟨_,_,_,q0,q3,m0,m1⟩:=uO (n:=n) h0 h1
 have r0:0<=snR n d:=Int.emod_nonneg _ (by omega)
 have r1:snR n d<d:=Int.emod_lt_of_pos _ (by omega)
 have e4:wr (4*snR n d)=4*snR n d:=jH (by omega) (by omega)
 have eM:rrM n d=snM n d:=by
  unfold rrM
  rw [hR,e4,Int.tmod_eq_emod_of_nonneg (by omega)]; rfl
 refine ⟨?_,eM,fun o=>?_⟩
 .unfold rrQ
  rw [hR,e4,Int.tdiv_eq_ediv_of_nonneg (by omega)]
  exact jH (by show _<=snQ n d; omega) (by show snQ n d<=_; omega)
 .unfold rrA
  rw [eM,jH (by omega) (by omega)]
def odS (q:Int):Bool:=q==1||q==3
def ngS (q:Int):Bool:=q==2||q==3
def odC (q:Int):Bool:=q==0||q==2
def ngC (q:Int):Bool:=q==1||q==2
def vg (more n d:Int):Bool:=g9 d||quR (snA more n d) d
theorem R3 {m d:Int} (h:quR m d=true):0<=cM m d/\cM m d<=13000000000/\0<=cN m d/\cN m d<=13000000000/\cM m d<=cN m d:=by
 obtain ⟨a,b,c,g⟩:=MP h
 unfold cM cN
 by_cases z:m=0
 .rw [if_pos z,if_pos z]; omega
 by_cases z1:m=d
 .rw [if_neg z,if_neg z,if_pos z1,if_pos z1]; omega
 by_cases z3:3*m=d
 .rw [if_neg z,if_neg z,if_neg z1,if_neg z1,if_pos z3,if_pos z3]; omega
 rw [if_neg z,if_neg z,if_neg z1,if_neg z1,if_neg z3,if_neg z3]
 rcases g with g|g|g|⟨_,_,_,_,k,hk⟩
 .exact absurd g z
 .exact absurd g z1
 .exact absurd g z3
 have g:=(Dc (by omega) (by omega) (by omega) hk).1
 have p:=dG
 have:=g.far
 have:=g.hi
 have a:0<=gT m d:=Int.ediv_nonneg (Int.mul_nonneg (by omega) (by decide)) (by omega)
 have b:gT m d<=12884901888:=by
  refine Int.ediv_le_of_le_mul p ?_
  have e:(12884901888:Int)*PP=3*PP*4294967296:=by decide
  rw [e]
  exact Int.mul_le_mul_of_nonneg_right (by omega) (by decide)
 omega
end Go.Dg
namespace Go.Proofs.YtmnhhlnbfkfkaaaGreat.K
open Go Go.Eng Go.Dg Go.Ar Go.Vc Go.Sn
noncomputable section
def hB2 (b:Bool):AV:=match b with|true=>.bool false true|false=>.bool false false
def Fu (N:Int->Int->Bool) (V:Int->Int->Int×Int) (G:Int->Int->Sp):List (FuncId×aK):=[(30,Qo N V),(31,sUn G)]
def cRS (N:Int->Int->Bool) (V:Int->Int->Int×Int) (G:Int->Int->Sp) (b o g:Bool):Ctx:=aO (mkC Tryz.prog (Fu N V G) ext) (hZ [(14,hB2 b),(34,hB2 o),(42,hB2 g)])
def cRC (N:Int->Int->Bool) (V:Int->Int->Int×Int) (G:Int->Int->Sp) (b o g:Bool):Ctx:=aO (mkC Tryz.prog (Fu N V G) ext) (hZ [(14,hB2 b),(34,hB2 o),(46,hB2 g)])
def quV (m d:Int):Int×Int:=(cM m d,cN m d)
theorem BM:fy Tryz.prog (Fu quR quV jf):=by
 intro x hx
 simp only [Fu,List.mem_cons,List.not_mem_nil,or_false] at hx
 rcases hx with rfl|rfl
 .exact R2
 .exact xI
theorem MS (b o g:Bool):CtxOk (cRS quR quV jf b o g):=aj (cT aP BM de) _
theorem MT (b o g:Bool):CtxOk (cRC quR quV jf b o g):=aj (cT aP BM de) _
def rrB (d:Int) (b:Bool):Prop:=(decide (d<1)=true->true=b)/\(decide (d<1)=false->decide (d>4294967296)=b)
def rrO (V:Int->Int->Int×Int) (G:Int->Int->Sp) (o g:Bool) (n d:Int):AV:=match g with
 | true=>.tuple [.agg [.int true .i64 (G (V (rrA o n d) d).1 (V (rrA o n d) d).2).lo,.int true .i64 (G (V (rrA o n d) d).1 (V (rrA o n d) d).2).hi],.int false .i64 0]
 | false=>.tuple [.agg [.int true .i64 (V (rrA o n d) d).1,.int true .i64 (V (rrA o n d) d).2],.int false .i64 0]
def MU (N:Int->Int->Bool) (o g:Bool) (n d:Int):Prop:=rrB d false/\d≠0/\(d≠0/\d≠0)/\((rrQ n d).tmod 2==1)=o/\N (rrA o n d) d=true/\decide (rrQ n d>=2)=g
def MV (N:Int->Int->Bool) (o g:Bool) (n d:Int):Prop:=rrB d false/\d≠0/\(d≠0/\d≠0)/\((rrQ n d).tmod 2==0)=o/\N (rrA o n d) d=true/\((rrQ n d==1)=true->true=g)/\((rrQ n d==1)=false->(rrQ n d==2)=g)
section
variable (N:Int->Int->Bool) (V:Int->Int->Int×Int) (G:Int->Int->Sp) (n d:Int)
def i2A (n d:Int):List AV:=[.int true .i64 n,.int true .i64 d]
theorem Xp:bj ((run (cRS N V G false false false) 300).call 9 (i2A n d) ⟨[],0,1⟩)=some (.p (MU N false false n d),rrO V G false false n d):=by kernel_rfl
theorem Xq:bj ((run (cRS N V G false false true) 300).call 9 (i2A n d) ⟨[],0,1⟩)=some (.p (MU N false true n d),rrO V G false true n d):=by kernel_rfl
theorem Xr:bj ((run (cRS N V G false true false) 300).call 9 (i2A n d) ⟨[],0,1⟩)=some (.p (MU N true false n d),rrO V G true false n d):=by kernel_rfl
theorem Xt:bj ((run (cRS N V G false true true) 300).call 9 (i2A n d) ⟨[],0,1⟩)=some (.p (MU N true true n d),rrO V G true true n d):=by kernel_rfl
theorem Xu:bj ((run (cRC N V G false false false) 300).call 11 (i2A n d) ⟨[],0,1⟩)=some (.p (MV N false false n d),rrO V G false false n d):=by kernel_rfl
theorem Xv:bj ((run (cRC N V G false false true) 300).call 11 (i2A n d) ⟨[],0,1⟩)=some (.p (MV N false true n d),rrO V G false true n d):=by kernel_rfl
theorem Xw:bj ((run (cRC N V G false true false) 300).call 11 (i2A n d) ⟨[],0,1⟩)=some (.p (MV N true false n d),rrO V G true false n d):=by kernel_rfl
theorem Xx:bj ((run (cRC N V G false true true) 300).call 11 (i2A n d) ⟨[],0,1⟩)=some (.p (MV N true true n d),rrO V G true true n d):=by kernel_rfl
theorem aaY:bj ((run (cRS N V G true false false) 300).call 9 (i2A n d) ⟨[],0,1⟩)=some (.p (rrB d true),.tuple [.agg [.int false .i64 0,.int false .i64 0],.int false .i64 2]):=by kernel_rfl
theorem aaZ:bj ((run (cRC N V G true false false) 300).call 11 (i2A n d) ⟨[],0,1⟩)=some (.p (rrB d true),.tuple [.agg [.int false .i64 0,.int false .i64 0],.int false .i64 2]):=by kernel_rfl
end
theorem rsi {N V G n d} (o g:Bool):bj ((run (cRS N V G false o g) 300).call 9 (i2A n d) ⟨[],0,1⟩)=some (.p (MU N o g n d),rrO V G o g n d):=by
 cases o <;> cases g
 .exact Xp N V G n d
 .exact Xq N V G n d
 .exact Xr N V G n d
 .exact Xt N V G n d
theorem rco {N V G n d} (o g:Bool):bj ((run (cRC N V G false o g) 300).call 11 (i2A n d) ⟨[],0,1⟩)=some (.p (MV N o g n d),rrO V G o g n d):=by
 cases o <;> cases g
 .exact Xu N V G n d
 .exact Xv N V G n d
 .exact Xw N V G n d
 .exact Xx N V G n d
theorem MW {d:Int}:rrB d (g9 d):=by
 unfold rrB g9
 cases decide (d<1) <;> simp
theorem MX {more n d:Int} {o g:Bool} (hB:g9 d=false) (d0:1<=d) (d1:d<=4294967296) (ea:rrA o n d=snA more n d) (hq:quR (snA more n d) d=true) (hg:(snK n d more==0||snK n d more==1)=!g):
  ∀ τ W,VRel τ (rrO quV jf o g n d) W->VRel τ ((Tm.u [.a [.n .i64 (fS more n d),.n .i64 (fT more n d)],.n .i64 (snE d)]).av true) W:=by
 intro τ W h
 show VRel τ (.tuple [.agg [.int true .i64 (fS more n d),.int true .i64 (fT more n d)],.int true .i64 (snE d)]) W
 obtain ⟨b1,b2,b3,b4,b5⟩:=R3 hq
 have hE:snE d=0:=by unfold snE; rw [hB]; rfl
 unfold fS fT
 rw [hB,hg,hE]
 unfold rrO at h
 rw [ea] at h
 cases g with
 | false=>exact h
 | true=>
  have e:jf (quV (snA more n d) d).1 (quV (snA more n d) d).2=⟨-cN (snA more n d) d,-cM (snA more n d) d,0⟩:=by
   show jf (cM _ _) (cN _ _)=_
   unfold jf
   rw [bO.2 ⟨by omega,by omega,by omega⟩]; rfl
  rw [e] at h
  exact h
theorem MY:PureOk Tryz.prog 9 (lV (vg 0) (fS 0) (fT 0) snE):=by
 refine num_ok' (fun xs hk hN=>?_) ⟨_,Tryz.func9,rfl⟩
 obtain ⟨n,_,rfl,h1⟩:=kn hk; obtain ⟨d,_,rfl,h2⟩:=kn h1; obtain rfl:=k0 h2
 have hN:vg 0 n d=true:=hN
 have hb:=MW (d:=d)
 cases hB:g9 d with
 | true=>
  rw [hB] at hb
  refine ⟨_,300,_,_,MS true false false,rfl,fun _=>rfl,rfl,aaY _ _ _ n d,hb,fun τ W h=>?_⟩
  show VRel τ (.tuple [.agg [.int true .i64 (fS 0 n d),.int true .i64 (fT 0 n d)],.int true .i64 (snE d)]) W
  unfold fS fT snE
  rw [hB]; exact h
 | false=>
  rw [hB] at hb
  have hd:1<=d/\d<=4294967296:=by
   unfold g9 at hB
   cases h3:decide (d<1) with
   | true=>rw [h3] at hB; cases hB
   | false=>
    rw [h3] at hB
    have a:=of_decide_eq_false h3
    have b:=of_decide_eq_false hB
    omega
  have hq:quR (snA 0 n d) d=true:=by unfold vg at hN; rw [hB] at hN; exact hN
  obtain ⟨e1,e2,e3⟩:=S8 (n:=n) hd.1 hd.2
  obtain ⟨_,_,_,q0,q3,_,_⟩:=uO (n:=n) hd.1 hd.2
  have ek:snK n d 0=snQ n d:=by unfold snK; omega
  have ea:rrA (odS (snQ n d)) n d=snA 0 n d:=by
   rw [e3]
   unfold snA odS
   rw [ek]
   rcases q4 q0 q3 with h|h|h|h <;> rw [h] <;> rfl
  refine ⟨_,300,_,_,MS false (odS (snQ n d)) (ngS (snQ n d)),rfl,fun _=>rfl,rfl,rsi _ _,⟨hb,by omega,⟨by omega,by omega⟩,?_,by rw [ea]; exact hq,?_⟩,MX hB hd.1 hd.2 ea hq ?_⟩
  .rw [e1]; unfold odS
   rcases q4 q0 q3 with h|h|h|h <;> rw [h] <;> rfl
  .rw [e1]; unfold ngS
   rcases q4 q0 q3 with h|h|h|h <;> rw [h] <;> rfl
  .rw [ek]; unfold ngS
   rcases q4 q0 q3 with h|h|h|h <;> rw [h] <;> rfl
theorem DE:PureOk Tryz.prog 11 (lV (vg 1) (fS 1) (fT 1) snE):=by
 refine num_ok' (fun xs hk hN=>?_) ⟨_,Tryz.func11,rfl⟩
 obtain ⟨n,_,rfl,h1⟩:=kn hk; obtain ⟨d,_,rfl,h2⟩:=kn h1; obtain rfl:=k0 h2
 have hN:vg 1 n d=true:=hN
 have hb:=MW (d:=d)
 cases hB:g9 d with
 | true=>
  rw [hB] at hb
  refine ⟨_,300,_,_,MT true false false,rfl,fun _=>rfl,rfl,aaZ _ _ _ n d,hb,fun τ W h=>?_⟩
  show VRel τ (.tuple [.agg [.int true .i64 (fS 1 n d),.int true .i64 (fT 1 n d)],.int true .i64 (snE d)]) W
  unfold fS fT snE
  rw [hB]; exact h
 | false=>
  rw [hB] at hb
  have hd:1<=d/\d<=4294967296:=by
   unfold g9 at hB
   cases h3:decide (d<1) with
   | true=>rw [h3] at hB; cases hB
   | false=>
    rw [h3] at hB
    have a:=of_decide_eq_false h3
    have b:=of_decide_eq_false hB
    omega
  have hq:quR (snA 1 n d) d=true:=by unfold vg at hN; rw [hB] at hN; exact hN
  obtain ⟨e1,e2,e3⟩:=S8 (n:=n) hd.1 hd.2
  obtain ⟨_,_,_,q0,q3,_,_⟩:=uO (n:=n) hd.1 hd.2
  have ek:snK n d 1=(snQ n d+1) % 4:=rfl
  have ea:rrA (odC (snQ n d)) n d=snA 1 n d:=by
   rw [e3]
   unfold snA odC
   rw [ek]
   rcases q4 q0 q3 with h|h|h|h <;> rw [h] <;> rfl
  refine ⟨_,300,_,_,MT false (odC (snQ n d)) (ngC (snQ n d)),rfl,fun _=>rfl,rfl,rco _ _,⟨hb,by omega,⟨by omega,by omega⟩,?_,by rw [ea]; exact hq,?_,?_⟩,MX hB hd.1 hd.2 ea hq ?_⟩
  .rw [e1]; unfold odC
   rcases q4 q0 q3 with h|h|h|h <;> rw [h] <;> rfl
  .rw [e1]; unfold ngC
   rcases q4 q0 q3 with h|h|h|h <;> rw [h] <;> decide
  .rw [e1]; unfold ngC
   rcases q4 q0 q3 with h|h|h|h <;> rw [h] <;> decide
  .rw [ek]; unfold ngC
   rcases q4 q0 q3 with h|h|h|h <;> rw [h] <;> rfl
end
end Go.Proofs.YtmnhhlnbfkfkaaaGreat.K
namespace Go.Proofs.YtmnhhlnbfkfkaaaGreat.K
open Go Go.Eng Go.Dg Go.Ar Go.Vc
noncomputable section
def afR:AF:=⟨vg 0,vg 1,fS 0,fT 0,fS 1,fT 1,jf⟩
def DF (F:AF):List (FuncId×aK):=[(9,lV F.n0 F.sl F.sh snE),(11,lV F.n1 F.cl F.ch snE),(31,sUn F.ng)]
theorem Hy:fy Tryz.prog (DF afR):=by
 intro x hx
 simp only [DF,List.mem_cons,List.not_mem_nil,or_false] at hx
 rcases hx with rfl|rfl|rfl
 .exact MY
 .exact DE
 .exact xI
def R4 (F:AF) (i j:Bool):Ctx:=aO (mkC Tryz.prog (DF F) ext) (hZ [(31,hB2 i),(46,hB2 j)])
theorem yY (i j:Bool):CtxOk (R4 afR i j):=aj (cT aP Hy de) _
def DG (R:RF):List (FuncId×aK):=[(34,sAb R.n R.ab),(16,sMM R.mv R.mo)]
def hRr (k:Nat):Nat->Nat->Option AV:=fun c t=>match Nat.beq t 29 with
 | true=>match Nat.ble k c with
  | true=>some (.bool false true)
  | false=>some (.bool false false)
 | false=>match Nat.beq t 40 with
  | true=>some (.bool false false)
  | false=>none
def cRr (R:RF) (k:Nat):Ctx:=aO (mkC Tryz.prog (DG R) ext) (hRr k)
end
end Go.Proofs.YtmnhhlnbfkfkaaaGreat.K
namespace Go.Proofs.YtmnhhlnbfkfkaaaGreat.K
open Go Go.Eng Go.Dg Go.Ar Go.Vc Go.Sn
noncomputable section
theorem MZ (F:AF) (n:Int):bj ((run (R4 F true false) 300).call 34 [.int true .i64 0,.int true .i64 n] ⟨[],0,1⟩)=some (.p (F.n0 n 360000000=true/\F.n1 n 360000000=true/\((0:Int)==0)=true),abV F 0 n):=by kernel_rfl
theorem M3 (F:AF) (n:Int):bj ((run (R4 F false true) 300).call 34 [.int true .i64 1,.int true .i64 n] ⟨[],0,1⟩)=some (.p (F.n0 n 360000000=true/\F.n1 n 360000000=true/\((1:Int)==0)=false/\((1:Int)==1)=true),abV F 1 n):=by kernel_rfl
theorem M4 (F:AF) (n:Int):bj ((run (R4 F false false) 300).call 34 [.int true .i64 2,.int true .i64 n] ⟨[],0,1⟩)=some (.p (F.n0 n 360000000=true/\F.n1 n 360000000=true/\((2:Int)==0)=false/\((2:Int)==1)=false),abV F 2 n):=by kernel_rfl
theorem jJ (more n:Int):vg more n 360000000=true:=by
 obtain ⟨_,_,_,_,_,m0,m1⟩:=uO (n:=n) (d:=360000000) (by decide) (by decide)
 have e4:snM n 360000000 % 4=0:=by
  unfold snM
  omega
 have ha:0<=snA more n 360000000/\snA more n 360000000<=360000000/\snA more n 360000000 % 4=0:=by
  unfold snA
  cases snK n 360000000 more==0||snK n 360000000 more==2 with
  | true=>simp only [cond_true]; omega
  | false=>simp only [cond_false]; omega
 unfold vg quR
 have t:(snA more n 360000000).tmod 4=0:=by rw [Int.tmod_eq_emod_of_nonneg ha.1]; exact ha.2.2
 simp [ha.1,ha.2.1,t]
theorem Hz:PureOk Tryz.prog 34 (sAb axN (abA af0)):=by
 refine num_ok' (fun xs hk hN=>?_) ⟨_,Tryz.func34,rfl⟩
 obtain ⟨a,_,rfl,h1⟩:=kn hk; obtain ⟨n,_,rfl,h2⟩:=kn h1; obtain rfl:=k0 h2
 have hN:axN a n=true:=hN
 unfold axN at hN
 simp only [Bool.or_eq_true,beq_iff_eq] at hN
 rcases hN with rfl|rfl|rfl
 .exact ⟨_,300,_,_,yY true false,rfl,fun _=>rfl,rfl,MZ afR n,⟨jJ 0 n,jJ 1 n,rfl⟩,fun τ W h=>h⟩
 .exact ⟨_,300,_,_,yY false true,rfl,fun _=>rfl,rfl,M3 afR n,⟨jJ 0 n,jJ 1 n,rfl,rfl⟩,fun τ W h=>h⟩
 .exact ⟨_,300,_,_,yY false false,rfl,fun _=>rfl,rfl,M4 afR n,⟨jJ 0 n,jJ 1 n,rfl,rfl⟩,fun τ W h=>h⟩
theorem HA:fy Tryz.prog (DG rf0):=by
 intro x hx
 simp only [DG,List.mem_cons,List.not_mem_nil,or_false] at hx
 rcases hx with rfl|rfl
 .exact Hz
 .exact JQ
theorem yZ (k:Nat):CtxOk (cRr rf0 k):=aj (cT aP HA de) _
theorem R5 (R:RF) (x y z:Int):bj ((run (cRr R 0) 900).call 13 (i3 x y z) ⟨[],0,1⟩)=some (.p (dZ x true),Br):=by kernel_rfl
theorem R6 (R:RF) (x y z:Int):bj ((run (cRr R 40) 900).call 13 (i3 x y z) ⟨[],0,1⟩)=some (.p (dZ x false/\dZ y true),Br):=by kernel_rfl
theorem R7 (R:RF) (x y z:Int):bj ((run (cRr R 52) 900).call 13 (i3 x y z) ⟨[],0,1⟩)=some (.p (dZ x false/\dZ y false/\dZ z true),Br):=by kernel_rfl
def Xy (R:RF) (x y:Int):Mat:=R.mv (R.ab 1 y) (R.ab 0 x)
theorem M5 (R:RF) (x y z:Int):bj ((run (cRr R 9000) 900).call 13 (i3 x y z) ⟨[],0,1⟩)=some (.p ((dZ x false/\dZ y false/\dZ z false)/\(R.n 1 y=true/\R.n 0 x=true)/\(R.mo (R.ab 1 y) (R.ab 0 x) != 0)=false/\R.n 2 z=true/\maP (Xy R x y)),(o8 (R.mv (R.ab 2 z) (Xy R x y)) (R.mo (R.ab 2 z) (Xy R x y))).av true):=by kernel_rfl
theorem R8:PureOk Tryz.prog 13 (Lx kx ky):=by
 refine num_ok' (fun xs hk _=>?_) ⟨_,Tryz.func13,rfl⟩
 obtain ⟨x,_,rfl,h1⟩:=kn hk; obtain ⟨y,_,rfl,h2⟩:=kn h1; obtain ⟨z,_,rfl,h3⟩:=kn h2; obtain rfl:=k0 h3
 have nx:∀ b,d9 x=b->dZ x b:=fun b h=>h ▸ qE
 have ny:∀ b,d9 y=b->dZ y b:=fun b h=>h ▸ qE
 have nz:∀ b,d9 z=b->dZ z b:=fun b h=>h ▸ qE
 have bad:i7 x y z=true->∀ τ W,VRel τ Br W->VRel τ ((o8 (kx x y z) (ky x y z)).av true) W:=fun h τ W k=>by
  have e1:kx x y z=z0M:=by unfold kx; rw [h]; rfl
  have e2:ky x y z=2:=by unfold ky; rw [h]; rfl
  rw [e1,e2]; exact k
 cases hx:d9 x with
 | true=>exact ⟨cRr rf0 0,900,_,_,yZ 0,rfl,fun _=>rfl,rfl,R5 rf0 x y z,nx _ hx,bad (by unfold i7; rw [hx]; rfl)⟩
 | false=>cases hy:d9 y with
  | true=>exact ⟨cRr rf0 40,900,_,_,yZ 40,rfl,fun _=>rfl,rfl,R6 rf0 x y z,⟨nx _ hx,ny _ hy⟩,bad (by unfold i7; rw [hx,hy]; rfl)⟩
  | false=>cases hz:d9 z with
   | true=>exact ⟨cRr rf0 52,900,_,_,yZ 52,rfl,fun _=>rfl,rfl,R7 rf0 x y z,⟨nx _ hx,ny _ hy,nz _ hz⟩,bad (by unfold i7; rw [hx,hy,hz]; rfl)⟩
   | false=>
    have hb:i7 x y z=false:=by unfold i7; rw [hx,hy,hz]; rfl
    obtain ⟨o1,_⟩:=Fe x y
    obtain ⟨o2,_⟩:=VD x y z
    refine ⟨cRr rf0 9000,900,_,_,yZ 9000,rfl,fun _=>rfl,rfl,M5 rf0 x y z,⟨⟨nx _ hx,ny _ hy,nz _ hz⟩,⟨rfl,rfl⟩,?_,rfl,EG _⟩,fun τ W k=>?_⟩
    .show (nP mf1 (abA af0 1 y) (abA af0 0 x) != 0)=false
     rw [o1]; rfl
    have e1:kx x y z=mulV mf1 (abA af0 2 z) (mW x y):=by unfold kx; rw [hb]; rfl
    have e2:ky x y z=nP mf1 (abA af0 2 z) (mW x y):=by unfold ky; rw [hb,o2]; rfl
    show VRel τ ((o8 (kx x y z) (ky x y z)).av true) W
    rw [e1,e2]; exact k
def M6:List (FuncId×aK):=[(8,lV (snN 0) (fS 0) (fT 0) snE),(10,lV (snN 1) (fS 1) (fT 1) snE),(12,Lx kx ky),(20,sMV (tuV mf0) (tuO mf0)),(22,sMV (fun m=>tuV mf0 (aG m)) (fun m=>tuO mf0 (aG m)))]
theorem M7:fy Tryz.prog M6:=by
 intro x hx
 simp only [M6,List.mem_cons,List.not_mem_nil,or_false] at hx
 rcases hx with rfl|rfl|rfl|rfl|rfl
 .exact Fd
 .exact wv
 .exact Ly
 .exact AH
 .exact JN
def cWo:Ctx:=mkC Tryz.prog M6 ext
theorem Xz:CtxOk cWo:=cT aP M7 de
theorem HB:bj ((run cWo 3000).call 7 [] ⟨[],0,1⟩)=some (.tt,.bool false true):=by kernel_rfl
def M8:aK:=bn [] none fun _=>.t true
theorem M9:PureOk Tryz.prog 7 M8:=by
 refine num_ok' (fun xs hk _=>?_) ⟨_,Tryz.func7,rfl⟩
 obtain rfl:=k0 hk
 exact ⟨cWo,3000,_,_,Xz,rfl,fun _=>rfl,rfl,HB,trivial,fun τ W h=>h⟩
def acz:Sh:=.a [.i .i64,.i .i64,.i .i64]
def Na (V:Int->Int->Int->Mat) (O:Int->Int->Int->Int):List (FuncId×aK):=[(7,M8),(12,Lx V O),(13,Lx V O)]
theorem Nb:fy Tryz.prog (Na kx ky):=by
 intro x hx
 simp only [Na,List.mem_cons,List.not_mem_nil,or_false] at hx
 rcases hx with rfl|rfl|rfl
 .exact M9
 .exact Ly
 .exact R8
def cTR (V:Int->Int->Int->Mat) (O:Int->Int->Int->Int):Ctx:=aO (mkC Tryz.prog (Na V O) ext) (hZ [(40,.bool false false),(81,.bool false true)])
theorem XA:CtxOk (cTR kx ky):=aj (cT aP Nb de) _
end
end Go.Proofs.YtmnhhlnbfkfkaaaGreat.K
