/- What is proved: TurnProducts returns true, whatever the input (part 16). No conditions beyond those of the row. -/
import Derived.Test.YtmnhhlnbfkfkaaaGreatPF
import Derived.Test.YtmnhhlnbfkfkaaaGreatPH
import Derived.Test.YtmnhhlnbfkfkaaaGreatPI
import Derived.Test.YtmnhhlnbfkfkaaaGreatPJ
import Derived.Test.YtmnhhlnbfkfkaaaGreatPK
import Derived.Test.YtmnhhlnbfkfkaaaGreatPN
import Derived.Test.YtmnhhlnbfkfkaaaGreatPO
import Derived.KernelRfl
set_option linter.unusedVariables false
set_option linter.unusedSimpArgs false
set_option linter.unusedSectionVars false
namespace Go.Dg
open Go Go.Eng
def Zv (z:Int):Int:=zv (decide (z<0)) (aa z.natAbs)
theorem bW (z:Int):Zv z=z:=gI z
def kO (v:Int) (a b:List Int):Int:=(v*zv false a).tdiv (zv false b)
def jO (v:Int) (a b:List Int):Int:=(Zv (kO v a b)*zv false a).tdiv (zv false b)
def cM (v:Int) (a b:List Int):Int:=-Zv (jO v a b)
def dx (v:Int) (a b:List Int) (k:Int):Int:=(Zv (cM v a b)*Zv 1).tdiv (Zv k)
def rqk (i:Int):Int:=IntKind.i64.wrap (i*IntKind.i64.wrap (i+1))
def rT (a b:List Int) (i t:Int):Int:=dx (Zv t) a b (rqk i)
def rT0 (a b:List Int):Int:=dx (zv false a) a b (rqk 2)
def rnT (y w i t:Int):Int:=(-(((t*y).tdiv w)*y).tdiv w).tdiv (i*(i+1))
def rnN (y w:Int):Nat->Int->Int->Int->Int
 | 0,_,_,s=>s
 | n+1,i,t,s=>match decide (rnT y w i t=0) with
  | true=>s
  | false=>rnN y w n (i+2) (rnT y w i t) (s+rnT y w i t)
theorem Fz {y w:Int} {n:Nat} {i t s:Int} (h:rnT y w i t=0):rnN y w (n+1) i t s=s:=by rw [rnN,decide_eq_true h]
theorem u0 {y w:Int} {n:Nat} {i t s:Int} (h:rnT y w i t≠0):rnN y w (n+1) i t s=rnN y w n (i+2) (rnT y w i t) (s+rnT y w i t):=by rw [rnN,decide_eq_false h]
theorem DK {i:Int} (h0:2<=i) (h1:i<=400):rqk i=i*(i+1):=by
 have e:i*(i+1)<=400*401:=Int.mul_le_mul (a:=i) (b:=i+1) (c:=400) (d:=401) h1 (by omega) (by omega) (by decide)
 have e2:2*3<=i*(i+1):=Int.mul_le_mul (a:=2) (b:=3) (c:=i) (d:=i+1) h0 (by omega) (by decide) (by omega)
 unfold rqk
 rw [show IntKind.i64.wrap (i+1)=i+1 from iw (by omega) (by omega),iw (by omega) (by omega)]
theorem FA {v k:Int} {a b:List Int}:dx v a b k=(-(((v*val a).tdiv (val b))*val a).tdiv (val b)).tdiv k:=by
 unfold dx cM jO kO
 simp only [bW,Int.mul_one]
 rfl
theorem FB {a b:List Int} {i t:Int} (h0:2<=i) (h1:i<=400):rT a b i t=rnT (val a) (val b) i t:=by
 unfold rT rnT
 rw [FA,DK h0 h1,bW]
theorem y6 {a b:List Int}:rT0 a b=rnT (val a) (val b) 2 (val a):=by
 unfold rT0 rnT
 rw [FA,DK (by decide) (by decide)]; rfl
theorem BT {x w c d n:Int} (hw:0<w) (hd:0<d) (h:d*(x.natAbs:Int)<=c*n*w) (hc:0<=c*n):d*((x.tdiv w).natAbs:Int)<=c*n:=by
 rw [Int.natAbs_tdiv]
 show d*((x.natAbs / w.natAbs:Nat):Int)<=c*n
 have e:((x.natAbs / w.natAbs:Nat):Int)=(x.natAbs:Int) / w:=by
  push_cast
  rw [Int.natAbs_of_nonneg (show 0<=w by omega)]
 rw [e]
 have h1:=Int.ediv_mul_le (x.natAbs:Int) (b:=w) (by omega)
 refine Int.le_of_mul_le_mul_right ?_ hw
 have:=Int.mul_le_mul_of_nonneg_left h1 (show 0<=d by omega)
 rw [Int.mul_assoc]
 omega
theorem FC {v y w:Int} (hy:0<=y) (hw:0<w) (hyw:5*y<=8*w):5*(((v*y).tdiv w).natAbs:Int)<=8*v.natAbs:=by
 refine BT hw (by decide) ?_ (by omega)
 rw [Int.natAbs_mul]
 push_cast
 rw [Int.natAbs_of_nonneg hy]
 have:=Int.mul_le_mul_of_nonneg_left hyw (show 0<=(v.natAbs:Int) by omega)
 grind
theorem MO {v y w i:Int} (hy:0<=y) (hw:0<w) (hyw:5*y<=8*w) (hi:2<=i):2*((rnT y w i v).natAbs:Int)<=v.natAbs:=by
 have b1:=FC (v:=v) hy hw hyw
 have b2:=FC (v:=(v*y).tdiv w) hy hw hyw
 have hii:6<=i*(i+1):=Int.mul_le_mul (a:=2) (b:=3) (c:=i) (d:=i+1) hi (by omega) (by decide) (by omega)
 unfold rnT
 have e:((-(((v*y).tdiv w)*y).tdiv w).natAbs:Int)=(((((v*y).tdiv w)*y).tdiv w).natAbs:Int):=by rw [Int.natAbs_neg]
 have:=BT (x:=-(((v*y).tdiv w)*y).tdiv w) (w:=i*(i+1)) (c:=1) (d:=2) (n:=v.natAbs) (by omega) (by decide) (by
  rw [e]
  have:=Int.mul_le_mul_of_nonneg_left hii (show 0<=(v.natAbs:Int) by omega)
  grind) (by omega)
 omega
end Go.Dg
namespace Go.Proofs.YtmnhhlnbfkfkaaaGreat.K
open Go Go.Eng Go.Dg Go.Ar Go.Vc
noncomputable section
inductive RnS where
 | a0
 | am (i t s:Int) (z:Bool)
 | ad (i t s:Int)
def rnP:RnS->Patch
 | .a0=>⟨(7,.int true .i64 2) :: aC 10 26,[],[]⟩
 | .am i t s _=>⟨(7,.int true .i64 i) :: aC 10 26,[(5,.cells (lgA 8 s)),(6,.cells (lgA 7 t))],[.rows .i64 (aa s.natAbs),.rows .i64 (aa t.natAbs)]⟩
 | .ad i t s=>⟨(7,.int true .i64 i) :: aC 10 26,[(5,.cells (lgA 7 s)),(6,.cells (lgA 8 t))],[.rows .i64 (aa t.natAbs),.rows .i64 (aa s.natAbs)]⟩
def rnX (s:Int):Patch:=⟨(7,.any false) :: aC 10 26,[(5,.cells (lgA 7 s)),(6,.dead)],[.dead,.rows .i64 (aa s.natAbs)]⟩
def rnR (a b:List Int):RnS->Int
 | .a0=>rnN (val a) (val b) 200 2 (val a) (val a)
 | .am i t s _=>rnN (val a) (val b) (201 - (i / 2).toNat) i t s
 | .ad _ _ s=>s
def rnU (a b:List Int):SumL RnS:=
 {
  S:=rnP
  I:=fun x=>match x with
   | .a0=>True
   | .am i t s z=>z=decide (rT a b i t=0)/\t≠0/\i % 2=0/\2<i/\i<=300/\2 ^ (i / 2).toNat*t.natAbs<=4*ag/\0<s/\s+t.natAbs<=4*ag/\t.natAbs<=s
   | .ad i t s=>t=0/\0<s/\s<=4*ag
  μ:=fun x=>match x with
   | .a0=>800
   | .am i _ _ _=>(400 - i).toNat+1
   | .ad _ _ _=>0
  F:=fun x=>(.exit 0,rnX (rnR a b x))
  next:=fun x=>match x with
   | .a0=>.am 4 (rT0 a b) (zv false a+Zv (rT0 a b)) (decide (rT a b 4 (rT0 a b)=0))
   | .am i t s true=>.ad (i+2) (rT a b i t) s
   | .am i t s false=>.am (i+2) (rT a b i t) (Zv s+Zv (rT a b i t)) (decide (rT a b (i+2) (rT a b i t)=0))
   | .ad i t s=>.ad i t s
  ids:=fun x=>match x with
   | .a0=>[12,13]
   | .am _ _ _ true=>[8,14]
   | .am _ _ _ false=>[14,15]
   | .ad _ _ _=>[7,8]
  X:=fun x _=>match x with
   | .ad _ _ s=>some (rnX s,[7,8])
   | _=>none }
end
end Go.Proofs.YtmnhhlnbfkfkaaaGreat.K
namespace Go.Proofs.YtmnhhlnbfkfkaaaGreat.K
open Go Go.Eng Go.Dg
noncomputable section
def BU (a b:List Int):Prop:=(2:Int)=2
theorem MP (a b:List Int):fit (rnS a b) (rnS a b) (ac (rnS a b) ((rnU a b).S .a0)) ([])=some (.p (BU a b)):=by kernel_rfl
def MQ (a b:List Int):Prop:=(decide ((↑a.length:Int)>0)=true/\((((↑a.length:Int)=(↑a.length:Int)/\(↑a.length:Int)=(↑a.length:Int)/\(↑b.length:Int)=(↑b.length:Int))/\paC false false false a a b)/\((false=false/\(↑b.length:Int)=(↑b.length:Int))/\false=false/\(↑a.length:Int)=(↑a.length:Int))/\(((↑(aa (kO (zv false a) a b).natAbs).length:Int)=(↑(aa (kO (zv false a) a b).natAbs).length:Int)/\(↑a.length:Int)=(↑a.length:Int)/\(↑b.length:Int)=(↑b.length:Int))/\paC (decide (kO (zv false a) a b<0)) false false (aa (kO (zv false a) a b).natAbs) a b)/\(↑(aa (jO (zv false a) a b).natAbs).length:Int)=(↑(aa (jO (zv false a) a b).natAbs).length:Int)/\okL (decide (jO (zv false a) a b<0)) (aa (jO (zv false a) a b).natAbs))/\(Int.natAbs (1:Int)<=(9223372036854775808:Nat)/\(decide (cM (zv false a) a b<0)=decide (cM (zv false a) a b<0)/\(↑(aa (cM (zv false a) a b).natAbs).length:Int)=(↑(aa (cM (zv false a) a b).natAbs).length:Int))/\(IntKind.i64.wrap ((2:Int)*IntKind.i64.wrap ((2:Int)+1))).natAbs<=(9223372036854775808:Nat)/\(decide (cM (zv false a) a b<0)=decide (cM (zv false a) a b<0)/\(↑(aa (cM (zv false a) a b).natAbs).length:Int)=(↑(aa (cM (zv false a) a b).natAbs).length:Int))/\((↑(aa (cM (zv false a) a b).natAbs).length:Int)=(↑(aa (cM (zv false a) a b).natAbs).length:Int)/\(↑(aa (Int.natAbs (1:Int))).length:Int)=(↑(aa (Int.natAbs (1:Int))).length:Int)/\(↑(aa (IntKind.i64.wrap ((2:Int)*IntKind.i64.wrap ((2:Int)+1))).natAbs).length:Int)=(↑(aa (IntKind.i64.wrap ((2:Int)*IntKind.i64.wrap ((2:Int)+1))).natAbs).length:Int))/\paC (decide (cM (zv false a) a b<0)) (decide ((1:Int)<0)) (decide (IntKind.i64.wrap ((2:Int)*IntKind.i64.wrap ((2:Int)+1))<0)) (aa (cM (zv false a) a b).natAbs) (aa (Int.natAbs (1:Int))) (aa (IntKind.i64.wrap ((2:Int)*IntKind.i64.wrap ((2:Int)+1))).natAbs))/\((↑a.length:Int)=(↑a.length:Int)/\(↑(aa (dx (zv false a) a b (rqk 2)).natAbs).length:Int)=(↑(aa (dx (zv false a) a b (rqk 2)).natAbs).length:Int))/\okL false a/\okL (decide (dx (zv false a) a b (rqk 2)<0)) (aa (dx (zv false a) a b (rqk 2)).natAbs)/\a≠[]/\aa (dx (zv false a) a b (rqk 2)).natAbs≠[]/\val a+val (aa (dx (zv false a) a b (rqk 2)).natAbs)<pw (400000:Nat))/\(true=true->(IntKind.i64.wrap ((2:Int)+2)=4/\((decide (dx (zv false a) a b (rqk 2)<0)=decide (rT0 a b<0)/\(↑(aa (dx (zv false a) a b (rqk 2)).natAbs).length:Int)=(↑(aa (rT0 a b).natAbs).length:Int))/\decide (zv false a+zv (decide (dx (zv false a) a b (rqk 2)<0)) (aa (dx (zv false a) a b (rqk 2)).natAbs)<0)=decide (zv false a+Zv (rT0 a b)<0)/\(↑(aa (zv false a+zv (decide (dx (zv false a) a b (rqk 2)<0)) (aa (dx (zv false a) a b (rqk 2)).natAbs)).natAbs).length:Int)=(↑(aa (zv false a+Zv (rT0 a b)).natAbs).length:Int))/\aa (zv false a+zv (decide (dx (zv false a) a b (rqk 2)<0)) (aa (dx (zv false a) a b (rqk 2)).natAbs)).natAbs=aa (zv false a+Zv (rT0 a b)).natAbs/\aa (dx (zv false a) a b (rqk 2)).natAbs=aa (rT0 a b).natAbs)/\(rnU a b).I ((rnU a b).next RnS.a0)/\(rnU a b).μ ((rnU a b).next RnS.a0)<(rnU a b).μ RnS.a0/\(rnU a b).F ((rnU a b).next RnS.a0)=(rnU a b).F RnS.a0)
theorem aa9 (a b:List Int):aW (rnS a b) ((rnU a b).way (.a0)) ((run cRu 300).code BS rnA (ac (rnS a b) ((rnU a b).S .a0)))=some (.p (MQ a b)):=by kernel_rfl
def MR (a b:List Int) (i t s:Int):Prop:=(decide ((↑(aa t.natAbs).length:Int)>0)=true/\((((↑(aa t.natAbs).length:Int)=(↑(aa t.natAbs).length:Int)/\(↑a.length:Int)=(↑a.length:Int)/\(↑b.length:Int)=(↑b.length:Int))/\paC (decide (t<0)) false false (aa t.natAbs) a b)/\((false=false/\(↑b.length:Int)=(↑b.length:Int))/\false=false/\(↑a.length:Int)=(↑a.length:Int))/\(((↑(aa (kO (Zv t) a b).natAbs).length:Int)=(↑(aa (kO (Zv t) a b).natAbs).length:Int)/\(↑a.length:Int)=(↑a.length:Int)/\(↑b.length:Int)=(↑b.length:Int))/\paC (decide (kO (Zv t) a b<0)) false false (aa (kO (Zv t) a b).natAbs) a b)/\(↑(aa (jO (Zv t) a b).natAbs).length:Int)=(↑(aa (jO (Zv t) a b).natAbs).length:Int)/\okL (decide (jO (Zv t) a b<0)) (aa (jO (Zv t) a b).natAbs))/\(Int.natAbs (1:Int)<=(9223372036854775808:Nat)/\(decide (cM (Zv t) a b<0)=decide (cM (Zv t) a b<0)/\(↑(aa (cM (Zv t) a b).natAbs).length:Int)=(↑(aa (cM (Zv t) a b).natAbs).length:Int))/\(IntKind.i64.wrap (i*IntKind.i64.wrap (i+1))).natAbs<=(9223372036854775808:Nat)/\(decide (cM (Zv t) a b<0)=decide (cM (Zv t) a b<0)/\(↑(aa (cM (Zv t) a b).natAbs).length:Int)=(↑(aa (cM (Zv t) a b).natAbs).length:Int))/\((↑(aa (cM (Zv t) a b).natAbs).length:Int)=(↑(aa (cM (Zv t) a b).natAbs).length:Int)/\(↑(aa (Int.natAbs (1:Int))).length:Int)=(↑(aa (Int.natAbs (1:Int))).length:Int)/\(↑(aa (IntKind.i64.wrap (i*IntKind.i64.wrap (i+1))).natAbs).length:Int)=(↑(aa (IntKind.i64.wrap (i*IntKind.i64.wrap (i+1))).natAbs).length:Int))/\paC (decide (cM (Zv t) a b<0)) (decide ((1:Int)<0)) (decide (IntKind.i64.wrap (i*IntKind.i64.wrap (i+1))<0)) (aa (cM (Zv t) a b).natAbs) (aa (Int.natAbs (1:Int))) (aa (IntKind.i64.wrap (i*IntKind.i64.wrap (i+1))).natAbs))/\((↑(aa s.natAbs).length:Int)=(↑(aa s.natAbs).length:Int)/\(↑(aa (dx (Zv t) a b (rqk i)).natAbs).length:Int)=(↑(aa (dx (Zv t) a b (rqk i)).natAbs).length:Int))/\okL (decide (s<0)) (aa s.natAbs)/\okL (decide (dx (Zv t) a b (rqk i)<0)) (aa (dx (Zv t) a b (rqk i)).natAbs)/\aa s.natAbs≠[]/\aa (dx (Zv t) a b (rqk i)).natAbs≠[]/\val (aa s.natAbs)+val (aa (dx (Zv t) a b (rqk i)).natAbs)<pw (400000:Nat))/\(true=true->(IntKind.i64.wrap (i+2)=i+2/\((decide (dx (Zv t) a b (rqk i)<0)=decide (rT a b i t<0)/\(↑(aa (dx (Zv t) a b (rqk i)).natAbs).length:Int)=(↑(aa (rT a b i t).natAbs).length:Int))/\decide (zv (decide (s<0)) (aa s.natAbs)+zv (decide (dx (Zv t) a b (rqk i)<0)) (aa (dx (Zv t) a b (rqk i)).natAbs)<0)=decide (Zv s+Zv (rT a b i t)<0)/\(↑(aa (zv (decide (s<0)) (aa s.natAbs)+zv (decide (dx (Zv t) a b (rqk i)<0)) (aa (dx (Zv t) a b (rqk i)).natAbs)).natAbs).length:Int)=(↑(aa (Zv s+Zv (rT a b i t)).natAbs).length:Int))/\aa (zv (decide (s<0)) (aa s.natAbs)+zv (decide (dx (Zv t) a b (rqk i)<0)) (aa (dx (Zv t) a b (rqk i)).natAbs)).natAbs=aa (Zv s+Zv (rT a b i t)).natAbs/\aa (dx (Zv t) a b (rqk i)).natAbs=aa (rT a b i t).natAbs)/\(rnU a b).I ((rnU a b).next (RnS.am i t s false))/\(rnU a b).μ ((rnU a b).next (RnS.am i t s false))<(rnU a b).μ (RnS.am i t s false)/\(rnU a b).F ((rnU a b).next (RnS.am i t s false))=(rnU a b).F (RnS.am i t s false))
theorem aba (a b:List Int) (i t s:Int):aW (rnS a b) ((rnU a b).way ((.am i t s false))) ((run cRu 300).code BS rnA (ac (rnS a b) ((rnU a b).S (.am i t s false))))=some (.p (MR a b i t s)):=by kernel_rfl
def MS (a b:List Int) (i t s:Int):Prop:=(decide ((↑(aa t.natAbs).length:Int)>0)=true/\((((↑(aa t.natAbs).length:Int)=(↑(aa t.natAbs).length:Int)/\(↑a.length:Int)=(↑a.length:Int)/\(↑b.length:Int)=(↑b.length:Int))/\paC (decide (t<0)) false false (aa t.natAbs) a b)/\((false=false/\(↑b.length:Int)=(↑b.length:Int))/\false=false/\(↑a.length:Int)=(↑a.length:Int))/\(((↑(aa (kO (Zv t) a b).natAbs).length:Int)=(↑(aa (kO (Zv t) a b).natAbs).length:Int)/\(↑a.length:Int)=(↑a.length:Int)/\(↑b.length:Int)=(↑b.length:Int))/\paC (decide (kO (Zv t) a b<0)) false false (aa (kO (Zv t) a b).natAbs) a b)/\(↑(aa (jO (Zv t) a b).natAbs).length:Int)=(↑(aa (jO (Zv t) a b).natAbs).length:Int)/\okL (decide (jO (Zv t) a b<0)) (aa (jO (Zv t) a b).natAbs))/\(Int.natAbs (1:Int)<=(9223372036854775808:Nat)/\(decide (cM (Zv t) a b<0)=decide (cM (Zv t) a b<0)/\(↑(aa (cM (Zv t) a b).natAbs).length:Int)=(↑(aa (cM (Zv t) a b).natAbs).length:Int))/\(IntKind.i64.wrap (i*IntKind.i64.wrap (i+1))).natAbs<=(9223372036854775808:Nat)/\(decide (cM (Zv t) a b<0)=decide (cM (Zv t) a b<0)/\(↑(aa (cM (Zv t) a b).natAbs).length:Int)=(↑(aa (cM (Zv t) a b).natAbs).length:Int))/\((↑(aa (cM (Zv t) a b).natAbs).length:Int)=(↑(aa (cM (Zv t) a b).natAbs).length:Int)/\(↑(aa (Int.natAbs (1:Int))).length:Int)=(↑(aa (Int.natAbs (1:Int))).length:Int)/\(↑(aa (IntKind.i64.wrap (i*IntKind.i64.wrap (i+1))).natAbs).length:Int)=(↑(aa (IntKind.i64.wrap (i*IntKind.i64.wrap (i+1))).natAbs).length:Int))/\paC (decide (cM (Zv t) a b<0)) (decide ((1:Int)<0)) (decide (IntKind.i64.wrap (i*IntKind.i64.wrap (i+1))<0)) (aa (cM (Zv t) a b).natAbs) (aa (Int.natAbs (1:Int))) (aa (IntKind.i64.wrap (i*IntKind.i64.wrap (i+1))).natAbs))/\((↑(aa s.natAbs).length:Int)==0)=false/\((↑(aa (dx (Zv t) a b (rqk i)).natAbs).length:Int)==0)=true)/\(true=true->(IntKind.i64.wrap (i+2)=i+2/\((decide (dx (Zv t) a b (rqk i)<0)=decide (rT a b i t<0)/\(↑(aa (dx (Zv t) a b (rqk i)).natAbs).length:Int)=(↑(aa (rT a b i t).natAbs).length:Int))/\decide (s<0)=decide (s<0)/\(↑(aa s.natAbs).length:Int)=(↑(aa s.natAbs).length:Int))/\aa (dx (Zv t) a b (rqk i)).natAbs=aa (rT a b i t).natAbs/\aa s.natAbs=aa s.natAbs)/\(rnU a b).I ((rnU a b).next (RnS.am i t s true))/\(rnU a b).μ ((rnU a b).next (RnS.am i t s true))<(rnU a b).μ (RnS.am i t s true)/\(rnU a b).F ((rnU a b).next (RnS.am i t s true))=(rnU a b).F (RnS.am i t s true))
theorem abb (a b:List Int) (i t s:Int):aW (rnS a b) ((rnU a b).way ((.am i t s true))) ((run cRl 300).code BS rnA (ac (rnS a b) ((rnU a b).S (.am i t s true))))=some (.p (MS a b i t s)):=by kernel_rfl
def R4 (a b:List Int) (i t s:Int):Prop:=decide ((↑(aa t.natAbs).length:Int)>0)=false/\(true=true->((decide (s<0)=decide (s<0)/\(↑(aa s.natAbs).length:Int)=(↑(aa s.natAbs).length:Int))/\aa s.natAbs=aa s.natAbs)/\(rnU a b).F (RnS.ad i t s)=(Ex.exit (0:Nat),rnX s))
theorem acS (a b:List Int) (i t s:Int):aW (rnS a b) ((rnU a b).way ((.ad i t s))) ((run cRe 300).code BS rnA (ac (rnS a b) ((rnU a b).S (.ad i t s))))=some (.p (R4 a b i t s)):=by kernel_rfl
end
end Go.Proofs.YtmnhhlnbfkfkaaaGreat.K
namespace Go.Proofs.YtmnhhlnbfkfkaaaGreat.K
open Go Go.Eng Go.Dg Go.Ar Go.Vc
noncomputable section
structure RnD (a b:List Int):Prop where
 d:Dig a
 t:Top a
 l:a.length<=10
 e:b=[0,0,0,0,10000]
 v0:0<val a
 v1:5*val a<=8*ag
 t0:rT0 a b≠0
theorem sJ:0<ag:=by decide
theorem RnD.w {a b:List Int} (h:RnD a b):val b=ag:=by rw [h.e]; rfl
theorem okA {z:Int} (h:(z.natAbs:Int)<=100*ag):okL (decide (z<0)) (aa z.natAbs)/\(aa z.natAbs).length<=5:=by
 have e1:100*ag<pw 5:=by decide
 have e2:=bN (show 5<=500000 by omega)
 exact ⟨lO (Int.lt_of_lt_of_le (Int.lt_of_le_of_lt h e1) e2),dX (Int.lt_of_le_of_lt h e1)⟩
theorem okK {i:Int} (h0:2<=i) (h1:i<=400):okL (decide (rqk i<0)) (aa (rqk i).natAbs)/\(aa (rqk i).natAbs).length<=5/\aa (rqk i).natAbs≠[]/\(rqk i).natAbs<=9223372036854775808:=by
 have e:i*(i+1)<=400*401:=Int.mul_le_mul (a:=i) (b:=i+1) (c:=400) (d:=401) h1 (by omega) (by omega) (by decide)
 have e2:2*3<=i*(i+1):=Int.mul_le_mul (a:=2) (b:=3) (c:=i) (d:=i+1) h0 (by omega) (by decide) (by omega)
 rw [DK h0 h1]
 have e3:(1000000:Int)<=100*ag:=by decide
 obtain ⟨a,b⟩:=okA (z:=i*(i+1)) (by omega)
 refine ⟨a,b,fun h=>?_,by omega⟩
 have:=kA (n:=(i*(i+1)).natAbs) (by omega)
 rw [h] at this
 exact absurd this (by decide)
theorem abc:okL (decide ((1:Int)<0)) (aa (Int.natAbs 1))/\(aa (Int.natAbs 1)).length<=5:=by
 have e3:(1:Int)<=100*ag:=by decide
 exact okA (z:=1) (by omega)
theorem abd {a b:List Int} (h:RnD a b) {p:Bool} {tl:List Int} (hp:okL p tl) (hl:tl.length<=10) {v:Int} (hv:zv p tl=v) (hb:(v.natAbs:Int)<=2*ag) {i:Int} (h0:2<=i) (h1:i<=400):
  paC p false false tl a b/\paC (decide (kO v a b<0)) false false (aa (kO v a b).natAbs) a b/\okL (decide (jO v a b<0)) (aa (jO v a b).natAbs)/\paC (decide (cM v a b<0)) (decide ((1:Int)<0)) (decide (rqk i<0)) (aa (cM v a b).natAbs) (aa (Int.natAbs 1)) (aa (rqk i).natAbs):=by
 have hw:=h.w
 have tp:=sJ
 have hA:okL false a:=⟨h.d,h.t,fun h=>(by cases h),by have:=h.l; show a.length<=500000; omega⟩
 have hB:okL false b/\b≠[]/\b.length=5:=by rw [h.e]; exact ⟨(fZ rfl).1,(by decide),rfl⟩
 have la:=h.l
 have y0:=h.v0
 have y1:=h.v1
 have e1:(kO v a b)=(v*val a).tdiv (val b):=rfl
 have b1:=FC (v:=v) (y:=val a) (w:=ag) (by omega) tp y1
 have e2:jO v a b=((v*val a).tdiv (val b)*val a).tdiv (val b):=by unfold jO; rw [bW]; rfl
 have b2:=FC (v:=(v*val a).tdiv ag) (y:=val a) (w:=ag) (by omega) tp y1
 have e3:cM v a b=-jO v a b:=by unfold cM; rw [bW]
 rw [hw] at e1 e2
 have n1:((kO v a b).natAbs:Int)<=100*ag:=by rw [e1]; omega
 have n2:((jO v a b).natAbs:Int)<=100*ag:=by rw [e2]; omega
 have n3:((cM v a b).natAbs:Int)<=100*ag:=by rw [e3,Int.natAbs_neg]; exact n2
 obtain ⟨o1,l1⟩:=okA n1
 obtain ⟨o2,l2⟩:=okA n2
 obtain ⟨o3,l3⟩:=okA n3
 obtain ⟨k1,k2,k3,_⟩:=okK h0 h1
 obtain ⟨c1,c2⟩:=abc
 obtain ⟨hB1,hB2,hB3⟩:=hB
 exact ⟨⟨hp,hA,hB1,hB2,by omega⟩,⟨o1,hA,hB1,hB2,by omega⟩,o2,⟨o3,c1,k1,k3,by omega⟩⟩
theorem RnD.ra {a b:List Int} (h:RnD a b):0<=val a/\0<ag/\5*val a<=8*ag:=⟨by have:=h.v0; omega,sJ,h.v1⟩
theorem Ts {a b:List Int} (h:RnD a b) {i t:Int} (h0:2<=i) (h1:i<=400):2*((rT a b i t).natAbs:Int)<=t.natAbs:=by
 rw [FB h0 h1,h.w]
 exact MO h.ra.1 h.ra.2.1 h.ra.2.2 h0
theorem MT {a b:List Int} (h:RnD a b):2*((rT0 a b).natAbs:Int)<=val a:=by
 rw [y6,h.w]
 have:=MO (v:=val a) h.ra.1 h.ra.2.1 h.ra.2.2 (i:=2) (by decide)
 rw [Int.natAbs_of_nonneg h.ra.1] at this
 exact this
theorem FD {n:Nat} {t:Int} (h0:t≠0) (h:2 ^ n*(t.natAbs:Int)<=4*ag):n<=134:=by
 refine Nat.le_of_not_lt fun hn=>?_
 have h1:(2:Int) ^ 135<=2 ^ n:=by
  have:=Nat.pow_le_pow_right (n:=2) (by decide) (show 135<=n by omega)
  have e1:((2 ^ 135:Nat):Int)<=((2 ^ n:Nat):Int):=by exact_mod_cast this
  simpa using e1
 have h2:(2:Int) ^ n*1<=2 ^ n*(t.natAbs:Int):=Int.mul_le_mul_of_nonneg_left (by omega) (by omega)
 have e:4*ag<2 ^ 135:=by decide
 omega
theorem jq {z:Int} (h:z≠0):aa z.natAbs≠[]/\0<(aa z.natAbs).length:=by
 have:=kA (n:=z.natAbs) (by omega)
 exact ⟨fun h=>by rw [h] at this; exact absurd this (by decide),this⟩
theorem iY (z:Int):val (aa z.natAbs)=z.natAbs:=dn _
theorem MU:100*ag<pw 400000:=by
 have e1:100*ag<pw 5:=by decide
 exact Int.lt_of_lt_of_le e1 (bN (by omega))
theorem HM {a b:List Int} (h:RnD a b):(rnU a b).I ((rnU a b).next .a0):=by
 have b0:=MT h
 have y0:=h.v0
 have y1:=h.v1
 have z:=h.t0
 show decide (rT a b 4 (rT0 a b)=0)=decide (rT a b 4 (rT0 a b)=0)/\rT0 a b≠0/\(4:Int) % 2=0/\(2:Int)<4/\(4:Int)<=300/\(2:Int) ^ 2*((rT0 a b).natAbs:Int)<=4*ag/\0<zv false a+Zv (rT0 a b)/\zv false a+Zv (rT0 a b)+((rT0 a b).natAbs:Int)<=4*ag/\((rT0 a b).natAbs:Int)<=zv false a+Zv (rT0 a b)
 rw [bW,show zv false a=val a from rfl,show (2:Int) ^ 2=4 from rfl]
 refine ⟨rfl,z,by decide,by decide,by decide,by omega,by omega,by omega,by omega⟩
theorem MV {a b:List Int} (h:RnD a b) {i t s:Int} (hI:(rnU a b).I (.am i t s false)):(rnU a b).I ((rnU a b).next (.am i t s false)):=by
 obtain ⟨hz,t0,i0,i1,i2,pw,s0,s1,ts⟩:=(show false=decide (rT a b i t=0)/\t≠0/\i % 2=0/\2<i/\i<=300/\2 ^ (i / 2).toNat*(t.natAbs:Int)<=4*ag/\0<s/\s+(t.natAbs:Int)<=4*ag/\(t.natAbs:Int)<=s from hI)
 have hz:=of_decide_eq_false hz.symm
 have b1:=Ts h (i:=i) (t:=t) (by omega) (by omega)
 have k:=FD t0 pw
 have hp:(2:Int) ^ ((i+2) / 2).toNat*((rT a b i t).natAbs:Int)<=4*ag:=by
  rw [show ((i+2) / 2).toNat=(i / 2).toNat+1 by omega,Int.pow_succ,Int.mul_assoc]
  have:(2:Int) ^ (i / 2).toNat*(2*((rT a b i t).natAbs:Int))<=2 ^ (i / 2).toNat*(t.natAbs:Int):=Int.mul_le_mul_of_nonneg_left b1 (Int.pow_nonneg (by decide))
  omega
 show decide (rT a b (i+2) (rT a b i t)=0)=decide (rT a b (i+2) (rT a b i t)=0)/\rT a b i t≠0/\(i+2) % 2=0/\2<i+2/\i+2<=300/\(2:Int) ^ ((i+2) / 2).toNat*((rT a b i t).natAbs:Int)<=4*ag/\0<Zv s+Zv (rT a b i t)/\Zv s+Zv (rT a b i t)+((rT a b i t).natAbs:Int)<=4*ag/\((rT a b i t).natAbs:Int)<=Zv s+Zv (rT a b i t)
 rw [bW,bW]
 refine ⟨rfl,hz,by omega,by omega,by omega,hp,by omega,by omega,by omega⟩
theorem HN {a b:List Int} (h:RnD a b):rnR a b ((rnU a b).next .a0)=rnR a b .a0:=by
 show rnN (val a) (val b) 199 4 (rT0 a b) (zv false a+Zv (rT0 a b))=rnN (val a) (val b) (199+1) 2 (val a) (val a)
 have e:=u0 (y:=val a) (w:=val b) (n:=199) (i:=2) (t:=val a) (s:=val a) (by rw [<- y6]; exact h.t0)
 rw [<- y6] at e
 rw [e,bW]
 rfl
theorem MW {a b:List Int} {i t s:Int} (h0:2<i) (h1:i<=300) (hz:rT a b i t≠0):rnR a b ((rnU a b).next (.am i t s false))=rnR a b (.am i t s false):=by
 show rnN (val a) (val b) (201 - ((i+2) / 2).toNat) (i+2) (rT a b i t) (Zv s+Zv (rT a b i t))=rnN (val a) (val b) (201 - (i / 2).toNat) i t s
 rw [show 201 - (i / 2).toNat=(200 - (i / 2).toNat)+1 by omega,u0 (by rw [<- FB (by omega) (by omega)]; exact hz),show 201 - ((i+2) / 2).toNat=200 - (i / 2).toNat by omega,bW,bW,<- FB (by omega) (by omega)]
theorem MX {a b:List Int} {i t s:Int} {z:Bool} (h0:2<i) (h1:i<=300) (hz:rT a b i t=0):rnR a b (.am i t s z)=s:=by
 show rnN (val a) (val b) (201 - (i / 2).toNat) i t s=s
 rw [show 201 - (i / 2).toNat=(200 - (i / 2).toNat)+1 by omega,Fz (by rw [<- FB (by omega) (by omega)]; exact hz)]
theorem R5 {a b:List Int} (h:RnD a b):CodeOk HL BS (.loop rnA) (rnS a b) ⟨.tt,[⟨.tt,.exit 0,ac (rnS a b) (rnX (rnR a b .a0))⟩]⟩:=by
 refine cG (rnU a b) (y0:=.a0) trivial ⟨_,MP a b,rfl⟩ (by kernel_rfl) (fun x hx=>?_) rfl
 have hA:okL false a:=⟨h.d,h.t,fun h=>(by cases h),by have:=h.l; show a.length<=500000; omega⟩
 have y0:=h.v0
 have y1:=h.v1
 have tp:=sJ
 have pb:=MU
 have ob:Int.natAbs (1:Int)<=9223372036854775808:=by decide
 cases x with
 | a0=>
  have hb:=MT h
  have n2:((val a).natAbs:Int)<=2*ag:=by rw [Int.natAbs_of_nonneg (by omega)]; omega
  obtain ⟨p1,p2,p3,p4⟩:=abd h hA h.l (v:=zv false a) rfl n2 (i:=2) (by decide) (by decide)
  obtain ⟨o1,l1⟩:=okA (z:=rT0 a b) (by omega)
  have nz:=jq h.t0
  have va:a≠[]:=fun e=>by rw [e] at y0; exact absurd y0 (by decide)
  have al0:0<a.length:=List.length_pos_iff.2 va
  have al:decide ((a.length:Int)>0)=true:=decide_eq_true (by omega)
  have k6:(Int.ofNat 6).natAbs<=9223372036854775808:=by decide
  have sm:val a+val (aa (rT0 a b).natAbs)<pw 400000:=by rw [iY]; omega
  refine ⟨cRu,300,MN,rfl,rfl,_,aa9 a b,?_,fun _=>?_⟩
  .repeat' first|with_reducible refine And.intro ?_ ?_|assumption|exact nz.1|exact rfl
  .refine ⟨?_,HM h,by show (400 - 4:Int).toNat+1<800; decide,congrArg (fun z=>(Ex.exit 0,rnX z)) (HN h)⟩
   repeat' first|with_reducible refine And.intro ?_ ?_|exact rfl|decide
 | am i t s z=>
  obtain ⟨hz,t0,i0,i1,i2,pw2,s0,s1,ts⟩:=(show z=decide (rT a b i t=0)/\t≠0/\i % 2=0/\2<i/\i<=300/\2 ^ (i / 2).toNat*(t.natAbs:Int)<=4*ag/\0<s/\s+(t.natAbs:Int)<=4*ag/\(t.natAbs:Int)<=s from hx)
  have b1:=Ts h (i:=i) (t:=t) (by omega) (by omega)
  have n2:(t.natAbs:Int)<=2*ag:=by omega
  obtain ⟨ot,lt⟩:=okA (z:=t) (by omega)
  obtain ⟨os,ls⟩:=okA (z:=s) (by omega)
  obtain ⟨p1,p2,p3,p4⟩:=abd h ot (by omega) (v:=Zv t) rfl (by rw [bW]; exact n2) (i:=i) (by omega) (by omega)
  obtain ⟨o1,l1⟩:=okA (z:=rT a b i t) (by omega)
  have nt:=jq t0
  have ns:=jq (z:=s) (by omega)
  have tl:decide (((aa t.natAbs).length:Int)>0)=true:=decide_eq_true (by omega)
  have kk:=(okK (i:=i) (by omega) (by omega)).2.2.2
  have w2:IntKind.i64.wrap (i+2)=i+2:=iw (by omega) (by omega)
  cases z with
  | false=>
   have hz:=of_decide_eq_false hz.symm
   have nz:=jq hz
   have sm:val (aa s.natAbs)+val (aa (rT a b i t).natAbs)<pw 400000:=by rw [iY,iY]; omega
   have k:=FD t0 pw2
   refine ⟨cRu,300,MN,rfl,rfl,_,aba a b i t s,?_,fun _=>?_⟩
   .repeat' first|with_reducible refine And.intro ?_ ?_|assumption|exact nz.1|exact ns.1|exact rfl
   .refine ⟨?_,MV h hx,by show (400 - (i+2)).toNat+1<(400 - i).toNat+1; omega,congrArg (fun z=>(Ex.exit 0,rnX z)) (MW i1 i2 hz)⟩
    repeat' first|with_reducible refine And.intro ?_ ?_|assumption|exact rfl
  | true=>
   have hz:=of_decide_eq_true hz.symm
   have z0:(((aa (rT a b i t).natAbs).length:Int)==0)=true:=by rw [hz,show aa (Int.natAbs 0)=[] from bS]; rfl
   have s1':(((aa s.natAbs).length:Int)==0)=false:=beq_eq_false_iff_ne.2 (by omega)
   refine ⟨cRl,300,Xm,rfl,rfl,_,abb a b i t s,?_,fun _=>?_⟩
   .repeat' first|with_reducible refine And.intro ?_ ?_|assumption|exact rfl
   .refine ⟨?_,⟨hz,s0,by omega⟩,by show 0<(400 - i).toNat+1; omega,congrArg (fun z=>(Ex.exit 0,rnX z)) (MX i1 i2 hz).symm⟩
    repeat' first|with_reducible refine And.intro ?_ ?_|assumption|exact rfl
 | ad i t s=>
  obtain ⟨t0,s0,s1⟩:=(show t=0/\0<s/\s<=4*ag from hx)
  subst t0
  exact ⟨cRe,300,Xn,rfl,rfl,_,acS a b i 0 s,by rw [show aa (0:Int).natAbs=[] from bS]; rfl,fun _=>⟨⟨⟨rfl,rfl⟩,rfl⟩,rfl⟩⟩
def Xo (a b:List Int):Ctx:=aw HL [aR 55 (rnS a b).hp.clock BS rnA (rnS a b) (.exit 0) (rnX (rnR a b .a0))]
theorem R6 {a b:List Int} (h:RnD a b):CtxOk (Xo a b):=ak sI (R5 h) (aq sI)
end
end Go.Proofs.YtmnhhlnbfkfkaaaGreat.K
namespace Go.Proofs.YtmnhhlnbfkfkaaaGreat.K
open Go Go.Eng Go.Dg
noncomputable section
def R7 (a b:List Int):Prop:=((false=false/\(↑a.length:Int)=(↑a.length:Int))/\At (BS) (BS) (rnA) (rnA) (rnS a b) (rnS a b))
def Xp (a b:List Int):AV:=(AV.agg [AV.bool true (decide (rnR a b RnS.a0<0)),AV.lslice 2 (↑(aa (rnR a b RnS.a0).natAbs).length:Int)])
def Xq (a b:List Int):Hp:=⟨[{ wr:=13,body:=ABody.rows IntKind.i64 (aa (rnR a b RnS.a0).natAbs) },{ wr:=(0:Nat),body:=ABody.rows IntKind.i64 b },{ wr:=(0:Nat),body:=ABody.rows IntKind.i64 a }],3,16⟩
theorem acT (a b:List Int):(run (Xo a b) 300).call 55 (DJ a b) (rnH a b)=some ⟨.p (R7 a b),[⟨.tt,Xp a b,Xq a b⟩]⟩:=by kernel_rfl
end
end Go.Proofs.YtmnhhlnbfkfkaaaGreat.K
namespace Go.Proofs.YtmnhhlnbfkfkaaaGreat.K
open Go Go.Eng Go.Dg Go.Ar Go.Vc
noncomputable section
def rnV:List Nu->List (List Int)->Option (Prop×To)
 | [.t p,.t q],[a,b]=>some (p=false/\q=false/\RnD a b,lgT false (rnR a b .a0))
 | _,_=>none
theorem Xr:NOk Tryz.prog (fun _=>none) hG0 55 (au hG0 .i64 psA rnV):=by
 refine bg (fun xs ys p t e h=>?_) ⟨_,Tryz.func55,rfl⟩
 unfold rnV at e
 split at e
 .rename_i p q a b
  cases e
  obtain ⟨rfl,rfl,h⟩:=h
  exact ⟨Xo a b,300,DJ a b,_,_,_,_,_,R6 h,rfl,rfl,⟨⟨rfl,rfl,trivial⟩,⟨rfl,rfl,trivial⟩,trivial⟩,acT a b,rfl,⟨⟨rfl,rfl⟩,rfl,rfl,rfl⟩,rfl,rfl,⟨rfl,rfl,rfl⟩⟩
 .cases e
def tRi:List (FuncId×eF):=
 (84,au hG0 .i64 [.st [.nu .b,.li]] riV) ::
 (85,au hG0 .i64 psA orV) ::
 (54,au hG0 .i64 [.nu (.i .i64)] ofV) :: []
theorem Xt:∀ x∈tRi,NOk Tryz.prog (fun _=>none) hG0 x.1 x.2:=by
 intro x hx
 simp only [tRi,List.mem_cons,List.not_mem_nil,or_false] at hx
 rcases hx with rfl|rfl|rfl
 .exact BG
 .exact BK
 .exact Fu
def hRi (T:Nat):Nat->Nat->Option AV:=fun c t=>match Nat.beq t 22||Nat.beq t 32 with
 | true=>some (.bool false false)
 | false=>match Nat.beq t 28 with
  | true=>match Nat.blt c T with
   | true=>some (.bool false true)
   | false=>some (.bool false false)
  | false=>none
def DL (T:Nat):Ctx:=aP (mkN Tryz.prog (fun _=>none) hG0 tRi [] dK) (hRi T)
theorem y7 (T:Nat):CtxOk (DL T):=aj (fP aM (cw _) Xt (fun x h=>by cases h)) _
def qO (n:Nat):List AV:=[.agg [.bool true false,.lslice 0 n]]
def inH (a:List Int):Hp:=dW true hG0 [(.i64,a)]
end
end Go.Proofs.YtmnhhlnbfkfkaaaGreat.K
namespace Go.Proofs.YtmnhhlnbfkfkaaaGreat.K
open Go Go.Eng Go.Dg
noncomputable section
def R8 (z:Int):Prop:=(((↑(0:Nat):Int)=(↑([]:List Int).length:Int)/\okL false []/\([]:List Int).length<=(600:Nat))/\((-9223372036854775808:Int).natAbs<=(9223372036854775808:Nat)/\Int.natAbs (9223372036854775807:Int)<=(9223372036854775808:Nat))/\((((↑(0:Nat):Int)=(↑([]:List Int).length:Int)/\(↑(aa (-9223372036854775808:Int).natAbs).length:Int)=(↑(aa (-9223372036854775808:Int).natAbs).length:Int))/\okL false []/\okL (decide ((-9223372036854775808:Int)<0)) (aa (-9223372036854775808:Int).natAbs))/\(decide (mR (zv false []) (zv (decide ((-9223372036854775808:Int)<0)) (aa (-9223372036854775808:Int).natAbs))<0)=true->true=false)/\(decide (mR (zv false []) (zv (decide ((-9223372036854775808:Int)<0)) (aa (-9223372036854775808:Int).natAbs))<0)=false->(((↑(0:Nat):Int)=(↑([]:List Int).length:Int)/\(↑(aa (Int.natAbs (9223372036854775807:Int))).length:Int)=(↑(aa (Int.natAbs (9223372036854775807:Int))).length:Int))/\okL false []/\okL (decide ((9223372036854775807:Int)<0)) (aa (Int.natAbs (9223372036854775807:Int))))/\decide (mR (zv false []) (zv (decide ((9223372036854775807:Int)<0)) (aa (Int.natAbs (9223372036854775807:Int))))>0)=false))/\decide (IntKind.i64.wrap ((↑(0:Nat):Int) - (1:Int))>=0)=false)
def Xu (z:Int):AV:=(AV.tuple [AV.int false IntKind.i64 (Int.ofNat (0:Nat)),AV.int false IntKind.i64 (Int.ofNat (0:Nat))])
def Xv (z:Int):Hp:=⟨[{ wr:=(0:Nat),body:=ABody.rows IntKind.i64 [] }],1,36⟩
theorem acU (z:Int):(run (DL 0) 300).call 60 (qO 0) (inH [])=some ⟨.p (R8 z),[⟨.tt,Xu z,Xv z⟩]⟩:=by kernel_rfl
def R9 (x:Int):Prop:=(((↑(1:Nat):Int)=(↑[x].length:Int)/\okL false [x]/\[x].length<=(600:Nat))/\((-9223372036854775808:Int).natAbs<=(9223372036854775808:Nat)/\Int.natAbs (9223372036854775807:Int)<=(9223372036854775808:Nat))/\((((↑(1:Nat):Int)=(↑[x].length:Int)/\(↑(aa (-9223372036854775808:Int).natAbs).length:Int)=(↑(aa (-9223372036854775808:Int).natAbs).length:Int))/\okL false [x]/\okL (decide ((-9223372036854775808:Int)<0)) (aa (-9223372036854775808:Int).natAbs))/\(decide (mR (zv false [x]) (zv (decide ((-9223372036854775808:Int)<0)) (aa (-9223372036854775808:Int).natAbs))<0)=true->true=false)/\(decide (mR (zv false [x]) (zv (decide ((-9223372036854775808:Int)<0)) (aa (-9223372036854775808:Int).natAbs))<0)=false->(((↑(1:Nat):Int)=(↑[x].length:Int)/\(↑(aa (Int.natAbs (9223372036854775807:Int))).length:Int)=(↑(aa (Int.natAbs (9223372036854775807:Int))).length:Int))/\okL false [x]/\okL (decide ((9223372036854775807:Int)<0)) (aa (Int.natAbs (9223372036854775807:Int))))/\decide (mR (zv false [x]) (zv (decide ((9223372036854775807:Int)<0)) (aa (Int.natAbs (9223372036854775807:Int))))>0)=false))/\(decide (IntKind.i64.wrap ((↑(1:Nat):Int) - (1:Int))>=0)=true/\false=false/\((0:Int)<=IntKind.i64.wrap ((↑(1:Nat):Int) - (1:Int))/\IntKind.i64.wrap ((↑(1:Nat):Int) - (1:Int))<(↑(1:Nat):Int))/\(IntKind.i64.wrap ((↑(1:Nat):Int) - (1:Int))).toNat < [x].length)/\decide (IntKind.i64.wrap (IntKind.i64.wrap ((↑(1:Nat):Int) - (1:Int)) - (1:Int))>=0)=false)
def Xw (x:Int):AV:=(AV.tuple [AV.int true IntKind.i64 (IntKind.i64.wrap (Int.ofNat (0:Nat) + [x].getD (IntKind.i64.wrap ((↑(1:Nat):Int) - (1:Int))).toNat (0:Int))),AV.int false IntKind.i64 (Int.ofNat (0:Nat))])
def Xx (x:Int):Hp:=⟨[{ wr:=(0:Nat),body:=ABody.rows IntKind.i64 [x] }],1,53⟩
theorem acV (x:Int):(run (DL 40) 300).call 60 (qO 1) (inH [x])=some ⟨.p (R9 x),[⟨.tt,Xw x,Xx x⟩]⟩:=by kernel_rfl
def Sa (x y:Int):Prop:=(((↑(2:Nat):Int)=(↑[x,y].length:Int)/\okL false [x,y]/\[x,y].length<=(600:Nat))/\((-9223372036854775808:Int).natAbs<=(9223372036854775808:Nat)/\Int.natAbs (9223372036854775807:Int)<=(9223372036854775808:Nat))/\((((↑(2:Nat):Int)=(↑[x,y].length:Int)/\(↑(aa (-9223372036854775808:Int).natAbs).length:Int)=(↑(aa (-9223372036854775808:Int).natAbs).length:Int))/\okL false [x,y]/\okL (decide ((-9223372036854775808:Int)<0)) (aa (-9223372036854775808:Int).natAbs))/\(decide (mR (zv false [x,y]) (zv (decide ((-9223372036854775808:Int)<0)) (aa (-9223372036854775808:Int).natAbs))<0)=true->true=false)/\(decide (mR (zv false [x,y]) (zv (decide ((-9223372036854775808:Int)<0)) (aa (-9223372036854775808:Int).natAbs))<0)=false->(((↑(2:Nat):Int)=(↑[x,y].length:Int)/\(↑(aa (Int.natAbs (9223372036854775807:Int))).length:Int)=(↑(aa (Int.natAbs (9223372036854775807:Int))).length:Int))/\okL false [x,y]/\okL (decide ((9223372036854775807:Int)<0)) (aa (Int.natAbs (9223372036854775807:Int))))/\decide (mR (zv false [x,y]) (zv (decide ((9223372036854775807:Int)<0)) (aa (Int.natAbs (9223372036854775807:Int))))>0)=false))/\(decide (IntKind.i64.wrap ((↑(2:Nat):Int) - (1:Int))>=0)=true/\false=false/\((0:Int)<=IntKind.i64.wrap ((↑(2:Nat):Int) - (1:Int))/\IntKind.i64.wrap ((↑(2:Nat):Int) - (1:Int))<(↑(2:Nat):Int))/\(IntKind.i64.wrap ((↑(2:Nat):Int) - (1:Int))).toNat < [x,y].length)/\(decide (IntKind.i64.wrap (IntKind.i64.wrap ((↑(2:Nat):Int) - (1:Int)) - (1:Int))>=0)=true/\false=false/\((0:Int)<=IntKind.i64.wrap (IntKind.i64.wrap ((↑(2:Nat):Int) - (1:Int)) - (1:Int))/\IntKind.i64.wrap (IntKind.i64.wrap ((↑(2:Nat):Int) - (1:Int)) - (1:Int))<(↑(2:Nat):Int))/\(IntKind.i64.wrap (IntKind.i64.wrap ((↑(2:Nat):Int) - (1:Int)) - (1:Int))).toNat < [x,y].length)/\decide (IntKind.i64.wrap (IntKind.i64.wrap (IntKind.i64.wrap ((↑(2:Nat):Int) - (1:Int)) - (1:Int)) - (1:Int))>=0)=false)
def Xy (x y:Int):AV:=(AV.tuple [AV.int true IntKind.i64 (IntKind.i64.wrap (IntKind.i64.wrap (IntKind.i64.wrap (Int.ofNat (0:Nat) + [x,y].getD (IntKind.i64.wrap ((↑(2:Nat):Int) - (1:Int))).toNat (0:Int))*1000000000) + [x,y].getD (IntKind.i64.wrap (IntKind.i64.wrap ((↑(2:Nat):Int) - (1:Int)) - (1:Int))).toNat (0:Int))),AV.int false IntKind.i64 (Int.ofNat (0:Nat))])
def Xz (x y:Int):Hp:=⟨[{ wr:=(0:Nat),body:=ABody.rows IntKind.i64 [x,y] }],1,70⟩
theorem acW (x y:Int):(run (DL 60) 300).call 60 (qO 2) (inH [x,y])=some ⟨.p (Sa x y),[⟨.tt,Xy x y,Xz x y⟩]⟩:=by kernel_rfl
end
end Go.Proofs.YtmnhhlnbfkfkaaaGreat.K
namespace Go.Proofs.YtmnhhlnbfkfkaaaGreat.K
open Go Go.Eng Go.Dg Go.Ar Go.Vc
noncomputable section
def inV:List Nu->List (List Int)->Option (Prop×To)
 | [.t p],[a]=>some (p=false/\okL false a/\a.length<=2,.tu [.nu .i64 (val a),.nu .i64 0])
 | _,_=>none
theorem XA {a:List Int} (h:okL false a) (hl:a.length<=2):okL (decide ((-9223372036854775808:Int)<0)) (aa (-9223372036854775808:Int).natAbs)/\okL (decide ((9223372036854775807:Int)<0)) (aa (Int.natAbs 9223372036854775807)) /\
  decide (mR (zv false a) (zv (decide ((-9223372036854775808:Int)<0)) (aa (-9223372036854775808:Int).natAbs))<0)=false/\decide (mR (zv false a) (zv (decide ((9223372036854775807:Int)<0)) (aa (Int.natAbs 9223372036854775807)))>0)=false:=by
 have h1:=bc h.1
 have h2:=af h.1
 have h3:=bN hl
 have e:pw 2=1000000000000000000:=by decide
 have t:(9223372036854775808:Int)<=100*ag:=by decide
 refine ⟨(okA (z:=-9223372036854775808) (by decide)).1,(okA (z:=9223372036854775807) (by omega)).1,?_,?_⟩
 .rw [gI,show zv false a=val a from rfl]
  unfold mR
  rw [if_neg (by omega),if_neg (by omega)]; rfl
 .rw [gI,show zv false a=val a from rfl]
  unfold mR
  rw [if_neg (by omega),if_pos (by omega)]; rfl
theorem XB:NOk Tryz.prog (fun _=>none) hG0 60 (au hG0 .i64 [.st [.nu .b,.li]] inV):=by
 refine bg (fun xs ys p t e h=>?_) ⟨_,Tryz.func60,rfl⟩
 unfold inV at e
 split at e
 .rename_i p a
  cases e
  obtain ⟨rfl,ha,hl⟩:=h
  obtain ⟨o1,o2,o3,o4⟩:=XA ha hl
  have b1:(-9223372036854775808:Int).natAbs<=9223372036854775808:=by decide
  have b2:Int.natAbs 9223372036854775807<=9223372036854775808:=by decide
  match a,hl with
  | [],_=>
   refine ⟨DL 0,300,qO 0,_,_,_,_,_,y7 _,rfl,rfl,⟨⟨rfl,rfl,trivial⟩,trivial⟩,acU 0,rfl,?_,rfl,rfl,⟨rfl,rfl⟩⟩
   exact ⟨⟨rfl,ha,by show 0<=600; omega⟩,⟨b1,b2⟩,⟨⟨⟨rfl,rfl⟩,ha,o1⟩,fun h=>(by rw [o3] at h; cases h),fun _=>⟨⟨⟨rfl,rfl⟩,ha,o2⟩,o4⟩⟩,by decide⟩
  | [x],_=>
   have hx:=ha.1 x (by simp)
   refine ⟨DL 40,300,qO 1,_,_,_,_,_,y7 _,rfl,rfl,⟨⟨rfl,rfl,trivial⟩,trivial⟩,acV x,rfl,?_,rfl,rfl,⟨?_,rfl⟩⟩
   .exact ⟨⟨rfl,ha,by show 1<=600; omega⟩,⟨b1,b2⟩,⟨⟨⟨rfl,rfl⟩,ha,o1⟩,fun h=>(by rw [o3] at h; cases h),fun _=>⟨⟨⟨rfl,rfl⟩,ha,o2⟩,o4⟩⟩,⟨by decide,rfl,⟨by decide,by decide⟩,by show 0<1; omega⟩,by decide⟩
   .show IntKind.i64.wrap (0+x)=val [x]
    rw [Int.zero_add,iw (by omega) (by omega)]
    show x=x+1000000000*0
    omega
  | [x,y],_=>
   have hx:=ha.1 x (by simp)
   have hy:=ha.1 y (by simp)
   refine ⟨DL 60,300,qO 2,_,_,_,_,_,y7 _,rfl,rfl,⟨⟨rfl,rfl,trivial⟩,trivial⟩,acW x y,rfl,?_,rfl,rfl,⟨?_,rfl⟩⟩
   .exact ⟨⟨rfl,ha,by show 2<=600; omega⟩,⟨b1,b2⟩,⟨⟨⟨rfl,rfl⟩,ha,o1⟩,fun h=>(by rw [o3] at h; cases h),fun _=>⟨⟨⟨rfl,rfl⟩,ha,o2⟩,o4⟩⟩,⟨by decide,rfl,⟨by decide,by decide⟩,by show 1<2; omega⟩,⟨by decide,rfl,⟨by decide,by decide⟩,by show 0<2; omega⟩,by decide⟩
   .show IntKind.i64.wrap (IntKind.i64.wrap (IntKind.i64.wrap (0+y)*1000000000)+x)=val [x,y]
    rw [Int.zero_add,iw (n:=y) (by omega) (by omega),iw (n:=y*1000000000) (by omega) (by omega),iw (by omega) (by omega)]
    show y*1000000000+x=x+1000000000*(y+1000000000*0)
    omega
 .cases e
def tRz:List (FuncId×eF):=
 (50,au hG0 .i64 [.nu (.i .i64)] Xi) ::
 (53,au hG0 .i64 [.nu (.i .i64),.nu (.i .i64),.st [.nu .b,.li]] ME) ::
 (55,au hG0 .i64 psA rnV) ::
 (59,au hG0 .i64 psA saV) ::
 (60,au hG0 .i64 [.st [.nu .b,.li]] inV) :: tRq
theorem XC:∀ x∈tRz,NOk Tryz.prog (fun _=>none) hG0 x.1 x.2:=by
 intro x hx
 rcases List.mem_cons.1 hx with rfl|hx
 .exact MG
 rcases List.mem_cons.1 hx with rfl|hx
 .exact RX
 rcases List.mem_cons.1 hx with rfl|hx
 .exact Xr
 rcases List.mem_cons.1 hx with rfl|hx
 .exact Ft
 rcases List.mem_cons.1 hx with rfl|hx
 .exact XB
 exact ML x hx
def cRz (l:List (Nat×Bool)):Ctx:=aP (mkN Tryz.prog (fun _=>none) hG0 tRz [] dK) (hZ (l.map fun x=>(x.1,match x.2 with|true=>.bool false true|false=>.bool false false)))
theorem y8 (l:List (Nat×Bool)):CtxOk (cRz l):=aj (fP aM (cw _) XC (fun x h=>by cases h)) _
def qzA:Int:=Zv (bif (1:Int)==1 then iW else iX)*Zv 10
def qzB:Int:=Zv (bif (3:Int)==1 then iW else iX)*Zv 4
def qzR:Int:=Zv qzA+Zv qzB
def qzY (m d:Int):Int:=(Zv qzR*Zv m).tdiv (Zv d)
def qzS (m d:Int):Int:=rnR (aa (qzY m d).natAbs) (aa ag.natAbs) .a0
def qzL (m d:Int):Int:=Zv (qzS m d) - Zv 100000000
def qzH (m d:Int):Int:=Zv (qzS m d)+Zv 100000000
def u4 (m d:Int):Int:=Zv (qzL m d)*Zv 4294967296
def u5 (m d:Int):Int:=Zv (qzH m d)*Zv 4294967296
def qzD (m d:Int):Int:=(Zv (u4 m d)).tdiv (Zv ag)
def qzU (m d:Int):Int:=(Zv (u5 m d)).tdiv (Zv ag)
end
end Go.Proofs.YtmnhhlnbfkfkaaaGreat.K
namespace Go.Proofs.YtmnhhlnbfkfkaaaGreat.K
open Go Go.Eng Go.Dg
noncomputable section
def za (m d:Int):Int:=Zv (u4 m d)
def zb (m d:Int):Int:=Zv (u5 m d)
def DM (m d:Int):Prop:=((m==0)=false/\(m==d)=false/\(IntKind.i64.wrap ((3:Int)*m)==d)=false/\(40:Int)=40/\(((↑(aa ag.natAbs).length:Int)=(↑(aa ag.natAbs).length:Int)/\((1:Int)=1/\(7:Int)=7\/(1:Int)=3/\(7:Int)=79)/\decide (ag<0)=false/\aa ag.natAbs=[(0:Int),(0:Int),(0:Int),(0:Int),(10000:Int)])/\(decide (ag<0)=decide (ag<0)/\(↑(aa ag.natAbs).length:Int)=(↑(aa ag.natAbs).length:Int))/\Int.natAbs (10:Int)<=(9223372036854775808:Nat)/\(decide (ag<0)=decide (ag<0)/\(↑(aa ag.natAbs).length:Int)=(↑(aa ag.natAbs).length:Int))/\(((↑(aa (bif (1:Int)==1 then iW else iX).natAbs).length:Int)=(↑(aa (bif (1:Int)==1 then iW else iX).natAbs).length:Int)/\(↑(aa (Int.natAbs (10:Int))).length:Int)=(↑(aa (Int.natAbs (10:Int))).length:Int))/\okL (decide ((bif (1:Int)==1 then iW else iX)<0)) (aa (bif (1:Int)==1 then iW else iX).natAbs)/\okL (decide ((10:Int)<0)) (aa (Int.natAbs (10:Int)))/\(aa (bif (1:Int)==1 then iW else iX).natAbs).length+(aa (Int.natAbs (10:Int))).length<=(500000:Nat))/\(decide (ag<0)=decide (ag<0)/\(↑(aa ag.natAbs).length:Int)=(↑(aa ag.natAbs).length:Int))/\((↑(aa ag.natAbs).length:Int)=(↑(aa ag.natAbs).length:Int)/\((3:Int)=1/\(79:Int)=7\/(3:Int)=3/\(79:Int)=79)/\decide (ag<0)=false/\aa ag.natAbs=[(0:Int),(0:Int),(0:Int),(0:Int),(10000:Int)])/\Int.natAbs (4:Int)<=(9223372036854775808:Nat)/\(((↑(aa (bif (3:Int)==1 then iW else iX).natAbs).length:Int)=(↑(aa (bif (3:Int)==1 then iW else iX).natAbs).length:Int)/\(↑(aa (Int.natAbs (4:Int))).length:Int)=(↑(aa (Int.natAbs (4:Int))).length:Int))/\okL (decide ((bif (3:Int)==1 then iW else iX)<0)) (aa (bif (3:Int)==1 then iW else iX).natAbs)/\okL (decide ((4:Int)<0)) (aa (Int.natAbs (4:Int)))/\(aa (bif (3:Int)==1 then iW else iX).natAbs).length+(aa (Int.natAbs (4:Int))).length<=(500000:Nat))/\((↑(aa (qzA).natAbs).length:Int)=(↑(aa (qzA).natAbs).length:Int)/\(↑(aa (qzB).natAbs).length:Int)=(↑(aa (qzB).natAbs).length:Int))/\okL (decide (qzA<0)) (aa (qzA).natAbs)/\okL (decide (qzB<0)) (aa (qzB).natAbs)/\aa (qzA).natAbs≠[]/\aa (qzB).natAbs≠[]/\val (aa (qzA).natAbs)+val (aa (qzB).natAbs)<pw (400000:Nat))/\(m.natAbs<=(9223372036854775808:Nat)/\((decide (ag<0)=decide (ag<0)/\(↑(aa ag.natAbs).length:Int)=(↑(aa ag.natAbs).length:Int))/\decide (qzR<0)=decide (qzR<0)/\(↑(aa (qzR).natAbs).length:Int)=(↑(aa (qzR).natAbs).length:Int))/\d.natAbs<=(9223372036854775808:Nat)/\((decide (ag<0)=decide (ag<0)/\(↑(aa ag.natAbs).length:Int)=(↑(aa ag.natAbs).length:Int))/\decide (qzR<0)=decide (qzR<0)/\(↑(aa (qzR).natAbs).length:Int)=(↑(aa (qzR).natAbs).length:Int))/\(((↑(aa (qzR).natAbs).length:Int)=(↑(aa (qzR).natAbs).length:Int)/\(↑(aa m.natAbs).length:Int)=(↑(aa m.natAbs).length:Int)/\(↑(aa d.natAbs).length:Int)=(↑(aa d.natAbs).length:Int))/\paC (decide (qzR<0)) (decide (m<0)) (decide (d<0)) (aa (qzR).natAbs) (aa m.natAbs) (aa d.natAbs))/\(decide (ag<0)=decide (ag<0)/\(↑(aa ag.natAbs).length:Int)=(↑(aa ag.natAbs).length:Int))/\((↑(aa (qzY m d).natAbs).length:Int)=(↑(aa (qzY m d).natAbs).length:Int)/\(↑(aa ag.natAbs).length:Int)=(↑(aa ag.natAbs).length:Int))/\decide (qzY m d<0)=false/\decide (ag<0)=false/\RnD (aa (qzY m d).natAbs) (aa ag.natAbs))/\Int.natAbs (100000000:Int)<=(9223372036854775808:Nat)/\((((↑(aa (qzS m d).natAbs).length:Int)=(↑(aa (qzS m d).natAbs).length:Int)/\(↑(aa (Int.natAbs (100000000:Int))).length:Int)=(↑(aa (Int.natAbs (100000000:Int))).length:Int))/\okL (decide (qzS m d<0)) (aa (qzS m d).natAbs)/\okL (decide ((100000000:Int)<0)) (aa (Int.natAbs (100000000:Int)))/\decide (qzS m d<0)=decide ((100000000:Int)<0)/\aa (qzS m d).natAbs≠[]/\aa (Int.natAbs (100000000:Int))≠[])/\(decide (ag<0)=decide (ag<0)/\(↑(aa ag.natAbs).length:Int)=(↑(aa ag.natAbs).length:Int))/\Int.natAbs (4294967296:Int)<=(9223372036854775808:Nat)/\(decide (ag<0)=decide (ag<0)/\(↑(aa ag.natAbs).length:Int)=(↑(aa ag.natAbs).length:Int))/\(((↑(aa (qzL m d).natAbs).length:Int)=(↑(aa (qzL m d).natAbs).length:Int)/\(↑(aa (Int.natAbs (4294967296:Int))).length:Int)=(↑(aa (Int.natAbs (4294967296:Int))).length:Int))/\okL (decide (qzL m d<0)) (aa (qzL m d).natAbs)/\okL (decide ((4294967296:Int)<0)) (aa (Int.natAbs (4294967296:Int)))/\(aa (qzL m d).natAbs).length+(aa (Int.natAbs (4294967296:Int))).length<=(500000:Nat))/\(decide (ag<0)=decide (ag<0)/\(↑(aa ag.natAbs).length:Int)=(↑(aa ag.natAbs).length:Int))/\(((↑(aa (u4 m d).natAbs).length:Int)=(↑(aa (u4 m d).natAbs).length:Int)/\(↑(aa ag.natAbs).length:Int)=(↑(aa ag.natAbs).length:Int))/\okL (decide (u4 m d<0)) (aa (u4 m d).natAbs)/\okL (decide (ag<0)) (aa ag.natAbs)/\aa ag.natAbs≠[]/\(aa (u4 m d).natAbs).length+(aa ag.natAbs).length<=(400000:Nat))/\decide ((za m d).tmod (Zv (ag))<0)=false)/\((((↑(aa (qzS m d).natAbs).length:Int)=(↑(aa (qzS m d).natAbs).length:Int)/\(↑(aa (Int.natAbs (100000000:Int))).length:Int)=(↑(aa (Int.natAbs (100000000:Int))).length:Int))/\okL (decide (qzS m d<0)) (aa (qzS m d).natAbs)/\okL (decide ((100000000:Int)<0)) (aa (Int.natAbs (100000000:Int)))/\aa (qzS m d).natAbs≠[]/\aa (Int.natAbs (100000000:Int))≠[]/\val (aa (qzS m d).natAbs)+val (aa (Int.natAbs (100000000:Int)))<pw (400000:Nat))/\(decide (ag<0)=decide (ag<0)/\(↑(aa ag.natAbs).length:Int)=(↑(aa ag.natAbs).length:Int))/\Int.natAbs (4294967296:Int)<=(9223372036854775808:Nat)/\(decide (ag<0)=decide (ag<0)/\(↑(aa ag.natAbs).length:Int)=(↑(aa ag.natAbs).length:Int))/\(((↑(aa (qzH m d).natAbs).length:Int)=(↑(aa (qzH m d).natAbs).length:Int)/\(↑(aa (Int.natAbs (4294967296:Int))).length:Int)=(↑(aa (Int.natAbs (4294967296:Int))).length:Int))/\okL (decide (qzH m d<0)) (aa (qzH m d).natAbs)/\okL (decide ((4294967296:Int)<0)) (aa (Int.natAbs (4294967296:Int)))/\(aa (qzH m d).natAbs).length+(aa (Int.natAbs (4294967296:Int))).length<=(500000:Nat))/\(decide (ag<0)=decide (ag<0)/\(↑(aa ag.natAbs).length:Int)=(↑(aa ag.natAbs).length:Int))/\(((↑(aa (u5 m d).natAbs).length:Int)=(↑(aa (u5 m d).natAbs).length:Int)/\(↑(aa ag.natAbs).length:Int)=(↑(aa ag.natAbs).length:Int))/\okL (decide (u5 m d<0)) (aa (u5 m d).natAbs)/\okL (decide (ag<0)) (aa ag.natAbs)/\aa ag.natAbs≠[]/\(aa (u5 m d).natAbs).length+(aa ag.natAbs).length<=(400000:Nat))/\decide ((zb m d).tmod (Zv (ag))<0)=false)/\((((↑(aa (qzD m d).natAbs).length:Int)=(↑(aa (qzD m d).natAbs).length:Int)/\(↑(aa (qzU m d).natAbs).length:Int)=(↑(aa (qzU m d).natAbs).length:Int))/\Sm (aa (qzD m d).natAbs)/\Sm (aa (qzU m d).natAbs))/\decide (decide (qzD m d<0)=decide (qzU m d<0)/\aa (qzD m d).natAbs=aa (qzU m d).natAbs)=true)/\(↑(aa (qzD m d).natAbs).length:Int)=(↑(aa (qzD m d).natAbs).length:Int)/\decide (qzD m d<0)=false/\okL false (aa (qzD m d).natAbs)/\(aa (qzD m d).natAbs).length<=(2:Nat))
def MY (m d:Int):AV:=(AV.agg [AV.int true IntKind.i64 (val (aa (qzD m d).natAbs)),AV.int true IntKind.i64 (IntKind.i64.wrap (val (aa (qzD m d).natAbs)+1))])
def abe (m d:Int):Hp:=⟨[],(0:Nat),112⟩
theorem rqt (m d:Int):(run (cRz [(15,false),(19,false),(24,false),(14,false),(64,true)]) 300).call 30 (lT m d) hG0=some ⟨.p (DM m d),[⟨.tt,MY m d,abe m d⟩]⟩:=by kernel_rfl
def XD (m d:Int):Prop:=((m==0)=true)
def abf (m d:Int):AV:=(AV.agg [AV.int false IntKind.i64 (Int.ofNat (0:Nat)),AV.int false IntKind.i64 (Int.ofNat (0:Nat))])
def abg (m d:Int):Hp:=⟨[],(0:Nat),7⟩
theorem rq0 (m d:Int):(run (cRz [(15,true)]) 300).call 30 (lT m d) hG0=some ⟨.p (XD m d),[⟨.tt,abf m d,abg m d⟩]⟩:=by kernel_rfl
def XE (m d:Int):Prop:=((m==0)=false/\(m==d)=true)
def abh (m d:Int):AV:=(AV.agg [AV.int false IntKind.i64 (Int.ofNat 4294967296),AV.int false IntKind.i64 (Int.ofNat 4294967296)])
def abi (m d:Int):Hp:=⟨[],(0:Nat),10⟩
theorem rqo (m d:Int):(run (cRz [(15,false),(19,true)]) 300).call 30 (lT m d) hG0=some ⟨.p (XE m d),[⟨.tt,abh m d,abi m d⟩]⟩:=by kernel_rfl
def XF (m d:Int):Prop:=((m==0)=false/\(m==d)=false/\(IntKind.i64.wrap ((3:Int)*m)==d)=true)
def abj (m d:Int):AV:=(AV.agg [AV.int false IntKind.i64 (Int.ofNat 2147483648),AV.int false IntKind.i64 (Int.ofNat 2147483648)])
def abk (m d:Int):Hp:=⟨[],(0:Nat),14⟩
theorem rqh (m d:Int):(run (cRz [(15,false),(19,false),(24,true)]) 300).call 30 (lT m d) hG0=some ⟨.p (XF m d),[⟨.tt,abj m d,abk m d⟩]⟩:=by kernel_rfl
end
end Go.Proofs.YtmnhhlnbfkfkaaaGreat.K
namespace Go.Sn
open Go.Dg
def WW:Int:=10000000000000000000000000000000000000000
def V:Rat:=10000000000000000000000000000000000000000
theorem Sb:((WW:Int):Rat)=V:=by decide
theorem u6:0<WW:=by decide
def rP (y:Int):Nat->Int
 | 0=>y
 | j+1=>rP y j*y / WW*y / WW / ((2*(j:Int)+2)*(2*(j:Int)+2+1))
def rSm (y:Int):Nat->Int
 | 0=>0
 | j+1=>match decide (j % 2=0) with|true=>rSm y j+rP y j|false=>rSm y j - rP y j
def sgn (j:Nat) (x:Int):Int:=match decide (j % 2=0) with|true=>x|false=>-x
theorem FE {y:Int} (h0:0<=y):∀ j,0<=rP y j
 | 0=>h0
 | j+1=>by
  have p:=u6
  have ih:=FE h0 j
  have hk:6<=(2*(j:Int)+2)*(2*(j:Int)+2+1):=Int.mul_le_mul (a:=2) (b:=3) (by omega) (by omega) (by decide) (by omega)
  exact Int.ediv_nonneg (Int.ediv_nonneg (Int.mul_nonneg (Int.ediv_nonneg (Int.mul_nonneg ih h0) (by omega)) h0) (by omega)) (by omega)
theorem Sc {y:Int} {j:Nat} (h:rP y j=0):∀ n,j<=n->rP y n=0:=by
 intro n hn
 induction n with
 | zero=>
  have:j=0:=by omega
  subst this; exact h
 | succ n ih=>
  rcases Nat.lt_or_ge n j with h1|h1
  .have:j=n+1:=by omega
   subst this; exact h
  .rw [rP,ih h1]; simp
theorem BV {y:Int} {j:Nat} (h:rP y j=0):∀ n,j<=n->rSm y n=rSm y j:=by
 intro n hn
 induction n with
 | zero=>
  have:j=0:=by omega
  subst this; rfl
 | succ n ih=>
  rcases Nat.lt_or_ge n j with h1|h1
  .have:j=n+1:=by omega
   subst this; rfl
  .rw [rSm,Sc h n h1,ih h1]
   split <;> omega
theorem FF {y i t:Int} (h0:0<=y) (ht:0<=t) (hi:2<=i):rnT y WW i t=-(t*y / WW*y / WW / (i*(i+1)))/\rnT y WW i (-t)=t*y / WW*y / WW / (i*(i+1)):=by
 have p:=u6
 have a0:0<=t*y:=Int.mul_nonneg ht h0
 have a1:0<=t*y / WW:=Int.ediv_nonneg a0 (by omega)
 have a2:0<=t*y / WW*y:=Int.mul_nonneg a1 h0
 have a3:0<=t*y / WW*y / WW:=Int.ediv_nonneg a2 (by omega)
 have e1:(t*y).tdiv WW=t*y / WW:=Int.tdiv_eq_ediv_of_nonneg a0
 have e2:(t*y / WW*y).tdiv WW=t*y / WW*y / WW:=Int.tdiv_eq_ediv_of_nonneg a2
 have e3:(t*y / WW*y / WW).tdiv (i*(i+1))=t*y / WW*y / WW / (i*(i+1)):=Int.tdiv_eq_ediv_of_nonneg a3
 unfold rnT
 constructor
 .rw [e1,e2,Int.neg_tdiv,e3]
 .have f1:(-t*y).tdiv WW=-(t*y / WW):=by rw [Int.neg_mul,Int.neg_tdiv,e1]
  have f2:(-(t*y / WW)*y).tdiv WW=-(t*y / WW*y / WW):=by rw [Int.neg_mul,Int.neg_tdiv,e2]
  rw [f1,f2,Int.neg_neg,e3]
theorem MZ {y:Int} (h0:0<=y):∀ (n j:Nat),rnN y WW n (2*(j:Int)+2) (sgn j (rP y j)) (rSm y (j+1))=rSm y (j+1+n)
 | 0,_=>rfl
 | n+1,j=>by
  have nn:=FE h0 j
  obtain ⟨t1,t2⟩:=FF (i:=2*(j:Int)+2) h0 nn (by omega)
  have et:rnT y WW (2*(j:Int)+2) (sgn j (rP y j))=sgn (j+1) (rP y (j+1)):=by
   unfold sgn
   by_cases hj:j % 2=0
   .rw [decide_eq_true hj,decide_eq_false (show ¬(j+1) % 2=0 by omega)]; exact t1
   .rw [decide_eq_false hj,decide_eq_true (show (j+1) % 2=0 by omega)]; exact t2
  have es:rSm y (j+1)+sgn (j+1) (rP y (j+1))=rSm y (j+1+1):=by
   show _=(match decide ((j+1) % 2=0) with|true=>rSm y (j+1)+rP y (j+1)|false=>rSm y (j+1) - rP y (j+1))
   unfold sgn
   by_cases hj:(j+1) % 2=0
   .rw [decide_eq_true hj]
   .rw [decide_eq_false hj]
    show rSm y (j+1) + -rP y (j+1)=rSm y (j+1) - rP y (j+1)
    omega
  by_cases h:rP y (j+1)=0
  .have hz:rnT y WW (2*(j:Int)+2) (sgn j (rP y j))=0:=by rw [et,h]; unfold sgn; split <;> rfl
   rw [Fz hz,BV h (j+1+(n+1)) (by omega)]
  .have hz:rnT y WW (2*(j:Int)+2) (sgn j (rP y j))≠0:=by rw [et]; unfold sgn; split <;> omega
   rw [u0 hz,et,es]
   have ih:=MZ h0 n (j+1)
   rw [show j+1+(n+1)=j+1+1+n by omega,<- ih]
   have e1:2*(j:Int)+2+2=2*((j+1:Nat):Int)+2:=by push_cast; omega
   rw [e1]
theorem abl {U x p y a1 a2 t t' k r:Rat} (hU:0<U) (x0:0<=x) (x1:x<=8 / 5) (hy:y=x*U) (nj:0<=p) (i1:p<=U*t) (i2:U*t<=p+5)
  (ta:a1*U<=p*y) (tb:p*y<(a1+1)*U) (sa:a2*U<=a1*y) (sb:a1*y<(a2+1)*U) (ua:r*k<=a2) (ub:a2<(r+1)*k) (hk:6<=k) (e3:k*t'=x*x*t):r<=U*t'/\U*t'<=r+5:=by
 subst hy
 have x2:x*x<=64 / 25:=by
  have a:=Rat.mul_le_mul_of_nonneg_left x1 x0
  grind
 have xx0:0<=x*x:=Rat.mul_nonneg x0 x0
 have c1:a1<=p*x:=Rat.le_of_mul_le_mul_right (c:=U) (by grind) hU
 have c2:p*x<a1+1:=by
  apply Rat.not_le.1
  intro h
  have:=Rat.mul_le_mul_of_nonneg_right h (show 0<=U by grind)
  grind
 have c3:a2<=a1*x:=Rat.le_of_mul_le_mul_right (c:=U) (by grind) hU
 have c4:a1*x<a2+1:=by
  apply Rat.not_le.1
  intro h
  have:=Rat.mul_le_mul_of_nonneg_right h (show 0<=U by grind)
  grind
 have d1:a2<=x*x*(U*t):=by
  have h1:=Rat.mul_le_mul_of_nonneg_right c1 x0
  have h2:=Rat.mul_le_mul_of_nonneg_left i1 xx0
  grind
 have d2:x*x*(U*t)<a2+1+8 / 5+64 / 5:=by
  have h1:=Rat.mul_le_mul_of_nonneg_left i2 xx0
  have h2:=Rat.mul_le_mul_of_nonneg_right (show p*x<=a1+1 by grind) x0
  grind
 have hk0:0<k:=by grind
 constructor
 .refine Rat.le_of_mul_le_mul_right (c:=k) ?_ hk0
  have:U*t'*k=x*x*(U*t):=by grind
  grind
 .refine Rat.le_of_mul_le_mul_right (c:=k) ?_ hk0
  have:U*t'*k=x*x*(U*t):=by grind
  grind
theorem M3 {y:Int} (h0:0<=y) (h1:y*10<=16*WW):0<=(y:Rat) / V/\(y:Rat) / V<=8 / 5/\(y:Rat)=(y:Rat) / V*V:=by
 have hU:(0:Rat)<V:=by decide
 have y0:(0:Rat)<=(y:Rat):=by exact_mod_cast h0
 have y1:(y:Rat)*10<=16*V:=by rw [<- Sb]; exact_mod_cast h1
 have hx:(y:Rat) / V*V=(y:Rat):=by grind
 refine ⟨?_,?_,hx.symm⟩
 .refine Rat.le_of_mul_le_mul_right (c:=V) ?_ hU
  rw [hx]; grind
 .refine Rat.le_of_mul_le_mul_right (c:=V) ?_ hU
  rw [hx]; grind
theorem FG {y:Int} (h0:0<=y) (h1:y*10<=16*WW):∀ j:Nat,(rP y j:Rat)<=V*e ((y:Rat) / V) (2*j+1)/\V*e ((y:Rat) / V) (2*j+1)<=(rP y j:Rat)+5:=by
 have hU:(0:Rat)<V:=by decide
 have hP:0<WW:=u6
 obtain ⟨x0,x1,hx⟩:=M3 h0 h1
 intro j
 induction j with
 | zero=>
  have e1:e ((y:Rat) / V) (2*0+1)=(y:Rat) / V:=by simp only [e]; grind
  rw [e1]
  show (y:Rat)<=V*((y:Rat) / V)/\V*((y:Rat) / V)<=(y:Rat)+5
  grind
 | succ j ih=>
  obtain ⟨i1,i2⟩:=ih
  have nj:(0:Rat)<=(rP y j:Rat):=by exact_mod_cast FE h0 j
  have hk:6<=(2*(j:Int)+2)*(2*(j:Int)+2+1):=Int.mul_le_mul (a:=2) (b:=3) (by omega) (by omega) (by decide) (by omega)
  have hkr:(6:Rat)<=(((2*(j:Int)+2)*(2*(j:Int)+2+1):Int):Rat):=by exact_mod_cast hk
  have ta:=lY (rP y j*y) WW hP
  have tb:=lZ (rP y j*y) WW hP
  have sa:=lY (rP y j*y / WW*y) WW hP
  have sb:=lZ (rP y j*y / WW*y) WW hP
  have ua:=lY (rP y j*y / WW*y / WW) ((2*(j:Int)+2)*(2*(j:Int)+2+1)) (by omega)
  have ub:=lZ (rP y j*y / WW*y / WW) ((2*(j:Int)+2)*(2*(j:Int)+2+1)) (by omega)
  have e3:∀ x:Rat,(((2*(j:Int)+2)*(2*(j:Int)+2+1):Int):Rat)*e x (2*j+3)=x*x*e x (2*j+1):=by
   intro x
   have a:=fl x (2*j+1)
   have b:=fl x (2*j+2)
   have c:(((2*(j:Int)+2)*(2*(j:Int)+2+1):Int):Rat)=((2*j+1+1:Nat):Rat)*((2*j+2+1:Nat):Rat):=by push_cast; grind
   rw [c,Rat.mul_assoc,show 2*j+3=2*j+2+1 by omega,b]
   have:((2*j+1+1:Nat):Rat)*(x*e x (2*j+2))=x*(((2*j+1+1:Nat):Rat)*e x (2*j+1+1)):=by grind
   rw [this,a]; grind
  rw [Sb,Rat.intCast_mul] at ta tb sa sb
  exact abl hU x0 x1 hx nj i1 i2 ta tb sa sb ua ub hkr (e3 _)
theorem Sd {y:Int} (h0:0<=y) (h1:y*10<=16*WW):∀ j:Nat,(rSm y j:Rat)<=V*qS ((y:Rat) / V) j+5*j/\V*qS ((y:Rat) / V) j<=(rSm y j:Rat)+5*j:=by
 intro j
 induction j with
 | zero=>
  have z:qS ((y:Rat) / V) 0=0:=rfl
  have z2:rSm y 0=0:=rfl
  rw [z,z2]; simp; decide +kernel
 | succ j ih=>
  obtain ⟨i1,i2⟩:=ih
  obtain ⟨t1,t2⟩:=FG h0 h1 j
  rw [rSm,qS]
  have c:((j+1:Nat):Rat)=(j:Rat)+1:=by push_cast; rfl
  rw [c]
  by_cases h:j % 2=0
  .rw [decide_eq_true h]; dsimp only; push_cast; grind
  .rw [decide_eq_false h]; dsimp only; push_cast; grind
theorem acX:V*e (8 / 5) 65<1:=by decide +kernel
theorem M4 {y:Int} (h0:0<=y) (h1:y*10<=16*WW):(rnN y WW 200 2 y y:Rat)<=V*S 64 ((y:Rat) / V)+160/\V*S 64 ((y:Rat) / V)<=(rnN y WW 200 2 y y:Rat)+160:=by
 obtain ⟨x0,x1,hx⟩:=M3 h0 h1
 have z:rP y 32=0:=by
  have a:=(FG h0 h1 32).1
  have b:=Lo x0 x1 65
  have c:=acX
  have d:V*e ((y:Rat) / V) 65<=V*e (8 / 5) 65:=Rat.mul_le_mul_of_nonneg_left b (by decide)
  have f:(rP y 32:Rat)<1:=by
   have:V*e ((y:Rat) / V) (2*32+1)=V*e ((y:Rat) / V) 65:=rfl
   grind
  have g:rP y 32<1:=by exact_mod_cast f
  have:=FE h0 32
  omega
 have es:rnN y WW 200 2 y y=rSm y 32:=by
  have a:=MZ h0 200 0
  have b:rSm y (0+1)=y:=by show 0+y=y; omega
  rw [b] at a
  rw [show (2:Int)=2*((0:Nat):Int)+2 by decide]
  exact Eq.trans a (BV z _ (by omega))
 have n:=Sd h0 h1 32
 rw [es]
 have e2:S 64 ((y:Rat) / V)=qS ((y:Rat) / V) 32:=YQ _ 32
 rw [e2]
 have:(5:Rat)*((32:Nat):Rat)=160:=by decide +kernel
 rw [this] at n
 exact n
def RR:Int:=15707963267948966192313216916397514420992
def dM (m d:Int):Int:=RR*m / d
def qP (m d:Int):Int:=rnN (dM m d) WW 200 2 (dM m d) (dM m d)
theorem XG:hp*V<=((RR:Int):Rat)/\((RR:Int):Rat)<=hp*V+17:=by
 refine ⟨?_,?_⟩ <;> decide +kernel
theorem sK {m d:Int} (hm:0<=m) (hd:m<=d) (h0:0<d):0<=dM m d/\dM m d<=RR/\dM m d*10<=16*WW:=by
 have y1:dM m d<=RR:=Int.ediv_le_of_le_mul h0 (Int.mul_le_mul_of_nonneg_left hd (by decide))
 have:RR*10<=16*WW:=by decide
 exact ⟨Int.ediv_nonneg (Int.mul_nonneg (by decide) hm) (by omega),y1,by omega⟩
theorem wD {m d:Int} (hm:0<=m) (hd:m<=d) (h0:0<d):(qP m d:Rat)<=V*tru ((m:Rat) / (d:Rat))+245/\V*tru ((m:Rat) / (d:Rat))<=(qP m d:Rat)+245:=by
 obtain ⟨q0,q1,qd⟩:=YS hm hd h0
 obtain ⟨p0,p1⟩:=Lr q0 q1
 obtain ⟨r0,r1⟩:=XG
 have hU:(0:Rat)<V:=by decide
 have d0:(0:Rat)<(d:Rat):=by exact_mod_cast h0
 obtain ⟨y0,_,y2⟩:=sK hm hd h0
 obtain ⟨x0,x1,hx⟩:=M3 y0 y2
 have n:=M4 y0 y2
 have a:=lY (RR*m) d h0
 have b:=lZ (RR*m) d h0
 have ya:(dM m d:Rat)<=(RR:Rat)*((m:Rat) / (d:Rat)):=by
  refine Rat.le_of_mul_le_mul_right (c:=(d:Rat)) ?_ d0
  rw [Rat.mul_assoc,qd]
  rw [Rat.intCast_mul] at a
  exact a
 have yb:(RR:Rat)*((m:Rat) / (d:Rat))<=(dM m d:Rat)+1:=by
  refine Rat.le_of_mul_le_mul_right (c:=(d:Rat)) ?_ d0
  rw [Rat.mul_assoc,qd]
  rw [Rat.intCast_mul] at b
  unfold dM
  grind
 generalize (m:Rat) / (d:Rat)=q at *
 have c1:=Rat.mul_le_mul_of_nonneg_right r0 q0
 have c2:=Rat.mul_le_mul_of_nonneg_right r1 q0
 have l:=S2 x0 x1 p0 p1 (d:=17 / V)
  (by
   refine Rat.le_of_mul_le_mul_right (c:=V) ?_ hU
   have:(hp*q+17 / V)*V=hp*V*q+17:=by grind
   rw [<- hx,this]; grind)
  (by
   refine Rat.le_of_mul_le_mul_right (c:=V) ?_ hU
   have:((dM m d:Rat) / V+17 / V)*V=(dM m d:Rat) / V*V+17:=by grind
   rw [this,<- hx]; grind)
 have u1:=Rat.mul_le_mul_of_nonneg_left l.1 (show 0<=V by grind)
 have u2:=Rat.mul_le_mul_of_nonneg_left l.2 (show 0<=V by grind)
 have eu:∀ s:Rat,V*(s+5*(17 / V))=V*s+85:=fun s=>by grind
 rw [eu] at u1 u2
 unfold tru qP
 grind
theorem XH {m d k:Int} (hm:0<m) (hd:m<d) (h:Hb ((m:Rat) / (d:Rat)) k):∀ z:Int,-100000000<=z->z<=100000000->(qP m d+z)*4294967296 / WW=k:=by
 have P0:0<WW:=u6
 have near:=wD (m:=m) (d:=d) (by omega) (by omega) (by omega)
 obtain ⟨k1,k2⟩:=h
 generalize hT:tru ((m:Rat) / (d:Rat))=T at *
 have hd1:(100000000+245)*4294967296<V*dl:=by decide +kernel
 have hU:(0:Rat)<V:=by decide
 have m1:=Rat.mul_le_mul_of_nonneg_left k1 (show 0<=V by grind)
 have m2:=Rat.mul_le_mul_of_nonneg_left k2 (show 0<=V by grind)
 intro z z0 z1
 have z0r:((-100000000:Int):Rat)<=(z:Rat):=Rat.intCast_le_intCast.2 z0
 have z1r:(z:Rat)<=((100000000:Int):Rat):=Rat.intCast_le_intCast.2 z1
 have e1:((-100000000:Int):Rat)=-100000000:=by decide +kernel
 have e2:((100000000:Int):Rat)=100000000:=by decide +kernel
 have e3:((4294967296:Int):Rat)=4294967296:=by decide +kernel
 rw [e1] at z0r
 rw [e2] at z1r
 apply Fm P0
 .apply Rat.intCast_le_intCast.1
  rw [Rat.intCast_mul,Rat.intCast_mul,Rat.intCast_add,Sb,e3]
  grind
 .apply Rat.intCast_lt_intCast.1
  rw [Rat.intCast_mul,Rat.intCast_mul,Rat.intCast_add,Rat.intCast_add,Sb,e3,Rat.intCast_one]
  grind
theorem Se {m d:Int} (hm:0<m) (hd:m<=d) (hD:d<=4294967296):100000000000000000000000000000000000<=gD m d/\gD m d<=RG:=by
 have y0:0<=aX m d:=Int.ediv_nonneg (Int.mul_nonneg (by decide) (by omega)) (by omega)
 have y1:aX m d<=RG:=Int.ediv_le_of_le_mul (by omega) (Int.mul_le_mul_of_nonneg_left (by omega) (by decide))
 have rp:RG*10<=16*PP:=by decide
 have y3:365700000000000000000000000000000000<=aX m d:=by
  refine (Int.le_ediv_iff_mul_le (by omega)).2 ?_
  have a:365700000000000000000000000000000000*d<=365700000000000000000000000000000000*4294967296:=Int.mul_le_mul_of_nonneg_left hD (by decide)
  have b:RG*1<=RG*m:=Int.mul_le_mul_of_nonneg_left (by omega) (by decide)
  have c:(365700000000000000000000000000000000:Int)*4294967296<=RG*1:=by decide
  omega
 obtain ⟨s0,s1⟩:=Lq y0 (by omega)
 have es:=(qH y0 (by omega)).1
 have bd:=SZ s0 s1 y0 15
 have t0:=jK s0 s1 y0 0
 have t32:0<=pT (aX m d*aX m d / PP) (aX m d) (2*15+2):=(jK s0 s1 y0 32).1
 have n1:gD m d=pS (aX m d*aX m d / PP) (aX m d) (2*15+2):=es
 have t0':2*pT (aX m d*aX m d / PP) (aX m d) 1<=aX m d:=t0.2
 have lo:aX m d - pT (aX m d*aX m d / PP) (aX m d) 1<=gD m d:=by rw [n1]; exact bd.1
 have hi:gD m d<=aX m d:=by rw [n1]; omega
 omega
theorem Sf {m d:Int} (hm:0<m) (hd:m<=d) (hD:d<=4294967296):1000000000<=qP m d/\qP m d<=2*WW:=by
 obtain ⟨a,b⟩:=Se hm hd hD
 have n1:=wA (m:=m) (d:=d) (by omega) hd (by omega)
 have n2:=wD (m:=m) (d:=d) (by omega) hd (by omega)
 generalize tru ((m:Rat) / (d:Rat))=T at *
 have hU:(0:Rat)<U:=by decide
 have hV:(0:Rat)<V:=by decide
 have uv:U=100000*V:=by decide +kernel
 have ar:((100000000000000000000000000000000000:Int):Rat)<=(gD m d:Rat):=Rat.intCast_le_intCast.2 a
 have br:(gD m d:Rat)<=((RG:Int):Rat):=Rat.intCast_le_intCast.2 b
 have e1:((100000000000000000000000000000000000:Int):Rat)=100000000000000000000000000000000000:=by decide +kernel
 have e2:((RG:Int):Rat)+245+100000*245<=100000*(2*V):=by decide +kernel
 have e3:((1000000000:Int):Rat)=1000000000:=by decide +kernel
 have e4:((2*WW:Int):Rat)=2*V:=by decide +kernel
 rw [e1] at ar
 rw [uv] at n1
 constructor
 .apply Rat.intCast_le_intCast.1
  rw [e3]; grind
 .apply Rat.intCast_le_intCast.1
  rw [e4]; grind
theorem XI {m d:Int} (hm:0<m) (hd:m<=d) (hD:d<=4294967296):0<dM m d/\rnT (dM m d) WW 2 (dM m d)≠0:=by
 obtain ⟨y0,y1,y2⟩:=sK (m:=m) (d:=d) (by omega) hd (by omega)
 have P0:=u6
 have y3:3657000000000000000000000000000<=dM m d:=by
  refine (Int.le_ediv_iff_mul_le (by omega)).2 ?_
  have a:3657000000000000000000000000000*d<=3657000000000000000000000000000*4294967296:=Int.mul_le_mul_of_nonneg_left hD (by decide)
  have b:RR*1<=RR*m:=Int.mul_le_mul_of_nonneg_left (by omega) (by decide)
  have c:(3657000000000000000000000000000:Int)*4294967296<=RR*1:=by decide
  omega
 refine ⟨by omega,?_⟩
 rw [(FF (i:=2) y0 y0 (by decide)).1]
 have q1:3657000000000000000000000000000*3657000000000000000000000000000<=dM m d*dM m d:=Int.mul_le_mul y3 y3 (by decide) y0
 have q2:(1337364900000000000000:Int)<=dM m d*dM m d / WW:=(Int.le_ediv_iff_mul_le P0).2 (Int.le_trans (by decide) q1)
 have q3:1337364900000000000000*3657000000000000000000000000000<=dM m d*dM m d / WW*dM m d:=Int.mul_le_mul q2 y3 (by decide) (Int.ediv_nonneg (Int.mul_nonneg y0 y0) (by omega))
 have q4:(1000:Int)<=dM m d*dM m d / WW*dM m d / WW:=(Int.le_ediv_iff_mul_le P0).2 (Int.le_trans (by decide) q3)
 have q5:(1:Int)<=dM m d*dM m d / WW*dM m d / WW / (2*(2+1)):=(Int.le_ediv_iff_mul_le (by decide)).2 (by omega)
 omega
def quR (m d:Int):Bool:=decide (0<=m)&&(decide (m<=d)&&(decide (d<=4294967296)&&(m==0||(m==d||(3*m==d||(d==360000000&&m.tmod 4==0))))))
theorem M5 {m d:Int} (h:quR m d=true):0<=m/\m<=d/\d<=4294967296/\(m=0\/m=d\/3*m=d\/(0<m/\m<d/\d<=4294967296/\3*m≠d/\∃ k,Hb ((m:Rat) / (d:Rat)) k)):=by
 unfold quR at h
 simp only [Bool.and_eq_true,Bool.or_eq_true,decide_eq_true_eq,beq_iff_eq] at h
 obtain ⟨a,b,c,f⟩:=h
 refine ⟨a,b,c,?_⟩
 rcases f with f|f|f|f
 .exact .inl f
 .exact .inr (.inl f)
 .exact .inr (.inr (.inl f))
 .obtain ⟨rfl,f⟩:=f
  by_cases z:m=0
  .exact .inl z
  by_cases z1:m=360000000
  .exact .inr (.inl z1)
  by_cases z3:3*m=360000000
  .exact .inr (.inr (.inl z3))
  exact .inr (.inr (.inr ⟨by omega,by omega,by decide,z3,Fq (by omega) (by omega) z3 (by rw [Int.tmod_eq_emod_of_nonneg a] at f; exact f)⟩))
end Go.Sn
namespace Go.Proofs.YtmnhhlnbfkfkaaaGreat.K
open Go Go.Eng Go.Dg Go.Ar Go.Vc Go.Sn
noncomputable section
theorem DN:ag=WW:=rfl
theorem M6:qzR=RR:=by
 unfold qzR qzA qzB
 simp only [bW]
 decide
theorem M7 {m d:Int} (hm:0<=m) (hd:0<d):qzY m d=dM m d:=by
 unfold qzY dM
 rw [bW,bW,bW,M6,Int.tdiv_eq_ediv_of_nonneg (Int.mul_nonneg (by decide) hm)]
theorem XJ {m d:Int} (hm:0<=m) (hmd:m<=d) (hd:0<d):qzS m d=qP m d:=by
 have b:=sK hm hmd hd
 unfold qzS qP
 rw [M7 hm hd]
 show rnN (val (aa (dM m d).natAbs)) (val (aa ag.natAbs)) 200 2 (val (aa (dM m d).natAbs)) (val (aa (dM m d).natAbs))=_
 rw [iY,iY,Int.natAbs_of_nonneg b.1,DN,Int.natAbs_of_nonneg (show 0<=WW by decide)]
theorem Si:PureOk Tryz.prog 30 (Qz quR fun m d=>(cP m d,cQ m d)):=by
 refine num_ok' (fun xs hk hN=>?_) ⟨_,Tryz.func30,rfl⟩
 obtain ⟨m,_,rfl,h1⟩:=kn hk; obtain ⟨d,_,rfl,h2⟩:=kn h1; obtain rfl:=k0 h2
 have hN:quR m d=true:=hN
 obtain ⟨m0,m1,dd,hc⟩:=M5 hN
 have goal:∀ τ W v0,v0=AV.agg [.int true .i64 (cP m d),.int true .i64 (cQ m d)]->VRel τ v0 W->VRel τ (AV.agg [.int true .i64 (cP m d),.int true .i64 (cQ m d)]) W:=fun τ W v0 e h=>e ▸ h
 by_cases hz:m=0
 .refine ⟨cRz [(15,true)],300,.p _,_,y8 _,rfl,fun _=>rfl,rfl,jc (rq0 m d),beq_iff_eq.2 hz,fun τ W h=>?_⟩
  show VRel τ (.agg [.int true .i64 (cP m d),.int true .i64 (cQ m d)]) W
  unfold cP cQ
  rw [if_pos hz,if_pos hz]; exact h
 by_cases hd:m=d
 .refine ⟨cRz [(15,false),(19,true)],300,.p _,_,y8 _,rfl,fun _=>rfl,rfl,jc (rqo m d),⟨beq_eq_false_iff_ne.2 hz,beq_iff_eq.2 hd⟩,fun τ W h=>?_⟩
  show VRel τ (.agg [.int true .i64 (cP m d),.int true .i64 (cQ m d)]) W
  unfold cP cQ
  rw [if_neg hz,if_neg hz,if_pos hd,if_pos hd]; exact h
 have w3:IntKind.i64.wrap (3*m)=3*m:=iw (by omega) (by omega)
 by_cases h3:3*m=d
 .refine ⟨cRz [(15,false),(19,false),(24,true)],300,.p _,_,y8 _,rfl,fun _=>rfl,rfl,jc (rqh m d),⟨beq_eq_false_iff_ne.2 hz,beq_eq_false_iff_ne.2 hd,by rw [w3]; exact beq_iff_eq.2 h3⟩,fun τ W h=>?_⟩
  show VRel τ (.agg [.int true .i64 (cP m d),.int true .i64 (cQ m d)]) W
  unfold cP cQ
  rw [if_neg hz,if_neg hz,if_neg hd,if_neg hd,if_pos h3,if_pos h3]; exact h
 obtain ⟨n0,n1,nd,_,k,hk⟩:0<m/\m<d/\d<=4294967296/\3*m≠d/\∃ k,Hb ((m:Rat) / (d:Rat)) k:=by
  rcases hc with h|h|h|h
  .exact absurd h hz
  .exact absurd h hd
  .exact absurd h h3
  .exact h
 obtain ⟨g,el⟩:=Dn n0 n1 nd hk
 have rk:=XH n0 n1 hk
 have tp:=sJ
 obtain ⟨y0,y1,y2⟩:=sK (m:=m) (d:=d) (by omega) (by omega) (by omega)
 obtain ⟨ry,rt⟩:=XI n0 (by omega) nd
 obtain ⟨s0,s1⟩:=Sf n0 (by omega) nd
 have eY:qzY m d=dM m d:=M7 (by omega) (by omega)
 have eS:qzS m d=qP m d:=XJ (by omega) (by omega) (by omega)
 have eL:qzL m d=qP m d - 100000000:=by unfold qzL; rw [bW,bW,eS]
 have eH:qzH m d=qP m d+100000000:=by unfold qzH; rw [bW,bW,eS]
 have eLo:u4 m d=(qP m d - 100000000)*4294967296:=by unfold u4; rw [bW,bW,eL]
 have eHo:u5 m d=(qP m d+100000000)*4294967296:=by unfold u5; rw [bW,bW,eH]
 have eD:qzD m d=k:=by
  unfold qzD
  rw [bW,bW,eLo,DN,Int.tdiv_eq_ediv_of_nonneg (by omega)]
  exact rk (-100000000) (by decide) (by decide)
 have eU:qzU m d=k:=by
  unfold qzU
  rw [bW,bW,eHo,DN,Int.tdiv_eq_ediv_of_nonneg (by omega)]
  exact rk 100000000 (by decide) (by decide)
 have k0:0<=k:=by rw [<- eD]; unfold qzD; rw [bW,bW,eLo]; exact Int.tdiv_nonneg (by omega) (by decide)
 have k1:k<=12884901888:=by
  have g1:=g.hi
  have p:=dI
  rw [<- el]
  refine Int.ediv_le_of_le_mul p ?_
  have e:(12884901888:Int)*PP=3*PP*4294967296:=by decide
  rw [e]
  exact Int.mul_le_mul_of_nonneg_right (by omega) (by decide)
 refine ⟨cRz [(15,false),(19,false),(24,false),(14,false),(64,true)],300,.p _,_,y8 _,rfl,fun _=>rfl,rfl,jc (rqt m d),?_,fun τ W h=>?_⟩
 .have pb:=MU
  have big:∀ {z:Int},(z.natAbs:Int)<pw 20->okL (decide (z<0)) (aa z.natAbs)/\(aa z.natAbs).length<=20:=fun h=>
   ⟨lO (Int.lt_of_lt_of_le h (bN (by omega))),dX h⟩
  have p20:100*ag*(100*ag)<pw 20:=by decide
  have v1:(m==0)=false:=beq_eq_false_iff_ne.2 hz
  have v2:(m==d)=false:=beq_eq_false_iff_ne.2 hd
  have v3:(IntKind.i64.wrap ((3:Int)*m)==d)=false:=by rw [w3]; exact beq_eq_false_iff_ne.2 h3
  have c1:((1:Int)=1/\(7:Int)=7\/(1:Int)=3/\(7:Int)=79):=.inl ⟨rfl,rfl⟩
  have c2:((3:Int)=1/\(79:Int)=7\/(3:Int)=3/\(79:Int)=79):=.inr ⟨rfl,rfl⟩
  have c3:=BR
  have aA:okL (decide ((bif (1:Int)==1 then iW else iX)<0)) (aa (bif (1:Int)==1 then iW else iX).natAbs)/\(aa (bif (1:Int)==1 then iW else iX).natAbs).length<=5:=okA (by decide)
  have aB:okL (decide ((bif (3:Int)==1 then iW else iX)<0)) (aa (bif (3:Int)==1 then iW else iX).natAbs)/\(aa (bif (3:Int)==1 then iW else iX).natAbs).length<=5:=okA (by decide)
  have a10:okL (decide ((10:Int)<0)) (aa (Int.natAbs 10))/\(aa (Int.natAbs 10)).length<=5:=okA (z:=10) (by decide)
  have a4:okL (decide ((4:Int)<0)) (aa (Int.natAbs 4))/\(aa (Int.natAbs 4)).length<=5:=okA (z:=4) (by decide)
  have aE:okL (decide ((100000000:Int)<0)) (aa (Int.natAbs 100000000))/\(aa (Int.natAbs 100000000)).length<=5:=okA (z:=100000000) (by decide)
  have aF:okL (decide ((4294967296:Int)<0)) (aa (Int.natAbs 4294967296))/\(aa (Int.natAbs 4294967296)).length<=5:=okA (z:=4294967296) (by decide)
  have aT:okL (decide (ag<0)) (aa ag.natAbs)/\(aa ag.natAbs).length<=5:=okA (by decide)
  have n8:aa (Int.natAbs 100000000)≠[]:=(jq (z:=100000000) (by decide)).1
  have nT:aa ag.natAbs≠[]:=(jq (z:=ag) (by decide)).1
  have eA:qzA=iW*10:=by unfold qzA; rw [bW,bW]; rfl
  have eB:qzB=iX*4:=by unfold qzB; rw [bW,bW]; rfl
  have qA:okL (decide (qzA<0)) (aa qzA.natAbs)/\(aa qzA.natAbs).length<=5:=okA (by rw [eA]; decide)
  have qB:okL (decide (qzB<0)) (aa qzB.natAbs)/\(aa qzB.natAbs).length<=5:=okA (by rw [eB]; decide)
  have qR:okL (decide (qzR<0)) (aa qzR.natAbs)/\(aa qzR.natAbs).length<=5:=okA (by rw [M6]; decide)
  have mA:aa qzA.natAbs≠[]:=(jq (z:=qzA) (by rw [eA]; decide)).1
  have mB:aa qzB.natAbs≠[]:=(jq (z:=qzB) (by rw [eB]; decide)).1
  have sAB:val (aa qzA.natAbs)+val (aa qzB.natAbs)<pw 400000:=by
   rw [iY,iY,eA,eB]
   exact Int.lt_of_le_of_lt (b:=100*ag) (by decide) pb
  have t40:(4294967296:Int)<=100*ag:=by decide
  have am:okL (decide (m<0)) (aa m.natAbs)/\(aa m.natAbs).length<=5:=okA (by omega)
  have ad:okL (decide (d<0)) (aa d.natAbs)/\(aa d.natAbs).length<=5:=okA (by omega)
  have nd0:aa d.natAbs≠[]:=(jq (z:=d) (by omega)).1
  have bm:m.natAbs<=9223372036854775808:=by omega
  have bd:d.natAbs<=9223372036854775808:=by omega
  have paR:paC (decide (qzR<0)) (decide (m<0)) (decide (d<0)) (aa qzR.natAbs) (aa m.natAbs) (aa d.natAbs):=⟨qR.1,am.1,ad.1,nd0,by have:=qR.2; have:=am.2; have:=ad.2; omega⟩
  have yN:decide (qzY m d<0)=false:=decide_eq_false (by rw [eY]; omega)
  have W2:RR<=2*ag:=by decide
  have aY:okL (decide (qzY m d<0)) (aa (qzY m d).natAbs)/\(aa (qzY m d).natAbs).length<=5:=okA (by rw [eY,Int.natAbs_of_nonneg y0]; omega)
  have vY:val (aa (qzY m d).natAbs)=dM m d:=by rw [iY,eY,Int.natAbs_of_nonneg y0]
  have vT:val (aa ag.natAbs)=WW:=by rw [c3]; rfl
  have rD:RnD (aa (qzY m d).natAbs) (aa ag.natAbs):=by
   refine ⟨ay _,fa _,by have:=aY.2; omega,c3,by rw [vY]; exact ry,by rw [vY]; have e:ag=WW:=rfl; omega,?_⟩
   rw [y6,vY,vT]; exact rt
  have W3:2*WW<=2*ag:=by decide
  have aS:okL (decide (qzS m d<0)) (aa (qzS m d).natAbs)/\(aa (qzS m d).natAbs).length<=5:=okA (by rw [eS]; omega)
  have sN:decide (qzS m d<0)=decide ((100000000:Int)<0):=by rw [eS]; exact decide_eq_false (by omega)
  have nS:aa (qzS m d).natAbs≠[]:=(jq (z:=qzS m d) (by rw [eS]; omega)).1
  have aL:okL (decide (qzL m d<0)) (aa (qzL m d).natAbs)/\(aa (qzL m d).natAbs).length<=5:=okA (by rw [eL]; omega)
  have aH:okL (decide (qzH m d<0)) (aa (qzH m d).natAbs)/\(aa (qzH m d).natAbs).length<=5:=okA (by rw [eH]; omega)
  have b40:3*ag*4294967296<pw 20:=by decide
  have aLo:=big (z:=u4 m d) (by rw [eLo]; omega)
  have aHo:=big (z:=u5 m d) (by rw [eHo]; omega)
  have sS:val (aa (qzS m d).natAbs)+val (aa (Int.natAbs 100000000))<pw 400000:=by
   rw [iY,iY,eS]
   have e8:((Int.natAbs 100000000:Nat):Int)=100000000:=by decide
   rw [e8]
   clear sAB
   generalize pw 400000=Q at *
   omega
  have lo0:decide ((za m d).tmod (Zv ag)<0)=false:=decide_eq_false (by
   have:0<=(za m d).tmod (Zv ag):=Int.tmod_nonneg _ (by unfold za; rw [bW,eLo]; omega)
   exact Int.not_lt.2 this)
  have hi0:decide ((zb m d).tmod (Zv ag)<0)=false:=decide_eq_false (by
   have:0<=(zb m d).tmod (Zv ag):=Int.tmod_nonneg _ (by unfold zb; rw [bW,eHo]; omega)
   exact Int.not_lt.2 this)
  have aD:okL (decide (qzD m d<0)) (aa (qzD m d).natAbs)/\(aa (qzD m d).natAbs).length<=5:=okA (by rw [eD]; omega)
  have aU:okL (decide (qzU m d<0)) (aa (qzU m d).natAbs)/\(aa (qzU m d).natAbs).length<=5:=okA (by rw [eU]; omega)
  have same:decide (decide (qzD m d<0)=decide (qzU m d<0)/\aa (qzD m d).natAbs=aa (qzU m d).natAbs)=true:=by rw [eD,eU]; simp
  have dN:decide (qzD m d<0)=false:=decide_eq_false (by rw [eD]; omega)
  have oD:okL false (aa (qzD m d).natAbs):=by have:=aD.1; rwa [dN] at this
  have lD:(aa (qzD m d).natAbs).length<=2:=by
   have e2:pw 2=1000000000000000000:=by decide
   exact dX (by rw [eD,e2]; omega)
  have smD:Sm (aa (qzD m d).natAbs):=by show _<=500000; omega
  have smU:Sm (aa (qzU m d).natAbs):=by have:=aU.2; show _<=500000; omega
  have l1:(aa (bif (1:Int)==1 then iW else iX).natAbs).length+(aa (Int.natAbs 10)).length<=500000:=by have:=aA.2; have:=a10.2; omega
  have l2:(aa (bif (3:Int)==1 then iW else iX).natAbs).length+(aa (Int.natAbs 4)).length<=500000:=by have:=aB.2; have:=a4.2; omega
  have l3:(aa (qzL m d).natAbs).length+(aa (Int.natAbs 4294967296)).length<=500000:=by have:=aL.2; have:=aF.2; omega
  have l4:(aa (u4 m d).natAbs).length+(aa ag.natAbs).length<=400000:=by have:=aLo.2; have:=aT.2; omega
  have l5:(aa (qzH m d).natAbs).length+(aa (Int.natAbs 4294967296)).length<=500000:=by have:=aH.2; have:=aF.2; omega
  have l6:(aa (u5 m d).natAbs).length+(aa ag.natAbs).length<=400000:=by have:=aHo.2; have:=aT.2; omega
  have f1:=aA.1; have f2:=aB.1; have f3:=a10.1; have f4:=a4.1; have f5:=aE.1; have f6:=aF.1; have f7:=aT.1
  have f8:=qA.1; have f9:=qB.1; have f10:=aS.1; have f11:=aL.1; have f12:=aH.1; have f13:=aLo.1; have f14:=aHo.1
  have i1:Int.natAbs 10<=9223372036854775808:=by decide
  have i2:Int.natAbs 4<=9223372036854775808:=by decide
  have i3:Int.natAbs 100000000<=9223372036854775808:=by decide
  have i4:Int.natAbs 4294967296<=9223372036854775808:=by decide
  have c4:decide (ag<0)=false:=by decide
  show DM m d
  unfold DM
  repeat' first|with_reducible refine And.intro ?_ ?_|with_reducible exact rfl|with_reducible assumption
 .show VRel τ (.agg [.int true .i64 (cP m d),.int true .i64 (cQ m d)]) W
  unfold cP cQ
  rw [if_neg hz,if_neg hz,if_neg hd,if_neg hd,if_neg h3,if_neg h3,el]
  have e5:MY m d=.agg [.int true .i64 k,.int true .i64 (k+1)]:=by
   unfold MY
   rw [iY,eD,Int.natAbs_of_nonneg k0,iw (by omega) (by omega)]
  rw [<- e5]; exact h
end
end Go.Proofs.YtmnhhlnbfkfkaaaGreat.K
namespace Go.Dg
open Go Go.Eng Go.Sn Go.Ar
def rrR (n d:Int):Int:=bif decide (n.tmod d<0) then wr (n.tmod d+d) else n.tmod d
def rrQ (n d:Int):Int:=wr ((wr (4*rrR n d)).tdiv d)
def rrM (n d:Int):Int:=(wr (4*rrR n d)).tmod d
def rrA (o:Bool) (n d:Int):Int:=bif o then wr (d - rrM n d) else rrM n d
theorem Tt {n d:Int} (h0:1<=d) (h1:d<=4294967296):rrQ n d=snQ n d/\rrM n d=snM n d/\∀ o,rrA o n d=bif o then d - snM n d else snM n d:=by
 have hR:rrR n d=snR n d:=by
  have e0:0<=n % d:=Int.emod_nonneg _ (by omega)
  have e1:n % d<d:=Int.emod_lt_of_pos _ (by omega)
  unfold rrR snR
  have h:=Int.tmod_eq_emod (a:=n) (b:=d)
  split at h
  .rw [show n.tmod d=n % d by omega,decide_eq_false (by omega)]; rfl
  .rename_i hh
   have hd:(d.natAbs:Int)=d:=Int.natAbs_of_nonneg (by omega)
   rw [hd] at h
   rw [h]
   have:n % d - d<0:=by omega
   rw [decide_eq_true this]
   show wr (n % d - d+d)=n % d
   rw [Int.sub_add_cancel,jM (by omega) (by omega)]
 obtain ⟨_,_,_,q0,q3,m0,m1⟩:=uT (n:=n) h0 h1
 have r0:0<=snR n d:=Int.emod_nonneg _ (by omega)
 have r1:snR n d<d:=Int.emod_lt_of_pos _ (by omega)
 have e4:wr (4*snR n d)=4*snR n d:=jM (by omega) (by omega)
 have eM:rrM n d=snM n d:=by
  unfold rrM
  rw [hR,e4,Int.tmod_eq_emod_of_nonneg (by omega)]; rfl
 refine ⟨?_,eM,fun o=>?_⟩
 .unfold rrQ
  rw [hR,e4,Int.tdiv_eq_ediv_of_nonneg (by omega)]
  exact jM (by show _<=snQ n d; omega) (by show snQ n d<=_; omega)
 .unfold rrA
  rw [eM,jM (by omega) (by omega)]
def odS (q:Int):Bool:=q==1||q==3
def ngS (q:Int):Bool:=q==2||q==3
def odC (q:Int):Bool:=q==0||q==2
def ngC (q:Int):Bool:=q==1||q==2
def vk (more n d:Int):Bool:=ii d||quR (snA more n d) d
theorem Sj {m d:Int} (h:quR m d=true):0<=cP m d/\cP m d<=13000000000/\0<=cQ m d/\cQ m d<=13000000000/\cP m d<=cQ m d:=by
 obtain ⟨a,b,c,g⟩:=M5 h
 unfold cP cQ
 by_cases z:m=0
 .rw [if_pos z,if_pos z]; omega
 by_cases z1:m=d
 .rw [if_neg z,if_neg z,if_pos z1,if_pos z1]; omega
 by_cases z3:3*m=d
 .rw [if_neg z,if_neg z,if_neg z1,if_neg z1,if_pos z3,if_pos z3]; omega
 rw [if_neg z,if_neg z,if_neg z1,if_neg z1,if_neg z3,if_neg z3]
 rcases g with g|g|g|⟨_,_,_,_,k,hk⟩
 .exact absurd g z
 .exact absurd g z1
 .exact absurd g z3
 have g:=(Dn (by omega) (by omega) (by omega) hk).1
 have p:=dI
 have:=g.far
 have:=g.hi
 have a:0<=gV m d:=Int.ediv_nonneg (Int.mul_nonneg (by omega) (by decide)) (by omega)
 have b:gV m d<=12884901888:=by
  refine Int.ediv_le_of_le_mul p ?_
  have e:(12884901888:Int)*PP=3*PP*4294967296:=by decide
  rw [e]
  exact Int.mul_le_mul_of_nonneg_right (by omega) (by decide)
 omega
end Go.Dg
namespace Go.Proofs.YtmnhhlnbfkfkaaaGreat.K
open Go Go.Eng Go.Dg Go.Ar Go.Vc Go.Sn
noncomputable section
def hB2 (b:Bool):AV:=match b with|true=>.bool false true|false=>.bool false false
def FH (N:Int->Int->Bool) (V:Int->Int->Int×Int) (G:Int->Int->Sp):List (FuncId×aK):=[(30,Qz N V),(31,sUn G)]
def cRS (N:Int->Int->Bool) (V:Int->Int->Int×Int) (G:Int->Int->Sp) (b o g:Bool):Ctx:=aP (mkC Tryz.prog (FH N V G) ext) (hZ [(14,hB2 b),(34,hB2 o),(42,hB2 g)])
def cRC (N:Int->Int->Bool) (V:Int->Int->Int×Int) (G:Int->Int->Sp) (b o g:Bool):Ctx:=aP (mkC Tryz.prog (FH N V G) ext) (hZ [(14,hB2 b),(34,hB2 o),(46,hB2 g)])
def quV (m d:Int):Int×Int:=(cP m d,cQ m d)
theorem BW:fA Tryz.prog (FH quR quV jk):=by
 intro x hx
 simp only [FH,List.mem_cons,List.not_mem_nil,or_false] at hx
 rcases hx with rfl|rfl
 .exact Si
 .exact xP
theorem M8 (b o g:Bool):CtxOk (cRS quR quV jk b o g):=aj (ct aM BW cB) _
theorem M9 (b o g:Bool):CtxOk (cRC quR quV jk b o g):=aj (ct aM BW cB) _
def rrB (d:Int) (b:Bool):Prop:=(decide (d<1)=true->true=b)/\(decide (d<1)=false->decide (d>4294967296)=b)
def rrO (V:Int->Int->Int×Int) (G:Int->Int->Sp) (o g:Bool) (n d:Int):AV:=match g with
 | true=>.tuple [.agg [.int true .i64 (G (V (rrA o n d) d).1 (V (rrA o n d) d).2).lo,.int true .i64 (G (V (rrA o n d) d).1 (V (rrA o n d) d).2).hi],.int false .i64 0]
 | false=>.tuple [.agg [.int true .i64 (V (rrA o n d) d).1,.int true .i64 (V (rrA o n d) d).2],.int false .i64 0]
def Na (N:Int->Int->Bool) (o g:Bool) (n d:Int):Prop:=rrB d false/\d≠0/\(d≠0/\d≠0)/\((rrQ n d).tmod 2==1)=o/\N (rrA o n d) d=true/\decide (rrQ n d>=2)=g
def Nb (N:Int->Int->Bool) (o g:Bool) (n d:Int):Prop:=rrB d false/\d≠0/\(d≠0/\d≠0)/\((rrQ n d).tmod 2==0)=o/\N (rrA o n d) d=true/\((rrQ n d==1)=true->true=g)/\((rrQ n d==1)=false->(rrQ n d==2)=g)
section
variable (N:Int->Int->Bool) (V:Int->Int->Int×Int) (G:Int->Int->Sp) (n d:Int)
def i2A (n d:Int):List AV:=[.int true .i64 n,.int true .i64 d]
theorem XK:bb ((run (cRS N V G false false false) 300).call 9 (i2A n d) ⟨[],0,1⟩)=some (.p (Na N false false n d),rrO V G false false n d):=by kernel_rfl
theorem XL:bb ((run (cRS N V G false false true) 300).call 9 (i2A n d) ⟨[],0,1⟩)=some (.p (Na N false true n d),rrO V G false true n d):=by kernel_rfl
theorem XM:bb ((run (cRS N V G false true false) 300).call 9 (i2A n d) ⟨[],0,1⟩)=some (.p (Na N true false n d),rrO V G true false n d):=by kernel_rfl
theorem XN:bb ((run (cRS N V G false true true) 300).call 9 (i2A n d) ⟨[],0,1⟩)=some (.p (Na N true true n d),rrO V G true true n d):=by kernel_rfl
theorem XO:bb ((run (cRC N V G false false false) 300).call 11 (i2A n d) ⟨[],0,1⟩)=some (.p (Nb N false false n d),rrO V G false false n d):=by kernel_rfl
theorem XP:bb ((run (cRC N V G false false true) 300).call 11 (i2A n d) ⟨[],0,1⟩)=some (.p (Nb N false true n d),rrO V G false true n d):=by kernel_rfl
theorem XQ:bb ((run (cRC N V G false true false) 300).call 11 (i2A n d) ⟨[],0,1⟩)=some (.p (Nb N true false n d),rrO V G true false n d):=by kernel_rfl
theorem XR:bb ((run (cRC N V G false true true) 300).call 11 (i2A n d) ⟨[],0,1⟩)=some (.p (Nb N true true n d),rrO V G true true n d):=by kernel_rfl
theorem abm:bb ((run (cRS N V G true false false) 300).call 9 (i2A n d) ⟨[],0,1⟩)=some (.p (rrB d true),.tuple [.agg [.int false .i64 0,.int false .i64 0],.int false .i64 2]):=by kernel_rfl
theorem abn:bb ((run (cRC N V G true false false) 300).call 11 (i2A n d) ⟨[],0,1⟩)=some (.p (rrB d true),.tuple [.agg [.int false .i64 0,.int false .i64 0],.int false .i64 2]):=by kernel_rfl
end
theorem rsi {N V G n d} (o g:Bool):bb ((run (cRS N V G false o g) 300).call 9 (i2A n d) ⟨[],0,1⟩)=some (.p (Na N o g n d),rrO V G o g n d):=by
 cases o <;> cases g
 .exact XK N V G n d
 .exact XL N V G n d
 .exact XM N V G n d
 .exact XN N V G n d
theorem rco {N V G n d} (o g:Bool):bb ((run (cRC N V G false o g) 300).call 11 (i2A n d) ⟨[],0,1⟩)=some (.p (Nb N o g n d),rrO V G o g n d):=by
 cases o <;> cases g
 .exact XO N V G n d
 .exact XP N V G n d
 .exact XQ N V G n d
 .exact XR N V G n d
theorem Nc {d:Int}:rrB d (ii d):=by
 unfold rrB ii
 cases decide (d<1) <;> simp
theorem Nf {more n d:Int} {o g:Bool} (hB:ii d=false) (d0:1<=d) (d1:d<=4294967296) (ea:rrA o n d=snA more n d) (hq:quR (snA more n d) d=true) (hg:(snK n d more==0||snK n d more==1)=!g):
  ∀ τ W,VRel τ (rrO quV jk o g n d) W->VRel τ ((Tm.u [.a [.n .i64 (fU more n d),.n .i64 (fV more n d)],.n .i64 (snE d)]).av true) W:=by
 intro τ W h
 show VRel τ (.tuple [.agg [.int true .i64 (fU more n d),.int true .i64 (fV more n d)],.int true .i64 (snE d)]) W
 obtain ⟨b1,b2,b3,b4,b5⟩:=Sj hq
 have hE:snE d=0:=by unfold snE; rw [hB]; rfl
 unfold fU fV
 rw [hB,hg,hE]
 unfold rrO at h
 rw [ea] at h
 cases g with
 | false=>exact h
 | true=>
  have e:jk (quV (snA more n d) d).1 (quV (snA more n d) d).2=⟨-cQ (snA more n d) d,-cP (snA more n d) d,0⟩:=by
   show jk (cP _ _) (cQ _ _)=_
   unfold jk
   rw [bQ.2 ⟨by omega,by omega,by omega⟩]; rfl
  rw [e] at h
  exact h
theorem Ng:PureOk Tryz.prog 9 (l7 (vk 0) (fU 0) (fV 0) snE):=by
 refine num_ok' (fun xs hk hN=>?_) ⟨_,Tryz.func9,rfl⟩
 obtain ⟨n,_,rfl,h1⟩:=kn hk; obtain ⟨d,_,rfl,h2⟩:=kn h1; obtain rfl:=k0 h2
 have hN:vk 0 n d=true:=hN
 have hb:=Nc (d:=d)
 cases hB:ii d with
 | true=>
  rw [hB] at hb
  refine ⟨_,300,_,_,M8 true false false,rfl,fun _=>rfl,rfl,abm _ _ _ n d,hb,fun τ W h=>?_⟩
  show VRel τ (.tuple [.agg [.int true .i64 (fU 0 n d),.int true .i64 (fV 0 n d)],.int true .i64 (snE d)]) W
  unfold fU fV snE
  rw [hB]; exact h
 | false=>
  rw [hB] at hb
  have hd:1<=d/\d<=4294967296:=by
   unfold ii at hB
   cases h3:decide (d<1) with
   | true=>rw [h3] at hB; cases hB
   | false=>
    rw [h3] at hB
    have a:=of_decide_eq_false h3
    have b:=of_decide_eq_false hB
    omega
  have hq:quR (snA 0 n d) d=true:=by unfold vk at hN; rw [hB] at hN; exact hN
  obtain ⟨e1,e2,e3⟩:=Tt (n:=n) hd.1 hd.2
  obtain ⟨_,_,_,q0,q3,_,_⟩:=uT (n:=n) hd.1 hd.2
  have ek:snK n d 0=snQ n d:=by unfold snK; omega
  have ea:rrA (odS (snQ n d)) n d=snA 0 n d:=by
   rw [e3]
   unfold snA odS
   rw [ek]
   rcases q4 q0 q3 with h|h|h|h <;> rw [h] <;> rfl
  refine ⟨_,300,_,_,M8 false (odS (snQ n d)) (ngS (snQ n d)),rfl,fun _=>rfl,rfl,rsi _ _,⟨hb,by omega,⟨by omega,by omega⟩,?_,by rw [ea]; exact hq,?_⟩,Nf hB hd.1 hd.2 ea hq ?_⟩
  .rw [e1]; unfold odS
   rcases q4 q0 q3 with h|h|h|h <;> rw [h] <;> rfl
  .rw [e1]; unfold ngS
   rcases q4 q0 q3 with h|h|h|h <;> rw [h] <;> rfl
  .rw [ek]; unfold ngS
   rcases q4 q0 q3 with h|h|h|h <;> rw [h] <;> rfl
theorem DO:PureOk Tryz.prog 11 (l7 (vk 1) (fU 1) (fV 1) snE):=by
 refine num_ok' (fun xs hk hN=>?_) ⟨_,Tryz.func11,rfl⟩
 obtain ⟨n,_,rfl,h1⟩:=kn hk; obtain ⟨d,_,rfl,h2⟩:=kn h1; obtain rfl:=k0 h2
 have hN:vk 1 n d=true:=hN
 have hb:=Nc (d:=d)
 cases hB:ii d with
 | true=>
  rw [hB] at hb
  refine ⟨_,300,_,_,M9 true false false,rfl,fun _=>rfl,rfl,abn _ _ _ n d,hb,fun τ W h=>?_⟩
  show VRel τ (.tuple [.agg [.int true .i64 (fU 1 n d),.int true .i64 (fV 1 n d)],.int true .i64 (snE d)]) W
  unfold fU fV snE
  rw [hB]; exact h
 | false=>
  rw [hB] at hb
  have hd:1<=d/\d<=4294967296:=by
   unfold ii at hB
   cases h3:decide (d<1) with
   | true=>rw [h3] at hB; cases hB
   | false=>
    rw [h3] at hB
    have a:=of_decide_eq_false h3
    have b:=of_decide_eq_false hB
    omega
  have hq:quR (snA 1 n d) d=true:=by unfold vk at hN; rw [hB] at hN; exact hN
  obtain ⟨e1,e2,e3⟩:=Tt (n:=n) hd.1 hd.2
  obtain ⟨_,_,_,q0,q3,_,_⟩:=uT (n:=n) hd.1 hd.2
  have ek:snK n d 1=(snQ n d+1) % 4:=rfl
  have ea:rrA (odC (snQ n d)) n d=snA 1 n d:=by
   rw [e3]
   unfold snA odC
   rw [ek]
   rcases q4 q0 q3 with h|h|h|h <;> rw [h] <;> rfl
  refine ⟨_,300,_,_,M9 false (odC (snQ n d)) (ngC (snQ n d)),rfl,fun _=>rfl,rfl,rco _ _,⟨hb,by omega,⟨by omega,by omega⟩,?_,by rw [ea]; exact hq,?_,?_⟩,Nf hB hd.1 hd.2 ea hq ?_⟩
  .rw [e1]; unfold odC
   rcases q4 q0 q3 with h|h|h|h <;> rw [h] <;> rfl
  .rw [e1]; unfold ngC
   rcases q4 q0 q3 with h|h|h|h <;> rw [h] <;> decide
  .rw [e1]; unfold ngC
   rcases q4 q0 q3 with h|h|h|h <;> rw [h] <;> decide
  .rw [ek]; unfold ngC
   rcases q4 q0 q3 with h|h|h|h <;> rw [h] <;> rfl
end
end Go.Proofs.YtmnhhlnbfkfkaaaGreat.K
namespace Go.Proofs.YtmnhhlnbfkfkaaaGreat.K
open Go Go.Eng Go.Dg Go.Ar Go.Vc
noncomputable section
def afR:AF:=⟨vk 0,vk 1,fU 0,fV 0,fU 1,fV 1,jk⟩
def DP (F:AF):List (FuncId×aK):=[(9,l7 F.n0 F.sl F.sh snE),(11,l7 F.n1 F.cl F.ch snE),(31,sUn F.ng)]
theorem HO:fA Tryz.prog (DP afR):=by
 intro x hx
 simp only [DP,List.mem_cons,List.not_mem_nil,or_false] at hx
 rcases hx with rfl|rfl|rfl
 .exact Ng
 .exact DO
 .exact xP
def Sk (F:AF) (i j:Bool):Ctx:=aP (mkC Tryz.prog (DP F) ext) (hZ [(31,hB2 i),(46,hB2 j)])
theorem zc (i j:Bool):CtxOk (Sk afR i j):=aj (ct aM HO cB) _
def DQ (R:RF):List (FuncId×aK):=[(34,sAb R.n R.ab),(16,sMM R.mv R.mo)]
def hRr (k:Nat):Nat->Nat->Option AV:=fun c t=>match Nat.beq t 29 with
 | true=>match Nat.ble k c with
  | true=>some (.bool false true)
  | false=>some (.bool false false)
 | false=>match Nat.beq t 40 with
  | true=>some (.bool false false)
  | false=>none
def cRr (R:RF) (k:Nat):Ctx:=aP (mkC Tryz.prog (DQ R) ext) (hRr k)
end
end Go.Proofs.YtmnhhlnbfkfkaaaGreat.K
namespace Go.Proofs.YtmnhhlnbfkfkaaaGreat.K
open Go Go.Eng Go.Dg Go.Ar Go.Vc Go.Sn
noncomputable section
theorem Nh (F:AF) (n:Int):bb ((run (Sk F true false) 300).call 34 [.int true .i64 0,.int true .i64 n] ⟨[],0,1⟩)=some (.p (F.n0 n 360000000=true/\F.n1 n 360000000=true/\((0:Int)==0)=true),abV F 0 n):=by kernel_rfl
theorem Ni (F:AF) (n:Int):bb ((run (Sk F false true) 300).call 34 [.int true .i64 1,.int true .i64 n] ⟨[],0,1⟩)=some (.p (F.n0 n 360000000=true/\F.n1 n 360000000=true/\((1:Int)==0)=false/\((1:Int)==1)=true),abV F 1 n):=by kernel_rfl
theorem Nj (F:AF) (n:Int):bb ((run (Sk F false false) 300).call 34 [.int true .i64 2,.int true .i64 n] ⟨[],0,1⟩)=some (.p (F.n0 n 360000000=true/\F.n1 n 360000000=true/\((2:Int)==0)=false/\((2:Int)==1)=false),abV F 2 n):=by kernel_rfl
theorem jP (more n:Int):vk more n 360000000=true:=by
 obtain ⟨_,_,_,_,_,m0,m1⟩:=uT (n:=n) (d:=360000000) (by decide) (by decide)
 have e4:snM n 360000000 % 4=0:=by
  unfold snM
  omega
 have ha:0<=snA more n 360000000/\snA more n 360000000<=360000000/\snA more n 360000000 % 4=0:=by
  unfold snA
  cases snK n 360000000 more==0||snK n 360000000 more==2 with
  | true=>simp only [cond_true]; omega
  | false=>simp only [cond_false]; omega
 unfold vk quR
 have t:(snA more n 360000000).tmod 4=0:=by rw [Int.tmod_eq_emod_of_nonneg ha.1]; exact ha.2.2
 simp [ha.1,ha.2.1,t]
theorem HP:PureOk Tryz.prog 34 (sAb axN (abA af0)):=by
 refine num_ok' (fun xs hk hN=>?_) ⟨_,Tryz.func34,rfl⟩
 obtain ⟨a,_,rfl,h1⟩:=kn hk; obtain ⟨n,_,rfl,h2⟩:=kn h1; obtain rfl:=k0 h2
 have hN:axN a n=true:=hN
 unfold axN at hN
 simp only [Bool.or_eq_true,beq_iff_eq] at hN
 rcases hN with rfl|rfl|rfl
 .exact ⟨_,300,_,_,zc true false,rfl,fun _=>rfl,rfl,Nh afR n,⟨jP 0 n,jP 1 n,rfl⟩,fun τ W h=>h⟩
 .exact ⟨_,300,_,_,zc false true,rfl,fun _=>rfl,rfl,Ni afR n,⟨jP 0 n,jP 1 n,rfl,rfl⟩,fun τ W h=>h⟩
 .exact ⟨_,300,_,_,zc false false,rfl,fun _=>rfl,rfl,Nj afR n,⟨jP 0 n,jP 1 n,rfl,rfl⟩,fun τ W h=>h⟩
theorem HQ:fA Tryz.prog (DQ rf0):=by
 intro x hx
 simp only [DQ,List.mem_cons,List.not_mem_nil,or_false] at hx
 rcases hx with rfl|rfl
 .exact HP
 .exact AR
theorem zd (k:Nat):CtxOk (cRr rf0 k):=aj (ct aM HQ cB) _
theorem Sl (R:RF) (x y z:Int):bb ((run (cRr R 0) 900).call 13 (i3 x y z) ⟨[],0,1⟩)=some (.p (d9 x true),BC):=by kernel_rfl
theorem So (R:RF) (x y z:Int):bb ((run (cRr R 40) 900).call 13 (i3 x y z) ⟨[],0,1⟩)=some (.p (d9 x false/\d9 y true),BC):=by kernel_rfl
theorem Sq (R:RF) (x y z:Int):bb ((run (cRr R 52) 900).call 13 (i3 x y z) ⟨[],0,1⟩)=some (.p (d9 x false/\d9 y false/\d9 z true),BC):=by kernel_rfl
def XS (R:RF) (x y:Int):Mat:=R.mv (R.ab 1 y) (R.ab 0 x)
theorem Nk (R:RF) (x y z:Int):bb ((run (cRr R 9000) 900).call 13 (i3 x y z) ⟨[],0,1⟩)=some (.p ((d9 x false/\d9 y false/\d9 z false)/\(R.n 1 y=true/\R.n 0 x=true)/\(R.mo (R.ab 1 y) (R.ab 0 x) != 0)=false/\R.n 2 z=true/\maP (XS R x y)),(pg (R.mv (R.ab 2 z) (XS R x y)) (R.mo (R.ab 2 z) (XS R x y))).av true):=by kernel_rfl
theorem Sr:PureOk Tryz.prog 13 (QJ jN kL):=by
 refine num_ok' (fun xs hk _=>?_) ⟨_,Tryz.func13,rfl⟩
 obtain ⟨x,_,rfl,h1⟩:=kn hk; obtain ⟨y,_,rfl,h2⟩:=kn h1; obtain ⟨z,_,rfl,h3⟩:=kn h2; obtain rfl:=k0 h3
 have nx:∀ b,eg x=b->d9 x b:=fun b h=>h ▸ qJ
 have ny:∀ b,eg y=b->d9 y b:=fun b h=>h ▸ qJ
 have nz:∀ b,eg z=b->d9 z b:=fun b h=>h ▸ qJ
 have bad:jd x y z=true->∀ τ W,VRel τ BC W->VRel τ ((pg (jN x y z) (kL x y z)).av true) W:=fun h τ W k=>by
  have e1:jN x y z=z0M:=by unfold jN; rw [h]; rfl
  have e2:kL x y z=2:=by unfold kL; rw [h]; rfl
  rw [e1,e2]; exact k
 cases hx:eg x with
 | true=>exact ⟨cRr rf0 0,900,_,_,zd 0,rfl,fun _=>rfl,rfl,Sl rf0 x y z,nx _ hx,bad (by unfold jd; rw [hx]; rfl)⟩
 | false=>cases hy:eg y with
  | true=>exact ⟨cRr rf0 40,900,_,_,zd 40,rfl,fun _=>rfl,rfl,So rf0 x y z,⟨nx _ hx,ny _ hy⟩,bad (by unfold jd; rw [hx,hy]; rfl)⟩
  | false=>cases hz:eg z with
   | true=>exact ⟨cRr rf0 52,900,_,_,zd 52,rfl,fun _=>rfl,rfl,Sq rf0 x y z,⟨nx _ hx,ny _ hy,nz _ hz⟩,bad (by unfold jd; rw [hx,hy,hz]; rfl)⟩
   | false=>
    have hb:jd x y z=false:=by unfold jd; rw [hx,hy,hz]; rfl
    obtain ⟨o1,_⟩:=Fs x y
    obtain ⟨o2,_⟩:=VY x y z
    refine ⟨cRr rf0 9000,900,_,_,zd 9000,rfl,fun _=>rfl,rfl,Nk rf0 x y z,⟨⟨nx _ hx,ny _ hy,nz _ hz⟩,⟨rfl,rfl⟩,?_,rfl,fR _⟩,fun τ W k=>?_⟩
    .show (mN mf1 (abA af0 1 y) (abA af0 0 x) != 0)=false
     rw [o1]; rfl
    have e1:jN x y z=mulV mf1 (abA af0 2 z) (m8 x y):=by unfold jN; rw [hb]; rfl
    have e2:kL x y z=mN mf1 (abA af0 2 z) (m8 x y):=by unfold kL; rw [hb,o2]; rfl
    show VRel τ ((pg (jN x y z) (kL x y z)).av true) W
    rw [e1,e2]; exact k
def Nl:List (FuncId×aK):=[(8,l7 (snN 0) (fU 0) (fV 0) snE),(10,l7 (snN 1) (fU 1) (fV 1) snE),(12,QJ jN kL),(20,sMV (tuV mf0) (tuO mf0)),(22,sMV (fun m=>tuV mf0 (ax m)) (fun m=>tuO mf0 (ax m)))]
theorem Nm:fA Tryz.prog Nl:=by
 intro x hx
 simp only [Nl,List.mem_cons,List.not_mem_nil,or_false] at hx
 rcases hx with rfl|rfl|rfl|rfl|rfl
 .exact Fr
 .exact wB
 .exact V6
 .exact uC
 .exact AQ
def cWo:Ctx:=mkC Tryz.prog Nl ext
theorem XT:CtxOk cWo:=ct aM Nm cB
theorem HR:bb ((run cWo 3000).call 7 [] ⟨[],0,1⟩)=some (.tt,.bool false true):=by kernel_rfl
def Nn:aK:=a8 [] none fun _=>.t true
theorem Np:PureOk Tryz.prog 7 Nn:=by
 refine num_ok' (fun xs hk _=>?_) ⟨_,Tryz.func7,rfl⟩
 obtain rfl:=k0 hk
 exact ⟨cWo,3000,_,_,XT,rfl,fun _=>rfl,rfl,HR,trivial,fun τ W h=>h⟩
def XU (V:Int->Int->Int->Mat) (O:Int->Int->Int->Int):Ctx:=mkC Tryz.prog [(13,QJ V O)] ext
theorem Ss:CtxOk (XU jN kL):=ct aM (by
 intro x hx
 simp only [List.mem_cons,List.not_mem_nil,or_false] at hx
 rcases hx with rfl
 exact Sr) cB
def drM (b:Bool):Int:=bif b then 10000001 else 360000001
theorem Su (V:Int->Int->Int->Mat) (O:Int->Int->Int->Int) (x y z:Int) (b:Bool):bb ((run (XU V O) 900).call 14 [.agg (i3 x y z),.bool true b] ⟨[],0,1⟩)=some (.p (drM b≠0/\drM b≠0/\drM b≠0),(maT (V (x.tmod (drM b)) (y.tmod (drM b)) (z.tmod (drM b)))).av true):=by kernel_rfl
theorem DR (b:Bool):drM b≠0:=by cases b <;> decide
def acY:Sh:=.a [.i .i64,.i .i64,.i .i64]
def sDr (V:Int->Int->Int->Mat):aK:=a8 [acY,.b] none fun
 | [.n x,.n y,.n z,.t b]=>maT (V (x.tmod (drM b)) (y.tmod (drM b)) (z.tmod (drM b)))
 | _=>.u []
theorem Sv:PureOk Tryz.prog 14 (sDr jN):=by
 refine bp (fun xs hk _=>?_) ⟨_,Tryz.func14,rfl⟩
 obtain ⟨x,_,rfl,h1⟩:=kn hk; obtain ⟨y,_,rfl,h2⟩:=kn h1; obtain ⟨z,_,rfl,h3⟩:=kn h2; obtain ⟨b,_,rfl,h4⟩:=kt h3; obtain rfl:=k0 h4
 exact ⟨XU jN kL,900,_,Ss,rfl,fun _=>rfl,rfl,Su jN kL x y z b,DR b,DR b,DR b⟩
def smK (y k:Int):Int:=(IntKind.u64.wrap y).tmod k
def smD (y:Int):Int:=wr (wr (1*2 ^ min (smK y 37).toNat IntKind.i64.bits)+1)
def smL (x y:Int):Int:=x.tmod (smD y)
def smH (x y z:Int):Int:=wr (smL x y+wr (z.fdiv (2 ^ min (smK y 32).toNat IntKind.u32.bits)))
theorem DS {y k:Int} (hk:0<k):0<=smK y k/\smK y k<k:=by
 unfold smK
 have h:0<=IntKind.u64.wrap y:=Int.emod_nonneg _ (by decide)
 rw [Int.tmod_eq_emod_of_nonneg h]
 exact ⟨Int.emod_nonneg _ (by omega),Int.emod_lt_of_pos _ hk⟩
theorem XV (y:Int):smD y≠0:=by
 obtain ⟨h0,h1⟩:=DS (y:=y) (k:=37) (by decide)
 unfold smD
 obtain ⟨n,hn⟩:∃ n:Nat,(smK y 37).toNat=n:=⟨_,rfl⟩
 rw [hn]
 have hn2:n<37:=by omega
 have hb:min n IntKind.i64.bits=n:=Nat.min_eq_left (by show n<=64; omega)
 rw [hb]
 have:∀ m,m<37->wr (wr (1*2 ^ m)+1)≠0:=by decide
 exact this n hn2
theorem Sw (x y z:Int):bb ((run c0 900).call 41 [.agg [.int true .i64 x,.int true .u8 y,.int true .u32 z]] ⟨[],0,1⟩)=some (.p ((0<=smK y 37/\smD y≠0)/\0<=smK y 32),.agg [.int true .i64 (smL x y),.int true .i64 (smH x y z)]):=by kernel_rfl
def acZ:Sh:=.a [.i .i64,.i .u8,.i .u32]
def sSm (L:Int->Int->Int) (H:Int->Int->Int->Int):aK:=a8 [acZ] none fun
 | [.n x,.n y,.n z]=>.a [.n .i64 (L x y),.n .i64 (H x y z)]
 | _=>.u []
theorem XW:PureOk Tryz.prog 41 (sSm smL smH):=by
 refine bp (fun xs hk _=>?_) ⟨_,Tryz.func41,rfl⟩
 obtain ⟨x,_,rfl,h1⟩:=kn hk; obtain ⟨y,_,rfl,h2⟩:=kn h1; obtain ⟨z,_,rfl,h3⟩:=kn h2; obtain rfl:=k0 h3
 exact ⟨c0,900,_,Yj,rfl,fun _=>rfl,rfl,Sw x y z,⟨(DS (by decide)).1,XV y⟩,(DS (by decide)).1⟩
def cSv (L:Int->Int->Int) (H:Int->Int->Int->Int):Ctx:=mkC Tryz.prog [(41,sSm L H)] ext
theorem XX:CtxOk (cSv smL smH):=ct aM (by
 intro x hx
 simp only [List.mem_cons,List.not_mem_nil,or_false] at hx
 rcases hx with rfl
 exact XW) cB
theorem Sx (L:Int->Int->Int) (H:Int->Int->Int->Int) (a b c d e f g h i:Int):bb ((run (cSv L H) 900).call 19 [.agg [.int true .i64 a,.int true .u8 b,.int true .u32 c,.int true .i64 d,.int true .u8 e,.int true .u32 f,.int true .i64 g,.int true .u8 h,.int true .u32 i]] ⟨[],0,1⟩)=some (.p (((g=g/\h=h/\i=i)/\d=d/\e=e/\f=f)/\g=g/\h=h/\i=i),.agg [.int true .i64 (L a b),.int true .i64 (H a b c),.int true .i64 (L d e),.int true .i64 (H d e f),.int true .i64 (L g h),.int true .i64 (H g h i)]):=by kernel_rfl
def ac0:Sh:=.a [.i .i64,.i .u8,.i .u32,.i .i64,.i .u8,.i .u32,.i .i64,.i .u8,.i .u32]
def sSv (L:Int->Int->Int) (H:Int->Int->Int->Int):aK:=a8 [ac0] none fun
 | [.n a,.n b,.n c,.n d,.n e,.n f,.n g,.n h,.n i]=>.a [.n .i64 (L a b),.n .i64 (H a b c),.n .i64 (L d e),.n .i64 (H d e f),.n .i64 (L g h),.n .i64 (H g h i)]
 | _=>.u []
theorem XY:PureOk Tryz.prog 19 (sSv smL smH):=by
 refine bp (fun xs hk _=>?_) ⟨_,Tryz.func19,rfl⟩
 obtain ⟨a,_,rfl,h1⟩:=kn hk; obtain ⟨b,_,rfl,h2⟩:=kn h1; obtain ⟨c,_,rfl,h3⟩:=kn h2
 obtain ⟨d,_,rfl,h4⟩:=kn h3; obtain ⟨e,_,rfl,h5⟩:=kn h4; obtain ⟨f,_,rfl,h6⟩:=kn h5
 obtain ⟨g,_,rfl,h7⟩:=kn h6; obtain ⟨h,_,rfl,h8⟩:=kn h7; obtain ⟨i,_,rfl,h9⟩:=kn h8; obtain rfl:=k0 h9
 exact ⟨cSv smL smH,900,_,XX,rfl,fun _=>rfl,rfl,Sx smL smH a b c d e f g h i,⟨⟨⟨rfl,rfl,rfl⟩,rfl,rfl,rfl⟩,rfl,rfl,rfl⟩⟩
structure PdF where
 mv:Mat->Mat->Mat
 mo:Mat->Mat->Int
 ck:Mat->Int
 tv:Mat->Ve->Ve
 te:Mat->Ve->Int
 bv:Mat->Ve->Ve
 be:Mat->Ve->Int
 rv:Int->Int->Int->Mat
 sl:Int->Int->Int
 sh:Int->Int->Int->Int
def DT (F:PdF):List (FuncId×aK):=[(7,Nn),(15,sMM F.mv F.mo),(16,sMM F.mv F.mo),(17,sMC F.ck),(18,sMC F.ck),(20,sMV F.tv F.te),(21,sMV F.tv F.te),(22,sMV F.bv F.be),(23,sMV F.bv F.be),(14,sDr F.rv),(19,sSv F.sl F.sh)]
def pdF:PdF:=⟨mulV mf0,mN mf0,ckM mf0,tuV mf0,tuO mf0,fun m=>tuV mf0 (ax m),fun m=>tuO mf0 (ax m),jN,smL,smH⟩
theorem HS:fA Tryz.prog (DT pdF):=by
 intro x hx
 simp only [DT,List.mem_cons,List.not_mem_nil,or_false] at hx
 rcases hx with rfl|rfl|rfl|rfl|rfl|rfl|rfl|rfl|rfl|rfl|rfl
 .exact Np
 .exact EY
 .exact AR
 .exact wh
 .exact GK
 .exact uC
 .exact J2
 .exact AQ
 .exact J3
 .exact Sv
 .exact XY
def cPd (F:PdF):Ctx:=aP (mkC Tryz.prog (DT F) ext) (hZ [(75,.bool false false),(130,.bool false false)])
theorem XZ:CtxOk (cPd pdF):=aj (ct aM HS cB) _
end
end Go.Proofs.YtmnhhlnbfkfkaaaGreat.K
