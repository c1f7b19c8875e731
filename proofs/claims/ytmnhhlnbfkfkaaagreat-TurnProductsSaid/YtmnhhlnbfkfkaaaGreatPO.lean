/- What is proved: TurnProducts returns true, whatever the input (part 15). No conditions beyond those of the row. -/
import Derived.Test.YtmnhhlnbfkfkaaaGreatPG
import Derived.Test.YtmnhhlnbfkfkaaaGreatPI
import Derived.Test.YtmnhhlnbfkfkaaaGreatPN
import Derived.KernelRfl
set_option linter.unusedVariables false
set_option linter.unusedSimpArgs false
set_option linter.unusedSectionVars false
namespace Go.Proofs.YtmnhhlnbfkfkaaaGreat.K
open Go Go.Eng Go.Dg
noncomputable section
def BL (p q:Bool) (a b:List Int):Prop:=(0:Int)=0/\List.replicate (IntKind.i64.wrap ((↑a.length:Int)+(↑b.length:Int))).toNat (0:Int)=prL a b (0:Int) (0:Int)
theorem Mh (p q:Bool) (a b:List Int):fit (poS p q a b) (poS p q a b) (ac (poS p q a b) ((poU a b).S 0)) ([])=some (.p (BL p q a b)):=by kernel_rfl
def BM (p q:Bool) (a b:List Int) (i:Int):Prop:=(0:Int)=0/\prL a b i (0:Int)=prL a b i (0:Int)
theorem Mi (p q:Bool) (a b:List Int) (i:Int):fit (pmS p q a b i) (pmS p q a b i) (ac (pmS p q a b i) ((pmU a b i).S 0)) ([])=some (.p (BM p q a b i)):=by kernel_rfl
def BN (p q:Bool) (a b:List Int) (i k:Int):Prop:=(IntKind.i64.wrap (a.getD i.toNat (0:Int)*b.getD k.toNat (0:Int))=IntKind.i64.wrap (a.getD i.toNat (0:Int)*b.getD k.toNat (0:Int))/\IntKind.i64.wrap (i+k)=IntKind.i64.wrap (i+k))/\prL a b i k=prL a b i k
theorem Mj (p q:Bool) (a b:List Int) (i k:Int):fit (piS p q a b i k) (piS p q a b i k) (ac (piS p q a b i k) ((piU a b i k).S (IntKind.i64.wrap (i+k),IntKind.i64.wrap (a.getD i.toNat 0*b.getD k.toNat 0),prL a b i k))) ([])=some (.p (BN p q a b i k)):=by kernel_rfl
def Dy (p q:Bool) (a b:List Int) (i k j n:Int) (d:List Int):Prop:=(decide (n>0)=true->(((0:Int)<=j/\j<IntKind.i64.wrap ((↑a.length:Int)+(↑b.length:Int)))/\((0:Int)+j).toNat<d.length)/\((0:Int)<=j/\j<IntKind.i64.wrap ((↑a.length:Int)+(↑b.length:Int)))/\((0:Int)+j).toNat<d.length)/\((!decide (n>0))=true->d=d/\(piU a b i k).F (j,n,d)=(Ex.exit (4:Nat),piX d))/\(decide (n>0)=true->((IntKind.i64.wrap ((IntKind.i64.wrap (n+d.getD ((0:Int)+j).toNat (0:Int))).tdiv (1000000000:Int))=IntKind.i64.wrap ((IntKind.i64.wrap (n+d.getD j.toNat (0:Int))).tdiv (1000000000:Int))/\IntKind.i64.wrap (j+1)=IntKind.i64.wrap (j+1))/\d.set ((0:Int)+j).toNat ((IntKind.i64.wrap (n+d.getD ((0:Int)+j).toNat (0:Int))).tmod (1000000000:Int))=d.set j.toNat ((IntKind.i64.wrap (n+d.getD j.toNat (0:Int))).tmod (1000000000:Int)))/\(piU a b i k).I ((piU a b i k).next (j,n,d))/\(piU a b i k).μ ((piU a b i k).next (j,n,d))<(piU a b i k).μ (j,n,d)/\(piU a b i k).F ((piU a b i k).next (j,n,d))=(piU a b i k).F (j,n,d))
theorem Rq (p q:Bool) (a b:List Int) (i k j n:Int) (d:List Int):aW (piS p q a b i k) ((piU a b i k).way ((j,n,d))) ((run cL2 300).code kD Mg (ac (piS p q a b i k) ((piU a b i k).S (j,n,d))))=some (.p (Dy p q a b i k j n d)):=by kernel_rfl
def Dz (p q:Bool) (a b:List Int) (i k:Int):Prop:=(decide (k<(↑b.length:Int))=true->(((0:Int)<=i/\i<(↑a.length:Int))/\i.toNat<a.length/\((0:Int)<=k/\k<(↑b.length:Int))/\k.toNat<b.length)/\At (kD) (kD) (Mg) (Mg) (piS p q a b i k) (piS p q a b i k))/\((!decide (k<(↑b.length:Int)))=true->(k=k/\prL a b i k=prL a b i k)/\(pmU a b i).F k=(Ex.exit (2:Nat),pmP a b i k))/\(decide (k<(↑b.length:Int))=true->(IntKind.i64.wrap (k+1)=(pmU a b i).next k/\prL a b i (k+1)=prL a b i ((pmU a b i).next k))/\(pmU a b i).I ((pmU a b i).next k)/\(pmU a b i).μ ((pmU a b i).next k)<(pmU a b i).μ k/\(pmU a b i).F ((pmU a b i).next k)=(pmU a b i).F k)
theorem Rr (p q:Bool) (a b:List Int) (i k:Int):aW (pmS p q a b i) ((pmU a b i).way (k)) ((run (cPi p q a b i k) 300).code kD Dx (ac (pmS p q a b i) ((pmU a b i).S k)))=some (.p (Dz p q a b i k)):=by kernel_rfl
def DA (p q:Bool) (a b:List Int) (i:Int):Prop:=(decide (i<(↑a.length:Int))=true->At (kD) (kD) (Dx) (Dx) (pmS p q a b i) (pmS p q a b i))/\((!decide (i<(↑a.length:Int)))=true->(i=i/\prL a b i (0:Int)=prL a b i (0:Int))/\(poU a b).F i=(Ex.exit (0:Nat),poP a b i))/\(decide (i<(↑a.length:Int))=true->(IntKind.i64.wrap (i+1)=(poU a b).next i/\prL a b i (↑b.length:Int)=prL a b ((poU a b).next i) (0:Int))/\(poU a b).I ((poU a b).next i)/\(poU a b).μ ((poU a b).next i)<(poU a b).μ i/\(poU a b).F ((poU a b).next i)=(poU a b).F i)
theorem Rs (p q:Bool) (a b:List Int) (i:Int):aW (poS p q a b) ((poU a b).way (i)) ((run (cPm p q a b i) 300).code kD Dw (ac (poS p q a b) ((poU a b).S i)))=some (.p (DA p q a b i)):=by kernel_rfl
def Rt (p q:Bool) (a b:List Int):Prop:=((IntKind.i64.wrap ((↑a.length:Int)+(↑b.length:Int))=IntKind.i64.wrap ((↑a.length:Int)+(↑b.length:Int))/\(0:Int)<=IntKind.i64.wrap ((↑a.length:Int)+(↑b.length:Int))/\IntKind.i64.wrap ((↑a.length:Int)+(↑b.length:Int))<=1048576)/\At (kD) (kD) (Dw) (Dw) (poS p q a b) (poS p q a b)/\((0:Int)<=0/\(0:Int)<=IntKind.i64.wrap ((↑a.length:Int)+(↑b.length:Int))/\(0:Int)+IntKind.i64.wrap ((↑a.length:Int)+(↑b.length:Int))<=(↑(prL a b (↑a.length:Int) (0:Int)).length:Int))/\Dig (List.take (IntKind.i64.wrap ((↑a.length:Int)+(↑b.length:Int))).toNat (List.drop (Int.toNat (0:Int)) (prL a b (↑a.length:Int) (0:Int))))/\Sm (List.take (IntKind.i64.wrap ((↑a.length:Int)+(↑b.length:Int))).toNat (List.drop (Int.toNat (0:Int)) (prL a b (↑a.length:Int) (0:Int)))))
def WD (p q:Bool) (a b:List Int):AV:=(AV.agg [AV.bool true (!p==q&&decide (val (List.take (IntKind.i64.wrap ((↑a.length:Int)+(↑b.length:Int))).toNat (List.drop (Int.toNat (0:Int)) (prL a b (↑a.length:Int) (0:Int))))≠0)),AV.islice true 2 (0:Int) (↑(aa (val (List.take (IntKind.i64.wrap ((↑a.length:Int)+(↑b.length:Int))).toNat (List.drop (Int.toNat (0:Int)) (prL a b (↑a.length:Int) (0:Int))))).toNat).length:Int)])
def WE (p q:Bool) (a b:List Int):Hp:=⟨[{ wr:=24,body:=ABody.ints IntKind.i64 (aa (val (List.take (IntKind.i64.wrap ((↑a.length:Int)+(↑b.length:Int))).toNat (List.drop (Int.toNat (0:Int)) (prL a b (↑a.length:Int) (0:Int))))).toNat) },{ wr:=(0:Nat),body:=ABody.rows IntKind.i64 b },{ wr:=(0:Nat),body:=ABody.rows IntKind.i64 a }],3,25⟩
theorem ach (p q:Bool) (a b:List Int):(run (cPo p q a b) 300).call 52 (c7 p q a b) (leH a b)=some ⟨.p (Rt p q a b),[⟨.tt,WD p q a b,WE p q a b⟩]⟩:=by kernel_rfl
def cHf (t:Nat):Ctx:=aP cL2 (eP [(t,.bool false false)])
theorem yE (t:Nat):CtxOk (cHf t):=aj fo _
def Hj (p q:Bool) (a b:List Int) (i k:Int):Prop:=decide (k<(↑b.length:Int))=false/\(true=true->(k=k/\prL a b i k=prL a b i k)/\(pmU a b i).F k=(Ex.exit (2:Nat),pmP a b i k))
theorem WF (p q:Bool) (a b:List Int) (i k:Int):aW (pmS p q a b i) ((pmU a b i).way (k)) ((run (cHf 29) 300).code kD Dx (ac (pmS p q a b i) ((pmU a b i).S k)))=some (.p (Hj p q a b i k)):=by kernel_rfl
def Hk (p q:Bool) (a b:List Int) (i:Int):Prop:=decide (i<(↑a.length:Int))=false/\(true=true->(i=i/\prL a b i (0:Int)=prL a b i (0:Int))/\(poU a b).F i=(Ex.exit (0:Nat),poP a b i))
theorem WG (p q:Bool) (a b:List Int) (i:Int):aW (poS p q a b) ((poU a b).way (i)) ((run (cHf 22) 300).code kD Dw (ac (poS p q a b) ((poU a b).S i)))=some (.p (Hk p q a b i)):=by kernel_rfl
theorem Ru (p q:Bool) {a b:List Int} (ha:Dig a) (hb:Dig b) (sa:Sm a) (sb:Sm b) {i k:Int} (hi:0<=i/\i<a.length) (hk:0<=k/\k<b.length):
  CodeOk cL2 kD (.loop Mg) (piS p q a b i k) ⟨.tt,[⟨.tt,.exit 4,ac (piS p q a b i k) (piX (prL a b i (k+1)))⟩]⟩:=by
 have sa:=sa.le
 have sb:=sb.le
 have g1:=ha.get i.toNat
 have g2:=hb.get k.toNat
 have g3:=Int.mul_nonneg g1.1 g2.1
 have g4:a.getD i.toNat 0*b.getD k.toNat 0<=1000000000*1000000000:=Int.mul_le_mul (by omega) (by omega) g2.1 (by decide)
 have e1:IntKind.i64.wrap (i+k)=i+k:=iw (by omega) (by omega)
 have e2:IntKind.i64.wrap (a.getD i.toNat 0*b.getD k.toNat 0)=a.getD i.toNat 0*b.getD k.toNat 0:=iw (by omega) (by omega)
 refine cY (aQ fo 300) (piU a b i k) (y0:=(IntKind.i64.wrap (i+k),IntKind.i64.wrap (a.getD i.toNat 0*b.getD k.toNat 0),prL a b i k)) ?_ ⟨_,Mj p q a b i k,⟨⟨rfl,rfl⟩,rfl⟩⟩ (by kernel_rfl) (fun y hy=>?_) rfl
 .show prI a b i k _ _ _
  rw [e1,e2]; exact GO ha hb hi.1 hk.1
 .obtain ⟨j,n,d⟩:=y
  have hI:prI a b i k j n d:=hy
  obtain ⟨h1,h2,h3,h4,h5,h6⟩:=id hI
  have hg:=h1.get j.toNat
  have e3:IntKind.i64.wrap ((a.length:Int)+b.length)=a.length+b.length:=iw (by omega) (by omega)
  have e4:(0+j).toNat=j.toNat:=by omega
  have e5:IntKind.i64.wrap (n+d.getD j.toNat 0)=n+d.getD j.toNat 0:=iw (by omega) (by omega)
  refine ⟨_,Rq p q a b i k j n d,fun h=>?_,fun h=>⟨rfl,?_⟩,fun h=>?_⟩
  .have h:=dt.1 h
   have:=CU ha hb hI h
   rw [e3,e4]
   exact ⟨⟨⟨h3,by omega⟩,this⟩,⟨h3,by omega⟩,this⟩
  .have h:=ndt.1 h
   show (Ex.exit 4,piX (prL a b i (k+1)))=_
   rw [<- O8 hI h]
  .have h:=dt.1 h
   have hj:=CU ha hb hI h
   have st:=Kp ha hb hI h
   have e6:IntKind.i64.wrap (j+1)=j+1:=iw (by omega) (by omega)
   have e7:IntKind.i64.wrap ((n+d.getD j.toNat 0).tdiv 1000000000)=(n+d.getD j.toNat 0).tdiv 1000000000:=by
    have:=st.2.2.2.2.1
    have:=st.2.2.2.1
    exact iw (by omega) (by omega)
   rw [e4]
   refine ⟨⟨⟨rfl,rfl⟩,rfl⟩,?_,?_,rfl⟩
   .show prI a b i k (IntKind.i64.wrap (j+1)) (IntKind.i64.wrap ((IntKind.i64.wrap (n+d.getD j.toNat 0)).tdiv 1000000000)) (d.set j.toNat ((IntKind.i64.wrap (n+d.getD j.toNat 0)).tmod 1000000000))
    rw [e5,e6,e7]; exact st
   .show (a.length+b.length - IntKind.i64.wrap (j+1)).toNat<(a.length+b.length - j).toNat
    rw [e6]; omega
theorem WH (p q:Bool) {a b:List Int} (ha:Dig a) (hb:Dig b) (sa:Sm a) (sb:Sm b) {i k:Int} (hi:0<=i/\i<a.length) (hk:0<=k/\k<b.length):CtxOk (cPi p q a b i k):=ak fo (Ru p q ha hb sa sb hi hk) (aq fo)
theorem Rv (p q:Bool) {a b:List Int} (ha:Dig a) (hb:Dig b) (sa:Sm a) (sb:Sm b) {i:Int} (hi:0<=i/\i<a.length):
  CodeOk cL2 kD (.loop Dx) (pmS p q a b i) ⟨.tt,[⟨.tt,.exit 2,ac (pmS p q a b i) (pmP a b i b.length)⟩]⟩:=by
 have sb2:=sb.le
 refine cG (pmU a b i) (y0:=0) ⟨by omega,by omega⟩ ⟨_,Mi p q a b i,⟨rfl,rfl⟩⟩ (by kernel_rfl) (fun k hk=>?_) rfl
 obtain ⟨k0,k1⟩:=(show 0<=k/\k<=b.length from hk)
 by_cases hlt:k<b.length
 .refine ⟨cPi p q a b i k,300,WH p q ha hb sa sb hi ⟨k0,hlt⟩,rfl,rfl,_,Rr p q a b i k,fun h=>⟨⟨hi,by omega,⟨k0,hlt⟩,by omega⟩,rfl,rfl,rfl⟩,fun h=>absurd hlt (ndt.1 h),fun h=>?_⟩
  have e:IntKind.i64.wrap (k+1)=k+1:=iw (by omega) (by omega)
  refine ⟨⟨rfl,?_⟩,?_,?_,rfl⟩
  .show prL a b i (k+1)=prL a b i (IntKind.i64.wrap (k+1))
   rw [e]
  .show 0<=IntKind.i64.wrap (k+1)/\IntKind.i64.wrap (k+1)<=b.length
   rw [e]; omega
  .show (b.length - IntKind.i64.wrap (k+1)).toNat<(b.length - k).toNat
   rw [e]; omega
 .obtain rfl:k=b.length:=by omega
  exact ⟨cHf 29,300,yE 29,rfl,rfl,_,WF p q a b i b.length,ndf hlt,fun _=>⟨⟨rfl,rfl⟩,rfl⟩⟩
theorem WI (p q:Bool) {a b:List Int} (ha:Dig a) (hb:Dig b) (sa:Sm a) (sb:Sm b) {i:Int} (hi:0<=i/\i<a.length):CtxOk (cPm p q a b i):=ak fo (Rv p q ha hb sa sb hi) (aq fo)
theorem Rw (p q:Bool) {a b:List Int} (ha:Dig a) (hb:Dig b) (sa:Sm a) (sb:Sm b):
  CodeOk cL2 kD (.loop Dw) (poS p q a b) ⟨.tt,[⟨.tt,.exit 0,ac (poS p q a b) (poP a b a.length)⟩]⟩:=by
 have sa2:=sa.le
 have sb2:=sb.le
 refine cG (poU a b) (y0:=0) ⟨by omega,by omega⟩ ⟨_,Mh p q a b,⟨rfl,?_⟩⟩ (by kernel_rfl) (fun i hi=>?_) rfl
 .rw [iw (by omega) (by omega),show ((a.length:Int)+b.length).toNat=a.length+b.length by omega,pm]
  unfold prL prV
  simp [val]
 obtain ⟨i0,i1⟩:=(show 0<=i/\i<=a.length from hi)
 by_cases hlt:i<a.length
 .refine ⟨cPm p q a b i,300,WI p q ha hb sa sb ⟨i0,hlt⟩,rfl,rfl,_,Rs p q a b i,fun h=>⟨rfl,rfl,rfl⟩,fun h=>absurd hlt (ndt.1 h),fun h=>?_⟩
  have e:IntKind.i64.wrap (i+1)=i+1:=iw (by omega) (by omega)
  refine ⟨⟨rfl,?_⟩,?_,?_,rfl⟩
  .show prL a b i b.length=prL a b (IntKind.i64.wrap (i+1)) 0
   rw [e]
   unfold prL
   rw [O7 i0]
  .show 0<=IntKind.i64.wrap (i+1)/\IntKind.i64.wrap (i+1)<=a.length
   rw [e]; omega
  .show (a.length - IntKind.i64.wrap (i+1)).toNat<(a.length - i).toNat
   rw [e]; omega
 .obtain rfl:i=a.length:=by omega
  exact ⟨cHf 22,300,yE 22,rfl,rfl,_,WG p q a b a.length,ndf hlt,fun _=>⟨⟨rfl,rfl⟩,rfl⟩⟩
theorem WJ (p q:Bool) {a b:List Int} (ha:Dig a) (hb:Dig b) (sa:Sm a) (sb:Sm b):CtxOk (cPo p q a b):=ak fo (Rw p q ha hb sa sb) (aq fo)
def Rx:List Nu->List (List Int)->Option (Prop×To)
 | [.t p,.t q],[a,b]=>some (okL p a/\okL q b/\a.length+b.length<=500000,lgT false (zv p a*zv q b))
 | _,_=>none
theorem Ry {a b:List Int} (ha:Dig a) (hb:Dig b):(prL a b a.length 0).length=a.length+b.length/\Dig (prL a b a.length 0)/\val (prL a b a.length 0)=val a*val b:=by
 have h:=CT ha hb a.length 0
 refine ⟨a6 _ _,c5 _ _,?_⟩
 unfold prL
 rw [dw h.1 h.2]
 unfold prV
 rw [show ((a.length:Int)).toNat=a.length by omega,List.take_length,show (0:Int).toNat=0 from rfl]
 simp [val]
theorem Fv:NOk Tryz.prog (fun _=>none) hG0 52 (au hG0 .i64 [.st [.nu .b,.li],.st [.nu .b,.li]] Rx):=by
 refine bg (fun xs ys p t e h=>?_) ⟨_,Tryz.func52,rfl⟩
 unfold Rx at e
 split at e
 .rename_i p q a b
  cases e
  obtain ⟨ha,hb,hl⟩:=h
  obtain ⟨l1,l2,l3⟩:=Ry ha.1 hb.1
  have e1:IntKind.i64.wrap ((a.length:Int)+b.length)=a.length+b.length:=iw (by omega) (by omega)
  have e2:List.take (IntKind.i64.wrap ((a.length:Int)+b.length)).toNat (List.drop (Int.toNat 0) (prL a b a.length 0))=prL a b a.length 0:=by
   rw [e1,show ((a.length:Int)+b.length).toNat=(prL a b a.length 0).length by omega,show (Int.toNat 0)=0 from rfl,List.drop_zero,List.take_length]
  have v0:=Int.mul_nonneg (af ha.1) (af hb.1)
  have hz:zv p a*zv q b=bif (!p==q) then -(val a*val b) else val a*val b:=by
   cases p <;> cases q <;> simp [zv,Int.neg_mul,Int.mul_neg]
  refine ⟨cPo p q a b,300,c7 p q a b,_,_,_,_,_,WJ p q ha.1 hb.1 ha.2.2.2 hb.2.2.2,rfl,rfl,⟨⟨rfl,rfl,trivial⟩,⟨rfl,rfl,trivial⟩,trivial⟩,ach p q a b,rfl,⟨⟨rfl,by omega,by omega⟩,⟨rfl,rfl,rfl⟩,by omega,by rw [e2]; exact l2,?_⟩,rfl,rfl,⟨?_,?_,?_⟩⟩
  .rw [e2]; show _<=500000; omega
  .show (!p==q&&decide (val (List.take (IntKind.i64.wrap ((a.length:Int)+b.length)).toNat (List.drop (Int.toNat 0) (prL a b a.length 0)))≠0))=decide (zv p a*zv q b<0)
   rw [e2,l3]
   exact jl v0 hz
  .exact kK
  .show List.take _ (List.drop _ (aa (val (List.take (IntKind.i64.wrap ((a.length:Int)+b.length)).toNat (List.drop (Int.toNat 0) (prL a b a.length 0)))).toNat))=aa (zv p a*zv q b).natAbs
   rw [e2,td,l3,jm v0 hz]
 .cases e
def yF:AFr:=⟨82,none⟩
def paA:Code:=bJ Tryz.prog 82 0
noncomputable def paS (p q:Bool) (a b:List Int):St:=ib cL2 300 82 (c7 p q a b) (leH a b)
def paP (a b:List Int):Option Int->Patch
 | none=>⟨(8,.int true .i64 (a.length - 1)) :: (9,.any false) :: aC 18 24,[(6,.ints .i64 (paQ a b (a.length - 1)))],[]⟩
 | some i=>⟨(7,.islice true 7 0 (paR a b i).length) :: (8,.int true .i64 i) :: (9,.any false) :: aC 18 24,[(6,.ints .i64 (paQ a b i))],[.ints .i64 (paR a b i)]⟩
def ej:AFr:=⟨106,none⟩
def tkA:Code:=bJ Tryz.prog 106 0
def tkB:Code:=bJ Tryz.prog 106 1
def tkR (x:Int):Option (List Int)->List Int
 | none=>aa (val [x]).toNat
 | some r=>aa (val (List.take ((↑(1:Nat):Int)+(↑r.length:Int)).toNat (List.drop (Int.toNat 0) ([x]++List.take (↑r.length:Int).toNat (List.drop (Int.toNat 0) r))))).toNat
def tkT (id:Nat) (R b:List Int):List AT:=
 [⟨0,.islice true id 0 R.length⟩,⟨0,.lslice 1 b.length⟩,⟨0,.tuple []⟩,⟨0,.tuple []⟩,⟨41,.nilslice⟩,⟨42,.int false .i64 0⟩,⟨43,.int false .i64 0⟩]++IP 70
def tkS (p q:Bool) (a b:List Int) (i x:Int) (R:List Int):Option (List Int)->St
 | none=>⟨tkT 8 R b,[],⟨[⟨37,.ints .i64 R⟩,⟨30,.cells [.int true .i64 x]⟩,⟨18,.ints .i64 (paQ a b i)⟩,⟨6,.cells [.bool false false,.nilslice]⟩,⟨5,.cells [.bool false false,.nilslice]⟩,⟨4,.cells [.bool true q,.lslice 1 b.length]⟩,⟨3,.cells [.bool true p,.lslice 0 a.length]⟩,⟨0,.rows .i64 b⟩,⟨0,.rows .i64 a⟩],9,44⟩⟩
 | some r=>⟨tkT 10 R b,[],⟨[⟨37,.ints .i64 R⟩,⟨30,.ints .i64 ([x]++List.take (↑r.length:Int).toNat (List.drop (Int.toNat 0) r))⟩,⟨30,.dead⟩,⟨18,.ints .i64 r⟩,⟨18,.ints .i64 (paQ a b i)⟩,⟨6,.cells [.bool false false,.nilslice]⟩,⟨5,.cells [.bool false false,.nilslice]⟩,⟨4,.cells [.bool true q,.lslice 1 b.length]⟩,⟨3,.cells [.bool true p,.lslice 0 a.length]⟩,⟨0,.rows .i64 b⟩,⟨0,.rows .i64 a⟩],11,44⟩⟩
def tkP (w:Bool):Option (Int×Int)->Patch
 | none=>⟨(6,.int true .i64 0) :: aC 7 68,[],[]⟩
 | some (r,n)=>match w with
  | false=>⟨(0,.islice true 9 0 (aa r.toNat).length) :: (6,.int true .i64 n) :: aC 7 68,[(8,.dead)],[.ints .i64 (aa r.toNat)]⟩
  | true=>⟨(0,.islice true 11 0 (aa r.toNat).length) :: (6,.int true .i64 n) :: aC 7 68,[(10,.dead)],[.ints .i64 (aa r.toNat)]⟩
def cTh:Ctx:=aP cL2 (eP [(15,.bool false true)])
theorem Mk:CtxOk cTh:=aj fo _
noncomputable def tiS (p q:Bool) (a b:List Int) (i x:Int) (R:List Int) (o:Option (List Int)) (y:Option (Int×Int)):St:=N5 cTh 300 ej tkA (ac (tkS p q a b i x R o) (tkP o.isSome y))
def ZA (w:Bool) (y:Option (Int×Int)):Nat:=match w with
 | false=>(match y with|none=>8|some _=>9)
 | true=>(match y with|none=>10|some _=>11)
def tkD (R:List Int):Option (Int×Int)->List Int
 | none=>R
 | some (r,_)=>aa r.toNat
def tjP (id:Nat) (j c:Int) (d:List Int):Patch:=⟨(9,.int true .i64 c) :: (10,.int true .i64 j) :: (11,.any false) :: aC 40 32,[(id,.ints .i64 d)],[]⟩
def tjF (id:Nat) (d:List Int):Patch:=⟨(9,.any false) :: (10,.any false) :: (11,.any false) :: aC 40 32,[(id,.ints .i64 d)],[]⟩
def gX (b:List Int) (k j c:Int) (d:List Int):Int:=IntKind.i64.wrap (IntKind.i64.wrap (d.getD (0+j).toNat 0 - IntKind.i64.wrap ((bif decide (j<b.length) then b.getD j.toNat 0 else 0)*k))+c)
def tjU (id:Nat) (D b:List Int):SumL (Int×Int×List Int):=
 {
  S:=fun (j,c,d)=>tjP id j c d
  I:=fun (j,c,d)=>tjI D b (tkK D b) j c d
  μ:=fun (j,_,_)=>(D.length - j).toNat
  F:=fun _=>(.exit 2,tjF id (aG D.length (val D - tkK D b*val b)))
  next:=fun (j,c,d)=>(IntKind.i64.wrap (j+1),tjC (gX b (tkK D b) j c d),d.set (0+j).toNat (tjR (gX b (tkK D b) j c d)))
  ids:=fun _=>[]
  X:=fun (_,_,d) _=>some (tjF id d,[]) }
noncomputable def cTi (p q:Bool) (a b:List Int) (i x:Int) (R:List Int) (o:Option (List Int)) (y:Option (Int×Int)):Ctx:=
 aw cTh [aR 106 (tiS p q a b i x R o y).hp.clock ej tkB (tiS p q a b i x R o y) (.exit 2) (tjF (ZA o.isSome y) (aG (tkD R y).length (val (tkD R y) - tkK (tkD R y) b*val b)))]
def cTe:Ctx:=aP cL2 (eP [(15,.bool false false)])
theorem yG:CtxOk cTe:=aj fo _
def tkE (R b:List Int) (lt:Bool):Option (Int×Int):=match lt with
 | true=>none
 | false=>some (val R % val b,val R / val b)
def tkU (w lt:Bool) (R b:List Int):SumL (Option (Int×Int)):=
 {
  S:=tkP w
  I:=fun y=>match y with
   | none=>True
   | some (r,n)=>0<=r/\0<=n/\r+n*val b=val R/\lt=false
  μ:=fun y=>match y with
   | none=>(val R).toNat+1
   | some (r,_)=>r.toNat
  F:=fun _=>(.exit 0,tkP w (tkE R b lt))
  next:=fun y=>match y with
   | none=>some (val R - tkK R b*val b,IntKind.i64.wrap (0+tkK R b))
   | some (r,n)=>some (r - tkK (aa r.toNat) b*val b,IntKind.i64.wrap (n+tkK (aa r.toNat) b))
  ids:=fun y=>match w with
   | false=>(match y with|none=>[9]|some _=>[10])
   | true=>(match y with|none=>[11]|some _=>[12])
  X:=fun y _=>some (tkP w y,match w with
   | false=>(match y with|none=>[]|some _=>[9])
   | true=>(match y with|none=>[]|some _=>[11])) }
def Hl (p q:Bool) (a b:List Int) (i x:Int) (R:List Int):Prop:=((0:Int)=0/\(0:Int)=0)/\R=R
theorem WK (p q:Bool) (a b:List Int) (i x:Int) (R:List Int):fit (tiS p q a b i x R none none) (tiS p q a b i x R none none) (ac (tiS p q a b i x R none none) ((tjU 8 R b).S (0,0,R))) ([])=some (.p (Hl p q a b i x R)):=by kernel_rfl
def Hm (p q:Bool) (a b:List Int) (i x:Int) (R:List Int) (j c:Int) (d:List Int):Prop:=(decide (j<(↑R.length:Int))=true->(((0:Int)<=j/\j<(↑R.length:Int))/\((0:Int)+j).toNat<d.length/\(decide (j<(↑b.length:Int))=true->((0:Int)<=j/\j<(↑b.length:Int))/\j.toNat<b.length)/\((0:Int)+j).toNat<d.length/\d.getD ((0:Int)+j).toNat (0:Int)=d.getD ((0:Int)+j).toNat (0:Int))/\((0:Int)<=j/\j<(↑R.length:Int))/\((0:Int)+j).toNat<d.length)/\((!decide (j<(↑R.length:Int)))=true->d=d/\(tjU (8:Nat) R b).F (j,c,d)=(Ex.exit (2:Nat),tjF (8:Nat) d))/\(decide (j<(↑R.length:Int))=true->(((tjC (gX b (tkK R b) j c d))=tjC (gX b (tkK R b) j c d)/\IntKind.i64.wrap (j+1)=IntKind.i64.wrap (j+1))/\d.set ((0:Int)+j).toNat (tjR (gX b (tkK R b) j c d))=d.set ((0:Int)+j).toNat (tjR (gX b (tkK R b) j c d)))/\(tjU (8:Nat) R b).I ((tjU (8:Nat) R b).next (j,c,d))/\(tjU (8:Nat) R b).μ ((tjU (8:Nat) R b).next (j,c,d))<(tjU (8:Nat) R b).μ (j,c,d)/\(tjU (8:Nat) R b).F ((tjU (8:Nat) R b).next (j,c,d))=(tjU (8:Nat) R b).F (j,c,d))
theorem WL (p q:Bool) (a b:List Int) (i x:Int) (R:List Int) (j c:Int) (d:List Int):aW (tiS p q a b i x R none none) ((tjU 8 R b).way ((j,c,d))) ((run cL2 300).code ej tkB (ac (tiS p q a b i x R none none) ((tjU 8 R b).S (j,c,d))))=some (.p (Hm p q a b i x R j c d)):=by kernel_rfl
def Hn (lt:Bool) (p q:Bool) (a b:List Int) (i x:Int) (R:List Int):Prop:=((((((0:Int)<=0/\(0:Int)<=(↑R.length:Int)/\(0:Int)+(↑R.length:Int)<=(↑R.length:Int))/\(↑b.length:Int)=(↑b.length:Int))/\Sm (List.take (↑R.length:Int).toNat (List.drop (Int.toNat (0:Int)) R))/\Sm b)/\(!cz (List.take (↑R.length:Int).toNat (List.drop (Int.toNat (0:Int)) R)) b)=true)/\(((0:Int)<=IntKind.i64.wrap ((↑b.length:Int) - (1:Int))/\IntKind.i64.wrap ((↑b.length:Int) - (1:Int))<(↑R.length:Int))/\((0:Int)+IntKind.i64.wrap ((↑b.length:Int) - (1:Int))).toNat<R.length/\((0:Int)<=IntKind.i64.wrap ((↑b.length:Int) - (1:Int))/\IntKind.i64.wrap ((↑b.length:Int) - (1:Int))<(↑b.length:Int))/\(IntKind.i64.wrap ((↑b.length:Int) - (1:Int))).toNat<b.length/\(decide (IntKind.i64.wrap (IntKind.i64.wrap ((↑b.length:Int) - (1:Int))+1)<(↑R.length:Int))=true->((0:Int)<=IntKind.i64.wrap (IntKind.i64.wrap ((↑b.length:Int) - (1:Int))+1)/\IntKind.i64.wrap (IntKind.i64.wrap ((↑b.length:Int) - (1:Int))+1)<(↑R.length:Int))/\((0:Int)+IntKind.i64.wrap (IntKind.i64.wrap ((↑b.length:Int) - (1:Int))+1)).toNat<R.length)/\(((IntKind.i64.wrap ((↑b.length:Int) - (1:Int))).toNat<b.length/\b.getD (IntKind.i64.wrap ((↑b.length:Int) - (1:Int))).toNat (0:Int)=b.getD (IntKind.i64.wrap ((↑b.length:Int) - (1:Int))).toNat (0:Int))/\((0:Int)+IntKind.i64.wrap ((↑b.length:Int) - (1:Int))).toNat<R.length/\R.getD ((0:Int)+IntKind.i64.wrap ((↑b.length:Int) - (1:Int))).toNat (0:Int)=R.getD ((0:Int)+IntKind.i64.wrap ((↑b.length:Int) - (1:Int))).toNat (0:Int))/\IntKind.i64.wrap (b.getD (IntKind.i64.wrap ((↑b.length:Int) - (1:Int))).toNat (0:Int)+1)≠0)/\At (ej) (ej) (tkB) (tkB) (tiS p q a b i x R none none) (tiS p q a b i x R none none)/\((0:Int)<=0/\(0:Int)<=(↑R.length:Int)/\(0:Int)+(↑R.length:Int)<=(↑(aG (tkD R none).length (val (tkD R none) - tkK (tkD R none) b*val b)).length:Int))/\Dig (List.take (↑R.length:Int).toNat (List.drop (Int.toNat (0:Int)) (aG (tkD R none).length (val (tkD R none) - tkK (tkD R none) b*val b))))/\Sm (List.take (↑R.length:Int).toNat (List.drop (Int.toNat (0:Int)) (aG (tkD R none).length (val (tkD R none) - tkK (tkD R none) b*val b)))))/\(true=true->((((0:Int)=0/\(↑(aa (val (List.take (↑R.length:Int).toNat (List.drop (Int.toNat (0:Int)) (aG (tkD R none).length (val (tkD R none) - tkK (tkD R none) b*val b))))).toNat).length:Int)=(↑(aa (val R - tkK R b*val b).toNat).length:Int))/\IntKind.i64.wrap ((0:Int)+tkK R b)=IntKind.i64.wrap ((0:Int)+tkK R b))/\aa (val (List.take (↑R.length:Int).toNat (List.drop (Int.toNat (0:Int)) (aG (tkD R none).length (val (tkD R none) - tkK (tkD R none) b*val b))))).toNat=aa (val R - tkK R b*val b).toNat)/\(tkU false lt R b).I ((tkU false lt R b).next none)/\(tkU false lt R b).μ ((tkU false lt R b).next none)<(tkU false lt R b).μ none/\(tkU false lt R b).F ((tkU false lt R b).next none)=(tkU false lt R b).F none)
theorem WM (lt:Bool) (p q:Bool) (a b:List Int) (i x:Int) (R:List Int):aW (tkS p q a b i x R none) ((tkU false lt R b).way (none)) ((run (cTi p q a b i x R none none) 300).code ej tkA (ac (tkS p q a b i x R none) ((tkU false lt R b).S none)))=some (.p (Hn lt p q a b i x R)):=by kernel_rfl
def Ho (lt:Bool) (p q:Bool) (a b:List Int) (i x:Int) (R:List Int):Prop:=(((((0:Int)<=0/\(0:Int)<=(↑R.length:Int)/\(0:Int)+(↑R.length:Int)<=(↑R.length:Int))/\(↑b.length:Int)=(↑b.length:Int))/\Sm (List.take (↑R.length:Int).toNat (List.drop (Int.toNat (0:Int)) R))/\Sm b)/\(!cz (List.take (↑R.length:Int).toNat (List.drop (Int.toNat (0:Int)) R)) b)=false)/\(true=true->(0:Int)=0/\(tkU false lt R b).F none=(Ex.exit (0:Nat),tkP false none))
theorem WN (lt:Bool) (p q:Bool) (a b:List Int) (i x:Int) (R:List Int):aW (tkS p q a b i x R none) ((tkU false lt R b).way (none)) ((run cTe 300).code ej tkA (ac (tkS p q a b i x R none) ((tkU false lt R b).S none)))=some (.p (Ho lt p q a b i x R)):=by kernel_rfl
def Hq (p q:Bool) (a b:List Int) (i x:Int) (R:List Int) (r n:Int):Prop:=((0:Int)=0/\(0:Int)=0)/\aa r.toNat=aa r.toNat
theorem WO (p q:Bool) (a b:List Int) (i x:Int) (R:List Int) (r n:Int):fit (tiS p q a b i x R none (some (r,n))) (tiS p q a b i x R none (some (r,n))) (ac (tiS p q a b i x R none (some (r,n))) ((tjU 9 (aa r.toNat) b).S (0,0,(aa r.toNat)))) ([])=some (.p (Hq p q a b i x R r n)):=by kernel_rfl
def Hr (p q:Bool) (a b:List Int) (i x:Int) (R:List Int) (r n:Int) (j c:Int) (d:List Int):Prop:=(decide (j<(↑(aa r.toNat).length:Int))=true->(((0:Int)<=j/\j<(↑(aa r.toNat).length:Int))/\((0:Int)+j).toNat<d.length/\(decide (j<(↑b.length:Int))=true->((0:Int)<=j/\j<(↑b.length:Int))/\j.toNat<b.length)/\((0:Int)+j).toNat<d.length/\d.getD ((0:Int)+j).toNat (0:Int)=d.getD ((0:Int)+j).toNat (0:Int))/\((0:Int)<=j/\j<(↑(aa r.toNat).length:Int))/\((0:Int)+j).toNat<d.length)/\((!decide (j<(↑(aa r.toNat).length:Int)))=true->d=d/\(tjU (9:Nat) (aa r.toNat) b).F (j,c,d)=(Ex.exit (2:Nat),tjF (9:Nat) d))/\(decide (j<(↑(aa r.toNat).length:Int))=true->(((tjC (gX b (tkK (aa r.toNat) b) j c d))=tjC (gX b (tkK (aa r.toNat) b) j c d)/\IntKind.i64.wrap (j+1)=IntKind.i64.wrap (j+1))/\d.set ((0:Int)+j).toNat (tjR (gX b (tkK (aa r.toNat) b) j c d))=d.set ((0:Int)+j).toNat (tjR (gX b (tkK (aa r.toNat) b) j c d)))/\(tjU (9:Nat) (aa r.toNat) b).I ((tjU (9:Nat) (aa r.toNat) b).next (j,c,d))/\(tjU (9:Nat) (aa r.toNat) b).μ ((tjU (9:Nat) (aa r.toNat) b).next (j,c,d))<(tjU (9:Nat) (aa r.toNat) b).μ (j,c,d)/\(tjU (9:Nat) (aa r.toNat) b).F ((tjU (9:Nat) (aa r.toNat) b).next (j,c,d))=(tjU (9:Nat) (aa r.toNat) b).F (j,c,d))
theorem WP (p q:Bool) (a b:List Int) (i x:Int) (R:List Int) (r n:Int) (j c:Int) (d:List Int):aW (tiS p q a b i x R none (some (r,n))) ((tjU 9 (aa r.toNat) b).way ((j,c,d))) ((run cL2 300).code ej tkB (ac (tiS p q a b i x R none (some (r,n))) ((tjU 9 (aa r.toNat) b).S (j,c,d))))=some (.p (Hr p q a b i x R r n j c d)):=by kernel_rfl
def Hs (lt:Bool) (p q:Bool) (a b:List Int) (i x:Int) (R:List Int) (r n:Int):Prop:=((((((0:Int)<=0/\(0:Int)<=(↑(aa r.toNat).length:Int)/\(0:Int)+(↑(aa r.toNat).length:Int)<=(↑(aa r.toNat).length:Int))/\(↑b.length:Int)=(↑b.length:Int))/\Sm (List.take (↑(aa r.toNat).length:Int).toNat (List.drop (Int.toNat (0:Int)) (aa r.toNat)))/\Sm b)/\(!cz (List.take (↑(aa r.toNat).length:Int).toNat (List.drop (Int.toNat (0:Int)) (aa r.toNat))) b)=true)/\(((0:Int)<=IntKind.i64.wrap ((↑b.length:Int) - (1:Int))/\IntKind.i64.wrap ((↑b.length:Int) - (1:Int))<(↑(aa r.toNat).length:Int))/\((0:Int)+IntKind.i64.wrap ((↑b.length:Int) - (1:Int))).toNat<(aa r.toNat).length/\((0:Int)<=IntKind.i64.wrap ((↑b.length:Int) - (1:Int))/\IntKind.i64.wrap ((↑b.length:Int) - (1:Int))<(↑b.length:Int))/\(IntKind.i64.wrap ((↑b.length:Int) - (1:Int))).toNat<b.length/\(decide (IntKind.i64.wrap (IntKind.i64.wrap ((↑b.length:Int) - (1:Int))+1)<(↑(aa r.toNat).length:Int))=true->((0:Int)<=IntKind.i64.wrap (IntKind.i64.wrap ((↑b.length:Int) - (1:Int))+1)/\IntKind.i64.wrap (IntKind.i64.wrap ((↑b.length:Int) - (1:Int))+1)<(↑(aa r.toNat).length:Int))/\((0:Int)+IntKind.i64.wrap (IntKind.i64.wrap ((↑b.length:Int) - (1:Int))+1)).toNat<(aa r.toNat).length)/\(((IntKind.i64.wrap ((↑b.length:Int) - (1:Int))).toNat<b.length/\b.getD (IntKind.i64.wrap ((↑b.length:Int) - (1:Int))).toNat (0:Int)=b.getD (IntKind.i64.wrap ((↑b.length:Int) - (1:Int))).toNat (0:Int))/\((0:Int)+IntKind.i64.wrap ((↑b.length:Int) - (1:Int))).toNat<(aa r.toNat).length/\(aa r.toNat).getD ((0:Int)+IntKind.i64.wrap ((↑b.length:Int) - (1:Int))).toNat (0:Int)=(aa r.toNat).getD ((0:Int)+IntKind.i64.wrap ((↑b.length:Int) - (1:Int))).toNat (0:Int))/\IntKind.i64.wrap (b.getD (IntKind.i64.wrap ((↑b.length:Int) - (1:Int))).toNat (0:Int)+1)≠0)/\At (ej) (ej) (tkB) (tkB) (tiS p q a b i x R none (some (r,n))) (tiS p q a b i x R none (some (r,n)))/\((0:Int)<=0/\(0:Int)<=(↑(aa r.toNat).length:Int)/\(0:Int)+(↑(aa r.toNat).length:Int)<=(↑(aG (tkD R (some (r,n))).length (val (tkD R (some (r,n))) - tkK (tkD R (some (r,n))) b*val b)).length:Int))/\Dig (List.take (↑(aa r.toNat).length:Int).toNat (List.drop (Int.toNat (0:Int)) (aG (tkD R (some (r,n))).length (val (tkD R (some (r,n))) - tkK (tkD R (some (r,n))) b*val b))))/\Sm (List.take (↑(aa r.toNat).length:Int).toNat (List.drop (Int.toNat (0:Int)) (aG (tkD R (some (r,n))).length (val (tkD R (some (r,n))) - tkK (tkD R (some (r,n))) b*val b)))))/\(true=true->((((0:Int)=0/\(↑(aa (val (List.take (↑(aa r.toNat).length:Int).toNat (List.drop (Int.toNat (0:Int)) (aG (tkD R (some (r,n))).length (val (tkD R (some (r,n))) - tkK (tkD R (some (r,n))) b*val b))))).toNat).length:Int)=(↑(aa (r - tkK (aa r.toNat) b*val b).toNat).length:Int))/\IntKind.i64.wrap (n+tkK (aa r.toNat) b)=IntKind.i64.wrap (n+tkK (aa r.toNat) b))/\aa (val (List.take (↑(aa r.toNat).length:Int).toNat (List.drop (Int.toNat (0:Int)) (aG (tkD R (some (r,n))).length (val (tkD R (some (r,n))) - tkK (tkD R (some (r,n))) b*val b))))).toNat=aa (r - tkK (aa r.toNat) b*val b).toNat)/\(tkU false lt R b).I ((tkU false lt R b).next (some (r,n)))/\(tkU false lt R b).μ ((tkU false lt R b).next (some (r,n)))<(tkU false lt R b).μ (some (r,n))/\(tkU false lt R b).F ((tkU false lt R b).next (some (r,n)))=(tkU false lt R b).F (some (r,n)))
theorem WQ (lt:Bool) (p q:Bool) (a b:List Int) (i x:Int) (R:List Int) (r n:Int):aW (tkS p q a b i x R none) ((tkU false lt R b).way ((some (r,n)))) ((run (cTi p q a b i x R none (some (r,n))) 300).code ej tkA (ac (tkS p q a b i x R none) ((tkU false lt R b).S (some (r,n)))))=some (.p (Hs lt p q a b i x R r n)):=by kernel_rfl
def Ht (lt:Bool) (p q:Bool) (a b:List Int) (i x:Int) (R:List Int) (r n:Int):Prop:=(((((0:Int)<=0/\(0:Int)<=(↑(aa r.toNat).length:Int)/\(0:Int)+(↑(aa r.toNat).length:Int)<=(↑(aa r.toNat).length:Int))/\(↑b.length:Int)=(↑b.length:Int))/\Sm (List.take (↑(aa r.toNat).length:Int).toNat (List.drop (Int.toNat (0:Int)) (aa r.toNat)))/\Sm b)/\(!cz (List.take (↑(aa r.toNat).length:Int).toNat (List.drop (Int.toNat (0:Int)) (aa r.toNat))) b)=false)/\(true=true->((((0:Int)=0/\(↑(aa r.toNat).length:Int)=(↑(aa r.toNat).length:Int))/\n=n)/\aa r.toNat=aa r.toNat)/\(tkU false lt R b).F (some (r,n))=(Ex.exit (0:Nat),tkP false (some (r,n))))
theorem WR (lt:Bool) (p q:Bool) (a b:List Int) (i x:Int) (R:List Int) (r n:Int):aW (tkS p q a b i x R none) ((tkU false lt R b).way ((some (r,n)))) ((run cTe 300).code ej tkA (ac (tkS p q a b i x R none) ((tkU false lt R b).S (some (r,n)))))=some (.p (Ht lt p q a b i x R r n)):=by kernel_rfl
def Ml (lt:Bool) (p q:Bool) (a b:List Int) (i x:Int) (R:List Int):Prop:=(0:Int)=0
theorem ZB (lt:Bool) (p q:Bool) (a b:List Int) (i x:Int) (R:List Int):fit (tkS p q a b i x R none) (tkS p q a b i x R none) (ac (tkS p q a b i x R none) ((tkU false lt R b).S none)) ([])=some (.p (Ml lt p q a b i x R)):=by kernel_rfl
def Hu (p q:Bool) (a b:List Int) (i x:Int) (R:List Int) (s:List Int):Prop:=((0:Int)=0/\(0:Int)=0)/\R=R
theorem WS (p q:Bool) (a b:List Int) (i x:Int) (R:List Int) (s:List Int):fit (tiS p q a b i x R (some s) none) (tiS p q a b i x R (some s) none) (ac (tiS p q a b i x R (some s) none) ((tjU 10 R b).S (0,0,R))) ([])=some (.p (Hu p q a b i x R s)):=by kernel_rfl
def Hv (p q:Bool) (a b:List Int) (i x:Int) (R:List Int) (s:List Int) (j c:Int) (d:List Int):Prop:=(decide (j<(↑R.length:Int))=true->(((0:Int)<=j/\j<(↑R.length:Int))/\((0:Int)+j).toNat<d.length/\(decide (j<(↑b.length:Int))=true->((0:Int)<=j/\j<(↑b.length:Int))/\j.toNat<b.length)/\((0:Int)+j).toNat<d.length/\d.getD ((0:Int)+j).toNat (0:Int)=d.getD ((0:Int)+j).toNat (0:Int))/\((0:Int)<=j/\j<(↑R.length:Int))/\((0:Int)+j).toNat<d.length)/\((!decide (j<(↑R.length:Int)))=true->d=d/\(tjU (10:Nat) R b).F (j,c,d)=(Ex.exit (2:Nat),tjF (10:Nat) d))/\(decide (j<(↑R.length:Int))=true->(((tjC (gX b (tkK R b) j c d))=tjC (gX b (tkK R b) j c d)/\IntKind.i64.wrap (j+1)=IntKind.i64.wrap (j+1))/\d.set ((0:Int)+j).toNat (tjR (gX b (tkK R b) j c d))=d.set ((0:Int)+j).toNat (tjR (gX b (tkK R b) j c d)))/\(tjU (10:Nat) R b).I ((tjU (10:Nat) R b).next (j,c,d))/\(tjU (10:Nat) R b).μ ((tjU (10:Nat) R b).next (j,c,d))<(tjU (10:Nat) R b).μ (j,c,d)/\(tjU (10:Nat) R b).F ((tjU (10:Nat) R b).next (j,c,d))=(tjU (10:Nat) R b).F (j,c,d))
theorem WT (p q:Bool) (a b:List Int) (i x:Int) (R:List Int) (s:List Int) (j c:Int) (d:List Int):aW (tiS p q a b i x R (some s) none) ((tjU 10 R b).way ((j,c,d))) ((run cL2 300).code ej tkB (ac (tiS p q a b i x R (some s) none) ((tjU 10 R b).S (j,c,d))))=some (.p (Hv p q a b i x R s j c d)):=by kernel_rfl
def Hw (lt:Bool) (p q:Bool) (a b:List Int) (i x:Int) (R:List Int) (s:List Int):Prop:=((((((0:Int)<=0/\(0:Int)<=(↑R.length:Int)/\(0:Int)+(↑R.length:Int)<=(↑R.length:Int))/\(↑b.length:Int)=(↑b.length:Int))/\Sm (List.take (↑R.length:Int).toNat (List.drop (Int.toNat (0:Int)) R))/\Sm b)/\(!cz (List.take (↑R.length:Int).toNat (List.drop (Int.toNat (0:Int)) R)) b)=true)/\(((0:Int)<=IntKind.i64.wrap ((↑b.length:Int) - (1:Int))/\IntKind.i64.wrap ((↑b.length:Int) - (1:Int))<(↑R.length:Int))/\((0:Int)+IntKind.i64.wrap ((↑b.length:Int) - (1:Int))).toNat<R.length/\((0:Int)<=IntKind.i64.wrap ((↑b.length:Int) - (1:Int))/\IntKind.i64.wrap ((↑b.length:Int) - (1:Int))<(↑b.length:Int))/\(IntKind.i64.wrap ((↑b.length:Int) - (1:Int))).toNat<b.length/\(decide (IntKind.i64.wrap (IntKind.i64.wrap ((↑b.length:Int) - (1:Int))+1)<(↑R.length:Int))=true->((0:Int)<=IntKind.i64.wrap (IntKind.i64.wrap ((↑b.length:Int) - (1:Int))+1)/\IntKind.i64.wrap (IntKind.i64.wrap ((↑b.length:Int) - (1:Int))+1)<(↑R.length:Int))/\((0:Int)+IntKind.i64.wrap (IntKind.i64.wrap ((↑b.length:Int) - (1:Int))+1)).toNat<R.length)/\(((IntKind.i64.wrap ((↑b.length:Int) - (1:Int))).toNat<b.length/\b.getD (IntKind.i64.wrap ((↑b.length:Int) - (1:Int))).toNat (0:Int)=b.getD (IntKind.i64.wrap ((↑b.length:Int) - (1:Int))).toNat (0:Int))/\((0:Int)+IntKind.i64.wrap ((↑b.length:Int) - (1:Int))).toNat<R.length/\R.getD ((0:Int)+IntKind.i64.wrap ((↑b.length:Int) - (1:Int))).toNat (0:Int)=R.getD ((0:Int)+IntKind.i64.wrap ((↑b.length:Int) - (1:Int))).toNat (0:Int))/\IntKind.i64.wrap (b.getD (IntKind.i64.wrap ((↑b.length:Int) - (1:Int))).toNat (0:Int)+1)≠0)/\At (ej) (ej) (tkB) (tkB) (tiS p q a b i x R (some s) none) (tiS p q a b i x R (some s) none)/\((0:Int)<=0/\(0:Int)<=(↑R.length:Int)/\(0:Int)+(↑R.length:Int)<=(↑(aG (tkD R none).length (val (tkD R none) - tkK (tkD R none) b*val b)).length:Int))/\Dig (List.take (↑R.length:Int).toNat (List.drop (Int.toNat (0:Int)) (aG (tkD R none).length (val (tkD R none) - tkK (tkD R none) b*val b))))/\Sm (List.take (↑R.length:Int).toNat (List.drop (Int.toNat (0:Int)) (aG (tkD R none).length (val (tkD R none) - tkK (tkD R none) b*val b)))))/\(true=true->((((0:Int)=0/\(↑(aa (val (List.take (↑R.length:Int).toNat (List.drop (Int.toNat (0:Int)) (aG (tkD R none).length (val (tkD R none) - tkK (tkD R none) b*val b))))).toNat).length:Int)=(↑(aa (val R - tkK R b*val b).toNat).length:Int))/\IntKind.i64.wrap ((0:Int)+tkK R b)=IntKind.i64.wrap ((0:Int)+tkK R b))/\aa (val (List.take (↑R.length:Int).toNat (List.drop (Int.toNat (0:Int)) (aG (tkD R none).length (val (tkD R none) - tkK (tkD R none) b*val b))))).toNat=aa (val R - tkK R b*val b).toNat)/\(tkU true lt R b).I ((tkU true lt R b).next none)/\(tkU true lt R b).μ ((tkU true lt R b).next none)<(tkU true lt R b).μ none/\(tkU true lt R b).F ((tkU true lt R b).next none)=(tkU true lt R b).F none)
theorem WU (lt:Bool) (p q:Bool) (a b:List Int) (i x:Int) (R:List Int) (s:List Int):aW (tkS p q a b i x R (some s)) ((tkU true lt R b).way (none)) ((run (cTi p q a b i x R (some s) none) 300).code ej tkA (ac (tkS p q a b i x R (some s)) ((tkU true lt R b).S none)))=some (.p (Hw lt p q a b i x R s)):=by kernel_rfl
def Hx (lt:Bool) (p q:Bool) (a b:List Int) (i x:Int) (R:List Int) (s:List Int):Prop:=(((((0:Int)<=0/\(0:Int)<=(↑R.length:Int)/\(0:Int)+(↑R.length:Int)<=(↑R.length:Int))/\(↑b.length:Int)=(↑b.length:Int))/\Sm (List.take (↑R.length:Int).toNat (List.drop (Int.toNat (0:Int)) R))/\Sm b)/\(!cz (List.take (↑R.length:Int).toNat (List.drop (Int.toNat (0:Int)) R)) b)=false)/\(true=true->(0:Int)=0/\(tkU true lt R b).F none=(Ex.exit (0:Nat),tkP true none))
theorem WV (lt:Bool) (p q:Bool) (a b:List Int) (i x:Int) (R:List Int) (s:List Int):aW (tkS p q a b i x R (some s)) ((tkU true lt R b).way (none)) ((run cTe 300).code ej tkA (ac (tkS p q a b i x R (some s)) ((tkU true lt R b).S none)))=some (.p (Hx lt p q a b i x R s)):=by kernel_rfl
def Hy (p q:Bool) (a b:List Int) (i x:Int) (R:List Int) (s:List Int) (r n:Int):Prop:=((0:Int)=0/\(0:Int)=0)/\aa r.toNat=aa r.toNat
theorem WX (p q:Bool) (a b:List Int) (i x:Int) (R:List Int) (s:List Int) (r n:Int):fit (tiS p q a b i x R (some s) (some (r,n))) (tiS p q a b i x R (some s) (some (r,n))) (ac (tiS p q a b i x R (some s) (some (r,n))) ((tjU 11 (aa r.toNat) b).S (0,0,(aa r.toNat)))) ([])=some (.p (Hy p q a b i x R s r n)):=by kernel_rfl
def Hz (p q:Bool) (a b:List Int) (i x:Int) (R:List Int) (s:List Int) (r n:Int) (j c:Int) (d:List Int):Prop:=(decide (j<(↑(aa r.toNat).length:Int))=true->(((0:Int)<=j/\j<(↑(aa r.toNat).length:Int))/\((0:Int)+j).toNat<d.length/\(decide (j<(↑b.length:Int))=true->((0:Int)<=j/\j<(↑b.length:Int))/\j.toNat<b.length)/\((0:Int)+j).toNat<d.length/\d.getD ((0:Int)+j).toNat (0:Int)=d.getD ((0:Int)+j).toNat (0:Int))/\((0:Int)<=j/\j<(↑(aa r.toNat).length:Int))/\((0:Int)+j).toNat<d.length)/\((!decide (j<(↑(aa r.toNat).length:Int)))=true->d=d/\(tjU (11:Nat) (aa r.toNat) b).F (j,c,d)=(Ex.exit (2:Nat),tjF (11:Nat) d))/\(decide (j<(↑(aa r.toNat).length:Int))=true->(((tjC (gX b (tkK (aa r.toNat) b) j c d))=tjC (gX b (tkK (aa r.toNat) b) j c d)/\IntKind.i64.wrap (j+1)=IntKind.i64.wrap (j+1))/\d.set ((0:Int)+j).toNat (tjR (gX b (tkK (aa r.toNat) b) j c d))=d.set ((0:Int)+j).toNat (tjR (gX b (tkK (aa r.toNat) b) j c d)))/\(tjU (11:Nat) (aa r.toNat) b).I ((tjU (11:Nat) (aa r.toNat) b).next (j,c,d))/\(tjU (11:Nat) (aa r.toNat) b).μ ((tjU (11:Nat) (aa r.toNat) b).next (j,c,d))<(tjU (11:Nat) (aa r.toNat) b).μ (j,c,d)/\(tjU (11:Nat) (aa r.toNat) b).F ((tjU (11:Nat) (aa r.toNat) b).next (j,c,d))=(tjU (11:Nat) (aa r.toNat) b).F (j,c,d))
theorem WY (p q:Bool) (a b:List Int) (i x:Int) (R:List Int) (s:List Int) (r n:Int) (j c:Int) (d:List Int):aW (tiS p q a b i x R (some s) (some (r,n))) ((tjU 11 (aa r.toNat) b).way ((j,c,d))) ((run cL2 300).code ej tkB (ac (tiS p q a b i x R (some s) (some (r,n))) ((tjU 11 (aa r.toNat) b).S (j,c,d))))=some (.p (Hz p q a b i x R s r n j c d)):=by kernel_rfl
def HA (lt:Bool) (p q:Bool) (a b:List Int) (i x:Int) (R:List Int) (s:List Int) (r n:Int):Prop:=((((((0:Int)<=0/\(0:Int)<=(↑(aa r.toNat).length:Int)/\(0:Int)+(↑(aa r.toNat).length:Int)<=(↑(aa r.toNat).length:Int))/\(↑b.length:Int)=(↑b.length:Int))/\Sm (List.take (↑(aa r.toNat).length:Int).toNat (List.drop (Int.toNat (0:Int)) (aa r.toNat)))/\Sm b)/\(!cz (List.take (↑(aa r.toNat).length:Int).toNat (List.drop (Int.toNat (0:Int)) (aa r.toNat))) b)=true)/\(((0:Int)<=IntKind.i64.wrap ((↑b.length:Int) - (1:Int))/\IntKind.i64.wrap ((↑b.length:Int) - (1:Int))<(↑(aa r.toNat).length:Int))/\((0:Int)+IntKind.i64.wrap ((↑b.length:Int) - (1:Int))).toNat<(aa r.toNat).length/\((0:Int)<=IntKind.i64.wrap ((↑b.length:Int) - (1:Int))/\IntKind.i64.wrap ((↑b.length:Int) - (1:Int))<(↑b.length:Int))/\(IntKind.i64.wrap ((↑b.length:Int) - (1:Int))).toNat<b.length/\(decide (IntKind.i64.wrap (IntKind.i64.wrap ((↑b.length:Int) - (1:Int))+1)<(↑(aa r.toNat).length:Int))=true->((0:Int)<=IntKind.i64.wrap (IntKind.i64.wrap ((↑b.length:Int) - (1:Int))+1)/\IntKind.i64.wrap (IntKind.i64.wrap ((↑b.length:Int) - (1:Int))+1)<(↑(aa r.toNat).length:Int))/\((0:Int)+IntKind.i64.wrap (IntKind.i64.wrap ((↑b.length:Int) - (1:Int))+1)).toNat<(aa r.toNat).length)/\(((IntKind.i64.wrap ((↑b.length:Int) - (1:Int))).toNat<b.length/\b.getD (IntKind.i64.wrap ((↑b.length:Int) - (1:Int))).toNat (0:Int)=b.getD (IntKind.i64.wrap ((↑b.length:Int) - (1:Int))).toNat (0:Int))/\((0:Int)+IntKind.i64.wrap ((↑b.length:Int) - (1:Int))).toNat<(aa r.toNat).length/\(aa r.toNat).getD ((0:Int)+IntKind.i64.wrap ((↑b.length:Int) - (1:Int))).toNat (0:Int)=(aa r.toNat).getD ((0:Int)+IntKind.i64.wrap ((↑b.length:Int) - (1:Int))).toNat (0:Int))/\IntKind.i64.wrap (b.getD (IntKind.i64.wrap ((↑b.length:Int) - (1:Int))).toNat (0:Int)+1)≠0)/\At (ej) (ej) (tkB) (tkB) (tiS p q a b i x R (some s) (some (r,n))) (tiS p q a b i x R (some s) (some (r,n)))/\((0:Int)<=0/\(0:Int)<=(↑(aa r.toNat).length:Int)/\(0:Int)+(↑(aa r.toNat).length:Int)<=(↑(aG (tkD R (some (r,n))).length (val (tkD R (some (r,n))) - tkK (tkD R (some (r,n))) b*val b)).length:Int))/\Dig (List.take (↑(aa r.toNat).length:Int).toNat (List.drop (Int.toNat (0:Int)) (aG (tkD R (some (r,n))).length (val (tkD R (some (r,n))) - tkK (tkD R (some (r,n))) b*val b))))/\Sm (List.take (↑(aa r.toNat).length:Int).toNat (List.drop (Int.toNat (0:Int)) (aG (tkD R (some (r,n))).length (val (tkD R (some (r,n))) - tkK (tkD R (some (r,n))) b*val b)))))/\(true=true->((((0:Int)=0/\(↑(aa (val (List.take (↑(aa r.toNat).length:Int).toNat (List.drop (Int.toNat (0:Int)) (aG (tkD R (some (r,n))).length (val (tkD R (some (r,n))) - tkK (tkD R (some (r,n))) b*val b))))).toNat).length:Int)=(↑(aa (r - tkK (aa r.toNat) b*val b).toNat).length:Int))/\IntKind.i64.wrap (n+tkK (aa r.toNat) b)=IntKind.i64.wrap (n+tkK (aa r.toNat) b))/\aa (val (List.take (↑(aa r.toNat).length:Int).toNat (List.drop (Int.toNat (0:Int)) (aG (tkD R (some (r,n))).length (val (tkD R (some (r,n))) - tkK (tkD R (some (r,n))) b*val b))))).toNat=aa (r - tkK (aa r.toNat) b*val b).toNat)/\(tkU true lt R b).I ((tkU true lt R b).next (some (r,n)))/\(tkU true lt R b).μ ((tkU true lt R b).next (some (r,n)))<(tkU true lt R b).μ (some (r,n))/\(tkU true lt R b).F ((tkU true lt R b).next (some (r,n)))=(tkU true lt R b).F (some (r,n)))
theorem WZ (lt:Bool) (p q:Bool) (a b:List Int) (i x:Int) (R:List Int) (s:List Int) (r n:Int):aW (tkS p q a b i x R (some s)) ((tkU true lt R b).way ((some (r,n)))) ((run (cTi p q a b i x R (some s) (some (r,n))) 300).code ej tkA (ac (tkS p q a b i x R (some s)) ((tkU true lt R b).S (some (r,n)))))=some (.p (HA lt p q a b i x R s r n)):=by kernel_rfl
def HB (lt:Bool) (p q:Bool) (a b:List Int) (i x:Int) (R:List Int) (s:List Int) (r n:Int):Prop:=(((((0:Int)<=0/\(0:Int)<=(↑(aa r.toNat).length:Int)/\(0:Int)+(↑(aa r.toNat).length:Int)<=(↑(aa r.toNat).length:Int))/\(↑b.length:Int)=(↑b.length:Int))/\Sm (List.take (↑(aa r.toNat).length:Int).toNat (List.drop (Int.toNat (0:Int)) (aa r.toNat)))/\Sm b)/\(!cz (List.take (↑(aa r.toNat).length:Int).toNat (List.drop (Int.toNat (0:Int)) (aa r.toNat))) b)=false)/\(true=true->((((0:Int)=0/\(↑(aa r.toNat).length:Int)=(↑(aa r.toNat).length:Int))/\n=n)/\aa r.toNat=aa r.toNat)/\(tkU true lt R b).F (some (r,n))=(Ex.exit (0:Nat),tkP true (some (r,n))))
theorem W4 (lt:Bool) (p q:Bool) (a b:List Int) (i x:Int) (R:List Int) (s:List Int) (r n:Int):aW (tkS p q a b i x R (some s)) ((tkU true lt R b).way ((some (r,n)))) ((run cTe 300).code ej tkA (ac (tkS p q a b i x R (some s)) ((tkU true lt R b).S (some (r,n)))))=some (.p (HB lt p q a b i x R s r n)):=by kernel_rfl
def Mm (lt:Bool) (p q:Bool) (a b:List Int) (i x:Int) (R:List Int) (s:List Int):Prop:=(0:Int)=0
theorem ZC (lt:Bool) (p q:Bool) (a b:List Int) (i x:Int) (R:List Int) (s:List Int):fit (tkS p q a b i x R (some s)) (tkS p q a b i x R (some s)) (ac (tkS p q a b i x R (some s)) ((tkU true lt R b).S none)) ([])=some (.p (Mm lt p q a b i x R s)):=by kernel_rfl
def Tf (id:Nat) (D b:List Int) (j c:Int) (d:List Int):Prop:=(decide (j<(↑D.length:Int))=true->(((0:Int)<=j/\j<(↑D.length:Int))/\((0:Int)+j).toNat<d.length/\(decide (j<(↑b.length:Int))=true->((0:Int)<=j/\j<(↑b.length:Int))/\j.toNat<b.length)/\((0:Int)+j).toNat<d.length/\d.getD ((0:Int)+j).toNat (0:Int)=d.getD ((0:Int)+j).toNat (0:Int))/\((0:Int)<=j/\j<(↑D.length:Int))/\((0:Int)+j).toNat<d.length)/\((!decide (j<(↑D.length:Int)))=true->d=d/\(tjU id D b).F (j,c,d)=(Ex.exit (2:Nat),tjF id d))/\(decide (j<(↑D.length:Int))=true->(((tjC (gX b (tkK D b) j c d))=tjC (gX b (tkK D b) j c d)/\IntKind.i64.wrap (j+1)=IntKind.i64.wrap (j+1))/\d.set ((0:Int)+j).toNat (tjR (gX b (tkK D b) j c d))=d.set ((0:Int)+j).toNat (tjR (gX b (tkK D b) j c d)))/\(tjU id D b).I ((tjU id D b).next (j,c,d))/\(tjU id D b).μ ((tjU id D b).next (j,c,d))<(tjU id D b).μ (j,c,d)/\(tjU id D b).F ((tjU id D b).next (j,c,d))=(tjU id D b).F (j,c,d))
def Mn (D b:List Int):Prop:=(((((0:Int)<=0/\(0:Int)<=(↑D.length:Int)/\(0:Int)+(↑D.length:Int)<=(↑D.length:Int))/\(↑b.length:Int)=(↑b.length:Int))/\Sm (List.take (↑D.length:Int).toNat (List.drop (Int.toNat (0:Int)) D))/\Sm b)/\(!cz (List.take (↑D.length:Int).toNat (List.drop (Int.toNat (0:Int)) D)) b)=true)/\(((0:Int)<=IntKind.i64.wrap ((↑b.length:Int) - (1:Int))/\IntKind.i64.wrap ((↑b.length:Int) - (1:Int))<(↑D.length:Int))/\((0:Int)+IntKind.i64.wrap ((↑b.length:Int) - (1:Int))).toNat<D.length/\((0:Int)<=IntKind.i64.wrap ((↑b.length:Int) - (1:Int))/\IntKind.i64.wrap ((↑b.length:Int) - (1:Int))<(↑b.length:Int))/\(IntKind.i64.wrap ((↑b.length:Int) - (1:Int))).toNat<b.length/\(decide (IntKind.i64.wrap (IntKind.i64.wrap ((↑b.length:Int) - (1:Int))+1)<(↑D.length:Int))=true->((0:Int)<=IntKind.i64.wrap (IntKind.i64.wrap ((↑b.length:Int) - (1:Int))+1)/\IntKind.i64.wrap (IntKind.i64.wrap ((↑b.length:Int) - (1:Int))+1)<(↑D.length:Int))/\((0:Int)+IntKind.i64.wrap (IntKind.i64.wrap ((↑b.length:Int) - (1:Int))+1)).toNat<D.length)/\(((IntKind.i64.wrap ((↑b.length:Int) - (1:Int))).toNat<b.length/\b.getD (IntKind.i64.wrap ((↑b.length:Int) - (1:Int))).toNat (0:Int)=b.getD (IntKind.i64.wrap ((↑b.length:Int) - (1:Int))).toNat (0:Int))/\((0:Int)+IntKind.i64.wrap ((↑b.length:Int) - (1:Int))).toNat<D.length/\D.getD ((0:Int)+IntKind.i64.wrap ((↑b.length:Int) - (1:Int))).toNat (0:Int)=D.getD ((0:Int)+IntKind.i64.wrap ((↑b.length:Int) - (1:Int))).toNat (0:Int))/\IntKind.i64.wrap (b.getD (IntKind.i64.wrap ((↑b.length:Int) - (1:Int))).toNat (0:Int)+1)≠0)
def Mo (D b:List Int):Prop:=((0:Int)<=0/\(0:Int)<=(↑D.length:Int)/\(0:Int)+(↑D.length:Int)<=(↑(aG (D).length (val (D) - tkK (D) b*val b)).length:Int))/\Dig (List.take (↑D.length:Int).toNat (List.drop (Int.toNat (0:Int)) (aG (D).length (val (D) - tkK (D) b*val b))))/\Sm (List.take (↑D.length:Int).toNat (List.drop (Int.toNat (0:Int)) (aG (D).length (val (D) - tkK (D) b*val b))))
def Mp (D b:List Int):Prop:=((((0:Int)<=0/\(0:Int)<=(↑D.length:Int)/\(0:Int)+(↑D.length:Int)<=(↑D.length:Int))/\(↑b.length:Int)=(↑b.length:Int))/\Sm (List.take (↑D.length:Int).toNat (List.drop (Int.toNat (0:Int)) D))/\Sm b)/\(!cz (List.take (↑D.length:Int).toNat (List.drop (Int.toNat (0:Int)) D)) b)=false
structure TkD (D b:List Int):Prop where
 hD:Dig D
 tD:Top D
 sD:D.length<=500000
 hb:Dig b
 tb:Top b
 sb:b.length<=500000
 ne:b≠[]
 lt:val D<1000000000*val b
theorem TkD.spec {D b:List Int} (h:TkD D b) (hge:val b<=val D):1<=tkK D b/\tkK D b<1000000000/\tkK D b*val b<=val D/\b.length<=D.length:=Kq h.hD h.tD h.hb h.tb h.sb h.ne hge h.lt
theorem TkD.pos {D b:List Int} (h:TkD D b):0<val b:=by
 have:=af h.hb
 have:=qx h.hb h.tb h.ne
 omega
theorem Rz (b:List Int) (k j c:Int) (d:List Int):gX b k j c d=tjX b k j c d:=by
 unfold gX tjX
 rw [show (0+j)=j by omega]
theorem RA {id:Nat} {D b:List Int} (h:TkD D b) (hge:val b<=val D) {j c:Int} {d:List Int} (hI:tjI D b (tkK D b) j c d):Tf id D b j c d:=by
 obtain ⟨k1,k2,k3,k4⟩:=h.spec hge
 have hv:=h.pos
 obtain ⟨h1,h2,h3,h4,h5,h6,h7⟩:=_root_.id hI
 have sD:=h.sD
 have e0:(0+j).toNat=j.toNat:=by omega
 refine ⟨fun hj=>?_,fun hj=>⟨rfl,?_⟩,fun hj=>?_⟩
 .have hj:=dt.1 hj
  rw [e0]
  refine ⟨⟨⟨h3,hj⟩,by omega,fun hb=>?_,by omega,rfl⟩,⟨h3,hj⟩,by omega⟩
  have hb:=dt.1 hb
  exact ⟨⟨h3,hb⟩,by omega⟩
 .have hj:=ndt.1 hj
  have:j=D.length:=by omega
  subst this
  show (Ex.exit 2,tjF id (aG D.length (val D - tkK D b*val b)))=_
  rw [<- Pb h.hD k4 k3 (Int.mul_nonneg (by omega) (by omega)) hI]
 .have hj:=dt.1 hj
  have st:=Kr h.hb ⟨by omega,k2⟩ hI hj
  have e1:IntKind.i64.wrap (j+1)=j+1:=iw (by omega) (by omega)
  refine ⟨⟨⟨rfl,rfl⟩,rfl⟩,?_,?_,rfl⟩
  .show tjI D b (tkK D b) (IntKind.i64.wrap (j+1)) (tjC (gX b (tkK D b) j c d)) (d.set (0+j).toNat (tjR (gX b (tkK D b) j c d)))
   rw [e0,e1,Rz]; exact st
  .show (D.length - IntKind.i64.wrap (j+1)).toNat<(D.length - j).toNat
   rw [e1]; omega
theorem RB (p q:Bool) (a:List Int) {b:List Int} (i x:Int) {R:List Int} (o:Option (List Int)) (y:Option (Int×Int)) (h:TkD (tkD R y) b) (hge:val b<=val (tkD R y)):
  CodeOk cTh ej (.loop tkB) (tiS p q a b i x R o y) ⟨.tt,[⟨.tt,.exit 2,ac (tiS p q a b i x R o y) (tjF (ZA o.isSome y) (aG (tkD R y).length (val (tkD R y) - tkK (tkD R y) b*val b)))⟩]⟩:=by
 have key:∀ (id:Nat),(gS (fit (tiS p q a b i x R o y) (tiS p q a b i x R o y) (ac (tiS p q a b i x R o y) ((tjU id (tkD R y) b).S (0,0,tkD R y))) []))->dU (tiS p q a b i x R o y).hp ((tjU id (tkD R y) b).S (0,0,tkD R y)).old=true ->
   (∀ j c d,aW (tiS p q a b i x R o y) ((tjU id (tkD R y) b).way (j,c,d)) ((run cL2 300).code ej tkB (ac (tiS p q a b i x R o y) ((tjU id (tkD R y) b).S (j,c,d))))=some (.p (Tf id (tkD R y) b j c d))) ->
   CodeOk cTh ej (.loop tkB) (tiS p q a b i x R o y) ⟨.tt,[⟨.tt,.exit 2,ac (tiS p q a b i x R o y) (tjF id (aG (tkD R y).length (val (tkD R y) - tkK (tkD R y) b*val b)))⟩]⟩:=by
  intro id h1 h2 h3
  exact cG (tjU id (tkD R y) b) (y0:=(0,0,tkD R y)) (GP h.hD) h1 h2 (fun z hz=>by
   obtain ⟨j,c,d⟩:=z
   exact ⟨cL2,300,fo,rfl,rfl,_,h3 j c d,RA h hge hz⟩) rfl
 cases o with
 | none=>cases y with
  | none=>exact key 8 ⟨_,WK p q a b i x R,⟨⟨rfl,rfl⟩,rfl⟩⟩ (by kernel_rfl) (fun j c d=>WL p q a b i x R j c d)
  | some y=>exact key 9 ⟨_,WO p q a b i x R y.1 y.2,⟨⟨rfl,rfl⟩,rfl⟩⟩ (by kernel_rfl) (fun j c d=>WP p q a b i x R y.1 y.2 j c d)
 | some s=>cases y with
  | none=>exact key 10 ⟨_,WS p q a b i x R s,⟨⟨rfl,rfl⟩,rfl⟩⟩ (by kernel_rfl) (fun j c d=>WT p q a b i x R s j c d)
  | some y=>exact key 11 ⟨_,WX p q a b i x R s y.1 y.2,⟨⟨rfl,rfl⟩,rfl⟩⟩ (by kernel_rfl) (fun j c d=>WY p q a b i x R s y.1 y.2 j c d)
theorem yH (p q:Bool) (a:List Int) {b:List Int} (i x:Int) {R:List Int} (o:Option (List Int)) (y:Option (Int×Int)) (h:TkD (tkD R y) b) (hge:val b<=val (tkD R y)):CtxOk (cTi p q a b i x R o y):=
 ak Mk (RB p q a i x o y h hge) (aq Mk)
theorem ZD {D b:List Int} (h:TkD D b) (hge:val b<=val D):cz D b=false:=by
 cases e:cz D b with
 | false=>rfl
 | true=>have:=(gC h.hD h.hb h.tD h.tb).1 e; omega
theorem gY {D b:List Int} (h:TkD D b) (hge:val b<=val D):Mn D b:=by
 obtain ⟨k1,k2,k3,k4⟩:=h.spec hge
 have sD:=h.sD
 have sb:=h.sb
 have hp:=List.length_pos_iff.2 h.ne
 have e1:IntKind.i64.wrap ((b.length:Int) - 1)=b.length - 1:=iw (by omega) (by omega)
 have e2:IntKind.i64.wrap ((b.length:Int) - 1+1)=b.length:=by rw [iw (by omega) (by omega)]; omega
 have g:=h.hb.get (b.length - 1)
 have e3:IntKind.i64.wrap (b.getD (b.length - 1) 0+1)=b.getD (b.length - 1) 0+1:=iw (by omega) (by omega)
 unfold Mn
 rw [td,e1,e2,show (0+((b.length:Int) - 1)).toNat=b.length - 1 by omega,show ((b.length:Int) - 1).toNat=b.length - 1 by omega,show (0+(b.length:Int)).toNat=b.length by omega,e3]
 refine ⟨⟨⟨⟨kK,rfl⟩,h.sD,h.sb⟩,by rw [ZD h hge]; rfl⟩,⟨by omega,by omega⟩,by omega,⟨by omega,by omega⟩,by omega,fun hlt=>?_,⟨⟨by omega,rfl⟩,by omega,rfl⟩,by omega⟩
 have:=dt.1 hlt
 exact ⟨⟨by omega,this⟩,by omega⟩
theorem Mq {D b:List Int} (h:TkD D b) (hge:val b<=val D):List.take (D.length:Int).toNat (List.drop (Int.toNat 0) (aG D.length (val D - tkK D b*val b)))=aG D.length (val D - tkK D b*val b)/\val (aG D.length (val D - tkK D b*val b))=val D - tkK D b*val b:=by
 obtain ⟨k1,k2,k3,k4⟩:=h.spec hge
 have hv:=h.pos
 have:=bc h.hD
 have m:=Int.mul_nonneg (show 0<=tkK D b by omega) (show 0<=val b by omega)
 have e:=td (aG D.length (val D - tkK D b*val b))
 rw [a6] at e
 exact ⟨e,dw (by omega) (by omega)⟩
theorem pF {D b:List Int} (h:TkD D b) (hge:val b<=val D):Mo D b:=by
 obtain ⟨e1,e2⟩:=Mq h hge
 have sD:=h.sD
 unfold Mo
 rw [e1]
 exact ⟨by rw [a6]; omega,c5 _ _,by show _<=500000; rw [a6]; exact sD⟩
theorem pG {D b:List Int} (h:TkD D b) (hlt:val D<val b):Mp D b:=by
 unfold Mp
 rw [td]
 exact ⟨⟨⟨kK,rfl⟩,h.sD,h.sb⟩,by rw [(gC h.hD h.hb h.tD h.tb).2 hlt]; rfl⟩
theorem DB {R b:List Int} (h:TkD R b):∀ {y:Option (Int×Int)} {w lt:Bool},(tkU w lt R b).I y->TkD (tkD R y) b
 | none,_,_,_=>h
 | some (r,n),_,_,hI=>by
  obtain ⟨h1,h2,h3,h4⟩:=(show 0<=r/\0<=n/\r+n*val b=val R/\_ from hI)
  have hv:=h.pos
  have m:=Int.mul_nonneg h2 (show 0<=val b by omega)
  have hlt:=bc h.hD
  have sD:=h.sD
  have lt:=h.lt
  have e:(r.toNat:Int)=r:=by omega
  refine ⟨ay _,fa _,?_,h.hb,h.tb,h.sb,h.ne,?_⟩
  .have:=dX (n:=r.toNat) (k:=R.length) (by omega)
   show (aa r.toNat).length<=500000
   omega
  .show val (aa r.toNat)<_
   rw [dn]; omega
theorem yI {R b:List Int} {r n:Int} {w lt:Bool} (hI:(tkU w lt R b).I (some (r,n))):val (aa r.toNat)=r:=by
 obtain ⟨h1,_⟩:=(show 0<=r/\0<=n/\r+n*val b=val R/\_ from hI)
 rw [dn]; omega
theorem mK {D b:List Int} (h:TkD D b) (hge:val b<=val D):aa (val (List.take (D.length:Int).toNat (List.drop (Int.toNat 0) (aG D.length (val D - tkK D b*val b))))).toNat=aa (val D - tkK D b*val b).toNat:=by
 obtain ⟨e1,e2⟩:=Mq h hge
 rw [e1,e2]
theorem RC (p q:Bool) (a:List Int) {b:List Int} (i x:Int) {R:List Int} (o:Option (List Int)) (h:TkD R b) {lt:Bool} (hl:lt=decide (val R<val b)):
  CodeOk cL2 ej (.loop tkA) (tkS p q a b i x R o) ⟨.tt,[⟨.tt,.exit 0,ac (tkS p q a b i x R o) (tkP o.isSome (tkE R b lt))⟩]⟩:=by
 have hv:=h.pos
 have q1:∀ w,val b<=val R->(tkU w lt R b).I (some (val R - tkK R b*val b,IntKind.i64.wrap (0+tkK R b)))/\(val R - tkK R b*val b).toNat<(val R).toNat+1:=by
  intro w hge
  obtain ⟨k1,k2,k3,k4⟩:=h.spec hge
  have e:IntKind.i64.wrap (0+tkK R b)=tkK R b:=by rw [iw (by omega) (by omega)]; omega
  have m:=Int.mul_nonneg (show 0<=tkK R b by omega) (show 0<=val b by omega)
  refine ⟨?_,by omega⟩
  show 0<=val R - tkK R b*val b/\0<=IntKind.i64.wrap (0+tkK R b)/\val R - tkK R b*val b+IntKind.i64.wrap (0+tkK R b)*val b=val R/\lt=false
  rw [e]
  exact ⟨by omega,by omega,by omega,by rw [hl]; exact decide_eq_false (by omega)⟩
 have q2:∀ w r n,(tkU w lt R b).I (some (r,n))->val b<=r->(tkU w lt R b).I (some (r - tkK (aa r.toNat) b*val b,IntKind.i64.wrap (n+tkK (aa r.toNat) b)))/\(r - tkK (aa r.toNat) b*val b).toNat<r.toNat:=by
  intro w r n hI hge
  have hD:TkD (aa r.toNat) b:=DB h hI
  have ev:=yI hI
  obtain ⟨k1,k2,k3,k4⟩:=hD.spec (by rw [ev]; exact hge)
  obtain ⟨h1,h2,h3,h4⟩:=(show 0<=r/\0<=n/\r+n*val b=val R/\lt=false from hI)
  rw [ev] at k3
  have hlt:=h.lt
  have m1:1*val b<=tkK (aa r.toNat) b*val b:=Int.mul_le_mul_of_nonneg_right k1 (by omega)
  have m2:(n+tkK (aa r.toNat) b)*val b<1000000000*val b:=by rw [Int.add_mul]; omega
  have m3:=Int.lt_of_mul_lt_mul_right m2 (by omega)
  have e:IntKind.i64.wrap (n+tkK (aa r.toNat) b)=n+tkK (aa r.toNat) b:=iw (by omega) (by omega)
  refine ⟨?_,by omega⟩
  show 0<=r - tkK (aa r.toNat) b*val b/\0<=IntKind.i64.wrap (n+tkK (aa r.toNat) b)/\r - tkK (aa r.toNat) b*val b+IntKind.i64.wrap (n+tkK (aa r.toNat) b)*val b=val R/\lt=false
  rw [e,Int.add_mul]
  exact ⟨by omega,by omega,by omega,h4⟩
 have q3:val R<val b->tkE R b lt=none:=by
  intro h; rw [hl,decide_eq_true h]; rfl
 have q4:∀ w r n,(tkU w lt R b).I (some (r,n))->r<val b->tkE R b lt=some (r,n):=by
  intro w r n hI hlt
  obtain ⟨h1,h2,h3,h4⟩:=(show 0<=r/\0<=n/\r+n*val b=val R/\lt=false from hI)
  rw [h4]
  show some (val R % val b,val R / val b)=some (r,n)
  rw [<- h3,Int.add_mul_emod_self_right,Int.emod_eq_of_lt h1 hlt,Int.add_mul_ediv_right _ _ (by omega),Int.ediv_eq_zero_of_lt h1 hlt]
  simp
 cases o with
 | none=>
  refine cG (tkU false lt R b) (y0:=none) trivial ⟨_,ZB lt p q a b i x R,rfl⟩ (by kernel_rfl) (fun y hy=>?_) rfl
  have hD:=DB h hy
  cases y with
  | none=>
   by_cases hge:val b<=val R
   .obtain ⟨r1,r2⟩:=q1 false hge
    exact ⟨cTi p q a b i x R none none,300,yH p q a i x none none h hge,rfl,rfl,_,WM lt p q a b i x R,⟨(gY h hge).1,(gY h hge).2,⟨rfl,rfl,rfl⟩,pF h hge⟩,fun _=>⟨⟨⟨⟨rfl,by rw [show tkD R none=R from rfl,mK h hge]⟩,rfl⟩,mK h hge⟩,r1,r2,rfl⟩⟩
   .exact ⟨cTe,300,yG,rfl,rfl,_,WN lt p q a b i x R,pG h (by omega),fun _=>⟨rfl,by show (Ex.exit 0,tkP false (tkE R b lt))=_; rw [q3 (by omega)]⟩⟩
  | some y=>
   obtain ⟨r,n⟩:=y
   have ev:=yI hy
   have hD:TkD (aa r.toNat) b:=hD
   by_cases hge:val b<=r
   .obtain ⟨r1,r2⟩:=q2 false r n hy hge
    have hge2:val b<=val (aa r.toNat):=by rw [ev]; exact hge
    have nx:=mK hD hge2
    rw [ev] at nx
    have nx2:aa (val (List.take ((aa r.toNat).length:Int).toNat (List.drop (Int.toNat 0) (aG (tkD R (some (r,n))).length (val (tkD R (some (r,n))) - tkK (tkD R (some (r,n))) b*val b))))).toNat=aa (r - tkK (aa r.toNat) b*val b).toNat:=by
     rw [show tkD R (some (r,n))=aa r.toNat from rfl,ev]; exact nx
    exact ⟨cTi p q a b i x R none (some (r,n)),300,yH p q a i x none (some (r,n)) hD hge2,rfl,rfl,_,WQ lt p q a b i x R r n,⟨(gY hD hge2).1,(gY hD hge2).2,⟨rfl,rfl,rfl⟩,pF hD hge2⟩,fun _=>⟨⟨⟨⟨rfl,by rw [nx2]⟩,rfl⟩,nx2⟩,r1,r2,rfl⟩⟩
   .exact ⟨cTe,300,yG,rfl,rfl,_,WR lt p q a b i x R r n,pG hD (by rw [ev]; omega),fun _=>⟨⟨⟨⟨rfl,rfl⟩,rfl⟩,rfl⟩,by show (Ex.exit 0,tkP false (tkE R b lt))=_; rw [q4 false r n hy (by omega)]⟩⟩
 | some s=>
  refine cG (tkU true lt R b) (y0:=none) trivial ⟨_,ZC lt p q a b i x R s,rfl⟩ (by kernel_rfl) (fun y hy=>?_) rfl
  have hD:=DB h hy
  cases y with
  | none=>
   by_cases hge:val b<=val R
   .obtain ⟨r1,r2⟩:=q1 true hge
    exact ⟨cTi p q a b i x R (some s) none,300,yH p q a i x (some s) none h hge,rfl,rfl,_,WU lt p q a b i x R s,⟨(gY h hge).1,(gY h hge).2,⟨rfl,rfl,rfl⟩,pF h hge⟩,fun _=>⟨⟨⟨⟨rfl,by rw [show tkD R none=R from rfl,mK h hge]⟩,rfl⟩,mK h hge⟩,r1,r2,rfl⟩⟩
   .exact ⟨cTe,300,yG,rfl,rfl,_,WV lt p q a b i x R s,pG h (by omega),fun _=>⟨rfl,by show (Ex.exit 0,tkP true (tkE R b lt))=_; rw [q3 (by omega)]⟩⟩
  | some y=>
   obtain ⟨r,n⟩:=y
   have ev:=yI hy
   have hD:TkD (aa r.toNat) b:=hD
   by_cases hge:val b<=r
   .obtain ⟨r1,r2⟩:=q2 true r n hy hge
    have hge2:val b<=val (aa r.toNat):=by rw [ev]; exact hge
    have nx:=mK hD hge2
    rw [ev] at nx
    have nx2:aa (val (List.take ((aa r.toNat).length:Int).toNat (List.drop (Int.toNat 0) (aG (tkD R (some (r,n))).length (val (tkD R (some (r,n))) - tkK (tkD R (some (r,n))) b*val b))))).toNat=aa (r - tkK (aa r.toNat) b*val b).toNat:=by
     rw [show tkD R (some (r,n))=aa r.toNat from rfl,ev]; exact nx
    exact ⟨cTi p q a b i x R (some s) (some (r,n)),300,yH p q a i x (some s) (some (r,n)) hD hge2,rfl,rfl,_,WZ lt p q a b i x R s r n,⟨(gY hD hge2).1,(gY hD hge2).2,⟨rfl,rfl,rfl⟩,pF hD hge2⟩,fun _=>⟨⟨⟨⟨rfl,by rw [nx2]⟩,rfl⟩,nx2⟩,r1,r2,rfl⟩⟩
   .exact ⟨cTe,300,yG,rfl,rfl,_,W4 lt p q a b i x R s r n,pG hD (by rw [ev]; omega),fun _=>⟨⟨⟨⟨rfl,rfl⟩,rfl⟩,rfl⟩,by show (Ex.exit 0,tkP true (tkE R b lt))=_; rw [q4 true r n hy (by omega)]⟩⟩
def paO (a b:List Int):Option Int->Option (List Int)
 | none=>none
 | some i=>some (paR a b i)
def paI (a:List Int):Option Int->Int
 | none=>a.length - 1
 | some i=>i
def paX (a:List Int) (y:Option Int):Int:=a.getD (paI a y).toNat 0
def paT (a b:List Int) (y:Option Int):List Int:=tkR (paX a y) (paO a b y)
def paN (a:List Int):Option Int->Int
 | none=>IntKind.i64.wrap ((a.length:Int) - 1 - 1)
 | some i=>IntKind.i64.wrap (i - 1)
def paE (a b:List Int):Patch:=⟨(7,.islice true 7 0 (paR a b (-1)).length) :: (8,.any false) :: (9,.any false) :: aC 18 24,[(6,.ints .i64 (paQ a b (-1)))],[.ints .i64 (paR a b (-1))]⟩
def paU (a b:List Int):SumL (Option Int×Bool):=
 {
  S:=fun (y,_)=>paP a b y
  I:=fun (y,l)=>l=decide (val (paT a b y)<val b)/\-1<=paI a y/\paI a y<a.length/\(y=none->0<=paI a y)
  μ:=fun (y,_)=>(paI a y+1).toNat
  F:=fun _=>(.exit 0,paE a b)
  next:=fun (y,_)=>(some (paN a y),decide (val (paT a b (some (paN a y)))<val b))
  ids:=fun (y,l)=>match y with
   | none=>(match l with|true=>[8]|false=>[9])
   | some _=>(match l with|true=>[10]|false=>[11])
  X:=fun (y,_) _=>match y with
   | none=>some (⟨(7,.any false) :: (8,.any false) :: (9,.any false) :: aC 18 24,[(6,.dead)],[]⟩,[])
   | some i=>some (⟨(7,.islice true 7 0 (paR a b i).length) :: (8,.any false) :: (9,.any false) :: aC 18 24,[(6,.ints .i64 (paQ a b i))],[.ints .i64 (paR a b i)]⟩,[7]) }
def cHt (t:Nat):Ctx:=aP cL2 (eP [(t,.bool false true)])
theorem Mr (t:Nat):CtxOk (cHt t):=aj fo _
noncomputable def cPa (p q:Bool) (a b:List Int) (y:Option Int) (l:Bool):Ctx:=aw (cHt 19) [aR 106 44 ej tkA (tkS p q a b (paI a y) (paX a y) (paT a b y) (paO a b y)) (.exit 0) (tkP (paO a b y).isSome (tkE (paT a b y) b l))]
noncomputable def W5 (p q:Bool) (a b:List Int):Ctx:=aw cL2 [aR 82 (paS p q a b).hp.clock yF paA (paS p q a b) (.exit 0) (paE a b)]
def BO (p q:Bool) (a b:List Int):Prop:=IntKind.i64.wrap ((↑a.length:Int) - (1:Int))=(↑a.length:Int) - (1:Int)/\List.replicate (↑a.length:Int).toNat (0:Int)=paQ a b ((↑a.length:Int) - (1:Int))
theorem Ms (p q:Bool) (a b:List Int):fit (paS p q a b) (paS p q a b) (ac (paS p q a b) (paP a b none)) ([])=some (.p (BO p q a b)):=by kernel_rfl
def HC (p q:Bool) (a b:List Int):Prop:=(decide ((↑a.length:Int) - (1:Int)>=0)=true/\(((0:Int)<=(↑a.length:Int) - (1:Int)/\(↑a.length:Int) - (1:Int)<(↑a.length:Int))/\((↑a.length:Int) - (1:Int)).toNat<a.length)/\(Dig [a.getD ((↑a.length:Int) - (1:Int)).toNat (0:Int)]/\Sm [a.getD ((↑a.length:Int) - (1:Int)).toNat (0:Int)])/\(↑b.length:Int)=(↑b.length:Int)/\At (ej) (ej) (tkA) (tkA) (tkS p q a b (paI a none) (paX a none) (paT a b none) (paO a b none)) (tkS p q a b (paI a none) (paX a none) (paT a b none) (paO a b none))/\((0:Int)<=(↑a.length:Int) - (1:Int)/\(↑a.length:Int) - (1:Int)<(↑a.length:Int))/\((0:Int)+((↑a.length:Int) - (1:Int))).toNat<(paQ a b (paI a none)).length)/\(true=true->((((0:Int)=0/\(↑(paT a b none).length:Int)=(↑(paR a b (paN a none)).length:Int))/\IntKind.i64.wrap ((↑a.length:Int) - (1:Int) - (1:Int))=paN a none)/\(paQ a b (paI a none)).set ((0:Int)+((↑a.length:Int) - (1:Int))).toNat (0:Int)=paQ a b (paN a none)/\paT a b none=paR a b (paN a none))/\(paU a b).I ((paU a b).next (none,true))/\(paU a b).μ ((paU a b).next (none,true))<(paU a b).μ (none,true)/\(paU a b).F ((paU a b).next (none,true))=(paU a b).F (none,true))
theorem W6 (p q:Bool) (a b:List Int):aW (paS p q a b) ((paU a b).way ((none,true))) ((run (cPa p q a b none true) 300).code yF paA (ac (paS p q a b) ((paU a b).S (none,true))))=some (.p (HC p q a b)):=by kernel_rfl
def HD (p q:Bool) (a b:List Int):Prop:=(decide ((↑a.length:Int) - (1:Int)>=0)=true/\(((0:Int)<=(↑a.length:Int) - (1:Int)/\(↑a.length:Int) - (1:Int)<(↑a.length:Int))/\((↑a.length:Int) - (1:Int)).toNat<a.length)/\(Dig [a.getD ((↑a.length:Int) - (1:Int)).toNat (0:Int)]/\Sm [a.getD ((↑a.length:Int) - (1:Int)).toNat (0:Int)])/\(↑b.length:Int)=(↑b.length:Int)/\At (ej) (ej) (tkA) (tkA) (tkS p q a b (paI a none) (paX a none) (paT a b none) (paO a b none)) (tkS p q a b (paI a none) (paX a none) (paT a b none) (paO a b none))/\((0:Int)<=(↑a.length:Int) - (1:Int)/\(↑a.length:Int) - (1:Int)<(↑a.length:Int))/\((0:Int)+((↑a.length:Int) - (1:Int))).toNat<(paQ a b (paI a none)).length)/\(true=true->((((0:Int)=0/\(↑(aa (val (paT a b none) % val b).toNat).length:Int)=(↑(paR a b (paN a none)).length:Int))/\IntKind.i64.wrap ((↑a.length:Int) - (1:Int) - (1:Int))=paN a none)/\(paQ a b (paI a none)).set ((0:Int)+((↑a.length:Int) - (1:Int))).toNat (val (paT a b none) / val b)=paQ a b (paN a none)/\aa (val (paT a b none) % val b).toNat=paR a b (paN a none))/\(paU a b).I ((paU a b).next (none,false))/\(paU a b).μ ((paU a b).next (none,false))<(paU a b).μ (none,false)/\(paU a b).F ((paU a b).next (none,false))=(paU a b).F (none,false))
theorem W7 (p q:Bool) (a b:List Int):aW (paS p q a b) ((paU a b).way ((none,false))) ((run (cPa p q a b none false) 300).code yF paA (ac (paS p q a b) ((paU a b).S (none,false))))=some (.p (HD p q a b)):=by kernel_rfl
def HE (p q:Bool) (a b:List Int) (i:Int):Prop:=(decide (i>=0)=true/\(((0:Int)<=i/\i<(↑a.length:Int))/\i.toNat<a.length/\((0:Int)<=0/\(0:Int)<=(↑(paR a b i).length:Int)/\(0:Int)+(↑(paR a b i).length:Int)<=(↑(paR a b i).length:Int))/\(↑(1:Nat):Int)+(↑(paR a b i).length:Int)<=1048576)/\(((0:Int)<=0/\(0:Int)<=(↑(1:Nat):Int)+(↑(paR a b i).length:Int)/\(0:Int)+((↑(1:Nat):Int)+(↑(paR a b i).length:Int))<=(↑([a.getD i.toNat (0:Int)]++List.take (↑(paR a b i).length:Int).toNat (List.drop (Int.toNat (0:Int)) (paR a b i))).length:Int))/\Dig (List.take ((↑(1:Nat):Int)+(↑(paR a b i).length:Int)).toNat (List.drop (Int.toNat (0:Int)) ([a.getD i.toNat (0:Int)]++List.take (↑(paR a b i).length:Int).toNat (List.drop (Int.toNat (0:Int)) (paR a b i)))))/\Sm (List.take ((↑(1:Nat):Int)+(↑(paR a b i).length:Int)).toNat (List.drop (Int.toNat (0:Int)) ([a.getD i.toNat (0:Int)]++List.take (↑(paR a b i).length:Int).toNat (List.drop (Int.toNat (0:Int)) (paR a b i))))))/\(↑b.length:Int)=(↑b.length:Int)/\At (ej) (ej) (tkA) (tkA) (tkS p q a b (paI a (some i)) (paX a (some i)) (paT a b (some i)) (paO a b (some i))) (tkS p q a b (paI a (some i)) (paX a (some i)) (paT a b (some i)) (paO a b (some i)))/\((0:Int)<=i/\i<(↑a.length:Int))/\((0:Int)+i).toNat<(paQ a b (paI a (some i))).length)/\(true=true->((((0:Int)=0/\(↑(paT a b (some i)).length:Int)=(↑(paR a b (paN a (some i))).length:Int))/\IntKind.i64.wrap (i - (1:Int))=paN a (some i))/\(paQ a b (paI a (some i))).set ((0:Int)+i).toNat (0:Int)=paQ a b (paN a (some i))/\paT a b (some i)=paR a b (paN a (some i)))/\(paU a b).I ((paU a b).next (some i,true))/\(paU a b).μ ((paU a b).next (some i,true))<(paU a b).μ (some i,true)/\(paU a b).F ((paU a b).next (some i,true))=(paU a b).F (some i,true))
theorem W8 (p q:Bool) (a b:List Int) (i:Int):aW (paS p q a b) ((paU a b).way (((some i),true))) ((run (cPa p q a b (some i) true) 300).code yF paA (ac (paS p q a b) ((paU a b).S ((some i),true))))=some (.p (HE p q a b i)):=by kernel_rfl
def HF (p q:Bool) (a b:List Int) (i:Int):Prop:=(decide (i>=0)=true/\(((0:Int)<=i/\i<(↑a.length:Int))/\i.toNat<a.length/\((0:Int)<=0/\(0:Int)<=(↑(paR a b i).length:Int)/\(0:Int)+(↑(paR a b i).length:Int)<=(↑(paR a b i).length:Int))/\(↑(1:Nat):Int)+(↑(paR a b i).length:Int)<=1048576)/\(((0:Int)<=0/\(0:Int)<=(↑(1:Nat):Int)+(↑(paR a b i).length:Int)/\(0:Int)+((↑(1:Nat):Int)+(↑(paR a b i).length:Int))<=(↑([a.getD i.toNat (0:Int)]++List.take (↑(paR a b i).length:Int).toNat (List.drop (Int.toNat (0:Int)) (paR a b i))).length:Int))/\Dig (List.take ((↑(1:Nat):Int)+(↑(paR a b i).length:Int)).toNat (List.drop (Int.toNat (0:Int)) ([a.getD i.toNat (0:Int)]++List.take (↑(paR a b i).length:Int).toNat (List.drop (Int.toNat (0:Int)) (paR a b i)))))/\Sm (List.take ((↑(1:Nat):Int)+(↑(paR a b i).length:Int)).toNat (List.drop (Int.toNat (0:Int)) ([a.getD i.toNat (0:Int)]++List.take (↑(paR a b i).length:Int).toNat (List.drop (Int.toNat (0:Int)) (paR a b i))))))/\(↑b.length:Int)=(↑b.length:Int)/\At (ej) (ej) (tkA) (tkA) (tkS p q a b (paI a (some i)) (paX a (some i)) (paT a b (some i)) (paO a b (some i))) (tkS p q a b (paI a (some i)) (paX a (some i)) (paT a b (some i)) (paO a b (some i)))/\((0:Int)<=i/\i<(↑a.length:Int))/\((0:Int)+i).toNat<(paQ a b (paI a (some i))).length)/\(true=true->((((0:Int)=0/\(↑(aa (val (paT a b (some i)) % val b).toNat).length:Int)=(↑(paR a b (paN a (some i))).length:Int))/\IntKind.i64.wrap (i - (1:Int))=paN a (some i))/\(paQ a b (paI a (some i))).set ((0:Int)+i).toNat (val (paT a b (some i)) / val b)=paQ a b (paN a (some i))/\aa (val (paT a b (some i)) % val b).toNat=paR a b (paN a (some i)))/\(paU a b).I ((paU a b).next (some i,false))/\(paU a b).μ ((paU a b).next (some i,false))<(paU a b).μ (some i,false)/\(paU a b).F ((paU a b).next (some i,false))=(paU a b).F (some i,false))
theorem W9 (p q:Bool) (a b:List Int) (i:Int):aW (paS p q a b) ((paU a b).way (((some i),false))) ((run (cPa p q a b (some i) false) 300).code yF paA (ac (paS p q a b) ((paU a b).S ((some i),false))))=some (.p (HF p q a b i)):=by kernel_rfl
def RD (p q:Bool) (a b:List Int) (i:Int) (l:Bool):Prop:=decide (i>=0)=false/\(true=true->(((0:Int)=0/\(↑(paR a b i).length:Int)=(↑(paR a b i).length:Int))/\paQ a b i=paQ a b i/\paR a b i=paR a b i)/\(paU a b).F (some i,l)=(Ex.exit (0:Nat),{ tm:=((7:Nat),AV.islice true (7:Nat) (0:Int) (↑(paR a b i).length:Int)) :: ((8:Nat),AV.any false) :: ((9:Nat),AV.any false) :: aC (18:Nat) (24:Nat),old:=[((6:Nat),ABody.ints IntKind.i64 (paQ a b i))],new:=[ABody.ints IntKind.i64 (paR a b i)] }))
theorem aci (p q:Bool) (a b:List Int) (i:Int) (l:Bool):aW (paS p q a b) ((paU a b).way ((some i,l))) ((run (cHf 19) 300).code yF paA (ac (paS p q a b) ((paU a b).S (some i,l))))=some (.p (RD p q a b i l)):=by kernel_rfl
def RE (p q:Bool) (a b:List Int):Prop:=(((↑a.length:Int)=(↑a.length:Int)/\(0:Int)<=(↑a.length:Int)/\(↑a.length:Int)<=1048576)/\At (yF) (yF) (paA) (paA) (paS p q a b) (paS p q a b)/\(((0:Int)<=0/\(0:Int)<=(↑a.length:Int)/\(0:Int)+(↑a.length:Int)<=(↑(paQ a b (-1:Int)).length:Int))/\Dig (List.take (↑a.length:Int).toNat (List.drop (Int.toNat (0:Int)) (paQ a b (-1:Int))))/\Sm (List.take (↑a.length:Int).toNat (List.drop (Int.toNat (0:Int)) (paQ a b (-1:Int)))))/\p=p/\((0:Int)<=0/\(0:Int)<=(↑(paR a b (-1:Int)).length:Int)/\(0:Int)+(↑(paR a b (-1:Int)).length:Int)<=(↑(paR a b (-1:Int)).length:Int))/\Dig (List.take (↑(paR a b (-1:Int)).length:Int).toNat (List.drop (Int.toNat (0:Int)) (paR a b (-1:Int))))/\Sm (List.take (↑(paR a b (-1:Int)).length:Int).toNat (List.drop (Int.toNat (0:Int)) (paR a b (-1:Int)))))
def Xa (p q:Bool) (a b:List Int):AV:=(AV.tuple [AV.agg [AV.bool true (!p==q&&decide (val (List.take (↑a.length:Int).toNat (List.drop (Int.toNat (0:Int)) (paQ a b (-1:Int))))≠0)),AV.islice true 2 (0:Int) (↑(aa (val (List.take (↑a.length:Int).toNat (List.drop (Int.toNat (0:Int)) (paQ a b (-1:Int))))).toNat).length:Int)],AV.agg [AV.bool true (p&&decide (val (List.take (↑(paR a b (-1:Int)).length:Int).toNat (List.drop (Int.toNat (0:Int)) (paR a b (-1:Int))))≠0)),AV.islice true 3 (0:Int) (↑(aa (val (List.take (↑(paR a b (-1:Int)).length:Int).toNat (List.drop (Int.toNat (0:Int)) (paR a b (-1:Int))))).toNat).length:Int)]])
def Xb (p q:Bool) (a b:List Int):Hp:=⟨[{ wr:=30,body:=ABody.ints IntKind.i64 (aa (val (List.take (↑(paR a b (-1:Int)).length:Int).toNat (List.drop (Int.toNat (0:Int)) (paR a b (-1:Int))))).toNat) },{ wr:=29,body:=ABody.ints IntKind.i64 (aa (val (List.take (↑a.length:Int).toNat (List.drop (Int.toNat (0:Int)) (paQ a b (-1:Int))))).toNat) },{ wr:=(0:Nat),body:=ABody.rows IntKind.i64 b },{ wr:=(0:Nat),body:=ABody.rows IntKind.i64 a }],4,32⟩
theorem acj (p q:Bool) (a b:List Int):(run (W5 p q a b) 300).call 82 (c7 p q a b) (leH a b)=some ⟨.p (RE p q a b),[⟨.tt,Xa p q a b,Xb p q a b⟩]⟩:=by kernel_rfl
def RH (p q:Bool) (a b:List Int):Prop:=(((↑a.length:Int)=(↑a.length:Int)/\(0:Int)<=(↑a.length:Int)/\(↑a.length:Int)<=1048576)/\decide (IntKind.i64.wrap ((↑a.length:Int) - (1:Int))>=0)=false/\(((0:Int)<=0/\(0:Int)<=(↑a.length:Int)/\(0:Int)+(↑a.length:Int)<=(↑(List.replicate (↑a.length:Int).toNat (0:Int)).length:Int))/\Dig (List.take (↑a.length:Int).toNat (List.drop (Int.toNat (0:Int)) (List.replicate (↑a.length:Int).toNat (0:Int))))/\Sm (List.take (↑a.length:Int).toNat (List.drop (Int.toNat (0:Int)) (List.replicate (↑a.length:Int).toNat (0:Int)))))/\p=p/\Dig []/\Sm [])
def Xc (p q:Bool) (a b:List Int):AV:=(AV.tuple [AV.agg [AV.bool true (!p==q&&decide (val (List.take (↑a.length:Int).toNat (List.drop (Int.toNat (0:Int)) (List.replicate (↑a.length:Int).toNat (0:Int))))≠0)),AV.islice true 2 (0:Int) (↑(aa (val (List.take (↑a.length:Int).toNat (List.drop (Int.toNat (0:Int)) (List.replicate (↑a.length:Int).toNat (0:Int))))).toNat).length:Int)],AV.agg [AV.bool true (p&&decide (val []≠0)),AV.islice true 3 (0:Int) (↑(aa (val []).toNat).length:Int)]])
def Xd (p q:Bool) (a b:List Int):Hp:=⟨[{ wr:=31,body:=ABody.ints IntKind.i64 (aa (val []).toNat) },{ wr:=30,body:=ABody.ints IntKind.i64 (aa (val (List.take (↑a.length:Int).toNat (List.drop (Int.toNat (0:Int)) (List.replicate (↑a.length:Int).toNat (0:Int))))).toNat) },{ wr:=(0:Nat),body:=ABody.rows IntKind.i64 b },{ wr:=(0:Nat),body:=ABody.rows IntKind.i64 a }],4,33⟩
theorem ack (p q:Bool) (a b:List Int):(run (cHf 19) 300).call 82 (c7 p q a b) (leH a b)=some ⟨.p (RH p q a b),[⟨.tt,Xc p q a b,Xd p q a b⟩]⟩:=by kernel_rfl
structure PaD (a b:List Int):Prop where
 ha:Dig a
 hb:Dig b
 tb:Top b
 ne:b≠[]
 sm:a.length+b.length<=400000
theorem PaD.pos {a b:List Int} (h:PaD a b):0<val b:=by
 have:=af h.hb
 have:=qx h.hb h.tb h.ne
 omega
theorem Mt (x:Int) (r:List Int):tkR x (some r)=aa (x+1000000000*val r).toNat:=by
 show aa (val (List.take ((↑(1:Nat):Int)+(↑r.length:Int)).toNat (List.drop (Int.toNat 0) ([x]++List.take (↑r.length:Int).toNat (List.drop (Int.toNat 0) r))))).toNat=_
 rw [td,show (Int.toNat 0)=0 from rfl,List.drop_zero,List.take_of_length_le (by simp; omega)]
 rfl
theorem uY {a b:List Int} (h:PaD a b) (y:Option Int) (hy:∀ i,y=some i->True):paT a b y=aa (paV a b (paI a y)).toNat:=by
 have hv:=h.pos
 cases y with
 | none=>
  show aa (val [a.getD ((a.length:Int) - 1).toNat 0]).toNat=aa (paV a b ((a.length:Int) - 1)).toNat
  unfold paV
  rw [Ks]
  simp [val]
 | some i=>
  show tkR (a.getD i.toNat 0) (some (paR a b i))=aa (paV a b i).toNat
  rw [Mt]
  unfold paR paV
  rw [dn]
  have:=Int.emod_nonneg (dA a i) (show val b≠0 by omega)
  rw [show (((val (a.drop (i+1).toNat) % val b).toNat:Nat):Int)=dA a i % val b from by
   show (((dA a i % val b).toNat:Nat):Int)=_
   omega]
theorem Fw {a b:List Int} (h:PaD a b) (y:Option Int):val (paT a b y)=paV a b (paI a y):=by
 have:=xY h.ha h.pos (paI a y)
 rw [uY h y (fun _ _=>trivial),dn]; omega
theorem Xe {n:Nat} {b:List Int} (hb:Dig b) (h:(n:Int)<1000000000*val b):(aa n).length<=b.length+1:=by
 have:=bc hb
 have e:pw (b.length+1)=1000000000*pw b.length:=rfl
 exact dX (by omega)
theorem Mu {a b:List Int} (h:PaD a b) (y:Option Int):TkD (paT a b y) b:=by
 have hb:=xY h.ha h.pos (paI a y)
 have sm:=h.sm
 have hl:(aa (paV a b (paI a y)).toNat).length<=b.length+1:=Xe h.hb (by omega)
 refine ⟨?_,?_,?_,h.hb,h.tb,by omega,h.ne,?_⟩
 .rw [uY h y (fun _ _=>trivial)]; exact ay _
 .rw [uY h y (fun _ _=>trivial)]; exact fa _
 .rw [uY h y (fun _ _=>trivial)]; omega
 .rw [Fw h]; exact hb.2
theorem yJ (p q:Bool) {a b:List Int} (h:PaD a b) (y:Option Int) {l:Bool} (hl:l=decide (val (paT a b y)<val b)):CtxOk (cPa p q a b y l):=
 ak (Mr 19) (CodeOk.ctx (C:=cL2) (D:=cHt 19) rfl rfl (RC p q a (paI a y) (paX a y) (paO a b y) (Mu h y) hl)) (aq (Mr 19))
theorem Fx {a b:List Int} (h:PaD a b) (i:Int):Dig (paR a b i)/\(paR a b i).length<=b.length:=by
 have hv:=h.pos
 have h1:=Int.emod_nonneg (val (a.drop (i+1).toNat)) (show val b≠0 by omega)
 have h2:=Int.emod_lt_of_pos (val (a.drop (i+1).toNat)) hv
 have h3:=bc h.hb
 exact ⟨ay _,dX (by omega)⟩
theorem Mv {a b:List Int} (h:PaD a b) (y:Option Int) (h0:0<=paI a y) (h1:paI a y<a.length):paN a y=paI a y - 1:=by
 have sm:=h.sm
 cases y with
 | none=>
  show IntKind.i64.wrap ((a.length:Int) - 1 - 1)=a.length - 1 - 1
  exact iw (by omega) (by omega)
 | some i=>
  have h0:0<=i:=h0
  have h1:i<a.length:=h1
  show IntKind.i64.wrap (i - 1)=i - 1
  exact iw (by omega) (by omega)
theorem RI {a b:List Int} (h:PaD a b) (y:Option Int) (h0:0<=paI a y) (h1:paI a y<a.length):
  (val (paT a b y)<val b->paT a b y=paR a b (paN a y)/\(paQ a b (paI a y)).set (0+paI a y).toNat 0=paQ a b (paN a y)) /\
  (¬ val (paT a b y)<val b->aa (val (paT a b y) % val b).toNat=paR a b (paN a y)/\(paQ a b (paI a y)).set (0+paI a y).toNat (val (paT a b y) / val b)=paQ a b (paN a y)):=by
 have hv:=h.pos
 have hb:=xY h.ha hv (paI a y)
 have e:=Fw h y
 have r:=Kt (a:=a) hv h0 h1
 have q:=Ku h.ha hv h0 h1
 rw [Mv h y h0 h1,show (0+paI a y).toNat=(paI a y).toNat by omega,e]
 refine ⟨fun hlt=>?_,fun hge=>⟨r.symm,q⟩⟩
 rw [Int.emod_eq_of_lt hb.1 hlt] at r
 rw [Int.ediv_eq_zero_of_lt hb.1 hlt] at q
 exact ⟨by rw [r,uY h y (fun _ _=>trivial)],q⟩
theorem RJ (p q:Bool) {a b:List Int} (h:PaD a b) (h0:0<a.length):CodeOk cL2 yF (.loop paA) (paS p q a b) ⟨.tt,[⟨.tt,.exit 0,ac (paS p q a b) (paE a b)⟩]⟩:=by
 have sm:=h.sm
 refine cG (paU a b) (y0:=(none,decide (val (paT a b none)<val b))) ⟨rfl,by show -1<=(a.length:Int) - 1; omega,by show (a.length:Int) - 1<a.length; omega,fun _=>by show 0<=(a.length:Int) - 1; omega⟩ ⟨_,Ms p q a b,?_⟩ (by kernel_rfl) (fun z hz=>?_) rfl
 .exact ⟨iw (by omega) (by omega),by rw [show ((a.length:Int)).toNat=a.length by omega]; exact Pd a b⟩
 obtain ⟨y,l⟩:=z
 obtain ⟨hl,i0,i1,i2⟩:=(show l=decide (val (paT a b y)<val b)/\-1<=paI a y/\paI a y<a.length/\(y=none->0<=paI a y) from hz)
 have nxt:0<=paI a y->∀ l,(paU a b).I ((paU a b).next (y,l))/\(paU a b).μ ((paU a b).next (y,l))<(paU a b).μ (y,l):=by
  intro hi l
  have e:=Mv h y hi i1
  refine ⟨⟨rfl,?_,?_,fun h=>by cases h⟩,?_⟩
  .show -1<=paN a y
   omega
  .show paN a y<a.length
   omega
  .show (paN a y+1).toNat<(paI a y+1).toNat
   omega
 by_cases hi:0<=paI a y
 .obtain ⟨n1,n2⟩:=RI h y hi i1
  obtain ⟨m1,m2⟩:=nxt hi l
  have hq:∀ y,(paQ a b (paI a y)).length=a.length:=fun y=>a6 _ _
  have hT:=(Mu h y)
  cases y with
  | none=>
   have hi:0<=(a.length:Int) - 1:=hi
   have hg:=h.ha.get ((a.length:Int) - 1).toNat
   have hd:Dig [a.getD ((a.length:Int) - 1).toNat 0]/\Sm [a.getD ((a.length:Int) - 1).toNat 0]:=⟨bB.2 ⟨hg,b9⟩,by show 1<=500000; omega⟩
   cases l with
   | true=>
    obtain ⟨e1,e2⟩:=n1 (of_decide_eq_true hl.symm)
    exact ⟨cPa p q a b none true,300,yJ p q h none hl,rfl,rfl,_,W6 p q a b,⟨decide_eq_true hi,⟨⟨hi,by omega⟩,by omega⟩,hd,rfl,⟨rfl,rfl,rfl⟩,⟨hi,by omega⟩,by rw [hq]; omega⟩,fun _=>⟨⟨⟨⟨rfl,by rw [e1]⟩,rfl⟩,e2,e1⟩,m1,m2,rfl⟩⟩
   | false=>
    obtain ⟨e1,e2⟩:=n2 (of_decide_eq_false hl.symm)
    exact ⟨cPa p q a b none false,300,yJ p q h none hl,rfl,rfl,_,W7 p q a b,⟨decide_eq_true hi,⟨⟨hi,by omega⟩,by omega⟩,hd,rfl,⟨rfl,rfl,rfl⟩,⟨hi,by omega⟩,by rw [hq]; omega⟩,fun _=>⟨⟨⟨⟨rfl,by rw [e1]⟩,rfl⟩,e2,e1⟩,m1,m2,rfl⟩⟩
  | some i=>
   have hi:0<=i:=hi
   have i1:i<a.length:=i1
   have hg:=h.ha.get i.toNat
   obtain ⟨r1,r2⟩:=Fx h i
   have ee:List.take ((↑(1:Nat):Int)+(↑(paR a b i).length:Int)).toNat (List.drop (Int.toNat 0) ([a.getD i.toNat 0]++List.take (↑(paR a b i).length:Int).toNat (List.drop (Int.toNat 0) (paR a b i))))=a.getD i.toNat 0 :: paR a b i:=by
    rw [td,show (Int.toNat 0)=0 from rfl,List.drop_zero,List.take_of_length_le (by simp; omega)]
    rfl
   have hd:(((0:Int)<=0/\(0:Int)<=(↑(1:Nat):Int)+(↑(paR a b i).length:Int)/\(0:Int)+((↑(1:Nat):Int)+(↑(paR a b i).length:Int))<=(↑([a.getD i.toNat (0:Int)]++List.take (↑(paR a b i).length:Int).toNat (List.drop (Int.toNat (0:Int)) (paR a b i))).length:Int))/\Dig (List.take ((↑(1:Nat):Int)+(↑(paR a b i).length:Int)).toNat (List.drop (Int.toNat 0) ([a.getD i.toNat 0]++List.take (↑(paR a b i).length:Int).toNat (List.drop (Int.toNat 0) (paR a b i)))))/\Sm (List.take ((↑(1:Nat):Int)+(↑(paR a b i).length:Int)).toNat (List.drop (Int.toNat 0) ([a.getD i.toNat 0]++List.take (↑(paR a b i).length:Int).toNat (List.drop (Int.toNat 0) (paR a b i)))))):=by
    rw [ee]
    refine ⟨?_,bB.2 ⟨hg,r1⟩,by show (_ :: paR a b i).length<=500000; simp only [List.length_cons]; omega⟩
    rw [td]
    simp only [List.length_append,List.length_cons,List.length_nil]
    omega
   cases l with
   | true=>
    obtain ⟨e1,e2⟩:=n1 (of_decide_eq_true hl.symm)
    exact ⟨cPa p q a b (some i) true,300,yJ p q h (some i) hl,rfl,rfl,_,W8 p q a b i,⟨decide_eq_true hi,⟨⟨hi,i1⟩,by omega,kK,by omega⟩,hd,rfl,⟨rfl,rfl,rfl⟩,⟨hi,i1⟩,by rw [hq]; omega⟩,fun _=>⟨⟨⟨⟨rfl,by rw [e1]⟩,rfl⟩,e2,e1⟩,m1,m2,rfl⟩⟩
   | false=>
    obtain ⟨e1,e2⟩:=n2 (of_decide_eq_false hl.symm)
    exact ⟨cPa p q a b (some i) false,300,yJ p q h (some i) hl,rfl,rfl,_,W9 p q a b i,⟨decide_eq_true hi,⟨⟨hi,i1⟩,by omega,kK,by omega⟩,hd,rfl,⟨rfl,rfl,rfl⟩,⟨hi,i1⟩,by rw [hq]; omega⟩,fun _=>⟨⟨⟨⟨rfl,by rw [e1]⟩,rfl⟩,e2,e1⟩,m1,m2,rfl⟩⟩
 .cases y with
  | none=>exact absurd (i2 rfl) hi
  | some i=>
   have i0:-1<=i:=i0
   have hi:¬ 0<=i:=hi
   have:i=-1:=by omega
   subst this
   exact ⟨cHf 19,300,yE 19,rfl,rfl,_,aci p q a b (-1) l,rfl,fun _=>⟨⟨⟨rfl,rfl⟩,rfl,rfl⟩,rfl⟩⟩
theorem RK (p q:Bool) {a b:List Int} (h:PaD a b) (h0:0<a.length):CtxOk (W5 p q a b):=ak fo (RJ p q h h0) (aq fo)
def ptV:List Nu->List (List Int)->Option (Prop×To)
 | [.t p,.t q],[a,b]=>some (okL p a/\okL q b/\b≠[]/\a.length+b.length<=400000,.tu [lgT false ((zv p a).tdiv (zv q b)),lgT false ((zv p a).tmod (zv q b))])
 | _,_=>none
theorem BP:NOk Tryz.prog (fun _=>none) hG0 82 (au hG0 .i64 [.st [.nu .b,.li],.st [.nu .b,.li]] ptV):=by
 refine bg (fun xs ys p t e h=>?_) ⟨_,Tryz.func82,rfl⟩
 unfold ptV at e
 split at e
 .rename_i p q a b
  cases e
  obtain ⟨ha,hb,hne,hsm⟩:=h
  have hP:PaD a b:=⟨ha.1,hb.1,hb.2.1,hne,hsm⟩
  have va:=af ha.1
  have vb:=hP.pos
  have q0:0<=val a / val b:=Int.ediv_nonneg va (by omega)
  have r0:=Int.emod_nonneg (val a) (show val b≠0 by omega)
  have hzq:(zv p a).tdiv (zv q b)=bif (!p==q) then -(val a / val b) else val a / val b:=by
   rw [<- Int.tdiv_eq_ediv_of_nonneg va]
   cases p <;> cases q <;> simp [zv,Int.neg_tdiv,Int.tdiv_neg]
  have hzr:(zv p a).tmod (zv q b)=bif p then -(val a % val b) else val a % val b:=by
   rw [<- Int.tmod_eq_emod_of_nonneg va]
   cases p <;> cases q <;> simp [zv,Int.neg_tmod,Int.tmod_neg]
  by_cases h0:a=[]
  .subst h0
   refine ⟨cHf 19,300,c7 p q [] b,_,_,_,_,_,yE 19,rfl,rfl,⟨⟨rfl,rfl,trivial⟩,⟨rfl,rfl,trivial⟩,trivial⟩,ack p q [] b,rfl,⟨⟨rfl,by decide,by decide⟩,by decide,⟨by decide,b9,by show 0<=500000; omega⟩,rfl,b9,by show 0<=500000; omega⟩,rfl,rfl,⟨⟨?_,?_,?_⟩,⟨?_,?_,?_⟩⟩⟩
   .show (!p==q&&decide (val []≠0))=decide ((zv p []).tdiv (zv q b)<0)
    exact jl (v:=val ([]:List Int)) (by decide) (by rw [hzq]; simp [val])
   .exact kK
   .show List.take ((aa (val ([]:List Int)).toNat).length:Int).toNat (List.drop (Int.toNat 0) (aa (val ([]:List Int)).toNat))=aa ((zv p []).tdiv (zv q b)).natAbs
    rw [td,jm (v:=val ([]:List Int)) (p:=!p==q) (z:=(zv p []).tdiv (zv q b)) (by decide) (by rw [hzq]; simp [val])]
   .show (p&&decide (val []≠0))=decide ((zv p []).tmod (zv q b)<0)
    exact jl (v:=val ([]:List Int)) (by decide) (by rw [hzr]; simp [val])
   .exact kK
   .show List.take ((aa (val ([]:List Int)).toNat).length:Int).toNat (List.drop (Int.toNat 0) (aa (val ([]:List Int)).toNat))=aa ((zv p []).tmod (zv q b)).natAbs
    rw [td,jm (v:=val ([]:List Int)) (p:=p) (z:=(zv p []).tmod (zv q b)) (by decide) (by rw [hzr]; simp [val])]
  .have hpos:0<a.length:=List.length_pos_iff.2 h0
   obtain ⟨l1,l2,l3⟩:=Pe (b:=b) ha.1 vb
   have e2:List.take ((a.length:Int)).toNat (List.drop (Int.toNat 0) (paQ a b (-1)))=paQ a b (-1):=by
    rw [show ((a.length:Int)).toNat=(paQ a b (-1)).length by omega,show (Int.toNat 0)=0 from rfl,List.drop_zero,List.take_length]
   have r1:=Pf a b
   obtain ⟨r2,r3⟩:=Fx hP (-1)
   have r4:val (paR a b (-1))=val a % val b:=by rw [r1,dn]; omega
   refine ⟨W5 p q a b,300,c7 p q a b,_,_,_,_,_,RK p q hP hpos,rfl,rfl,⟨⟨rfl,rfl,trivial⟩,⟨rfl,rfl,trivial⟩,trivial⟩,acj p q a b,rfl,⟨⟨rfl,by omega,by omega⟩,⟨rfl,rfl,rfl⟩,⟨⟨by omega,by omega,by omega⟩,by rw [e2]; exact l2,by rw [e2]; show _<=500000; omega⟩,rfl,kK,by rw [td]; exact r2,by rw [td]; show _<=500000; omega⟩,rfl,rfl,⟨⟨?_,?_,?_⟩,⟨?_,?_,?_⟩⟩⟩
   .show (!p==q&&decide (val (List.take ((a.length:Int)).toNat (List.drop (Int.toNat 0) (paQ a b (-1))))≠0))=decide ((zv p a).tdiv (zv q b)<0)
    rw [e2,l3]
    exact jl q0 hzq
   .exact kK
   .show List.take _ (List.drop _ (aa (val (List.take ((a.length:Int)).toNat (List.drop (Int.toNat 0) (paQ a b (-1))))).toNat))=aa ((zv p a).tdiv (zv q b)).natAbs
    rw [e2,td,l3,jm q0 hzq]
   .show (p&&decide (val (List.take _ (List.drop _ (paR a b (-1))))≠0))=decide ((zv p a).tmod (zv q b)<0)
    rw [td,r4]
    exact jl r0 hzr
   .exact kK
   .show List.take _ (List.drop _ (aa (val (List.take _ (List.drop _ (paR a b (-1))))).toNat))=aa ((zv p a).tmod (zv q b)).natAbs
    rw [td,td,r4,jm r0 hzr]
 .cases e
def lgA (id:Nat) (z:Int):List AV:=[.bool true (decide (z<0)),.lslice id (aa z.natAbs).length]
end
end Go.Proofs.YtmnhhlnbfkfkaaaGreat.K
namespace Go.Dg
open Go Go.Eng
noncomputable section
def frL {β:Type}:List Int->(List Int->β)->β
 | [],k=>k []
 | x :: l,k=>kP x fun x=>frL l fun l=>k (x :: l)
theorem Mw {β:Type}:∀ (l:List Int) (k:List Int->β),frL l k=k l
 | [],_=>rfl
 | x :: l,k=>by rw [frL,qT,Mw]
def frB {β:Type} (b:Bool) (k:Bool->β):β:=match b with|true=>k true|false=>k false
theorem Xf {β:Type} (b:Bool) (k:Bool->β):frB b k=k b:=by cases b <;> rfl
def frT {β:Type} (t:To) (k:To->β):β:=match t with
 | .st [.bo b,.li o l]=>frB b fun b=>frL l fun l=>k (.st [.bo b,.li o l])
 | t=>k t
theorem DC {β:Type} (t:To) (k:To->β):frT t k=k t:=by
 unfold frT
 split
 .rw [Xf,Mw]
 .rfl
def yK (V:List Nu->List (List Int)->Option (Prop×To)) (xs:List Nu) (ys:List (List Int)):Option (Prop×To):=match V xs ys with
 | some (p,.tu [a,b])=>frT a fun a=>frT b fun b=>some (p,.tu [a,b])
 | some (p,t)=>frT t fun t=>some (p,t)
 | none=>none
theorem RL (V:List Nu->List (List Int)->Option (Prop×To)):yK V=V:=by
 funext xs ys
 unfold yK
 split
 .rename_i h; rw [DC,DC,h]
 .rename_i h; rw [DC,h]
 .rename_i h; rw [h]
end
end Go.Dg
namespace Go.Proofs.YtmnhhlnbfkfkaaaGreat.K
open Go Go.Eng Go.Dg Go.Ar Go.Vc
noncomputable section
def psA:List Ma:=[.st [.nu .b,.li],.st [.nu .b,.li]]
def noZ (V:List Nu->List (List Int)->Option (Prop×To)) (xs:List Nu) (ys:List (List Int)):Option (Prop×To):=match ys with
 | [] :: _=>none
 | [_,[]]=>none
 | _=>V xs ys
theorem Mx {f:FuncId} {ps:List Ma} {V:List Nu->List (List Int)->Option (Prop×To)} (h:NOk Tryz.prog (fun _=>none) hG0 f (au hG0 .i64 ps V)):NOk Tryz.prog (fun _=>none) hG0 f (au hG0 .i64 ps (noZ V)):=by
 refine h.weaken fun args hp nd v bs e=>?_
 refine ⟨nd,v,?_,fun h=>⟨h,fun _ _ k=>k⟩⟩
 unfold au at e ⊢
 split at e
 .cases e
 .rename_i nd1 xs ys hr
  split at e
  .cases e
  .rename_i p t hV
   unfold noZ at hV
   split at hV
   .cases hV
   .cases hV
   .rw [hV]; exact e
theorem qM {f:FuncId} {ps:List Ma} {V:List Nu->List (List Int)->Option (Prop×To)} (h:NOk Tryz.prog (fun _=>none) hG0 f (au hG0 .i64 ps V)):NOk Tryz.prog (fun _=>none) hG0 f (au hG0 .i64 ps (yK V)):=by
 rw [RL]; exact h
def tCl:List (FuncId×eF):=
 (51,au hG0 .i64 psA (yK (noZ Rp))) ::
 (58,au hG0 .i64 psA (yK (noZ dfV))) ::
 (52,au hG0 .i64 psA (yK Rx)) ::
 (82,au hG0 .i64 psA (yK ptV)) ::
 (54,au hG0 .i64 [.nu (.i .i64)] (yK ofV)) ::
 (79,au hG0 .i64 [.st [.nu .b,.li]] (yK miV)) :: []
theorem Xg:∀ x∈tCl,NOk Tryz.prog (fun _=>none) hG0 x.1 x.2:=by
 intro x hx
 simp only [tCl,List.mem_cons,List.not_mem_nil,or_false] at hx
 rcases hx with rfl|rfl|rfl|rfl|rfl|rfl
 .exact qM (Mx sum_ok)
 .exact qM (Mx uX)
 .exact qM Fv
 .exact qM BP
 .exact qM Fu
 .exact qM uW
def cCl:Ctx:=mkN Tryz.prog (fun _=>none) hG0 tCl [] dK
theorem My:CtxOk cCl:=fP aM (cw _) Xg (fun x h=>by cases h)
def hCl (T A B:Nat):Nat->Nat->Option AV:=fun c t=>match Nat.beq t 21 with
 | true=>match Nat.blt c T with
  | true=>some (.bool false true)
  | false=>some (.bool false false)
 | false=>match Nat.beq t 12 with
  | true=>match Nat.blt c A with
   | true=>some (.bool false true)
   | false=>some (.bool false false)
  | false=>match Nat.beq t 17||Nat.beq t 18 with
   | true=>match Nat.blt c B with
    | true=>some (.bool false false)
    | false=>some (.bool false true)
   | false=>none
def Mz (T A B:Nat):Ctx:=aP cCl (hCl T A B)
theorem Fy (T A B:Nat):CtxOk (Mz T A B):=aj My _
end
end Go.Proofs.YtmnhhlnbfkfkaaaGreat.K
namespace Go.Dg
open Go Go.Eng
def ah (n:Int):Prop:=n.natAbs<=9223372036854775808
theorem MA {n:Int} (h:n.natAbs<=9223372036854775808):ah n:=h
def ae (a:List Int):Prop:=false=false/\(a.length:Int)=(a.length:Int)
theorem DD (a:List Int):ae a:=⟨rfl,rfl⟩
def ao (a b:List Int):Prop:=((a.length:Int)=(a.length:Int)/\(b.length:Int)=(b.length:Int))/\okL false a/\okL false b/\a.length+b.length<=500000
def aV (a b:List Int):Prop:=((a.length:Int)=(a.length:Int)/\(b.length:Int)=(b.length:Int))/\okL false a/\okL false b/\b≠[]/\a.length+b.length<=400000
def kM (a b:List Int):Prop:=((a.length:Int)=(a.length:Int)/\(b.length:Int)=(b.length:Int))/\okL false a/\okL false b/\a≠[]/\b≠[]/\val a+val b<pw 400000
def kE (a b:List Int):Prop:=((a.length:Int)=(a.length:Int)/\(b.length:Int)=(b.length:Int))/\okL false a/\okL false b/\false=false/\a≠[]/\b≠[]
def dgB (a:List Int):Bool:=a.all fun x=>decide (0<=x)&&decide (x<1000000000)
def tpB (a:List Int):Bool:=decide (a.getD (a.length - 1) 0≠0)
def okB (a:List Int):Bool:=dgB a&&(tpB a&&(Nat.ble a.length 1000&&!a.isEmpty))
theorem fZ {a:List Int} (h:okB a=true):okL false a/\a≠[]/\a.length<=1000/\val a<pw 1000:=by
 unfold okB at h
 simp only [Bool.and_eq_true,Nat.ble_eq,Bool.not_eq_true',List.isEmpty_eq_false_iff] at h
 obtain ⟨h1,h2,h3,h4⟩:=h
 have hd:Dig a:=by
  intro x hx
  unfold dgB at h1
  have:=List.all_eq_true.1 h1 x hx
  simpa using this
 have ht:Top a:=by
  unfold tpB at h2
  exact .inr (of_decide_eq_true h2)
 refine ⟨⟨hd,ht,fun h=>(by cases h),by show a.length<=500000; omega⟩,h4,h3,?_⟩
 have:=bc hd
 have:=bN h3
 omega
theorem DE {a b:List Int} (h:(okB a&&okB b)=true):ao a b:=by
 simp only [Bool.and_eq_true] at h
 obtain ⟨a1,a2,a3,_⟩:=fZ h.1
 obtain ⟨b1,b2,b3,_⟩:=fZ h.2
 exact ⟨⟨rfl,rfl⟩,a1,b1,by omega⟩
theorem DF {a b:List Int} (h:(okB a&&okB b)=true):aV a b:=by
 simp only [Bool.and_eq_true] at h
 obtain ⟨a1,a2,a3,_⟩:=fZ h.1
 obtain ⟨b1,b2,b3,_⟩:=fZ h.2
 exact ⟨⟨rfl,rfl⟩,a1,b1,b2,by omega⟩
theorem DG {a b:List Int} (h:(okB a&&okB b)=true):kM a b:=by
 simp only [Bool.and_eq_true] at h
 obtain ⟨a1,a2,a3,a4⟩:=fZ h.1
 obtain ⟨b1,b2,b3,b4⟩:=fZ h.2
 refine ⟨⟨rfl,rfl⟩,a1,b1,a2,b2,?_⟩
 have e1:=bN (show 1000+1<=400000 by omega)
 rw [pw] at e1
 have e3:=pw_pos 1000
 generalize pw 1000=Q at *
 omega
theorem DH {a b:List Int} (h:(okB a&&okB b)=true):kE a b:=by
 simp only [Bool.and_eq_true] at h
 obtain ⟨a1,a2,_⟩:=fZ h.1
 obtain ⟨b1,b2,_⟩:=fZ h.2
 exact ⟨⟨rfl,rfl⟩,a1,b1,rfl,a2,b2⟩
end Go.Dg
namespace Go.Proofs.YtmnhhlnbfkfkaaaGreat.K
open Go Go.Eng Go.Dg
noncomputable section
def qD0:List Int:=[1]
def qD1:List Int:=[10]
def qD2:List Int:=[100]
def qD3:List Int:=[1000]
def qD4:List Int:=[10000]
def qD5:List Int:=[100000]
def qD6:List Int:=[1000000]
def qD7:List Int:=[10000000]
def qD8:List Int:=[100000000]
def qD9:List Int:=[0,1]
def ZE:List Int:=[0,10]
def ZF:List Int:=[0,100]
def ZG:List Int:=[0,1000]
def ZH:List Int:=[0,10000]
def ZI:List Int:=[0,100000]
def ZJ:List Int:=[0,1000000]
def ZK:List Int:=[0,10000000]
def ZL:List Int:=[0,100000000]
def ZM:List Int:=[0,0,1]
def ZN:List Int:=[0,0,10]
def ZO:List Int:=[0,0,100]
def ZP:List Int:=[0,0,1000]
def ZQ:List Int:=[0,0,10000]
def ZR:List Int:=[0,0,100000]
def ZS:List Int:=[0,0,1000000]
def ZT:List Int:=[0,0,10000000]
def ZU:List Int:=[0,0,100000000]
def ZV:List Int:=[0,0,0,1]
def ZW:List Int:=[0,0,0,10]
def ZX:List Int:=[0,0,0,100]
def ZY:List Int:=[0,0,0,1000]
def ZZ:List Int:=[0,0,0,10000]
def Z0:List Int:=[0,0,0,100000]
def Z1:List Int:=[0,0,0,1000000]
def Z2:List Int:=[0,0,0,10000000]
def Z3:List Int:=[0,0,0,100000000]
def Z4:List Int:=[0,0,0,0,1]
def Z6:List Int:=[0,0,0,0,10]
def Z7:List Int:=[0,0,0,0,100]
def Z8:List Int:=[0,0,0,0,1000]
def qN:List Int:=[0,0,0,0,10000]
def HG:List Int:=[7]
def vj:List Int:=[428571428,571428571,428571428,571428571,1428]
def cn:List Int:=[49]
def yL:List Int:=[763848396,256559766,437317784,154518950,29]
def BQ:List Int:=[3]
def acl:List Int:=[254616132,85519922,479105928,718172983,9]
def yM:List Int:=[525792824,229725709,661986077,594990182]
def RM:List Int:=[5]
def acm:List Int:=[173955296,485908649,949465500,853255587,1418]
def acn:List Int:=[905158564,445945141,532397215,118998036]
def yO:List Int:=[51546792,25096443,789020124,12142656]
def aco:List Int:=[79113860,931853791,481862715,972253624,1418]
def acp:List Int:=[721649541,432156634,255574303,1734665]
def yP:List Int:=[674521363,490308090,322224900,247809]
def kN:List Int:=[9]
def acq:List Int:=[357464319,499697156,226288412,970518959,1418]
def acr:List Int:=[741613484,54478676,369136100,27534]
def yQ:List Int:=[523969823,622251185,333106630,5057]
def RN:List Int:=[11]
def acs:List Int:=[99077803,554175833,595424512,970546493,1418]
def acu:List Int:=[411269983,238386471,757555148,459]
def yR:List Int:=[643346322,155556146,210879727,103]
def RO:List Int:=[13]
def acv:List Int:=[687807820,315789361,837869364,970546033,1418]
def acw:List Int:=[895642024,550427395,939298440,7]
def yS:List Int:=[155986659,227664411,106344484,2]
def RP:List Int:=[15]
def acx:List Int:=[583449844,866216757,777167804,970546041,1418]
def acy:List Int:=[410399110,615177627,140422965]
def yT:List Int:=[64407891,127095192,42986622]
def RQ:List Int:=[17]
def acz:List Int:=[173050734,251039130,636744839,970546041,1418]
def acA:List Int:=[533200464,831005599,2528624]
def yU:List Int:=[429885875,2593779,877278]
def RS:List Int:=[19]
def acB:List Int:=[706251198,82044729,639273464,970546041,1418]
def acC:List Int:=[180520309,526452304,46172]
def yV:List Int:=[498569099,632705995,17903]
def RT:List Int:=[21]
def acD:List Int:=[525730889,555592425,639227291,970546041,1418]
def acE:List Int:=[738027099,553938380,852]
def yW:List Int:=[30583042,380259306,365]
def RU:List Int:=[23]
def acF:List Int:=[263757988,109530806,639228144,970546041,1418]
def acG:List Int:=[696981871,886098230,15]
def yX:List Int:=[837358837,456739985,7]
def RV:List Int:=[25]
def acH:List Int:=[566776117,223432575,639228128,970546041,1418]
def acI:List Int:=[433494353,298269599]
def yY:List Int:=[57905282,152178367]
def RW:List Int:=[27]
def acJ:List Int:=[270470,521702175,639228128,970546041,1418]
def acK:List Int:=[816959454,5636235]
def yZ:List Int:=[960365413,3105680]
def Z9:List Int:=[29]
def acL:List Int:=[183311016,516065939,639228128,970546041,1418]
def acM:List Int:=[446909152,107092]
def y5:List Int:=[244089090,63381]
def aaa:List Int:=[31]
def aab:List Int:=[630220168,516173031,639228128,970546041,1418]
def aac:List Int:=[556260938,2044]
def pH:List Int:=[494777328,1293]
def Tg:List Int:=[33]
def aad:List Int:=[73959230,516170987,639228128,970546041,1418]
def aae:List Int:=[196811434,39]
def pJ:List Int:=[397852598,26]
def Th:List Int:=[35]
def aaf:List Int:=[270770664,516171026,639228128,970546041,1418]
def aag:List Int:=[754224359]
def pK:List Int:=[538731685]
def Ti:List Int:=[37]
def aah:List Int:=[516546305,516171025,639228128,970546041,1418]
def aai:List Int:=[14560315]
def pL:List Int:=[10994524]
def Tj:List Int:=[39]
def aaj:List Int:=[531106620,516171025,639228128,970546041,1418]
def aak:List Int:=[281910]
def pM:List Int:=[224378]
def Tk:List Int:=[41]
def aal:List Int:=[530824710,516171025,639228128,970546041,1418]
def aam:List Int:=[5472]
def pN:List Int:=[4579]
def Tl:List Int:=[43]
def aan:List Int:=[530830182,516171025,639228128,970546041,1418]
def aao:List Int:=[106]
def pO:List Int:=[93]
def Tn:List Int:=[45]
def aap:List Int:=[530830076,516171025,639228128,970546041,1418]
def aaq:List Int:=[2]
def Tp:List Int:=[47]
def MB:List Int:=[530830078,516171025,639228128,970546041,1418]
def Tq:List Int:=[79]
def aar:List Int:=[0,0,0,0,30000]
def pP:List Int:=[468354430,544303797,37974683,746835443,379]
def cO:List Int:=[6241]
def aas:List Int:=[215189870,898734177,341772151,721518987,3417]
def rK:List Int:=[533282356,233119489,629120617,547624021]
def aat:List Int:=[177760785,744373163,543040205,182541340]
def aau:List Int:=[799541204,98075405,662085555,928616194,4]
def rL:List Int:=[600993357,122752455,781871829,789715]
def aav:List Int:=[290593645,799930634,494934477,564294102,379]
def aaw:List Int:=[120198671,824550491,156374365,157943]
def aax:List Int:=[408940213,104772100,36846462,7107442]
def rM:List Int:=[563276548,942654185,830642019,1138]
def aay:List Int:=[410792316,624481125,651308843,564452045,379]
def aaz:List Int:=[651896649,134664883,690091717,162]
def aaA:List Int:=[69488932,483887670,475778179,10249]
def rN:List Int:=[252694999,161910573,642281009,1]
def aaB:List Int:=[758895667,489816241,961217126,564451882,379]
def aaC:List Int:=[361410555,684656730,182475667]
def aaD:List Int:=[274254991,457195159,780529082,14]
def rO:List Int:=[195845898,997990257,2368294]
def aaE:List Int:=[120306222,174472972,143692794,564451883,379]
def aaF:List Int:=[563258718,545271841,215299]
def aaG:List Int:=[762613082,981912314,21314654]
def rQ:List Int:=[694241726,262775502,3415]
def aaH:List Int:=[557047504,629201130,143477494,564451883,379]
def aaI:List Int:=[514941671,712521192,262]
def aaJ:List Int:=[248175534,364979524,30737]
def rS:List Int:=[241347248,925070498,4]
def aaK:List Int:=[71989175,341722323,143477757,564451883,379]
def aaL:List Int:=[216089816,328338033]
def aaM:List Int:=[172125232,325634484,44]
def rU:List Int:=[871041840,7102328]
def aaN:List Int:=[855899359,13384289,143477757,564451883,379]
def aaO:List Int:=[51237755,417784]
def aaP:List Int:=[839376560,63920959]
def rV:List Int:=[102201470,10242]
def aaQ:List Int:=[907137114,13802073,143477757,564451883,379]
def aaR:List Int:=[58010603,539]
def aaS:List Int:=[919813230,92178]
def rW:List Int:=[769895820,14]
def aaT:List Int:=[849126511,13801534,143477757,564451883,379]
def aaU:List Int:=[703328372]
def aaV:List Int:=[929062380,132]
def rX:List Int:=[21299321]
def aaW:List Int:=[552454883,13801535,143477757,564451883,379]
def aaX:List Int:=[926057]
def aaY:List Int:=[191693889]
def rY:List Int:=[30715]
def aaZ:List Int:=[551528826,13801535,143477757,564451883,379]
def aa0:List Int:=[1228]
def aa1:List Int:=[276435]
def rZ:List Int:=[44]
def aa2:List Int:=[551530054,13801535,143477757,564451883,379]
def aa3:List Int:=[396]
def Tr:List Int:=[551530053,13801535,143477757,564451883,379]
def DI (z:Int):Prop:=(ah 1/\(ah 10/\ae qD0/\ao qD0 qD1)/\(ah 10/\ae qD1/\ao qD1 qD1)/\(ah 10/\ae qD2/\ao qD2 qD1)/\(ah 10/\ae qD3/\ao qD3 qD1)/\(ah 10/\ae qD4/\ao qD4 qD1)/\(ah 10/\ae qD5/\ao qD5 qD1)/\(ah 10/\ae qD6/\ao qD6 qD1)/\(ah 10/\ae qD7/\ao qD7 qD1)/\(ah 10/\ae qD8/\ao qD8 qD1)/\(ah 10/\ae qD9/\ao qD9 qD1)/\(ah 10/\ae ZE/\ao ZE qD1)/\(ah 10/\ae ZF/\ao ZF qD1)/\(ah 10/\ae ZG/\ao ZG qD1)/\(ah 10/\ae ZH/\ao ZH qD1)/\(ah 10/\ae ZI/\ao ZI qD1)/\(ah 10/\ae ZJ/\ao ZJ qD1)/\(ah 10/\ae ZK/\ao ZK qD1)/\(ah 10/\ae ZL/\ao ZL qD1)/\(ah 10/\ae ZM/\ao ZM qD1)/\(ah 10/\ae ZN/\ao ZN qD1)/\(ah 10/\ae ZO/\ao ZO qD1)/\(ah 10/\ae ZP/\ao ZP qD1)/\(ah 10/\ae ZQ/\ao ZQ qD1)/\(ah 10/\ae ZR/\ao ZR qD1)/\(ah 10/\ae ZS/\ao ZS qD1)/\(ah 10/\ae ZT/\ao ZT qD1)/\(ah 10/\ae ZU/\ao ZU qD1)/\(ah 10/\ae ZV/\ao ZV qD1)/\(ah 10/\ae ZW/\ao ZW qD1)/\(ah 10/\ae ZX/\ao ZX qD1)/\(ah 10/\ae ZY/\ao ZY qD1)/\(ah 10/\ae ZZ/\ao ZZ qD1)/\(ah 10/\ae Z0/\ao Z0 qD1)/\(ah 10/\ae Z1/\ao Z1 qD1)/\(ah 10/\ae Z2/\ao Z2 qD1)/\(ah 10/\ae Z3/\ao Z3 qD1)/\(ah 10/\ae Z4/\ao Z4 qD1)/\(ah 10/\ae Z6/\ao Z6 qD1)/\(ah 10/\ae Z7/\ao Z7 qD1)/\ah 10/\ae Z8/\ao Z8 qD1)
def aa4 (z:Int):AV:=(AV.agg [AV.bool true false,AV.lslice (0:Nat) (↑qN.length:Int)])
def aa5 (z:Int):Hp:=⟨[{ wr:=444,body:=ABody.rows IntKind.i64 qN }],1,453⟩
theorem qpw (z:Int):(run cCl 900).call 50 [.int false .i64 40] hG0=some ⟨.p (DI z),[⟨.tt,aa4 z,aa5 z⟩]⟩:=by kernel_rfl
def MC (z:Int):Prop:=(ah 0/\(ah 1/\(5:Int)=5/\ah 7/\(5:Int)=5/\(((5:Int)=(↑qN.length:Int)/\(↑qD0.length:Int)=(↑qD0.length:Int))/\okL false qN/\okL false qD0/\qN.length+qD0.length<=(500000:Nat))/\ae HG/\aV qN HG)/\(decide ((↑vj.length:Int)>0)=true/\(ah 1/\ae vj/\ah 1/\ae vj/\ao vj qD0/\ae qD0/\aV vj qD0)/\((↑([]:List Int).length:Int)==0)=true/\ah 1/\ae vj/\ah 49/\ae vj/\ao vj qD0/\ae cn/\aV vj cn)/\(decide ((↑yL.length:Int)>0)=true/\(ah 1/\ae yL/\ah 3/\ae yL/\ao yL qD0/\ae BQ/\aV yL BQ)/\kE vj acl/\ah 1/\ae yL/\ah 49/\ae yL/\ao yL qD0/\ae cn/\aV yL cn)/\(decide ((↑yM.length:Int)>0)=true/\(ah 1/\ae yM/\ah 5/\ae yM/\ao yM qD0/\ae RM/\aV yM RM)/\kM acm acn/\ah 1/\ae yM/\ah 49/\ae yM/\ao yM qD0/\ae cn/\aV yM cn)/\(decide ((↑yO.length:Int)>0)=true/\(ah 1/\ae yO/\ah 7/\ae yO/\ao yO qD0/\ae HG/\aV yO HG)/\kE aco acp/\ah 1/\ae yO/\ah 49/\ae yO/\ao yO qD0/\ae cn/\aV yO cn)/\(decide ((↑yP.length:Int)>0)=true/\(ah 1/\ae yP/\ah 9/\ae yP/\ao yP qD0/\ae kN/\aV yP kN)/\kM acq acr/\ah 1/\ae yP/\ah 49/\ae yP/\ao yP qD0/\ae cn/\aV yP cn)/\(decide ((↑yQ.length:Int)>0)=true/\(ah 1/\ae yQ/\ah 11/\ae yQ/\ao yQ qD0/\ae RN/\aV yQ RN)/\kE acs acu/\ah 1/\ae yQ/\ah 49/\ae yQ/\ao yQ qD0/\ae cn/\aV yQ cn)/\(decide ((↑yR.length:Int)>0)=true/\(ah 1/\ae yR/\ah 13/\ae yR/\ao yR qD0/\ae RO/\aV yR RO)/\kM acv acw/\ah 1/\ae yR/\ah 49/\ae yR/\ao yR qD0/\ae cn/\aV yR cn)/\(decide ((↑yS.length:Int)>0)=true/\(ah 1/\ae yS/\ah 15/\ae yS/\ao yS qD0/\ae RP/\aV yS RP)/\kE acx acy/\ah 1/\ae yS/\ah 49/\ae yS/\ao yS qD0/\ae cn/\aV yS cn)/\(decide ((↑yT.length:Int)>0)=true/\(ah 1/\ae yT/\ah 17/\ae yT/\ao yT qD0/\ae RQ/\aV yT RQ)/\kM acz acA/\ah 1/\ae yT/\ah 49/\ae yT/\ao yT qD0/\ae cn/\aV yT cn)/\(decide ((↑yU.length:Int)>0)=true/\(ah 1/\ae yU/\ah 19/\ae yU/\ao yU qD0/\ae RS/\aV yU RS)/\kE acB acC/\ah 1/\ae yU/\ah 49/\ae yU/\ao yU qD0/\ae cn/\aV yU cn)/\(decide ((↑yV.length:Int)>0)=true/\(ah 1/\ae yV/\ah 21/\ae yV/\ao yV qD0/\ae RT/\aV yV RT)/\kM acD acE/\ah 1/\ae yV/\ah 49/\ae yV/\ao yV qD0/\ae cn/\aV yV cn)/\(decide ((↑yW.length:Int)>0)=true/\(ah 1/\ae yW/\ah 23/\ae yW/\ao yW qD0/\ae RU/\aV yW RU)/\kE acF acG/\ah 1/\ae yW/\ah 49/\ae yW/\ao yW qD0/\ae cn/\aV yW cn)/\(decide ((↑yX.length:Int)>0)=true/\(ah 1/\ae yX/\ah 25/\ae yX/\ao yX qD0/\ae RV/\aV yX RV)/\kM acH acI/\ah 1/\ae yX/\ah 49/\ae yX/\ao yX qD0/\ae cn/\aV yX cn)/\(decide ((↑yY.length:Int)>0)=true/\(ah 1/\ae yY/\ah 27/\ae yY/\ao yY qD0/\ae RW/\aV yY RW)/\kE acJ acK/\ah 1/\ae yY/\ah 49/\ae yY/\ao yY qD0/\ae cn/\aV yY cn)/\(decide ((↑yZ.length:Int)>0)=true/\(ah 1/\ae yZ/\ah 29/\ae yZ/\ao yZ qD0/\ae Z9/\aV yZ Z9)/\kM acL acM/\ah 1/\ae yZ/\ah 49/\ae yZ/\ao yZ qD0/\ae cn/\aV yZ cn)/\(decide ((↑y5.length:Int)>0)=true/\(ah 1/\ae y5/\ah 31/\ae y5/\ao y5 qD0/\ae aaa/\aV y5 aaa)/\kE aab aac/\ah 1/\ae y5/\ah 49/\ae y5/\ao y5 qD0/\ae cn/\aV y5 cn)/\(decide ((↑pH.length:Int)>0)=true/\(ah 1/\ae pH/\ah 33/\ae pH/\ao pH qD0/\ae Tg/\aV pH Tg)/\kM aad aae/\ah 1/\ae pH/\ah 49/\ae pH/\ao pH qD0/\ae cn/\aV pH cn)/\(decide ((↑pJ.length:Int)>0)=true/\(ah 1/\ae pJ/\ah 35/\ae pJ/\ao pJ qD0/\ae Th/\aV pJ Th)/\kE aaf aag/\ah 1/\ae pJ/\ah 49/\ae pJ/\ao pJ qD0/\ae cn/\aV pJ cn)/\(decide ((↑pK.length:Int)>0)=true/\(ah 1/\ae pK/\ah 37/\ae pK/\ao pK qD0/\ae Ti/\aV pK Ti)/\kM aah aai/\ah 1/\ae pK/\ah 49/\ae pK/\ao pK qD0/\ae cn/\aV pK cn)/\(decide ((↑pL.length:Int)>0)=true/\(ah 1/\ae pL/\ah 39/\ae pL/\ao pL qD0/\ae Tj/\aV pL Tj)/\kE aaj aak/\ah 1/\ae pL/\ah 49/\ae pL/\ao pL qD0/\ae cn/\aV pL cn)/\(decide ((↑pM.length:Int)>0)=true/\(ah 1/\ae pM/\ah 41/\ae pM/\ao pM qD0/\ae Tk/\aV pM Tk)/\kM aal aam/\ah 1/\ae pM/\ah 49/\ae pM/\ao pM qD0/\ae cn/\aV pM cn)/\(decide ((↑pN.length:Int)>0)=true/\(ah 1/\ae pN/\ah 43/\ae pN/\ao pN qD0/\ae Tl/\aV pN Tl)/\kE aan aao/\ah 1/\ae pN/\ah 49/\ae pN/\ao pN qD0/\ae cn/\aV pN cn)/\(decide ((↑pO.length:Int)>0)=true/\(ah 1/\ae pO/\ah 45/\ae pO/\ao pO qD0/\ae Tn/\aV pO Tn)/\kM aap aaq/\ah 1/\ae pO/\ah 49/\ae pO/\ao pO qD0/\ae cn/\aV pO cn)/\(decide ((↑qD0.length:Int)>0)=true/\(ah 1/\ae qD0/\ah 47/\ae qD0/\ao qD0 qD0/\ae Tp/\aV qD0 Tp)/\(((↑MB.length:Int)==0)=false/\((↑([]:List Int).length:Int)==0)=true)/\ah 1/\ae qD0/\ah 49/\ae qD0/\ao qD0 qD0/\ae cn/\aV qD0 cn)/\decide ((↑([]:List Int).length:Int)>0)=false)
def acN (z:Int):AV:=(AV.agg [AV.bool true false,AV.lslice 1 (↑MB.length:Int)])
def acO (z:Int):Hp:=⟨[{ wr:=1645,body:=ABody.rows IntKind.i64 MB },{ wr:=(0:Nat),body:=ABody.rows IntKind.i64 qN }],2,1770⟩
theorem a1 (z:Int):(run (Mz 1726 110 0) 2000).call 53 [.int false .i64 1,.int false .i64 7,.agg [.bool false false,.lslice 0 5]] ⟨[⟨0,.rows .i64 qN⟩],1,1⟩=some ⟨.p (MC z),[⟨.tt,acN z,acO z⟩]⟩:=by kernel_rfl
def MD (z:Int):Prop:=(ah 0/\(ah 3/\(5:Int)=5/\ah 79/\(5:Int)=5/\(((5:Int)=(↑qN.length:Int)/\(↑BQ.length:Int)=(↑BQ.length:Int))/\okL false qN/\okL false BQ/\qN.length+BQ.length<=(500000:Nat))/\ae Tq/\aV aar Tq)/\(decide ((↑pP.length:Int)>0)=true/\(ah 1/\ae pP/\ah 1/\ae pP/\ao pP qD0/\ae qD0/\aV pP qD0)/\((↑([]:List Int).length:Int)==0)=true/\ah 9/\ae pP/\ah 6241/\ae pP/\ao pP kN/\ae cO/\aV aas cO)/\(decide ((↑rK.length:Int)>0)=true/\(ah 1/\ae rK/\ah 3/\ae rK/\ao rK qD0/\ae BQ/\aV rK BQ)/\kE pP aat/\ah 9/\ae rK/\ah 6241/\ae rK/\ao rK kN/\ae cO/\aV aau cO)/\(decide ((↑rL.length:Int)>0)=true/\(ah 1/\ae rL/\ah 5/\ae rL/\ao rL qD0/\ae RM/\aV rL RM)/\kM aav aaw/\ah 9/\ae rL/\ah 6241/\ae rL/\ao rL kN/\ae cO/\aV aax cO)/\(decide ((↑rM.length:Int)>0)=true/\(ah 1/\ae rM/\ah 7/\ae rM/\ao rM qD0/\ae HG/\aV rM HG)/\kE aay aaz/\ah 9/\ae rM/\ah 6241/\ae rM/\ao rM kN/\ae cO/\aV aaA cO)/\(decide ((↑rN.length:Int)>0)=true/\(ah 1/\ae rN/\ah 9/\ae rN/\ao rN qD0/\ae kN/\aV rN kN)/\kM aaB aaC/\ah 9/\ae rN/\ah 6241/\ae rN/\ao rN kN/\ae cO/\aV aaD cO)/\(decide ((↑rO.length:Int)>0)=true/\(ah 1/\ae rO/\ah 11/\ae rO/\ao rO qD0/\ae RN/\aV rO RN)/\kE aaE aaF/\ah 9/\ae rO/\ah 6241/\ae rO/\ao rO kN/\ae cO/\aV aaG cO)/\(decide ((↑rQ.length:Int)>0)=true/\(ah 1/\ae rQ/\ah 13/\ae rQ/\ao rQ qD0/\ae RO/\aV rQ RO)/\kM aaH aaI/\ah 9/\ae rQ/\ah 6241/\ae rQ/\ao rQ kN/\ae cO/\aV aaJ cO)/\(decide ((↑rS.length:Int)>0)=true/\(ah 1/\ae rS/\ah 15/\ae rS/\ao rS qD0/\ae RP/\aV rS RP)/\kE aaK aaL/\ah 9/\ae rS/\ah 6241/\ae rS/\ao rS kN/\ae cO/\aV aaM cO)/\(decide ((↑rU.length:Int)>0)=true/\(ah 1/\ae rU/\ah 17/\ae rU/\ao rU qD0/\ae RQ/\aV rU RQ)/\kM aaN aaO/\ah 9/\ae rU/\ah 6241/\ae rU/\ao rU kN/\ae cO/\aV aaP cO)/\(decide ((↑rV.length:Int)>0)=true/\(ah 1/\ae rV/\ah 19/\ae rV/\ao rV qD0/\ae RS/\aV rV RS)/\kE aaQ aaR/\ah 9/\ae rV/\ah 6241/\ae rV/\ao rV kN/\ae cO/\aV aaS cO)/\(decide ((↑rW.length:Int)>0)=true/\(ah 1/\ae rW/\ah 21/\ae rW/\ao rW qD0/\ae RT/\aV rW RT)/\kM aaT aaU/\ah 9/\ae rW/\ah 6241/\ae rW/\ao rW kN/\ae cO/\aV aaV cO)/\(decide ((↑rX.length:Int)>0)=true/\(ah 1/\ae rX/\ah 23/\ae rX/\ao rX qD0/\ae RU/\aV rX RU)/\kE aaW aaX/\ah 9/\ae rX/\ah 6241/\ae rX/\ao rX kN/\ae cO/\aV aaY cO)/\(decide ((↑rY.length:Int)>0)=true/\(ah 1/\ae rY/\ah 25/\ae rY/\ao rY qD0/\ae RV/\aV rY RV)/\kM aaZ aa0/\ah 9/\ae rY/\ah 6241/\ae rY/\ao rY kN/\ae cO/\aV aa1 cO)/\(decide ((↑rZ.length:Int)>0)=true/\(ah 1/\ae rZ/\ah 27/\ae rZ/\ao rZ qD0/\ae RW/\aV rZ RW)/\kE aa2 qD0/\ah 9/\ae rZ/\ah 6241/\ae rZ/\ao rZ kN/\ae cO/\aV aa3 cO)/\decide ((↑([]:List Int).length:Int)>0)=false)
def acP (z:Int):AV:=(AV.agg [AV.bool true false,AV.lslice 1 (↑Tr.length:Int)])
def acQ (z:Int):Hp:=⟨[{ wr:=1006,body:=ABody.rows IntKind.i64 Tr },{ wr:=(0:Nat),body:=ABody.rows IntKind.i64 qN }],2,1046⟩
theorem a2 (z:Int):(run (Mz 1017 110 0) 2000).call 53 [.int false .i64 3,.int false .i64 79,.agg [.bool false false,.lslice 0 5]] ⟨[⟨0,.rows .i64 qN⟩],1,1⟩=some ⟨.p (MD z),[⟨.tt,acP z,acQ z⟩]⟩:=by kernel_rfl
theorem Xh (z:Int):DI z:=by
 unfold DI
 repeat' first|with_reducible refine And.intro ?_ ?_|exact MA (by decide)|exact DD _|exact DE rfl|exact DF rfl|exact DG rfl|exact DH rfl|rfl|exact (fZ rfl).1|decide
theorem aa6 (z:Int):MC z:=by
 unfold MC
 repeat' first|with_reducible refine And.intro ?_ ?_|exact MA (by decide)|exact DD _|exact DE rfl|exact DF rfl|exact DG rfl|exact DH rfl|rfl|exact (fZ rfl).1|decide
theorem aa7 (z:Int):MD z:=by
 unfold MD
 repeat' first|with_reducible refine And.intro ?_ ?_|exact MA (by decide)|exact DD _|exact DE rfl|exact DF rfl|exact DG rfl|exact DH rfl|rfl|exact (fZ rfl).1|decide
end
end Go.Proofs.YtmnhhlnbfkfkaaaGreat.K
namespace Go.Proofs.YtmnhhlnbfkfkaaaGreat.K
open Go Go.Eng Go.Dg Go.Ar Go.Vc
noncomputable section
def ag:Int:=10000000000000000000000000000000000000000
def iW:Int:=1418970546041639228128516171025530830078
def iX:Int:=379564451883143477757013801535551530053
theorem BR:aa ag.natAbs=[0,0,0,0,10000]:=du (l:=[0,0,0,0,10000]) (fZ rfl).1.1 (fZ rfl).1.2.1
theorem HI:aa iW.natAbs=[530830078,516171025,639228128,970546041,1418]:=du (l:=[530830078,516171025,639228128,970546041,1418]) (fZ rfl).1.1 (fZ rfl).1.2.1
theorem HJ:aa iX.natAbs=[551530053,13801535,143477757,564451883,379]:=du (l:=[551530053,13801535,143477757,564451883,379]) (fZ rfl).1.1 (fZ rfl).1.2.1
def Xi:List Nu->List (List Int)->Option (Prop×To)
 | [.n n],[]=>some (n=40,lgT false ag)
 | _,_=>none
def ME:List Nu->List (List Int)->Option (Prop×To)
 | [.n p,.n q,.t b],[a]=>some (((p=1/\q=7)\/(p=3/\q=79))/\b=false/\a=[0,0,0,0,10000],lgT false (bif p==1 then iW else iX))
 | _,_=>none
theorem MG:NOk Tryz.prog (fun _=>none) hG0 50 (au hG0 .i64 [.nu (.i .i64)] Xi):=by
 refine bg (fun xs ys p t e h=>?_) ⟨_,Tryz.func50,rfl⟩
 unfold Xi at e
 split at e
 .cases e
  subst h
  refine ⟨cCl,900,[.int false .i64 40],_,_,_,_,_,My,rfl,rfl,⟨⟨rfl,rfl⟩,trivial⟩,qpw 0,rfl,Xh 0,rfl,rfl,⟨rfl,rfl,?_⟩⟩
  exact BR.symm
 .cases e
theorem RX:NOk Tryz.prog (fun _=>none) hG0 53 (au hG0 .i64 [.nu (.i .i64),.nu (.i .i64),.st [.nu .b,.li]] ME):=by
 refine bg (fun xs ys p t e h=>?_) ⟨_,Tryz.func53,rfl⟩
 unfold ME at e
 split at e
 .cases e
  obtain ⟨⟨rfl,rfl⟩|⟨rfl,rfl⟩,rfl,rfl⟩:=h
  .refine ⟨Mz 1726 110 0,2000,[.int false .i64 1,.int false .i64 7,.agg [.bool false false,.lslice 0 5]],_,_,_,_,_,Fy _ _ _,rfl,rfl,⟨⟨rfl,rfl⟩,⟨rfl,rfl⟩,⟨rfl,rfl,trivial⟩,trivial⟩,a1 0,rfl,aa6 0,rfl,rfl,⟨rfl,rfl,?_⟩⟩
   exact HI.symm
  .refine ⟨Mz 1017 110 0,2000,[.int false .i64 3,.int false .i64 79,.agg [.bool false false,.lslice 0 5]],_,_,_,_,_,Fy _ _ _,rfl,rfl,⟨⟨rfl,rfl⟩,⟨rfl,rfl⟩,⟨rfl,rfl,trivial⟩,trivial⟩,a2 0,rfl,aa7 0,rfl,rfl,⟨rfl,rfl,?_⟩⟩
   exact HJ.symm
 .cases e
def tRs:List (FuncId×eF):=
 (58,au hG0 .i64 psA dfV) ::
 (52,au hG0 .i64 psA Rx) ::
 (82,au hG0 .i64 psA ptV) ::
 (54,au hG0 .i64 [.nu (.i .i64)] ofV) ::
 (79,au hG0 .i64 [.st [.nu .b,.li]] miV) :: []
theorem MH:∀ x∈tRs,NOk Tryz.prog (fun _=>none) hG0 x.1 x.2:=by
 intro x hx
 simp only [tRs,List.mem_cons,List.not_mem_nil,or_false] at hx
 rcases hx with rfl|rfl|rfl|rfl|rfl
 .exact uX
 .exact Fv
 .exact BP
 .exact Fu
 .exact uW
def Xj:Ctx:=mkN Tryz.prog (fun _=>none) hG0 tRs [] dK
theorem RY:CtxOk Xj:=fP aM (cw _) MH (fun x h=>by cases h)
def paC (p q r:Bool) (a b c:List Int):Prop:=okL p a/\okL q b/\okL r c/\c≠[]/\a.length+b.length+c.length<=300000
def partV:List Nu->List (List Int)->Option (Prop×To)
 | [.t p,.t q,.t r],[a,b,c]=>some (paC p q r a b c,lgT false ((zv p a*zv q b).tdiv (zv r c)))
 | _,_=>none
def MI (p q r:Bool) (a b c:List Int):List AV:=[.agg [.bool true p,.lslice 0 a.length],.agg [.bool true q,.lslice 1 b.length],.agg [.bool true r,.lslice 2 c.length]]
def ptH (a b c:List Int):Hp:=dW true hG0 [(.i64,a),(.i64,b),(.i64,c)]
end
end Go.Proofs.YtmnhhlnbfkfkaaaGreat.K
namespace Go.Proofs.YtmnhhlnbfkfkaaaGreat.K
open Go Go.Eng Go.Dg
noncomputable section
def RZ (p q r:Bool) (a b c:List Int):Prop:=((((↑a.length:Int)=(↑a.length:Int)/\(↑b.length:Int)=(↑b.length:Int))/\okL p a/\okL q b/\a.length+b.length<=(500000:Nat))/\(r=r/\(↑c.length:Int)=(↑c.length:Int))/\((↑(aa (zv p a*zv q b).natAbs).length:Int)=(↑(aa (zv p a*zv q b).natAbs).length:Int)/\(↑c.length:Int)=(↑c.length:Int))/\okL (decide (zv p a*zv q b<0)) (aa (zv p a*zv q b).natAbs)/\okL r c/\c≠[]/\(aa (zv p a*zv q b).natAbs).length+c.length<=(400000:Nat))
def Xk (p q r:Bool) (a b c:List Int):AV:=(AV.agg [AV.bool true (decide ((zv (decide (zv p a*zv q b<0)) (aa (zv p a*zv q b).natAbs)).tdiv (zv r c)<0)),AV.lslice 3 (↑(aa ((zv (decide (zv p a*zv q b<0)) (aa (zv p a*zv q b).natAbs)).tdiv (zv r c)).natAbs).length:Int)])
def Xl (p q r:Bool) (a b c:List Int):Hp:=⟨[{ wr:=11,body:=ABody.rows IntKind.i64 (aa ((zv (decide (zv p a*zv q b<0)) (aa (zv p a*zv q b).natAbs)).tdiv (zv r c)).natAbs) },{ wr:=(0:Nat),body:=ABody.rows IntKind.i64 c },{ wr:=(0:Nat),body:=ABody.rows IntKind.i64 b },{ wr:=(0:Nat),body:=ABody.rows IntKind.i64 a }],4,20⟩
theorem acR (p q r:Bool) (a b c:List Int):(run Xj 300).call 56 (MI p q r a b c) (ptH a b c)=some ⟨.p (RZ p q r a b c),[⟨.tt,Xk p q r a b c,Xl p q r a b c⟩]⟩:=by kernel_rfl
end
end Go.Proofs.YtmnhhlnbfkfkaaaGreat.K
namespace Go.Proofs.YtmnhhlnbfkfkaaaGreat.K
open Go Go.Eng Go.Dg Go.Ar Go.Vc
noncomputable section
theorem HK {x y:Int} {m n:Nat} (hx:(x.natAbs:Int)<pw m) (hy:(y.natAbs:Int)<pw n):((x*y).natAbs:Int)<pw (m+n):=by
 have e:pw (m+n)=pw m*pw n:=by
  clear hx hy
  induction m with
  | zero=>simp [pw]
  | succ m ih=>rw [Nat.add_right_comm,fT,fT,ih,Int.mul_assoc]
 rw [e,Int.natAbs_mul]
 push_cast
 have q:=pw_pos n
 exact Int.lt_of_le_of_lt (Int.mul_le_mul_of_nonneg_left (Int.le_of_lt hy) (by omega)) (Int.mul_lt_mul_of_pos_right hx q)
theorem MJ:NOk Tryz.prog (fun _=>none) hG0 56 (au hG0 .i64 [.st [.nu .b,.li],.st [.nu .b,.li],.st [.nu .b,.li]] partV):=by
 refine bg (fun xs ys p t e h=>?_) ⟨_,Tryz.func56,rfl⟩
 unfold partV at e
 split at e
 .rename_i p q r a b c
  cases e
  obtain ⟨ha,hb,hc,h0,hl⟩:=h
  have l1:=E9 ha
  have l2:=E9 hb
  have l3:=HK l1 l2
  have l4:=bN (show a.length+b.length<=500000 by omega)
  have l5:(aa (zv p a*zv q b).natAbs).length<=a.length+b.length:=dX l3
  have ho:okL (decide (zv p a*zv q b<0)) (aa (zv p a*zv q b).natAbs):=lO (by omega)
  refine ⟨Xj,300,MI p q r a b c,_,_,_,_,_,RY,rfl,rfl,⟨⟨rfl,rfl,trivial⟩,⟨rfl,rfl,trivial⟩,⟨rfl,rfl,trivial⟩,trivial⟩,acR p q r a b c,rfl,⟨⟨⟨rfl,rfl⟩,ha,hb,by omega⟩,⟨rfl,rfl⟩,⟨rfl,rfl⟩,ho,hc,h0,by omega⟩,rfl,rfl,⟨?_,?_,?_⟩⟩
  .show decide ((zv (decide (zv p a*zv q b<0)) (aa (zv p a*zv q b).natAbs)).tdiv (zv r c)<0)=_
   rw [gI]
  .show ((aa ((zv (decide (zv p a*zv q b<0)) (aa (zv p a*zv q b).natAbs)).tdiv (zv r c)).natAbs).length:Int)=_
   rw [gI]
  .show aa ((zv (decide (zv p a*zv q b<0)) (aa (zv p a*zv q b).natAbs)).tdiv (zv r c)).natAbs=_
   rw [gI]
 .cases e
def tRp:List (FuncId×eF):=(56,au hG0 .i64 [.st [.nu .b,.li],.st [.nu .b,.li],.st [.nu .b,.li]] partV) :: tRs
def tRq:List (FuncId×eF):=(51,au hG0 .i64 psA Rp) :: tRp
theorem MK:∀ x∈tRp,NOk Tryz.prog (fun _=>none) hG0 x.1 x.2:=by
 intro x hx
 rcases List.mem_cons.1 hx with rfl|hx
 .exact MJ
 .exact MH x hx
theorem ML:∀ x∈tRq,NOk Tryz.prog (fun _=>none) hG0 x.1 x.2:=by
 intro x hx
 rcases List.mem_cons.1 hx with rfl|hx
 .exact sum_ok
 .exact MK x hx
def aa8:Ctx:=mkN Tryz.prog (fun _=>none) hG0 tRp [] dK
def HL:Ctx:=mkN Tryz.prog (fun _=>none) hG0 tRq [] dK
theorem R0:CtxOk aa8:=fP aM (cw _) MK (fun x h=>by cases h)
theorem sI:CtxOk HL:=fP aM (cw _) ML (fun x h=>by cases h)
def cRu:Ctx:=aP HL (eP [(13,.bool false true)])
def cRl:Ctx:=aP aa8 (eP [(13,.bool false true),(12,.bool false false),(17,.bool false true)])
def cRe:Ctx:=aP HL (eP [(13,.bool false false)])
theorem MN:CtxOk cRu:=aj sI _
theorem Xm:CtxOk cRl:=aj R0 _
theorem Xn:CtxOk cRe:=aj sI _
def DJ (a b:List Int):List AV:=[.agg [.bool true false,.lslice 0 a.length],.agg [.bool true false,.lslice 1 b.length]]
def rnH (a b:List Int):Hp:=dW true hG0 [(.i64,a),(.i64,b)]
def BS:AFr:=⟨55,none⟩
def rnA:Code:=bJ Tryz.prog 55 0
noncomputable def rnS (a b:List Int):St:=ib HL 300 55 (DJ a b) (rnH a b)
end
end Go.Proofs.YtmnhhlnbfkfkaaaGreat.K
