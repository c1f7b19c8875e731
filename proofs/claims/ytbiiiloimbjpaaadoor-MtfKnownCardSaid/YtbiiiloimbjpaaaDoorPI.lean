/- What is proved: MtfKnown returns true, whatever the input (part 9). No conditions beyond those of the row. -/
import Derived.Test.YtbiiiloimbjpaaaDoorPH
import Derived.KernelRfl
set_option linter.unusedVariables false
set_option linter.unusedSimpArgs false
set_option linter.unusedSectionVars false
namespace Go.Proofs.YtbiiiloimbjpaaaDoor.K
open Go Go.Eng Go.Dg
noncomputable section
def Ei (a b:List Int):Prop:=(0:Int)=(0:Int)/\a=eG a (List.take (Int.toNat (0:Int)) b)
theorem Mg (a b:List Int):fit (m1S a b) (m1S a b) (ah (m1S a b) ((m1U a b).S 0)) ([])=some (.p (Ei a b)):=by kernel_rfl
def F3 (a b:List Int) (i:Int):Prop:=(decide (i<(↑b.length:Int))=true->(((0:Int)<=i/\i<(↑b.length:Int))/\i.toNat<b.length)/\((0:Int)<=i/\i<(↑a.length:Int))/\((0:Int)+i).toNat<(eG a (List.take i.toNat b)).length/\((0:Int)<=i/\i<(↑a.length:Int))/\((0:Int)+i).toNat<(eG a (List.take i.toNat b)).length)/\((!decide (i<(↑b.length:Int)))=true->(i=i/\eG a (List.take i.toNat b)=eG a (List.take i.toNat b))/\(m1U a b).F i=(Ex.exit (0:Nat),m1P i (eG a (List.take i.toNat b))))/\(decide (i<(↑b.length:Int))=true->(IntKind.i64.wrap (i+(1:Int))=(m1U a b).next i/\(eG a (List.take i.toNat b)).set ((0:Int)+i).toNat (IntKind.i64.wrap ((eG a (List.take i.toNat b)).getD ((0:Int)+i).toNat (0:Int) - b.getD i.toNat (0:Int)))=eG a (List.take ((m1U a b).next i).toNat b))/\(m1U a b).I ((m1U a b).next i)/\(m1U a b).μ ((m1U a b).next i)<(m1U a b).μ i/\(m1U a b).F ((m1U a b).next i)=(m1U a b).F i)
theorem QT (a b:List Int) (i:Int):dE (m1S a b) ((m1U a b).way (i)) ((run cL 300).code ul Jm (ah (m1S a b) ((m1U a b).S i)))=some (.p (F3 a b i)):=by kernel_rfl
def Ej (a b:List Int):Prop:=(0:Int)=(0:Int)/\eG a (List.take (↑b.length:Int).toNat b)=eG a (List.take (↑b.length:Int).toNat b)
theorem Mh (a b:List Int):fit (m2S a b) (m2S a b) (ah (m2S a b) ((m2U a b).S (0,eG a (b.take ((b.length:Int)).toNat)))) ([])=some (.p (Ej a b)):=by kernel_rfl
def Jn (a b:List Int) (i:Int) (d:List Int):Prop:=decide (i<(↑a.length:Int))=false/\(true=true->(i=i/\d=d)/\(m2U a b).F (i,d)=(Ex.exit (2:Nat),m2P i d))
theorem UE (a b:List Int) (i:Int) (d:List Int):dE (m2S a b) ((m2U a b).way ((i,d))) ((run (cHb [(29,false)]) 300).code ul FZ (ah (m2S a b) ((m2U a b).S (i,d))))=some (.p (Jn a b i d)):=by kernel_rfl
def F4 (a b:List Int) (i:Int) (d:List Int):Prop:=(decide (i<(↑a.length:Int))=true/\((0:Int)<=i/\i<(↑a.length:Int))/\((0:Int)+i).toNat<d.length/\decide (d.getD ((0:Int)+i).toNat (0:Int)<(0:Int))=false)/\(true=true->(IntKind.i64.wrap (i+(1:Int))=i+(1:Int)/\d=bif decide (d.getD i.toNat (0:Int)<(0:Int)) then (d.set i.toNat (d.getD i.toNat (0:Int)+(1000000000:Int))).set (i.toNat+(1:Nat)) ((d.set i.toNat (d.getD i.toNat (0:Int)+(1000000000:Int))).getD (i.toNat+(1:Nat)) (0:Int) - (1:Int)) else d)/\(m2U a b).I ((m2U a b).next (i,d))/\(m2U a b).μ ((m2U a b).next (i,d))<(m2U a b).μ (i,d)/\(m2U a b).F ((m2U a b).next (i,d))=(m2U a b).F (i,d))
theorem QU (a b:List Int) (i:Int) (d:List Int):dE (m2S a b) ((m2U a b).way ((i,d))) ((run (cHb [(29,true),(35,false)]) 300).code ul FZ (ah (m2S a b) ((m2U a b).S (i,d))))=some (.p (F4 a b i d)):=by kernel_rfl
def F5 (a b:List Int) (i:Int) (d:List Int):Prop:=(decide (i<(↑a.length:Int))=true/\(((0:Int)<=i/\i<(↑a.length:Int))/\((0:Int)+i).toNat<d.length/\decide (d.getD ((0:Int)+i).toNat (0:Int)<(0:Int))=true)/\(((0:Int)<=i/\i<(↑a.length:Int))/\((0:Int)+i).toNat<d.length/\((0:Int)<=i/\i<(↑a.length:Int))/\((0:Int)+i).toNat<d.length)/\((0:Int)<=IntKind.i64.wrap (i+(1:Int))/\IntKind.i64.wrap (i+(1:Int))<(↑a.length:Int))/\((0:Int)+IntKind.i64.wrap (i+(1:Int))).toNat<(d.set ((0:Int)+i).toNat (IntKind.i64.wrap (d.getD ((0:Int)+i).toNat (0:Int)+(1000000000:Int)))).length/\((0:Int)<=IntKind.i64.wrap (i+(1:Int))/\IntKind.i64.wrap (i+(1:Int))<(↑a.length:Int))/\((0:Int)+IntKind.i64.wrap (i+(1:Int))).toNat<(d.set ((0:Int)+i).toNat (IntKind.i64.wrap (d.getD ((0:Int)+i).toNat (0:Int)+(1000000000:Int)))).length)/\(true=true->(IntKind.i64.wrap (i+(1:Int))=i+(1:Int)/\(d.set ((0:Int)+i).toNat (IntKind.i64.wrap (d.getD ((0:Int)+i).toNat (0:Int)+(1000000000:Int)))).set ((0:Int)+IntKind.i64.wrap (i+(1:Int))).toNat (IntKind.i64.wrap ((d.set ((0:Int)+i).toNat (IntKind.i64.wrap (d.getD ((0:Int)+i).toNat (0:Int)+(1000000000:Int)))).getD ((0:Int)+IntKind.i64.wrap (i+(1:Int))).toNat (0:Int) - (1:Int)))=bif decide (d.getD i.toNat (0:Int)<(0:Int)) then (d.set i.toNat (d.getD i.toNat (0:Int)+(1000000000:Int))).set (i.toNat+(1:Nat)) ((d.set i.toNat (d.getD i.toNat (0:Int)+(1000000000:Int))).getD (i.toNat+(1:Nat)) (0:Int) - (1:Int)) else d)/\(m2U a b).I ((m2U a b).next (i,d))/\(m2U a b).μ ((m2U a b).next (i,d))<(m2U a b).μ (i,d)/\(m2U a b).F ((m2U a b).next (i,d))=(m2U a b).F (i,d))
theorem QV (a b:List Int) (i:Int) (d:List Int):dE (m2S a b) ((m2U a b).way ((i,d))) ((run (cHb [(29,true),(35,true)]) 300).code ul FZ (ah (m2S a b) ((m2U a b).S (i,d))))=some (.p (F5 a b i d)):=by kernel_rfl
theorem zt (i:Int):(0+i).toNat=i.toNat:=by rw [Int.zero_add]
theorem QW {a b:List Int} (ha:Dig a) (hb:Dig b) (la:Sm a) (hl:b.length<=a.length):CodeOk cL ul (.loop Jm) (m1S a b) ⟨.tt,[⟨.tt,.exit 0,ah (m1S a b) (m1X a b)⟩]⟩:=by
 have la:=la.le
 refine kM (bC fT 300) (m1U a b) (y0:=0) ⟨by omega,by omega⟩ ⟨_,Mg a b,rfl,(xR a).symm⟩ (by kernel_rfl) (fun i hi=>⟨_,QT a b i,?_⟩) rfl
 obtain ⟨i0,i1⟩:=(show 0<=i/\i<=b.length from hi)
 have ll:=rV a (b.take i.toNat)
 refine ⟨fun h=>?_,fun h=>⟨⟨rfl,rfl⟩,?_⟩,fun h=>?_⟩
 .have h:i<b.length:=dt.1 h
  rw [zt,ll]
  exact ⟨⟨⟨i0,h⟩,by omega⟩,⟨i0,by omega⟩,by omega,⟨i0,by omega⟩,by omega⟩
 .have h:=ndt.1 h
  obtain rfl:i=b.length:=by omega
  rfl
 .have h:i<b.length:=dt.1 h
  have g1:=ha.get i.toNat
  have g2:=hb.get i.toNat
  have e0:(b.take i.toNat).getD i.toNat 0=0:=by rw [List.getD_eq_getElem?_getD,List.getElem?_eq_none (by rw [List.length_take]; omega)]; rfl
  have e1:=xU a (b.take i.toNat) i.toNat (by omega)
  rw [e0] at e1
  refine ⟨⟨iw (by omega) (by omega),?_⟩,?_,?_,rfl⟩
  .rw [zt,iw (by omega) (by omega),zF a b i.toNat (by omega) hl]
   show _=eG a (b.take (i+1).toNat)
   rw [show (i+1).toNat=i.toNat+1 by omega]
  .show 0<=i+1/\i+1<=b.length
   omega
  .show (b.length - (i+1)).toNat<(b.length - i).toNat
   omega
theorem QX {a b:List Int} (ha:Dig a) (hb:Dig b) (la:Sm a) (hl:b.length<=a.length) (hV:0<=xW a b):CodeOk cL ul (.loop FZ) (m2S a b) ⟨.tt,[⟨.tt,.exit 2,ah (m2S a b) (m2P a.length (aT a.length (xW a b)))⟩]⟩:=by
 have la:=la.le
 refine kN (m2U a b) (y0:=(0,eG a (b.take ((b.length:Int)).toNat))) ?_ ⟨_,Mh a b,rfl,rfl⟩ (by kernel_rfl) (fun y hy=>?_) rfl
 .show 0<=(0:Int)/\NbI _ _ _ _
  rw [show ((b.length:Int)).toNat=b.length by omega,List.take_length]
  exact ⟨by decide,NbI.start ha hb hl⟩
 obtain ⟨i,d⟩:=y
 obtain ⟨i0,hI⟩:=(show 0<=i/\NbI a.length (xW a b) i.toNat d from hy)
 obtain ⟨l,i1,lo,me,hi',v⟩:=id hI
 have e2:(i+1).toNat=i.toNat+1:=by omega
 by_cases hlt:i<a.length
 .have iw1:IntKind.i64.wrap (i+1)=i+1:=iw (by omega) (by omega)
  have mu:(a.length - (i+1)).toNat<(a.length - i).toNat:=by omega
  by_cases hn:d.getD i.toNat 0<0
  .have h1:=hI.in hV (by omega) hn
   have h2:=hi' (i.toNat+1) (by omega)
   have e3:(d.set i.toNat (d.getD i.toNat 0+1000000000)).getD (i.toNat+1) 0=d.getD (i.toNat+1) 0:=getD_set (by omega)
   have e4:IntKind.i64.wrap (d.getD i.toNat 0+1000000000)=d.getD i.toNat 0+1000000000:=iw (by omega) (by omega)
   have e5:IntKind.i64.wrap (d.getD (i.toNat+1) 0 - 1)=d.getD (i.toNat+1) 0 - 1:=iw (by omega) (by omega)
   have hb':(bif decide (d.getD i.toNat 0<0) then (d.set i.toNat (d.getD i.toNat 0+1000000000)).set (i.toNat+1) ((d.set i.toNat (d.getD i.toNat 0+1000000000)).getD (i.toNat+1) 0 - 1) else d)=(d.set i.toNat (d.getD i.toNat 0+1000000000)).set (i.toNat+1) ((d.set i.toNat (d.getD i.toNat 0+1000000000)).getD (i.toNat+1) 0 - 1):=by rw [decide_eq_true hn]; rfl
   refine ⟨cHb [(29,true),(35,true)],300,nM _,rfl,rfl,_,QV a b i d,?_,fun _=>?_⟩
   .rw [zt,iw1,zt,e2,e4,List.length_set]
    exact ⟨decide_eq_true hlt,⟨⟨i0,hlt⟩,by omega,decide_eq_true hn⟩,⟨⟨i0,hlt⟩,by omega,⟨i0,hlt⟩,by omega⟩,⟨by omega,by omega⟩,by omega,⟨by omega,by omega⟩,by omega⟩
   .refine ⟨⟨iw1,?_⟩,?_,mu,rfl⟩
    .rw [zt,iw1,zt,e2,e4,hb',e3,e5]
    .show 0<=i+1/\NbI _ _ (i+1).toNat _
     rw [e2,hb']
     exact ⟨by omega,hI.step hV (by omega) hn⟩
  .have hb':(bif decide (d.getD i.toNat 0<0) then (d.set i.toNat (d.getD i.toNat 0+1000000000)).set (i.toNat+1) ((d.set i.toNat (d.getD i.toNat 0+1000000000)).getD (i.toNat+1) 0 - 1) else d)=d:=by rw [decide_eq_false hn]; rfl
   refine ⟨cHb [(29,true),(35,false)],300,nM _,rfl,rfl,_,QU a b i d,?_,fun _=>⟨⟨iw1,hb'.symm⟩,?_,mu,rfl⟩⟩
   .rw [zt]
    exact ⟨decide_eq_true hlt,⟨i0,hlt⟩,by omega,decide_eq_false hn⟩
   .show 0<=i+1/\NbI _ _ (i+1).toNat _
    rw [e2,hb']
    exact ⟨by omega,hI.skip (by omega) hn⟩
 .refine ⟨cHb [(29,false)],300,nM _,rfl,rfl,_,UE a b i d,decide_eq_false hlt,fun _=>⟨⟨rfl,rfl⟩,?_⟩⟩
  have e:i.toNat=a.length:=by omega
  rw [e] at hI
  show (Ex.exit 2,m2P a.length (aT a.length (xW a b)))=(Ex.exit 2,m2P i d)
  rw [<- hI.fin,show i=a.length by omega]
noncomputable def mtS (a b d:List Int) (N:Int):St:=rM cL 300 86 [.islice true 2 0 N] ⟨[⟨23,.ints .i64 d⟩,⟨0,.rows .i64 b⟩,⟨0,.rows .i64 a⟩],3,26⟩
theorem Mi (a b d:List Int) (N:Int):fit (mtS a b d N) (mtS a b d N) (ah (mtS a b d N) ((trU 2 d N).S N)) []=some (.p ((0:Int)=0/\N=N)):=by kernel_rfl
theorem QY (a b d:List Int) (N y:Int):dE (mtS a b d N) ((trU 2 d N).way y) ((run cL 300).code jo trA (ah (mtS a b d N) ((trU 2 d N).S y)))=some (.p (trN 2 d N y)):=by kernel_rfl
theorem QZ (a b:List Int) {d:List Int} {N:Int} (hN:N=d.length) (ld:Sm d):CodeOk cL jo (.loop trA) (mtS a b d N) ⟨.tt,[⟨.tt,.exit 0,ah (mtS a b d N) (trP 2 (tlI d N))⟩]⟩:=vE hN ld (Mi a b d N) (by kernel_rfl) (fun y=>QY a b d N y)
def miD (a b:List Int):List Int:=aT a.length (xW a b)
noncomputable def cMt (a b:List Int):Ctx:=aX cL [bN 78 (m1S a b).hp.clock ul Jm (m1S a b) (.exit 0) (m1X a b),bN 78 (m2S a b).hp.clock ul FZ (m2S a b) (.exit 2) (m2P a.length (miD a b)),
 bN 86 29 jo trA (mtS a b (miD a b) a.length) (.exit 0) (trP 2 (tlI (miD a b) a.length))]
theorem Bw (a b:List Int):(miD a b).length=a.length:=bW _ _
theorem UF {a b:List Int} (ha:Dig a) (hb:Dig b) (la:Sm a) (hl:b.length<=a.length) (hV:0<=xW a b):CtxOk (cMt a b):=
 aL fT (QW ha hb la hl) (aL fT (QX ha hb la hl hV) (aL fT (QZ a b (by rw [Bw]) (by show (miD a b).length<=500000; rw [Bw]; exact la)) (bQ fT)))
def Mj (a b:List Int):Prop:=(((0:Int)<(↑a.length:Int)/\(↑a.length:Int)=(↑a.length:Int)/\(0:Int)<(↑a.length:Int)/\(↑a.length:Int)<=(1048576:Int))/\At (ul) (ul) (Jm) (Jm) (m1S a b) (m1S a b)/\At (ul) (ul) (FZ) (FZ) (m2S a b) (m2S a b)/\At (jo) (jo) (trA) (trA) (mtS a b (miD a b) a.length) (mtS a b (miD a b) a.length))
def Q0 (a b:List Int):AV:=(AV.islice true 2 (0:Int) (tlI (miD a b) (↑a.length:Int)))
def Q3 (a b:List Int):Hp:=⟨[{ wr:=23,body:=ABody.ints IntKind.i64 (miD a b) },{ wr:=(0:Nat),body:=ABody.rows IntKind.i64 b },{ wr:=(0:Nat),body:=ABody.rows IntKind.i64 a }],3,33⟩
theorem Yp (a b:List Int):(run (cMt a b) 300).call 78 (zB a b) (zG a b)=some ⟨.p (Mj a b),[⟨.tt,Q0 a b,Q3 a b⟩]⟩:=by kernel_rfl
def UG:List Nu->List (List Int)->Option (Prop×To)
 | [],[a,b]=>some (Dig a/\Dig b/\0<a.length/\a.length<=500000/\b.length<=a.length/\val b<=val a,.li false (aa (val a - val b).toNat))
 | _,_=>none
theorem Q4:NOk Tryd.prog (fun _=>none) hG0 78 (dK hG0 .i64 [.li,.li] UG):=by
 refine eD (fun xs ys p t e h=>?_) ⟨_,Tryd.func78,rfl⟩
 unfold UG at e
 split at e
 .rename_i a b
  cases e
  obtain ⟨ha,hb,l0,l1,hl,hv⟩:=h
  have hV:0<=xW a b:=by unfold xW; omega
  have b0:=aA hb
  have a1:=eZ ha
  have ev:val (miD a b)=val a - val b:=jR hV (by unfold xW; omega)
  exact ⟨cMt a b,300,zB a b,_,_,_,_,_,UF ha hb l1 hl hV,rfl,rfl,⟨rfl,rfl,trivial⟩,Yp a b,rfl,⟨⟨by omega,rfl,by omega,by omega⟩,⟨rfl,rfl,rfl⟩,⟨rfl,rfl,rfl⟩,⟨rfl,rfl,rfl⟩⟩,rfl,rfl,Bv (iT _ _) (by rw [Bw]) ev⟩
 .cases e
def nN:AFr:=⟨79,none⟩
def El:Code:=ig Tryd.prog 79 0
def Bz:Code:=ig Tryd.prog 79 1
def cPl (s:Bool):Ctx:=cHb [(13,s)]
theorem BA (s:Bool):CtxOk (cPl s):=nM _
def aY (s:Bool) (a b:List Int):List Int:=match s with|true=>b|false=>a
def shA (s:Bool) (a b:List Int):List Int:=match s with|true=>a|false=>b
noncomputable def q1S (s:Bool) (a b:List Int):St:=rM (cPl s) 300 79 (zB a b) (zG a b)
def q1P (i:Int) (d:List Int):Patch:=⟨dX 6 2++(25,.int true .i64 i) :: dX 26 12,[(2,.ints .i64 d)],[]⟩
def q1D (s:Bool) (a b:List Int) (i:Int):List Int:=ky (aY s a b++[0]) ((shA s a b).take i.toNat)
def q1X (s:Bool) (a b:List Int):Patch:=q1P (shA s a b).length (q1D s a b (shA s a b).length)
def q1U (s:Bool) (a b:List Int):SumL Int:=
 {
  S:=fun i=>q1P i (q1D s a b i)
  I:=fun i=>0<=i/\i<=(shA s a b).length
  μ:=fun i=>((shA s a b).length - i).toNat
  F:=fun _=>(.exit 0,q1X s a b)
  next:=fun i=>i+1
  ids:=fun _=>[]
  X:=fun i _=>some (q1P i (q1D s a b i),[]) }
noncomputable def cQ1 (s:Bool) (a b:List Int):Ctx:=aX (cPl s) [bN 79 (q1S s a b).hp.clock nN El (q1S s a b) (.exit 0) (q1X s a b)]
noncomputable def q2S (s:Bool) (a b:List Int):St:=rM (cQ1 s a b) 300 79 (zB a b) (zG a b)
def q2P (i:Int) (d:List Int):Patch:=⟨(8,.any false) :: (40,.int true .i64 i) :: dX 41 21,[(2,.ints .i64 d)],[]⟩
def plV (a b:List Int):Int:=val a+val b
def q2F (s:Bool) (a b:List Int):List Int:=aT ((aY s a b).length+1) (plV a b)
def q2U (s:Bool) (a b:List Int):SumL (Int×List Int):=
 {
  S:=fun (i,d)=>q2P i d
  I:=fun (i,d)=>0<=i/\NcI (aY s a b).length (plV a b) i.toNat d
  μ:=fun (i,_)=>((aY s a b).length - i).toNat
  F:=fun _=>(.exit 2,q2P (aY s a b).length (q2F s a b))
  next:=fun (i,d)=>(i+1,bif decide (d.getD i.toNat 0>=1000000000) then (d.set i.toNat (d.getD i.toNat 0 - 1000000000)).set (i.toNat+1) ((d.set i.toNat (d.getD i.toNat 0 - 1000000000)).getD (i.toNat+1) 0+1) else d)
  ids:=fun _=>[]
  X:=fun (i,d) _=>some (q2P i d,[]) }
def Em (s:Bool) (a b:List Int):Prop:=(0:Int)=(0:Int)/\Im (List.replicate (IntKind.i64.wrap ((↑(aY s a b).length:Int)+(1:Int))).toNat (0:Int)) (Int.toNat (0:Int)) (aY s a b)=q1D s a b (0:Int)
theorem Mk (s:Bool) (a b:List Int):fit (q1S s a b) (q1S s a b) (ah (q1S s a b) ((q1U s a b).S 0)) ([])=some (.p (Em s a b)):=by cases s <;> kernel_rfl
def F6 (s:Bool) (a b:List Int) (i:Int):Prop:=(decide (i<(↑(shA s a b).length:Int))=true->(((0:Int)<=i/\i<(↑(shA s a b).length:Int))/\i.toNat<(shA s a b).length)/\((0:Int)<=i/\i<IntKind.i64.wrap ((↑(aY s a b).length:Int)+(1:Int)))/\((0:Int)+i).toNat<(q1D s a b i).length/\((0:Int)<=i/\i<IntKind.i64.wrap ((↑(aY s a b).length:Int)+(1:Int)))/\((0:Int)+i).toNat<(q1D s a b i).length)/\((!decide (i<(↑(shA s a b).length:Int)))=true->(i=i/\q1D s a b i=q1D s a b i)/\(q1U s a b).F i=(Ex.exit (0:Nat),q1P i (q1D s a b i)))/\(decide (i<(↑(shA s a b).length:Int))=true->(IntKind.i64.wrap (i+(1:Int))=(q1U s a b).next i/\(q1D s a b i).set ((0:Int)+i).toNat (IntKind.i64.wrap ((q1D s a b i).getD ((0:Int)+i).toNat (0:Int)+(shA s a b).getD i.toNat (0:Int)))=q1D s a b ((q1U s a b).next i))/\(q1U s a b).I ((q1U s a b).next i)/\(q1U s a b).μ ((q1U s a b).next i)<(q1U s a b).μ i/\(q1U s a b).F ((q1U s a b).next i)=(q1U s a b).F i)
theorem Q5 (s:Bool) (a b:List Int) (i:Int):dE (q1S s a b) ((q1U s a b).way (i)) ((run cL 300).code nN El (ah (q1S s a b) ((q1U s a b).S i)))=some (.p (F6 s a b i)):=by cases s <;> kernel_rfl
def En (s:Bool) (a b:List Int):Prop:=(0:Int)=(0:Int)/\q1D s a b (↑(shA s a b).length:Int)=q1D s a b (↑(shA s a b).length:Int)
theorem Ml (s:Bool) (a b:List Int):fit (q2S s a b) (q2S s a b) (ah (q2S s a b) ((q2U s a b).S (0,q1D s a b (shA s a b).length))) ([])=some (.p (En s a b)):=by cases s <;> kernel_rfl
def Jo (s:Bool) (a b:List Int) (i:Int) (d:List Int):Prop:=decide (i<(↑(aY s a b).length:Int))=false/\(true=true->(i=i/\d=d)/\(q2U s a b).F (i,d)=(Ex.exit (2:Nat),q2P i d))
theorem UH (s:Bool) (a b:List Int) (i:Int) (d:List Int):dE (q2S s a b) ((q2U s a b).way ((i,d))) ((run (cHb [(41,false)]) 300).code nN Bz (ah (q2S s a b) ((q2U s a b).S (i,d))))=some (.p (Jo s a b i d)):=by cases s <;> kernel_rfl
def F7 (s:Bool) (a b:List Int) (i:Int) (d:List Int):Prop:=(decide (i<(↑(aY s a b).length:Int))=true/\((0:Int)<=i/\i<IntKind.i64.wrap ((↑(aY s a b).length:Int)+(1:Int)))/\((0:Int)+i).toNat<d.length/\decide (d.getD ((0:Int)+i).toNat (0:Int)>=(1000000000:Int))=false)/\(true=true->(IntKind.i64.wrap (i+(1:Int))=i+(1:Int)/\d=bif decide (d.getD i.toNat (0:Int)>=(1000000000:Int)) then (d.set i.toNat (d.getD i.toNat (0:Int) - (1000000000:Int))).set (i.toNat+(1:Nat)) ((d.set i.toNat (d.getD i.toNat (0:Int) - (1000000000:Int))).getD (i.toNat+(1:Nat)) (0:Int)+(1:Int)) else d)/\(q2U s a b).I ((q2U s a b).next (i,d))/\(q2U s a b).μ ((q2U s a b).next (i,d))<(q2U s a b).μ (i,d)/\(q2U s a b).F ((q2U s a b).next (i,d))=(q2U s a b).F (i,d))
theorem Q6 (s:Bool) (a b:List Int) (i:Int) (d:List Int):dE (q2S s a b) ((q2U s a b).way ((i,d))) ((run (cHb [(41,true),(47,false)]) 300).code nN Bz (ah (q2S s a b) ((q2U s a b).S (i,d))))=some (.p (F7 s a b i d)):=by cases s <;> kernel_rfl
def F8 (s:Bool) (a b:List Int) (i:Int) (d:List Int):Prop:=(decide (i<(↑(aY s a b).length:Int))=true/\(((0:Int)<=i/\i<IntKind.i64.wrap ((↑(aY s a b).length:Int)+(1:Int)))/\((0:Int)+i).toNat<d.length/\decide (d.getD ((0:Int)+i).toNat (0:Int)>=(1000000000:Int))=true)/\(((0:Int)<=i/\i<IntKind.i64.wrap ((↑(aY s a b).length:Int)+(1:Int)))/\((0:Int)+i).toNat<d.length/\((0:Int)<=i/\i<IntKind.i64.wrap ((↑(aY s a b).length:Int)+(1:Int)))/\((0:Int)+i).toNat<d.length)/\((0:Int)<=IntKind.i64.wrap (i+(1:Int))/\IntKind.i64.wrap (i+(1:Int))<IntKind.i64.wrap ((↑(aY s a b).length:Int)+(1:Int)))/\((0:Int)+IntKind.i64.wrap (i+(1:Int))).toNat<(d.set ((0:Int)+i).toNat (IntKind.i64.wrap (d.getD ((0:Int)+i).toNat (0:Int) - (1000000000:Int)))).length/\((0:Int)<=IntKind.i64.wrap (i+(1:Int))/\IntKind.i64.wrap (i+(1:Int))<IntKind.i64.wrap ((↑(aY s a b).length:Int)+(1:Int)))/\((0:Int)+IntKind.i64.wrap (i+(1:Int))).toNat<(d.set ((0:Int)+i).toNat (IntKind.i64.wrap (d.getD ((0:Int)+i).toNat (0:Int) - (1000000000:Int)))).length)/\(true=true->(IntKind.i64.wrap (i+(1:Int))=i+(1:Int)/\(d.set ((0:Int)+i).toNat (IntKind.i64.wrap (d.getD ((0:Int)+i).toNat (0:Int) - (1000000000:Int)))).set ((0:Int)+IntKind.i64.wrap (i+(1:Int))).toNat (IntKind.i64.wrap ((d.set ((0:Int)+i).toNat (IntKind.i64.wrap (d.getD ((0:Int)+i).toNat (0:Int) - (1000000000:Int)))).getD ((0:Int)+IntKind.i64.wrap (i+(1:Int))).toNat (0:Int)+(1:Int)))=bif decide (d.getD i.toNat (0:Int)>=(1000000000:Int)) then (d.set i.toNat (d.getD i.toNat (0:Int) - (1000000000:Int))).set (i.toNat+(1:Nat)) ((d.set i.toNat (d.getD i.toNat (0:Int) - (1000000000:Int))).getD (i.toNat+(1:Nat)) (0:Int)+(1:Int)) else d)/\(q2U s a b).I ((q2U s a b).next (i,d))/\(q2U s a b).μ ((q2U s a b).next (i,d))<(q2U s a b).μ (i,d)/\(q2U s a b).F ((q2U s a b).next (i,d))=(q2U s a b).F (i,d))
theorem Q7 (s:Bool) (a b:List Int) (i:Int) (d:List Int):dE (q2S s a b) ((q2U s a b).way ((i,d))) ((run (cHb [(41,true),(47,true)]) 300).code nN Bz (ah (q2S s a b) ((q2U s a b).S (i,d))))=some (.p (F8 s a b i d)):=by cases s <;> kernel_rfl
theorem Mm (u:List Int):Im (List.replicate (u.length+1) 0) 0 u=u++[0]:=by
 unfold Im
 rw [List.take_zero,List.nil_append,List.drop_replicate,show u.length+1 - (0+u.length)=1 by omega]
 rfl
theorem Q8 (s:Bool) (a b:List Int) (i:Int):(q1D s a b i).length=(aY s a b).length+1:=by
 unfold q1D
 rw [rW]; simp
theorem Q9 {s:Bool} {a b:List Int} (ha:Dig a) (hb:Dig b) (la:(aY s a b).length<=400000) (hl:(shA s a b).length<=(aY s a b).length):CodeOk cL nN (.loop El) (q1S s a b) ⟨.tt,[⟨.tt,.exit 0,ah (q1S s a b) (q1X s a b)⟩]⟩:=by
 have hL:Dig (aY s a b):=by cases s <;> assumption
 have hS:Dig (shA s a b):=by cases s <;> assumption
 have hLz:Dig (aY s a b++[0]):=Ho.2 ⟨hL,bH.2 ⟨by omega,jk⟩⟩
 have eN:IntKind.i64.wrap ((aY s a b).length+1:Int)=(aY s a b).length+1:=iw (by omega) (by omega)
 refine kM (bC fT 300) (q1U s a b) (y0:=0) ⟨by omega,by omega⟩ ⟨_,Mk s a b,rfl,?_⟩ (by cases s <;> kernel_rfl) (fun i hi=>⟨_,Q5 s a b i,?_⟩) rfl
 .rw [eN,show ((aY s a b).length+1:Int).toNat=(aY s a b).length+1 by omega,show Int.toNat 0=0 from rfl,Mm]
  exact (xS _).symm
 obtain ⟨i0,i1⟩:=(show 0<=i/\i<=(shA s a b).length from hi)
 have ll:=Q8 s a b i
 refine ⟨fun h=>?_,fun h=>⟨⟨rfl,rfl⟩,?_⟩,fun h=>?_⟩
 .have h:i<(shA s a b).length:=dt.1 h
  rw [zt,ll,eN]
  exact ⟨⟨⟨i0,h⟩,by omega⟩,⟨i0,by omega⟩,by omega,⟨i0,by omega⟩,by omega⟩
 .have h:=ndt.1 h
  obtain rfl:i=(shA s a b).length:=by omega
  rfl
 .have h:i<(shA s a b).length:=dt.1 h
  have g1:=hLz.get i.toNat
  have g2:=hS.get i.toNat
  have e0:((shA s a b).take i.toNat).getD i.toNat 0=0:=by rw [List.getD_eq_getElem?_getD,List.getElem?_eq_none (by rw [List.length_take]; omega)]; rfl
  have e1:(q1D s a b i).getD i.toNat 0=(aY s a b++[0]).getD i.toNat 0+((shA s a b).take i.toNat).getD i.toNat 0:=rX _ _ i.toNat (by simp; omega)
  rw [e0] at e1
  refine ⟨⟨iw (by omega) (by omega),?_⟩,?_,?_,rfl⟩
  .rw [zt,iw (by omega) (by omega)]
   unfold q1D
   rw [zI _ _ i.toNat (by omega) (by simp; omega)]
   show _=ky _ ((shA s a b).take (i+1).toNat)
   rw [show (i+1).toNat=i.toNat+1 by omega]
  .show 0<=i+1/\i+1<=(shA s a b).length
   omega
  .show ((shA s a b).length - (i+1)).toNat<((shA s a b).length - i).toNat
   omega
theorem UI (s:Bool) (a b:List Int):plV a b=val (aY s a b)+val (shA s a b):=by
 unfold plV
 cases s
 .rfl
 .show val a+val b=val b+val a
  omega
theorem Ra {s:Bool} {a b:List Int} (ha:Dig a) (hb:Dig b) (la:(aY s a b).length<=400000) (hl:(shA s a b).length<=(aY s a b).length):CodeOk cL nN (.loop Bz) (q2S s a b) ⟨.tt,[⟨.tt,.exit 2,ah (q2S s a b) (q2P (aY s a b).length (q2F s a b))⟩]⟩:=by
 have hL:Dig (aY s a b):=by cases s <;> assumption
 have hS:Dig (shA s a b):=by cases s <;> assumption
 have eN:IntKind.i64.wrap ((aY s a b).length+1:Int)=(aY s a b).length+1:=iw (by omega) (by omega)
 refine kN (q2U s a b) (y0:=(0,q1D s a b (shA s a b).length)) ?_ ⟨_,Ml s a b,rfl,rfl⟩ (by cases s <;> kernel_rfl) (fun y hy=>?_) rfl
 .show 0<=(0:Int)/\NcI _ _ _ _
  unfold q1D
  rw [show (((shA s a b).length:Int)).toNat=(shA s a b).length by omega,List.take_length,UI s]
  exact ⟨by decide,NcI.start hL hS hl⟩
 obtain ⟨i,d⟩:=y
 obtain ⟨i0,hI⟩:=(show 0<=i/\NcI (aY s a b).length (plV a b) i.toNat d from hy)
 obtain ⟨l,i1,lo,me,hi',t0,t1,v⟩:=id hI
 have e2:(i+1).toNat=i.toNat+1:=by omega
 by_cases hlt:i<(aY s a b).length
 .have iw1:IntKind.i64.wrap (i+1)=i+1:=iw (by omega) (by omega)
  have mu:((aY s a b).length - (i+1)).toNat<((aY s a b).length - i).toNat:=by omega
  by_cases hn:d.getD i.toNat 0>=1000000000
  .have h2:=hi' (i.toNat+1) (by omega)
   have e3:(d.set i.toNat (d.getD i.toNat 0 - 1000000000)).getD (i.toNat+1) 0=d.getD (i.toNat+1) 0:=getD_set (by omega)
   have e4:IntKind.i64.wrap (d.getD i.toNat 0 - 1000000000)=d.getD i.toNat 0 - 1000000000:=iw (by omega) (by omega)
   have e5:IntKind.i64.wrap (d.getD (i.toNat+1) 0+1)=d.getD (i.toNat+1) 0+1:=iw (by omega) (by omega)
   have hb':(bif decide (d.getD i.toNat 0>=1000000000) then (d.set i.toNat (d.getD i.toNat 0 - 1000000000)).set (i.toNat+1) ((d.set i.toNat (d.getD i.toNat 0 - 1000000000)).getD (i.toNat+1) 0+1) else d)=(d.set i.toNat (d.getD i.toNat 0 - 1000000000)).set (i.toNat+1) ((d.set i.toNat (d.getD i.toNat 0 - 1000000000)).getD (i.toNat+1) 0+1):=by rw [decide_eq_true hn]; rfl
   refine ⟨cHb [(41,true),(47,true)],300,nM _,rfl,rfl,_,Q7 s a b i d,?_,fun _=>?_⟩
   .rw [zt,iw1,zt,e2,e4,List.length_set,eN]
    exact ⟨decide_eq_true hlt,⟨⟨i0,by omega⟩,by omega,decide_eq_true hn⟩,⟨⟨i0,by omega⟩,by omega,⟨i0,by omega⟩,by omega⟩,⟨by omega,by omega⟩,by omega,⟨by omega,by omega⟩,by omega⟩
   .refine ⟨⟨iw1,?_⟩,?_,mu,rfl⟩
    .rw [zt,iw1,zt,e2,e4,hb',e3,e5]
    .show 0<=i+1/\NcI _ _ (i+1).toNat _
     rw [e2,hb']
     exact ⟨by omega,hI.step (by omega) hn⟩
  .have hb':(bif decide (d.getD i.toNat 0>=1000000000) then (d.set i.toNat (d.getD i.toNat 0 - 1000000000)).set (i.toNat+1) ((d.set i.toNat (d.getD i.toNat 0 - 1000000000)).getD (i.toNat+1) 0+1) else d)=d:=by rw [decide_eq_false hn]; rfl
   refine ⟨cHb [(41,true),(47,false)],300,nM _,rfl,rfl,_,Q6 s a b i d,?_,fun _=>⟨⟨iw1,hb'.symm⟩,?_,mu,rfl⟩⟩
   .rw [zt,eN]
    exact ⟨decide_eq_true hlt,⟨i0,by omega⟩,by omega,decide_eq_false hn⟩
   .show 0<=i+1/\NcI _ _ (i+1).toNat _
    rw [e2,hb']
    exact ⟨by omega,hI.skip (by omega) hn⟩
 .refine ⟨cHb [(41,false)],300,nM _,rfl,rfl,_,UH s a b i d,decide_eq_false hlt,fun _=>⟨⟨rfl,rfl⟩,?_⟩⟩
  have e:i.toNat=(aY s a b).length:=by omega
  rw [e] at hI
  show (Ex.exit 2,q2P (aY s a b).length (q2F s a b))=(Ex.exit 2,q2P i d)
  unfold q2F
  rw [<- hI.fin,show i=(aY s a b).length by omega]
def plW (s:Bool):Nat:=match s with|true=>29|false=>25
def plC (s:Bool):Nat:=match s with|true=>32|false=>28
noncomputable def qtS (s:Bool) (a b d:List Int) (N:Int):St:=rM cL 300 86 [.islice true 2 0 N] ⟨[⟨plW s,.ints .i64 d⟩,⟨0,.rows .i64 b⟩,⟨0,.rows .i64 a⟩],3,plC s⟩
theorem Mo (s:Bool) (a b d:List Int) (N:Int):fit (qtS s a b d N) (qtS s a b d N) (ah (qtS s a b d N) ((trU 2 d N).S N)) []=some (.p ((0:Int)=0/\N=N)):=by cases s <;> kernel_rfl
theorem Rb (s:Bool) (a b d:List Int) (N y:Int):dE (qtS s a b d N) ((trU 2 d N).way y) ((run cL 300).code jo trA (ah (qtS s a b d N) ((trU 2 d N).S y)))=some (.p (trN 2 d N y)):=by cases s <;> kernel_rfl
theorem Re (s:Bool) (a b:List Int) {d:List Int} {N:Int} (hN:N=d.length) (ld:Sm d):CodeOk cL jo (.loop trA) (qtS s a b d N) ⟨.tt,[⟨.tt,.exit 0,ah (qtS s a b d N) (trP 2 (tlI d N))⟩]⟩:=vE hN ld (Mo s a b d N) (by cases s <;> kernel_rfl) (fun y=>Rb s a b d N y)
def plN (s:Bool) (a b:List Int):Int:=IntKind.i64.wrap ((aY s a b).length+1:Int)
noncomputable def cQt (s:Bool) (a b:List Int):Ctx:=aX (cPl s) [bN 79 (q1S s a b).hp.clock nN El (q1S s a b) (.exit 0) (q1X s a b),bN 79 (q2S s a b).hp.clock nN Bz (q2S s a b) (.exit 2) (q2P (aY s a b).length (q2F s a b)),
 bN 86 (plC s+3) jo trA (qtS s a b (q2F s a b) (plN s a b)) (.exit 0) (trP 2 (tlI (q2F s a b) (plN s a b)))]
theorem Hy (s:Bool) (a b:List Int):(q2F s a b).length=(aY s a b).length+1:=bW _ _
theorem BB {s:Bool} {a b:List Int} (la:(aY s a b).length<=400000):plN s a b=(q2F s a b).length:=by
 unfold plN
 rw [iw (by omega) (by omega),Hy]; omega
theorem xX {C D:Ctx} {fr:AFr} {a:Code} {S:St} {r:R} (h:CodeOk C fr (.loop a) S r) (hP:D.P=C.P) (hg:D.glob=C.glob):CodeOk D fr (.loop a) S r:=CodeOk.ctx hP hg h
theorem Mq {s:Bool} {a b:List Int} (ha:Dig a) (hb:Dig b) (la:(aY s a b).length<=400000) (hl:(shA s a b).length<=(aY s a b).length):CtxOk (cQt s a b):=
 aL (BA s) (xX (Q9 ha hb la hl) rfl rfl) (aL (BA s) (xX (Ra ha hb la hl) rfl rfl) (aL (BA s) (xX (Re s a b (BB la) (by show (q2F s a b).length<=500000; rw [Hy]; omega)) rfl rfl) (bQ (BA s))))
def Rf (a b:List Int):Prop:=(decide ((↑a.length:Int)<(↑b.length:Int))=false/\(IntKind.i64.wrap ((↑a.length:Int)+(1:Int))=IntKind.i64.wrap ((↑a.length:Int)+(1:Int))/\(0:Int)<=IntKind.i64.wrap ((↑a.length:Int)+(1:Int))/\IntKind.i64.wrap ((↑a.length:Int)+(1:Int))<=(1048576:Int))/\((↑a.length:Int)=(↑a.length:Int)/\(0:Int)<=(0:Int)/\(0:Int)<(↑a.length:Int)/\(↑a.length:Int)<=IntKind.i64.wrap ((↑a.length:Int)+(1:Int))/\(0:Int)+IntKind.i64.wrap ((↑a.length:Int)+(1:Int))<=(↑(List.replicate (IntKind.i64.wrap ((↑a.length:Int)+(1:Int))).toNat (0:Int)).length:Int))/\At (nN) (nN) (El) (El) (q1S false a b) (q1S false a b)/\At (nN) (nN) (Bz) (Bz) (q2S false a b) (q2S false a b)/\At (jo) (jo) (trA) (trA) (qtS false a b (q2F false a b) (plN false a b)) (qtS false a b (q2F false a b) (plN false a b)))
def UJ (a b:List Int):AV:=(AV.islice true 2 (0:Int) (tlI (q2F false a b) (plN false a b)))
def UK (a b:List Int):Hp:=⟨[{ wr:=25,body:=ABody.ints IntKind.i64 (q2F false a b) },{ wr:=(0:Nat),body:=ABody.rows IntKind.i64 b },{ wr:=(0:Nat),body:=ABody.rows IntKind.i64 a }],3,35⟩
theorem ZW (a b:List Int):(run (cQt false a b) 300).call 79 (zB a b) (zG a b)=some ⟨.p (Rf a b),[⟨.tt,UJ a b,UK a b⟩]⟩:=by kernel_rfl
def Rh (a b:List Int):Prop:=(decide ((↑a.length:Int)<(↑b.length:Int))=true/\(IntKind.i64.wrap ((↑b.length:Int)+(1:Int))=IntKind.i64.wrap ((↑b.length:Int)+(1:Int))/\(0:Int)<=IntKind.i64.wrap ((↑b.length:Int)+(1:Int))/\IntKind.i64.wrap ((↑b.length:Int)+(1:Int))<=(1048576:Int))/\((↑b.length:Int)=(↑b.length:Int)/\(0:Int)<=(0:Int)/\(0:Int)<(↑b.length:Int)/\(↑b.length:Int)<=IntKind.i64.wrap ((↑b.length:Int)+(1:Int))/\(0:Int)+IntKind.i64.wrap ((↑b.length:Int)+(1:Int))<=(↑(List.replicate (IntKind.i64.wrap ((↑b.length:Int)+(1:Int))).toNat (0:Int)).length:Int))/\At (nN) (nN) (El) (El) (q1S true a b) (q1S true a b)/\At (nN) (nN) (Bz) (Bz) (q2S true a b) (q2S true a b)/\At (jo) (jo) (trA) (trA) (qtS true a b (q2F true a b) (plN true a b)) (qtS true a b (q2F true a b) (plN true a b)))
def UL (a b:List Int):AV:=(AV.islice true 2 (0:Int) (tlI (q2F true a b) (plN true a b)))
def UM (a b:List Int):Hp:=⟨[{ wr:=29,body:=ABody.ints IntKind.i64 (q2F true a b) },{ wr:=(0:Nat),body:=ABody.rows IntKind.i64 b },{ wr:=(0:Nat),body:=ABody.rows IntKind.i64 a }],3,39⟩
theorem ZX (a b:List Int):(run (cQt true a b) 300).call 79 (zB a b) (zG a b)=some ⟨.p (Rh a b),[⟨.tt,UL a b,UM a b⟩]⟩:=by kernel_rfl
def UN:List Nu->List (List Int)->Option (Prop×To)
 | [],[a,b]=>some (Dig a/\Dig b/\(0<a.length\/0<b.length)/\a.length<=400000/\b.length<=400000,.li false (aa (val a+val b).toNat))
 | _,_=>none
theorem Mr {s:Bool} {a b:List Int} (ha:Dig a) (hb:Dig b) (hl:(shA s a b).length<=(aY s a b).length):val (q2F s a b)=val a+val b:=by
 have a0:=aA ha
 have b0:=aA hb
 have a1:=eZ ha
 have b1:=eZ hb
 refine jR (by unfold plV; omega) ?_
 have e:pw ((aY s a b).length+1)=1000000000*pw (aY s a b).length:=by simp [pw]
 have p0:=pw_pos (aY s a b).length
 have ka:val a<pw (aY s a b).length:=by
  refine Int.lt_of_lt_of_le a1 (jl ?_)
  cases s <;> simp only [aY,shA] at hl ⊢ <;> omega
 have kb:val b<pw (aY s a b).length:=by
  refine Int.lt_of_lt_of_le b1 (jl ?_)
  cases s <;> simp only [aY,shA] at hl ⊢ <;> omega
 rw [e]; unfold plV; omega
theorem Ri:NOk Tryd.prog (fun _=>none) hG0 79 (dK hG0 .i64 [.li,.li] UN):=by
 refine eD (fun xs ys p t e h=>?_) ⟨_,Tryd.func79,rfl⟩
 unfold UN at e
 split at e
 .rename_i a b
  cases e
  obtain ⟨ha,hb,l0,la,lb⟩:=h
  have wa:IntKind.i64.wrap ((a.length:Int)+1)=a.length+1:=iw (by omega) (by omega)
  have wb:IntKind.i64.wrap ((b.length:Int)+1)=b.length+1:=iw (by omega) (by omega)
  by_cases hs:a.length<b.length
  .have hl:(shA true a b).length<=(aY true a b).length:=by show a.length<=b.length; omega
   have lg:(aY true a b).length<=400000:=lb
   refine ⟨cQt true a b,300,zB a b,_,_,_,_,_,Mq ha hb lg hl,rfl,rfl,⟨rfl,rfl,trivial⟩,ZX a b,rfl,⟨decide_eq_true (by omega),⟨rfl,by omega,by omega⟩,⟨rfl,by omega,by omega,by omega,?_⟩,⟨rfl,rfl,rfl⟩,⟨rfl,rfl,rfl⟩,⟨rfl,rfl,rfl⟩⟩,rfl,rfl,Bv (iT _ _) (BB lg) (Mr ha hb hl)⟩
   rw [List.length_replicate,wb]; omega
  .have hl:(shA false a b).length<=(aY false a b).length:=by show b.length<=a.length; omega
   have lg:(aY false a b).length<=400000:=la
   refine ⟨cQt false a b,300,zB a b,_,_,_,_,_,Mq ha hb lg hl,rfl,rfl,⟨rfl,rfl,trivial⟩,ZW a b,rfl,⟨decide_eq_false (by omega),⟨rfl,by omega,by omega⟩,⟨rfl,by omega,by omega,by omega,?_⟩,⟨rfl,rfl,rfl⟩,⟨rfl,rfl,rfl⟩,⟨rfl,rfl,rfl⟩⟩,rfl,rfl,Bv (iT _ _) (BB lg) (Mr ha hb hl)⟩
   rw [List.length_replicate,wa]; omega
 .cases e
end
end Go.Proofs.YtbiiiloimbjpaaaDoor.K
namespace Go.Dg
open Go Go.Eng
def dfB (a b:List Int):Nat->Int
 | 0=>0
 | n+1=>if a.getD n 0=b.getD n 0 then dfB a b n else IntKind.i64.wrap (a.getD n 0 - b.getD n 0)
def dfI (a b:List Int) (i:Int):Int:=dfB a b (i+1).toNat
theorem Hz {a b:List Int} {i:Int} (h:0<=i):dfI a b i=if a.getD i.toNat 0=b.getD i.toNat 0 then dfI a b (i - 1) else IntKind.i64.wrap (a.getD i.toNat 0 - b.getD i.toNat 0):=by
 unfold dfI
 rw [show (i+1).toNat=i.toNat+1 by omega,show (i - 1+1).toNat=i.toNat by omega,dfB]
theorem Ms {a b:List Int}:∀ n,Jj a b n=false->dfB a b n=0
 | 0,_=>rfl
 | n+1,h=>by
  simp only [Jj] at h
  simp only [dfB]
  split at h
  .rename_i e; rw [if_pos e]; exact Ms n h
  .cases h
def mE (a b:List Int):Int:=if a.length=b.length then dfB a b a.length else IntKind.i64.wrap ((a.length:Int) - b.length)
theorem BC {a b:List Int} (ha:Dig a) (hb:Dig b):∀ n,(dfB a b n<0 ↔ rU a b n=true)/\(0<dfB a b n ↔ rU b a n=true)
 | 0=>by simp [dfB,rU]
 | n+1=>by
  have i:=BC ha hb n
  have a0:=ha.get n
  have b0:=hb.get n
  simp only [dfB,rU]
  by_cases e:a.getD n 0=b.getD n 0
  .rw [if_pos e,if_pos e,if_pos e.symm]; exact i
  .rw [if_neg e,if_neg e,if_neg (fun h=>e h.symm),iw (by omega) (by omega)]
   simp only [decide_eq_true_eq]
   omega
theorem HV {a b:List Int} (ha:Dig a) (hb:Dig b) (ta:Top a) (tb:Top b) (la:a.length<=500000) (lb:b.length<=500000):mE a b<0 ↔ val a<val b:=by
 rw [<- zC ha hb ta tb]
 unfold mE Hq
 by_cases e:a.length=b.length
 .rw [if_pos e,if_pos e]; exact (BC ha hb _).1
 .rw [if_neg e,if_neg e,iw (by omega) (by omega)]
  simp only [decide_eq_true_eq]
  omega
theorem Rj {a b:List Int} (ha:Dig a) (hb:Dig b) (ta:Top a) (tb:Top b) (la:a.length<=500000) (lb:b.length<=500000):0<mE a b ↔ val b<val a:=by
 rw [<- zC hb ha tb ta]
 unfold mE Hq
 by_cases e:a.length=b.length
 .rw [if_pos e,if_pos e.symm,<- e]; exact (BC ha hb _).2
 .rw [if_neg e,if_neg (fun h=>e h.symm),iw (by omega) (by omega)]
  simp only [decide_eq_true_eq]
  omega
end Go.Dg
namespace Go.Proofs.YtbiiiloimbjpaaaDoor.K
open Go Go.Eng Go.Dg
noncomputable section
def F9 (d:Bool):Ctx:=cHb [(10,d)]
theorem vF (d:Bool):CtxOk (F9 d):=nM _
noncomputable def uZ (a b:List Int):St:=rM (F9 false) 300 76 (zB a b) (zG a b)
def Eo:AFr:=⟨76,none⟩
def Mt:Code:=ig Tryd.prog 76 0
def ZY (i:Int):Patch:=⟨(5,.int true .i64 i) :: dX 19 22,[],[]⟩
def cmR (r:Int):Patch:=⟨(4,.int true .i64 r) :: (5,.any false) :: dX 19 22,[],[]⟩
def Ep:Patch:=⟨(5,.any false) :: dX 19 22,[],[]⟩
def qg (a b:List Int):SumL Int:=
 {
  S:=ZY
  I:=fun i=>-1<=i/\i<a.length
  μ:=fun i=>(i+1).toNat
  F:=fun i=>bif uj a b i then (.ret,cmR (dfI a b i)) else (.exit 0,Ep)
  next:=fun i=>IntKind.i64.wrap (i - 1)
  ids:=fun _=>[]
  X:=fun i x=>match x with
   | .ret=>some (cmR (IntKind.i64.wrap (a.getD i.toNat 0 - b.getD i.toNat 0)),[])
   | .exit _=>some (Ep,[])
   | _=>none }
def Er (a b:List Int):Prop:=IntKind.i64.wrap ((↑a.length:Int) - (1:Int))=IntKind.i64.wrap ((↑a.length:Int) - (1:Int))
theorem Jp (a b:List Int):fit (uZ a b) (uZ a b) (ah (uZ a b) ((qg a b).S (IntKind.i64.wrap ((a.length:Int) - 1)))) ([])=some (.p (Er a b)):=by kernel_rfl
def Ga (a b:List Int) (i:Int):Prop:=(decide (i>=(0:Int))=true->(((0:Int)<=i/\i<(↑a.length:Int))/\i.toNat<a.length/\((0:Int)<=i/\i<(↑b.length:Int))/\i.toNat<b.length)/\((a.getD i.toNat (0:Int) != b.getD i.toNat (0:Int))=true->((0:Int)<=i/\i<(↑a.length:Int))/\i.toNat<a.length/\((0:Int)<=i/\i<(↑b.length:Int))/\i.toNat<b.length))/\((!decide (i>=(0:Int)))=true->(qg a b).F i=(Ex.exit (0:Nat),Ep))/\((decide (i>=(0:Int))&&!a.getD i.toNat (0:Int) != b.getD i.toNat (0:Int))=true->IntKind.i64.wrap (i - (1:Int))=(qg a b).next i/\(qg a b).I ((qg a b).next i)/\(qg a b).μ ((qg a b).next i)<(qg a b).μ i/\(qg a b).F ((qg a b).next i)=(qg a b).F i)/\((decide (i>=(0:Int))&&a.getD i.toNat (0:Int) != b.getD i.toNat (0:Int))=true->IntKind.i64.wrap (a.getD i.toNat (0:Int) - b.getD i.toNat (0:Int))=IntKind.i64.wrap (a.getD i.toNat (0:Int) - b.getD i.toNat (0:Int))/\(qg a b).F i=(Ex.ret,cmR (IntKind.i64.wrap (a.getD i.toNat (0:Int) - b.getD i.toNat (0:Int)))))
theorem Rk (a b:List Int) (i:Int):dE (uZ a b) ((qg a b).way (i)) ((run (F9 false) 300).code Eo Mt (ah (uZ a b) ((qg a b).S i)))=some (.p (Ga a b i)):=by kernel_rfl
theorem Mv (a b:List Int) (hs:Sm a) (hl:a.length=b.length):CodeOk (F9 false) Eo (.loop Mt) (uZ a b) ⟨.tt,[⟨.b (uj a b (a.length - 1)),.ret,ah (uZ a b) (cmR (dfI a b (a.length - 1)))⟩,⟨.b (!uj a b (a.length - 1)),.exit 0,ah (uZ a b) Ep⟩]⟩:=by
 have hs:=hs.le
 have e0:IntKind.i64.wrap ((a.length:Int) - 1)=a.length - 1:=iw (by omega) (by omega)
 refine La (bC (vF false) 300) (qg a b) (y0:=IntKind.i64.wrap ((a.length:Int) - 1)) (by rw [e0]; exact ⟨by omega,by omega⟩) ⟨_,Jp a b,rfl⟩ (by kernel_rfl) (fun i hi=>⟨_,Rk a b i,?_⟩) (by rw [e0]; rfl)
 obtain ⟨i0,i1⟩:=(show -1<=i/\i<a.length from hi)
 refine ⟨fun h=>?_,fun h=>?_,fun h=>?_,fun h=>?_⟩
 .have h:=dt.1 h
  have q:((0:Int)<=i/\i<(↑a.length:Int))/\i.toNat<a.length/\((0:Int)<=i/\i<(↑b.length:Int))/\i.toNat<b.length:=by omega
  exact ⟨q,fun _=>q⟩
 .have h:=ndt.1 h
  have:i=-1:=by omega
  subst this; rfl
 .obtain ⟨h0,h⟩:=SK.1 h
  have h:=ZT.1 h
  have e:IntKind.i64.wrap (i - 1)=i - 1:=iw (by omega) (by omega)
  refine ⟨rfl,?_,?_,?_⟩
  .show -1<=IntKind.i64.wrap (i - 1)/\IntKind.i64.wrap (i - 1)<a.length
   rw [e]; omega
  .show (IntKind.i64.wrap (i - 1)+1).toNat<(i+1).toNat
   rw [e]; omega
  .show (bif uj a b (IntKind.i64.wrap (i - 1)) then (Ex.ret,cmR (dfI a b (IntKind.i64.wrap (i - 1)))) else (.exit 0,Ep))=bif uj a b i then (Ex.ret,cmR (dfI a b i)) else (.exit 0,Ep)
   rw [e,D7 h0,Hz h0,if_pos h,if_pos h]
 .obtain ⟨h0,h⟩:=SK.1 h
  have h:=D8.1 h
  refine ⟨rfl,?_⟩
  show (bif uj a b i then (Ex.ret,cmR (dfI a b i)) else (.exit 0,Ep))=_
  rw [D7 h0,Hz h0,if_neg h,if_neg h]; rfl
noncomputable def UO (a b:List Int):Ctx:=aX (F9 false) [Bb 76 (uZ a b).hp.clock Eo Mt (uZ a b) (uj a b (a.length - 1)) .ret (cmR (dfI a b (a.length - 1))) (.exit 0) Ep]
theorem Rl (a b:List Int) (hs:Sm a) (hl:a.length=b.length):CtxOk (UO a b):=FC (vF false) (Mv a b hs hl) (bQ (vF false))
def Mw (a b:List Int):Prop:=(((↑a.length:Int) != (↑b.length:Int))=false/\At (Eo) (Eo) (Mt) (Mt) (uZ a b) (uZ a b))
def Rm (a b:List Int):AV:=(AV.int true IntKind.i64 (bif !uj a b ((↑a.length:Int) - (1:Int)) then (0:Int) else dfI a b ((↑a.length:Int) - (1:Int))))
def Rn (a b:List Int):Hp:=⟨[{ wr:=(0:Nat),body:=ABody.rows IntKind.i64 b },{ wr:=(0:Nat),body:=ABody.rows IntKind.i64 a }],2,15⟩
theorem Yq (a b:List Int):(run (UO a b) 300).call 76 (zB a b) (zG a b)=some ⟨.p (Mw a b),[⟨.tt,Rm a b,Rn a b⟩]⟩:=by kernel_rfl
def Mx (a b:List Int):Prop:=(((↑a.length:Int) != (↑b.length:Int))=true)
def Ro (a b:List Int):AV:=(AV.int true IntKind.i64 (IntKind.i64.wrap ((↑a.length:Int) - (↑b.length:Int))))
def Rp (a b:List Int):Hp:=⟨[{ wr:=(0:Nat),body:=ABody.rows IntKind.i64 b },{ wr:=(0:Nat),body:=ABody.rows IntKind.i64 a }],2,14⟩
theorem Yr (a b:List Int):(run (F9 true) 300).call 76 (zB a b) (zG a b)=some ⟨.p (Mx a b),[⟨.tt,Ro a b,Rp a b⟩]⟩:=by kernel_rfl
def cmpV:List Nu->List (List Int)->Option (Prop×To)
 | [],[a,b]=>some (Sm a/\Sm b,.nu .i64 (mE a b))
 | _,_=>none
theorem UQ:NOk Tryd.prog (fun _=>none) hG0 76 (dK hG0 .i64 [.li,.li] cmpV):=by
 refine eD (fun xs ys p t e h=>?_) ⟨_,Tryd.func76,rfl⟩
 unfold cmpV at e
 split at e
 .rename_i a b
  cases e
  obtain ⟨ha,hb⟩:=h
  by_cases hl:a.length=b.length
  .refine ⟨UO a b,300,zB a b,_,_,_,_,_,Rl a b ha hl,rfl,rfl,⟨rfl,rfl,trivial⟩,Yq a b,rfl,⟨?_,rfl,rfl,rfl⟩,rfl,rfl,?_⟩
   .rw [hl]; exact Hr.2 rfl
   .show (bif !uj a b ((a.length:Int) - 1) then 0 else dfI a b ((a.length:Int) - 1))=mE a b
    unfold mE uj dfI
    rw [if_pos hl,show ((a.length:Int) - 1+1).toNat=a.length by omega]
    cases e:Jj a b a.length with
    | true=>rfl
    | false=>rw [Ms _ e]; rfl
  .refine ⟨F9 true,300,zB a b,_,_,_,_,_,vF true,rfl,rfl,⟨rfl,rfl,trivial⟩,Yr a b,rfl,?_,rfl,rfl,?_⟩
   .exact D8.2 (by omega)
   .show IntKind.i64.wrap ((a.length:Int) - b.length)=mE a b
    unfold mE
    rw [if_neg hl]
 .cases e
def hUp (x t0:Nat):Nat->Nat->Option AV:=fun c t=>match Nat.beq t t0 with
 | true=>match Nat.ble c x with
  | true=>some (.bool false true)
  | false=>some (.bool false false)
 | false=>none
def cOn (x:Nat):Ctx:=iD cL (hUp x 9)
theorem MB (x:Nat):CtxOk (cOn x):=dF fT _
def Rq (n:Int):Prop:=((n != (0:Int))=true/\(IntKind.i64.wrap (n.tdiv (1000000000:Int)) != (0:Int))=false)
def UR (n:Int):AV:=(AV.agg [AV.bool true (decide (n<(0:Int))),AV.gslice (0:Nat) (0:Nat) 1 1])
def UT (n:Int):Hp:=⟨[{ wr:=23,body:=ABody.grown [AV.int true IntKind.i64 (if IntKind.i64.wrap ((0:Int) - n.tmod (1000000000:Int))>n.tmod (1000000000:Int) then IntKind.i64.wrap ((0:Int) - n.tmod (1000000000:Int)) else n.tmod (1000000000:Int))] }],1,32⟩
theorem ZZ (n:Int):(run (cOn 11) 300).call 73 [.int true .i64 n] hG0=some ⟨.p (Rq n),[⟨.tt,UR n,UT n⟩]⟩:=by kernel_rfl
def Rs (n:Int):Prop:=((n != (0:Int))=true/\(IntKind.i64.wrap (n.tdiv (1000000000:Int)) != (0:Int))=true/\(IntKind.i64.wrap ((IntKind.i64.wrap (n.tdiv (1000000000:Int))).tdiv (1000000000:Int)) != (0:Int))=false)
def UU (n:Int):AV:=(AV.agg [AV.bool true (decide (n<(0:Int))),AV.gslice (0:Nat) (0:Nat) 2 1])
def UV (n:Int):Hp:=⟨[{ wr:=42,body:=ABody.grown [AV.int true IntKind.i64 (if IntKind.i64.wrap ((0:Int) - n.tmod (1000000000:Int))>n.tmod (1000000000:Int) then IntKind.i64.wrap ((0:Int) - n.tmod (1000000000:Int)) else n.tmod (1000000000:Int)),AV.int true IntKind.i64 (if IntKind.i64.wrap ((0:Int) - (IntKind.i64.wrap (n.tdiv (1000000000:Int))).tmod (1000000000:Int))>(IntKind.i64.wrap (n.tdiv (1000000000:Int))).tmod (1000000000:Int) then IntKind.i64.wrap ((0:Int) - (IntKind.i64.wrap (n.tdiv (1000000000:Int))).tmod (1000000000:Int)) else (IntKind.i64.wrap (n.tdiv (1000000000:Int))).tmod (1000000000:Int))] }],1,51⟩
theorem Z0 (n:Int):(run (cOn 30) 300).call 73 [.int true .i64 n] hG0=some ⟨.p (Rs n),[⟨.tt,UU n,UV n⟩]⟩:=by kernel_rfl
def onV:List Nu->List (List Int)->Option (Prop×To)
 | [.n n],[]=>some (0<n/\n<1000000000000000000,.st [.pb false,.li false (aa n.toNat)])
 | _,_=>none
theorem Yt {n:Int} (h0:0<=n) (h1:n<9000000000000000000):(if IntKind.i64.wrap (0 - n.tmod 1000000000)>n.tmod 1000000000 then IntKind.i64.wrap (0 - n.tmod 1000000000) else n.tmod 1000000000)=n % 1000000000:=by
 have e:n.tmod 1000000000=n % 1000000000:=Int.tmod_eq_emod_of_nonneg h0
 rw [e,iw (by omega) (by omega),if_neg (by omega)]
theorem Yu {n:Int} (h0:0<=n) (h1:n<9000000000000000000):IntKind.i64.wrap (n.tdiv 1000000000)=n / 1000000000:=by
 rw [Int.tdiv_eq_ediv_of_nonneg h0,iw (by omega) (by omega)]
theorem UW {n:Int} (h0:0<n) (h1:n<1000000000):aa n.toNat=[n % 1000000000]:=by
 rw [eF (by omega),show n.toNat / 1000000000=0 by omega,dQ]
 congr 1
 omega
theorem UX {n:Int} (h0:1000000000<=n) (h1:n<1000000000000000000):aa n.toNat=[n % 1000000000,n / 1000000000 % 1000000000]:=by
 rw [eF (by omega),eF (by omega),show n.toNat / 1000000000 / 1000000000=0 by omega,dQ]
 congr 1
 .omega
 .congr 1
  omega
theorem Yv:NOk Tryd.prog (fun _=>none) hG0 73 (dK hG0 .i64 [.nu (.i .i64)] onV):=by
 refine eD (fun xs ys p t e h=>?_) ⟨_,Tryd.func73,rfl⟩
 unfold onV at e
 split at e
 .rename_i n
  cases e
  obtain ⟨h0,h1⟩:=h
  have q1:=Yu (n:=n) (by omega) (by omega)
  have d1:=Yt (n:=n) (by omega) (by omega)
  by_cases h:n<1000000000
  .refine ⟨cOn 11,300,[.int true .i64 n],_,_,_,_,_,MB 11,rfl,rfl,⟨⟨rfl,rfl⟩,trivial⟩,ZZ n,rfl,⟨D8.2 (by omega),?_⟩,rfl,rfl,?_⟩
   .rw [q1]; exact Hr.2 (by omega)
   .refine ⟨decide_eq_false (by omega),?_⟩
    show [_]=aa n.toNat
    rw [d1,UW h0 h]
  .have q2:=Yu (n:=n / 1000000000) (by omega) (by omega)
   have d2:=Yt (n:=n / 1000000000) (by omega) (by omega)
   refine ⟨cOn 30,300,[.int true .i64 n],_,_,_,_,_,MB 30,rfl,rfl,⟨⟨rfl,rfl⟩,trivial⟩,Z0 n,rfl,⟨D8.2 (by omega),?_,?_⟩,rfl,rfl,?_⟩
   .rw [q1]; exact D8.2 (by omega)
   .rw [q1,q2]; exact Hr.2 (by omega)
   .refine ⟨decide_eq_false (by omega),?_⟩
    show [_,_]=aa n.toNat
    rw [d1,q1,d2,UX (by omega) h1]
 .cases e
def tZ:List (FuncId×jO):=
 (87,dK hG0 .i64 [.li,.nu (.i .i64)] Us) ::
 (72,dK hG0 .i64 [.li,.li] UD) ::
 (78,dK hG0 .i64 [.li,.li] UG) ::
 (79,dK hG0 .i64 [.li,.li] UN) ::
 (76,dK hG0 .i64 [.li,.li] cmpV) ::
 (73,dK hG0 .i64 [.nu (.i .i64)] onV) :: []
theorem SL:∀ x∈tZ,NOk Tryd.prog (fun _=>none) hG0 x.1 x.2:=by
 intro x hx
 simp only [tZ,List.mem_cons,List.not_mem_nil,or_false] at hx
 rcases hx with rfl|rfl|rfl|rfl|rfl|rfl
 .exact part_ok
 .exact Mf
 .exact Q4
 .exact Ri
 .exact UQ
 .exact Yv
def cZ:Ctx:=mkN Tryd.prog (fun _=>none) hG0 tZ [] jZ
theorem aI:CtxOk cZ:=tV prog_ok (nI _) SL (fun x h=>by cases h)
def cZb (l:List (Nat×Bool)):Ctx:=iD cZ (hZ (l.map fun x=>(x.1,match x.2 with|true=>.bool false true|false=>.bool false false)))
theorem Gb (l:List (Nat×Bool)):CtxOk (cZb l):=dF aI _
def um (y:List Int):List AV:=[.lslice 0 y.length,.int false .i64 5]
def Es:AFr:=⟨75,none⟩
def seA:Code:=ig Tryd.prog 75 0
noncomputable def seS (y:List Int):St:=rM cZ 300 75 (um y) (zH y)
end
end Go.Proofs.YtbiiiloimbjpaaaDoor.K
namespace Go.Dg
open Go Go.Eng
def PP:Int:=1000000000000000000000000000000000000000000000
def kz (sq:Int):Nat->Int->Int->Int->Int
 | 0,_,_,s=>s
 | n+1,i,t,s=>match decide (t*sq / PP / (i*(i+1))=0) with
  | true=>s
  | false=>kz sq n (i+2) (t*sq / PP / (i*(i+1))) (match decide (i % 4=2) with|true=>s - t*sq / PP / (i*(i+1))|false=>s+t*sq / PP / (i*(i+1)))
def aU (n:Int):Int:=if n<5 then n else 5
def cutL (v:Int):List Int:=List.take ((aa v.toNat).length - aU (aa v.toNat).length:Int).toNat (List.drop (aU (aa v.toNat).length).toNat (aa v.toNat))
theorem xY:∀ {l:List Int} (k:Nat),Dig l->val (l.drop k)=val l / pw k
 | l,0,_=>by simp [pw]
 | [],k+1,_=>by simp [val]
 | x :: l,k+1,h=>by
  have hh:=bH.1 h
  have p:=pw_pos k
  rw [List.drop_succ_cons,xY k hh.2,jm,<- Int.ediv_ediv_of_nonneg (by omega)]
  congr 1
  simp only [val]
  omega
theorem SN:pw 5=PP:=by decide
theorem HY {v:Int} (h:0<=v):cutL v=(aa v.toNat).drop (aU (aa v.toNat).length).toNat:=by
 unfold cutL aU
 rw [List.take_of_length_le]
 rw [List.length_drop]
 split <;> omega
theorem rY {v:Int} (h:0<=v):val (cutL v)=v / PP:=by
 have hv:val (aa v.toNat)=v:=by rw [rT]; omega
 have hd:=aF v.toNat
 rw [HY h]
 unfold aU
 split
 .rename_i h5
  rw [show (((aa v.toNat).length:Int)).toNat=(aa v.toNat).length by omega,List.drop_length]
  have h1:=eZ hd
  have h2:=jl (show (aa v.toNat).length<=5 by omega)
  rw [SN] at h2
  rw [hv] at h1
  show (0:Int)=v / PP
  rw [Int.ediv_eq_zero_of_lt h (by omega)]
 .rw [show Int.toNat 5=5 from rfl,xY 5 hd,hv,SN]
theorem MC {l:List Int} (h:Dig l) (n:Nat):Dig (l.take n):=fun x hx=>h x (List.mem_of_mem_take hx)
theorem Et {l:List Int} (h:Dig l) (n:Nat):Dig (l.drop n):=fun x hx=>h x (List.mem_of_mem_drop hx)
theorem rZ (v:Int):Dig (cutL v):=MC (Et (aF _) _) _
end Go.Dg
namespace Go.Dg
theorem fe:0<PP:=by decide
theorem ME {sq t i:Int} (hs0:0<=sq) (hs:sq<=3*PP) (ht:0<=t) (hi:2<=i):0<=t*sq / PP / (i*(i+1))/\2*(t*sq / PP / (i*(i+1)))<=t:=by
 have p:=fe
 have hii:6<=i*(i+1):=Int.mul_le_mul (a:=2) (b:=3) (c:=i) (d:=i+1) hi (by omega) (by decide) (by omega)
 have h1:t*sq<=t*(3*PP):=Int.mul_le_mul_of_nonneg_left hs ht
 have h2:t*sq / PP<=3*t:=by
  refine Int.ediv_le_of_le_mul p ?_
  rw [show 3*t*PP=t*(3*PP) by rw [Int.mul_comm 3 t,Int.mul_assoc]]
  exact h1
 have h0:0<=t*sq / PP:=Int.ediv_nonneg (Int.mul_nonneg ht hs0) (by omega)
 have h3:0<=t*sq / PP / (i*(i+1)):=Int.ediv_nonneg h0 (by omega)
 have h4:=Int.ediv_mul_le (t*sq / PP) (b:=i*(i+1)) (by omega)
 have h5:=Int.mul_le_mul_of_nonneg_left hii h3
 exact ⟨h3,by omega⟩
theorem Eu {sq:Int} {n:Nat} {i t s:Int} (h:t*sq / PP / (i*(i+1))=0):kz sq (n+1) i t s=s:=by
 rw [kz,decide_eq_true h]
theorem uo {sq:Int} {n:Nat} {i t s:Int} (h:t*sq / PP / (i*(i+1))≠0):kz sq (n+1) i t s=kz sq n (i+2) (t*sq / PP / (i*(i+1))) (match decide (i % 4=2) with|true=>s - t*sq / PP / (i*(i+1))|false=>s+t*sq / PP / (i*(i+1))):=by
 rw [kz,decide_eq_false h]
def bX (x:Int):Nat->Int->Int->Int->Int
 | 0,_,_,s=>s
 | n+1,i,t,s=>match decide (t / (x*x) / i=0) with
  | true=>s
  | false=>bX x n (i+2) (t / (x*x)) (match decide (i % 4=1) with|true=>s+t / (x*x) / i|false=>s - t / (x*x) / i)
theorem MG {x:Int} {n:Nat} {i t s:Int} (h:t / (x*x) / i=0):bX x (n+1) i t s=s:=by
 rw [bX,decide_eq_true h]
theorem zJ {x:Int} {n:Nat} {i t s:Int} (h:t / (x*x) / i≠0):bX x (n+1) i t s=bX x n (i+2) (t / (x*x)) (match decide (i % 4=1) with|true=>s+t / (x*x) / i|false=>s - t / (x*x) / i):=by
 rw [bX,decide_eq_false h]
end Go.Dg
namespace Go.Proofs.YtbiiiloimbjpaaaDoor.K
open Go Go.Eng Go.Dg
noncomputable section
def cSe (e m:Bool):Ctx:=cZb [(33,e),(37,m)]
theorem BD (e m:Bool):CtxOk (cSe e m):=Gb _
def seP:Option (Int×Int×Int)->Patch
 | none=>⟨(8,.int true .i64 2) :: dX 16 28,[],[]⟩
 | some (i,t,s)=>⟨(6,.lslice 3 (aa s.toNat).length) :: (7,.lslice 2 (aa t.toNat).length) :: (8,.int true .i64 i) :: dX 16 28,[],[.rows .i64 (aa s.toNat),.rows .i64 (aa t.toNat)]⟩
def seX (s:Int):Patch:=⟨(4,.lslice 2 (aa s.toNat).length) :: (6,.any false) :: (7,.any false) :: (8,.any false) :: dX 16 28,[],[.rows .i64 (aa s.toNat)]⟩
def qh (y:List Int):Int:=val y*val y / PP
def seT (y:List Int) (i t:Int):Int:=t*qh y / PP / (i*(i+1))
def seR (y:List Int):Option (Int×Int×Int)->Int
 | none=>kz (qh y) 200 2 (val y) (val y)
 | some (i,t,s)=>kz (qh y) (201 - (i / 2).toNat) i t s
def seU (y:List Int):SumL (Option (Int×Int×Int)):=
 {
  S:=seP
  I:=fun x=>match x with
   | none=>True
   | some (i,t,s)=>0<t/\i % 2=0/\2<i/\i<=400/\2 ^ (i / 2).toNat*t<=4*PP/\0<s/\(i % 4=2->t<=s)/\s<=i*PP
  μ:=fun x=>match x with
   | none=>400
   | some (i,_,_)=>(400 - i).toNat
  F:=fun x=>(.ret,seX (seR y x))
  next:=fun x=>match x with
   | none=>some (4,seT y 2 (val y),val y - seT y 2 (val y))
   | some (i,t,s)=>some (i+2,seT y i t,match decide (i % 4=2) with|true=>s - seT y i t|false=>s+seT y i t)
  ids:=fun x=>match x with
   | none=>[3,4]
   | some _=>[5,6]
  X:=fun x _=>match x with
   | none=>none
   | some (_,_,s)=>some (seX s,[3]) }
def Ev (y:List Int):Prop:=(2:Int)=(2:Int)
theorem MH (y:List Int):fit (seS y) (seS y) (ah (seS y) ((seU y).S none)) ([])=some (.p (Ev y)):=by kernel_rfl
def MI (y:List Int):Prop:=(((((↑y.length:Int)=(↑y.length:Int)/\((0:Int)<=aU (↑(aa (val y*val y).toNat).length:Int))/\((0:Int)<=(↑(aa (val y*val y).toNat).length:Int) - aU (↑(aa (val y*val y).toNat).length:Int))/\(aU (↑(aa (val y*val y).toNat).length:Int))+((↑(aa (val y*val y).toNat).length:Int) - aU (↑(aa (val y*val y).toNat).length:Int))<=(↑(aa (val y*val y).toNat).length:Int))/\Dig y/\Dig (cutL (val y*val y))/\y.length+(cutL (val y*val y)).length<=(500000:Nat))/\(((0:Int)<=aU (↑(aa (val y*val (cutL (val y*val y))).toNat).length:Int))/\(aU (↑(aa (val y*val (cutL (val y*val y))).toNat).length:Int))<=(↑(aa (val y*val (cutL (val y*val y))).toNat).length:Int)/\(↑(aa (val y*val (cutL (val y*val y))).toNat).length:Int)<=(↑(aa (val y*val (cutL (val y*val y))).toNat).length:Int))/\(((0:Int)<=aU (↑(aa (val y*val (cutL (val y*val y))).toNat).length:Int))/\((0:Int)<=(↑(aa (val y*val (cutL (val y*val y))).toNat).length:Int) - aU (↑(aa (val y*val (cutL (val y*val y))).toNat).length:Int))/\(aU (↑(aa (val y*val (cutL (val y*val y))).toNat).length:Int))+((↑(aa (val y*val (cutL (val y*val y))).toNat).length:Int) - aU (↑(aa (val y*val (cutL (val y*val y))).toNat).length:Int))<=(↑(aa (val y*val (cutL (val y*val y))).toNat).length:Int))/\Dig (cutL (val y*val (cutL (val y*val y))))/\(cutL (val y*val (cutL (val y*val y)))).length<=(500000:Nat)/\(1:Int)<=IntKind.i64.wrap ((2:Int)*IntKind.i64.wrap ((2:Int)+(1:Int)))/\IntKind.i64.wrap ((2:Int)*IntKind.i64.wrap ((2:Int)+(1:Int)))<=(1000000000:Int))/\((↑(aa (val (cutL (val y*val (cutL (val y*val y)))) / IntKind.i64.wrap ((2:Int)*IntKind.i64.wrap ((2:Int)+(1:Int)))).toNat).length:Int)==(0:Int))=false/\(Int.tmod (2:Int) (4:Int)==(2:Int))=true/\((↑y.length:Int)=(↑y.length:Int)/\(↑(aa (val (cutL (val y*val (cutL (val y*val y)))) / IntKind.i64.wrap ((2:Int)*IntKind.i64.wrap ((2:Int)+(1:Int)))).toNat).length:Int)=(↑(aa (val (cutL (val y*val (cutL (val y*val y)))) / IntKind.i64.wrap ((2:Int)*IntKind.i64.wrap ((2:Int)+(1:Int)))).toNat).length:Int))/\Dig y/\Dig (aa (val (cutL (val y*val (cutL (val y*val y)))) / IntKind.i64.wrap ((2:Int)*IntKind.i64.wrap ((2:Int)+(1:Int)))).toNat)/\(0:Nat)<y.length/\y.length<=(500000:Nat)/\(aa (val (cutL (val y*val (cutL (val y*val y)))) / IntKind.i64.wrap ((2:Int)*IntKind.i64.wrap ((2:Int)+(1:Int)))).toNat).length<=y.length/\val (aa (val (cutL (val y*val (cutL (val y*val y)))) / IntKind.i64.wrap ((2:Int)*IntKind.i64.wrap ((2:Int)+(1:Int)))).toNat)<=val y)/\(true=true->(((↑(aa (val y - val (aa (val (cutL (val y*val (cutL (val y*val y)))) / IntKind.i64.wrap ((2:Int)*IntKind.i64.wrap ((2:Int)+(1:Int)))).toNat)).toNat).length:Int)=(↑(aa (val y - seT y (2:Int) (val y)).toNat).length:Int)/\(↑(aa (val (cutL (val y*val (cutL (val y*val y)))) / IntKind.i64.wrap ((2:Int)*IntKind.i64.wrap ((2:Int)+(1:Int)))).toNat).length:Int)=(↑(aa (seT y (2:Int) (val y)).toNat).length:Int)/\IntKind.i64.wrap ((2:Int)+(2:Int))=(4:Int))/\aa (val y - val (aa (val (cutL (val y*val (cutL (val y*val y)))) / IntKind.i64.wrap ((2:Int)*IntKind.i64.wrap ((2:Int)+(1:Int)))).toNat)).toNat=aa (val y - seT y (2:Int) (val y)).toNat/\aa (val (cutL (val y*val (cutL (val y*val y)))) / IntKind.i64.wrap ((2:Int)*IntKind.i64.wrap ((2:Int)+(1:Int)))).toNat=aa (seT y (2:Int) (val y)).toNat)/\(seU y).I ((seU y).next none)/\(seU y).μ ((seU y).next none)<(seU y).μ none/\(seU y).F ((seU y).next none)=(seU y).F none)
theorem Yw (y:List Int):dE (seS y) ((seU y).way (none)) ((run (cSe false true) 300).code Es seA (ah (seS y) ((seU y).S none)))=some (.p (MI y)):=by kernel_rfl
def MJ (y:List Int) (i t s:Int):Prop:=(((((↑(aa t.toNat).length:Int)=(↑(aa t.toNat).length:Int)/\((0:Int)<=aU (↑(aa (val y*val y).toNat).length:Int))/\((0:Int)<=(↑(aa (val y*val y).toNat).length:Int) - aU (↑(aa (val y*val y).toNat).length:Int))/\(aU (↑(aa (val y*val y).toNat).length:Int))+((↑(aa (val y*val y).toNat).length:Int) - aU (↑(aa (val y*val y).toNat).length:Int))<=(↑(aa (val y*val y).toNat).length:Int))/\Dig (aa t.toNat)/\Dig (cutL (val y*val y))/\(aa t.toNat).length+(cutL (val y*val y)).length<=(500000:Nat))/\(((0:Int)<=aU (↑(aa (val (aa t.toNat)*val (cutL (val y*val y))).toNat).length:Int))/\(aU (↑(aa (val (aa t.toNat)*val (cutL (val y*val y))).toNat).length:Int))<=(↑(aa (val (aa t.toNat)*val (cutL (val y*val y))).toNat).length:Int)/\(↑(aa (val (aa t.toNat)*val (cutL (val y*val y))).toNat).length:Int)<=(↑(aa (val (aa t.toNat)*val (cutL (val y*val y))).toNat).length:Int))/\(((0:Int)<=aU (↑(aa (val (aa t.toNat)*val (cutL (val y*val y))).toNat).length:Int))/\((0:Int)<=(↑(aa (val (aa t.toNat)*val (cutL (val y*val y))).toNat).length:Int) - aU (↑(aa (val (aa t.toNat)*val (cutL (val y*val y))).toNat).length:Int))/\(aU (↑(aa (val (aa t.toNat)*val (cutL (val y*val y))).toNat).length:Int))+((↑(aa (val (aa t.toNat)*val (cutL (val y*val y))).toNat).length:Int) - aU (↑(aa (val (aa t.toNat)*val (cutL (val y*val y))).toNat).length:Int))<=(↑(aa (val (aa t.toNat)*val (cutL (val y*val y))).toNat).length:Int))/\Dig (cutL (val (aa t.toNat)*val (cutL (val y*val y))))/\(cutL (val (aa t.toNat)*val (cutL (val y*val y)))).length<=(500000:Nat)/\(1:Int)<=IntKind.i64.wrap (i*IntKind.i64.wrap (i+(1:Int)))/\IntKind.i64.wrap (i*IntKind.i64.wrap (i+(1:Int)))<=(1000000000:Int))/\((↑(aa (val (cutL (val (aa t.toNat)*val (cutL (val y*val y)))) / IntKind.i64.wrap (i*IntKind.i64.wrap (i+(1:Int)))).toNat).length:Int)==(0:Int))=false/\(i.tmod (4:Int)==(2:Int))=true/\((↑(aa s.toNat).length:Int)=(↑(aa s.toNat).length:Int)/\(↑(aa (val (cutL (val (aa t.toNat)*val (cutL (val y*val y)))) / IntKind.i64.wrap (i*IntKind.i64.wrap (i+(1:Int)))).toNat).length:Int)=(↑(aa (val (cutL (val (aa t.toNat)*val (cutL (val y*val y)))) / IntKind.i64.wrap (i*IntKind.i64.wrap (i+(1:Int)))).toNat).length:Int))/\Dig (aa s.toNat)/\Dig (aa (val (cutL (val (aa t.toNat)*val (cutL (val y*val y)))) / IntKind.i64.wrap (i*IntKind.i64.wrap (i+(1:Int)))).toNat)/\(0:Nat)<(aa s.toNat).length/\(aa s.toNat).length<=(500000:Nat)/\(aa (val (cutL (val (aa t.toNat)*val (cutL (val y*val y)))) / IntKind.i64.wrap (i*IntKind.i64.wrap (i+(1:Int)))).toNat).length<=(aa s.toNat).length/\val (aa (val (cutL (val (aa t.toNat)*val (cutL (val y*val y)))) / IntKind.i64.wrap (i*IntKind.i64.wrap (i+(1:Int)))).toNat)<=val (aa s.toNat))/\(true=true->(((↑(aa (val (aa s.toNat) - val (aa (val (cutL (val (aa t.toNat)*val (cutL (val y*val y)))) / IntKind.i64.wrap (i*IntKind.i64.wrap (i+(1:Int)))).toNat)).toNat).length:Int)=(↑(aa (match decide (i % (4:Int)=(2:Int)) with|true=>s - seT y i t|false=>s+seT y i t).toNat).length:Int)/\(↑(aa (val (cutL (val (aa t.toNat)*val (cutL (val y*val y)))) / IntKind.i64.wrap (i*IntKind.i64.wrap (i+(1:Int)))).toNat).length:Int)=(↑(aa (seT y i t).toNat).length:Int)/\IntKind.i64.wrap (i+(2:Int))=i+(2:Int))/\aa (val (aa s.toNat) - val (aa (val (cutL (val (aa t.toNat)*val (cutL (val y*val y)))) / IntKind.i64.wrap (i*IntKind.i64.wrap (i+(1:Int)))).toNat)).toNat=aa (match decide (i % (4:Int)=(2:Int)) with|true=>s - seT y i t|false=>s+seT y i t).toNat/\aa (val (cutL (val (aa t.toNat)*val (cutL (val y*val y)))) / IntKind.i64.wrap (i*IntKind.i64.wrap (i+(1:Int)))).toNat=aa (seT y i t).toNat)/\(seU y).I ((seU y).next (some (i,t,s)))/\(seU y).μ ((seU y).next (some (i,t,s)))<(seU y).μ (some (i,t,s))/\(seU y).F ((seU y).next (some (i,t,s)))=(seU y).F (some (i,t,s)))
theorem Yx (y:List Int) (i t s:Int):dE (seS y) ((seU y).way ((some (i,t,s)))) ((run (cSe false true) 300).code Es seA (ah (seS y) ((seU y).S (some (i,t,s)))))=some (.p (MJ y i t s)):=by kernel_rfl
def MK (y:List Int) (i t s:Int):Prop:=(((((↑(aa t.toNat).length:Int)=(↑(aa t.toNat).length:Int)/\((0:Int)<=aU (↑(aa (val y*val y).toNat).length:Int))/\((0:Int)<=(↑(aa (val y*val y).toNat).length:Int) - aU (↑(aa (val y*val y).toNat).length:Int))/\(aU (↑(aa (val y*val y).toNat).length:Int))+((↑(aa (val y*val y).toNat).length:Int) - aU (↑(aa (val y*val y).toNat).length:Int))<=(↑(aa (val y*val y).toNat).length:Int))/\Dig (aa t.toNat)/\Dig (cutL (val y*val y))/\(aa t.toNat).length+(cutL (val y*val y)).length<=(500000:Nat))/\(((0:Int)<=aU (↑(aa (val (aa t.toNat)*val (cutL (val y*val y))).toNat).length:Int))/\(aU (↑(aa (val (aa t.toNat)*val (cutL (val y*val y))).toNat).length:Int))<=(↑(aa (val (aa t.toNat)*val (cutL (val y*val y))).toNat).length:Int)/\(↑(aa (val (aa t.toNat)*val (cutL (val y*val y))).toNat).length:Int)<=(↑(aa (val (aa t.toNat)*val (cutL (val y*val y))).toNat).length:Int))/\(((0:Int)<=aU (↑(aa (val (aa t.toNat)*val (cutL (val y*val y))).toNat).length:Int))/\((0:Int)<=(↑(aa (val (aa t.toNat)*val (cutL (val y*val y))).toNat).length:Int) - aU (↑(aa (val (aa t.toNat)*val (cutL (val y*val y))).toNat).length:Int))/\(aU (↑(aa (val (aa t.toNat)*val (cutL (val y*val y))).toNat).length:Int))+((↑(aa (val (aa t.toNat)*val (cutL (val y*val y))).toNat).length:Int) - aU (↑(aa (val (aa t.toNat)*val (cutL (val y*val y))).toNat).length:Int))<=(↑(aa (val (aa t.toNat)*val (cutL (val y*val y))).toNat).length:Int))/\Dig (cutL (val (aa t.toNat)*val (cutL (val y*val y))))/\(cutL (val (aa t.toNat)*val (cutL (val y*val y)))).length<=(500000:Nat)/\(1:Int)<=IntKind.i64.wrap (i*IntKind.i64.wrap (i+(1:Int)))/\IntKind.i64.wrap (i*IntKind.i64.wrap (i+(1:Int)))<=(1000000000:Int))/\((↑(aa (val (cutL (val (aa t.toNat)*val (cutL (val y*val y)))) / IntKind.i64.wrap (i*IntKind.i64.wrap (i+(1:Int)))).toNat).length:Int)==(0:Int))=false/\(i.tmod (4:Int)==(2:Int))=false/\((↑(aa s.toNat).length:Int)=(↑(aa s.toNat).length:Int)/\(↑(aa (val (cutL (val (aa t.toNat)*val (cutL (val y*val y)))) / IntKind.i64.wrap (i*IntKind.i64.wrap (i+(1:Int)))).toNat).length:Int)=(↑(aa (val (cutL (val (aa t.toNat)*val (cutL (val y*val y)))) / IntKind.i64.wrap (i*IntKind.i64.wrap (i+(1:Int)))).toNat).length:Int))/\Dig (aa s.toNat)/\Dig (aa (val (cutL (val (aa t.toNat)*val (cutL (val y*val y)))) / IntKind.i64.wrap (i*IntKind.i64.wrap (i+(1:Int)))).toNat)/\((0:Nat)<(aa s.toNat).length\/(0:Nat)<(aa (val (cutL (val (aa t.toNat)*val (cutL (val y*val y)))) / IntKind.i64.wrap (i*IntKind.i64.wrap (i+(1:Int)))).toNat).length)/\(aa s.toNat).length<=(400000:Nat)/\(aa (val (cutL (val (aa t.toNat)*val (cutL (val y*val y)))) / IntKind.i64.wrap (i*IntKind.i64.wrap (i+(1:Int)))).toNat).length<=(400000:Nat))/\(true=true->(((↑(aa (val (aa s.toNat)+val (aa (val (cutL (val (aa t.toNat)*val (cutL (val y*val y)))) / IntKind.i64.wrap (i*IntKind.i64.wrap (i+(1:Int)))).toNat)).toNat).length:Int)=(↑(aa (match decide (i % (4:Int)=(2:Int)) with|true=>s - seT y i t|false=>s+seT y i t).toNat).length:Int)/\(↑(aa (val (cutL (val (aa t.toNat)*val (cutL (val y*val y)))) / IntKind.i64.wrap (i*IntKind.i64.wrap (i+(1:Int)))).toNat).length:Int)=(↑(aa (seT y i t).toNat).length:Int)/\IntKind.i64.wrap (i+(2:Int))=i+(2:Int))/\aa (val (aa s.toNat)+val (aa (val (cutL (val (aa t.toNat)*val (cutL (val y*val y)))) / IntKind.i64.wrap (i*IntKind.i64.wrap (i+(1:Int)))).toNat)).toNat=aa (match decide (i % (4:Int)=(2:Int)) with|true=>s - seT y i t|false=>s+seT y i t).toNat/\aa (val (cutL (val (aa t.toNat)*val (cutL (val y*val y)))) / IntKind.i64.wrap (i*IntKind.i64.wrap (i+(1:Int)))).toNat=aa (seT y i t).toNat)/\(seU y).I ((seU y).next (some (i,t,s)))/\(seU y).μ ((seU y).next (some (i,t,s)))<(seU y).μ (some (i,t,s))/\(seU y).F ((seU y).next (some (i,t,s)))=(seU y).F (some (i,t,s)))
theorem Yy (y:List Int) (i t s:Int):dE (seS y) ((seU y).way ((some (i,t,s)))) ((run (cSe false false) 300).code Es seA (ah (seS y) ((seU y).S (some (i,t,s)))))=some (.p (MK y i t s)):=by kernel_rfl
def Rt (y:List Int) (i t s:Int):Prop:=(((((↑(aa t.toNat).length:Int)=(↑(aa t.toNat).length:Int)/\((0:Int)<=aU (↑(aa (val y*val y).toNat).length:Int))/\((0:Int)<=(↑(aa (val y*val y).toNat).length:Int) - aU (↑(aa (val y*val y).toNat).length:Int))/\(aU (↑(aa (val y*val y).toNat).length:Int))+((↑(aa (val y*val y).toNat).length:Int) - aU (↑(aa (val y*val y).toNat).length:Int))<=(↑(aa (val y*val y).toNat).length:Int))/\Dig (aa t.toNat)/\Dig (cutL (val y*val y))/\(aa t.toNat).length+(cutL (val y*val y)).length<=(500000:Nat))/\(((0:Int)<=aU (↑(aa (val (aa t.toNat)*val (cutL (val y*val y))).toNat).length:Int))/\(aU (↑(aa (val (aa t.toNat)*val (cutL (val y*val y))).toNat).length:Int))<=(↑(aa (val (aa t.toNat)*val (cutL (val y*val y))).toNat).length:Int)/\(↑(aa (val (aa t.toNat)*val (cutL (val y*val y))).toNat).length:Int)<=(↑(aa (val (aa t.toNat)*val (cutL (val y*val y))).toNat).length:Int))/\(((0:Int)<=aU (↑(aa (val (aa t.toNat)*val (cutL (val y*val y))).toNat).length:Int))/\((0:Int)<=(↑(aa (val (aa t.toNat)*val (cutL (val y*val y))).toNat).length:Int) - aU (↑(aa (val (aa t.toNat)*val (cutL (val y*val y))).toNat).length:Int))/\(aU (↑(aa (val (aa t.toNat)*val (cutL (val y*val y))).toNat).length:Int))+((↑(aa (val (aa t.toNat)*val (cutL (val y*val y))).toNat).length:Int) - aU (↑(aa (val (aa t.toNat)*val (cutL (val y*val y))).toNat).length:Int))<=(↑(aa (val (aa t.toNat)*val (cutL (val y*val y))).toNat).length:Int))/\Dig (cutL (val (aa t.toNat)*val (cutL (val y*val y))))/\(cutL (val (aa t.toNat)*val (cutL (val y*val y)))).length<=(500000:Nat)/\(1:Int)<=IntKind.i64.wrap (i*IntKind.i64.wrap (i+(1:Int)))/\IntKind.i64.wrap (i*IntKind.i64.wrap (i+(1:Int)))<=(1000000000:Int))/\((↑(aa (val (cutL (val (aa t.toNat)*val (cutL (val y*val y)))) / IntKind.i64.wrap (i*IntKind.i64.wrap (i+(1:Int)))).toNat).length:Int)==(0:Int))=true)/\(true=true->((↑(aa s.toNat).length:Int)=(↑(aa s.toNat).length:Int)/\aa s.toNat=aa s.toNat)/\(seU y).F (some (i,t,s))=(Ex.ret,seX s))
theorem Z4 (y:List Int) (i t s:Int):dE (seS y) ((seU y).way ((some (i,t,s)))) ((run (cSe true false) 300).code Es seA (ah (seS y) ((seU y).S (some (i,t,s)))))=some (.p (Rt y i t s)):=by kernel_rfl
structure SeD (y:List Int):Prop where
 d:Dig y
 l:y.length<=100
 hi:val y<=1700000000000000000000000000000000000000000000
 lo:0<seT y 2 (val y)
theorem SeD.sq {y:List Int} (h:SeD y):0<=qh y/\qh y<=3*PP:=by
 have v0:=aA h.d
 have v1:=h.hi
 have p:=fe
 refine ⟨Int.ediv_nonneg (Int.mul_nonneg v0 v0) (by omega),Int.ediv_le_of_le_mul p ?_⟩
 have:=Int.mul_le_mul (a:=val y) (b:=val y) (c:=1700000000000000000000000000000000000000000000) (d:=1700000000000000000000000000000000000000000000) v1 v1 v0 (by decide)
 have e:(1700000000000000000000000000000000000000000000:Int)*1700000000000000000000000000000000000000000000<=3*PP*PP:=by decide
 omega
theorem SQ {i:Int} (h0:2<=i) (h1:i<=400):IntKind.i64.wrap (i*IntKind.i64.wrap (i+1))=i*(i+1):=by
 have e:i*(i+1)<=400*401:=Int.mul_le_mul (a:=i) (b:=i+1) (c:=400) (d:=401) h1 (by omega) (by omega) (by decide)
 have e2:2*3<=i*(i+1):=Int.mul_le_mul (a:=2) (b:=3) (c:=i) (d:=i+1) h0 (by omega) (by decide) (by omega)
 rw [show IntKind.i64.wrap (i+1)=i+1 from iw (by omega) (by omega),iw (by omega) (by omega)]
theorem SeD.q {y:List Int} (h:SeD y) {v i:Int} (hv:0<=v) (h0:2<=i) (h1:i<=400):val (cutL (v*val (cutL (val y*val y)))) / IntKind.i64.wrap (i*IntKind.i64.wrap (i+1))=seT y i v:=by
 have v0:=aA h.d
 have h2:=h.sq
 rw [SQ h0 h1,rY (Int.mul_nonneg v0 v0),rY (v:=v*(val y*val y / PP)) (Int.mul_nonneg hv h2.1)]
 rfl
theorem uq {n:Int} (h:0<=n):0<=aU n/\aU n<=n:=by unfold aU; split <;> omega
theorem xZ (v:Int):(cutL v).length<=(aa v.toNat).length:=by
 unfold cutL
 rw [List.length_take,List.length_drop]
 omega
theorem iF {v:Int} {n:Nat} (h0:0<=v) (h:v<pw n):(aa v.toNat).length<=n:=D9 (by omega)
theorem len_mul {a b:Int} (a0:0<=a) (a1:a<=4*PP) (b0:0<=b) (b1:b<=4*PP):(aa (a*b).toNat).length<=11:=by
 have p:=fe
 have h:=Int.mul_le_mul a1 b1 b0 (by omega)
 have e:4*PP*(4*PP)<pw 11:=by decide
 exact iF (Int.mul_nonneg a0 b0) (by omega)
theorem iZ {a:Int} (a0:0<=a) (a1:a<=400*PP):(aa a.toNat).length<=6:=by
 have e:400*PP<pw 6:=by decide
 exact iF a0 (by omega)
theorem dv {a:Int} (a0:0<=a):val (aa a.toNat)=a:=by rw [rT]; omega
theorem Ew {a:Int} (a0:0<a):0<(aa a.toNat).length:=Br (by omega)
theorem UY {a b:Int} (a0:0<=a) (h:a<=b):(aa a.toNat).length<=(aa b.toNat).length:=by
 refine iF a0 ?_
 have:=eZ (aF b.toNat)
 rw [dv (by omega)] at this
 omega
theorem BF {n:Nat} {t:Int} (h0:0<t) (h:2 ^ n*t<=4*PP):n<=151:=by
 refine Nat.le_of_not_lt fun hn=>?_
 have h1:(2:Int) ^ 152<=2 ^ n:=by
  have:=Nat.pow_le_pow_right (n:=2) (by decide) (show 152<=n by omega)
  have e1:((2 ^ 152:Nat):Int)<=((2 ^ n:Nat):Int):=by exact_mod_cast this
  simpa using e1
 have h2:(2:Int) ^ n*1<=2 ^ n*t:=Int.mul_le_mul_of_nonneg_left (by omega) (by omega)
 have e:4*PP<(2:Int) ^ 152:=by decide
 omega
theorem BG {y:List Int} (h:SeD y) {i t:Int} (ht:0<=t) (hi:2<=i):0<=seT y i t/\2*seT y i t<=t:=ME h.sq.1 h.sq.2 ht hi
theorem ML {y:List Int} (h:SeD y):seR y (some (4,seT y 2 (val y),val y - seT y 2 (val y)))=seR y none:=by
 show kz (qh y) 199 4 _ _=kz (qh y) (199+1) 2 (val y) (val y)
 rw [uo (show val y*qh y / PP / (2*(2+1))≠0 from by have:=h.lo; unfold seT at this; omega)]
 rfl
theorem Ru {y:List Int} {i t s:Int} (hi:(i / 2).toNat<=200) (h:seT y i t=0):seR y (some (i,t,s))=s:=by
 show kz (qh y) (201 - (i / 2).toNat) i t s=s
 rw [show 201 - (i / 2).toNat=(200 - (i / 2).toNat)+1 by omega,Eu h]
theorem MN {y:List Int} {i t s:Int} (h0:0<=i) (hi:(i / 2).toNat<=200) (h:seT y i t≠0):seR y ((seU y).next (some (i,t,s)))=seR y (some (i,t,s)):=by
 show kz (qh y) (201 - ((i+2) / 2).toNat) (i+2) (seT y i t) _=kz (qh y) (201 - (i / 2).toNat) i t s
 rw [show 201 - (i / 2).toNat=(200 - (i / 2).toNat)+1 by omega,uo h,show 201 - ((i+2) / 2).toNat=200 - (i / 2).toNat by omega]
 rfl
theorem MO {y:List Int} (h:SeD y) {i t s:Int} (hI:(seU y).I (some (i,t,s))) (h0:seT y i t≠0):(seU y).I ((seU y).next (some (i,t,s))):=by
 obtain ⟨t0,i0,i1,i2,pw,s0,ts,sb⟩:=(show 0<t/\i % 2=0/\2<i/\i<=400/\2 ^ (i / 2).toNat*t<=4*PP/\0<s/\(i % 4=2->t<=s)/\s<=i*PP from hI)
 obtain ⟨b0,b1⟩:=BG h (i:=i) (t:=t) (by omega) (by omega)
 have k:=BF t0 pw
 have hp:(2:Int) ^ ((i+2) / 2).toNat*seT y i t<=4*PP:=by
  rw [show ((i+2) / 2).toNat=(i / 2).toNat+1 by omega,Int.pow_succ,Int.mul_assoc]
  have:(2:Int) ^ (i / 2).toNat*(2*seT y i t)<=2 ^ (i / 2).toNat*t:=Int.mul_le_mul_of_nonneg_left b1 (Int.pow_nonneg (by decide))
  omega
 have ht:t<=PP:=by
  have h4:(4:Int)*t<=2 ^ (i / 2).toNat*t:=by
   refine Int.mul_le_mul_of_nonneg_right ?_ (by omega)
   have:=Nat.pow_le_pow_right (n:=2) (by decide) (show 2<=(i / 2).toNat by omega)
   have e1:((2 ^ 2:Nat):Int)<=((2 ^ (i / 2).toNat:Nat):Int):=by exact_mod_cast this
   simpa using e1
  omega
 have e2:(i+2)*PP=i*PP+2*PP:=Int.add_mul _ _ _
 have p:=fe
 show 0<seT y i t/\(i+2) % 2=0/\2<i+2/\i+2<=400/\2 ^ ((i+2) / 2).toNat*seT y i t<=4*PP/\0<(match decide (i % 4=2) with|true=>s - seT y i t|false=>s+seT y i t)/\((i+2) % 4=2->seT y i t<=(match decide (i % 4=2) with|true=>s - seT y i t|false=>s+seT y i t))/\(match decide (i % 4=2) with|true=>s - seT y i t|false=>s+seT y i t)<=(i+2)*PP
 by_cases hm:i % 4=2
 .have:=ts hm
  rw [show (match decide (i % 4=2) with|true=>s - seT y i t|false=>s+seT y i t)=s - seT y i t by rw [decide_eq_true hm]]
  refine ⟨by omega,by omega,by omega,by omega,hp,by omega,by omega,by omega⟩
 .rw [show (match decide (i % 4=2) with|true=>s - seT y i t|false=>s+seT y i t)=s+seT y i t by rw [decide_eq_false hm]]
  refine ⟨by omega,by omega,by omega,by omega,hp,by omega,by omega,by omega⟩
theorem Jq {y:List Int} (h:SeD y):(seU y).I ((seU y).next none):=by
 have v0:=aA h.d
 have v1:=h.hi
 have l0:=h.lo
 obtain ⟨b0,b1⟩:=BG h (i:=2) (t:=val y) v0 (by omega)
 have e:(1700000000000000000000000000000000000000000000:Int)<=2*PP:=by decide
 show 0<seT y 2 (val y)/\(4:Int) % 2=0/\(2:Int)<4/\(4:Int)<=400/\(2:Int) ^ (2:Nat)*seT y 2 (val y)<=4*PP/\0<val y - seT y 2 (val y)/\((4:Int) % 4=2->seT y 2 (val y)<=val y - seT y 2 (val y))/\val y - seT y 2 (val y)<=4*PP
 have p:=fe
 refine ⟨l0,by decide,by decide,by decide,?_,by omega,by omega,by omega⟩
 rw [show (2:Int) ^ (2:Nat)=4 from rfl]; omega
theorem Rv {y:List Int} (h:SeD y):CodeOk cZ Es (.loop seA) (seS y) ⟨.tt,[⟨.tt,.ret,ah (seS y) (seX (seR y none))⟩]⟩:=by
 refine kN (seU y) (y0:=none) trivial ⟨_,MH y,rfl⟩ (by kernel_rfl) (fun x hx=>?_) rfl
 have v0:=aA h.d
 have v1:=h.hi
 have yl:=h.l
 have l0:=h.lo
 have p:=fe
 have e17:(1700000000000000000000000000000000000000000000:Int)<=2*PP:=by decide
 obtain ⟨q0,q1⟩:=h.sq
 have hsq:val (cutL (val y*val y))=qh y:=by rw [rY (Int.mul_nonneg v0 v0)]; rfl
 have m1:=len_mul v0 (by omega) v0 (by omega:val y<=4*PP)
 have k1:=xZ (val y*val y)
 have c1:=uq (n:=((aa (val y*val y).toNat).length:Int)) (by omega)
 have d1:=rZ (val y*val y)
 cases x with
 | none=>
  have Q:=h.q (v:=val y) v0 (i:=2) (by omega) (by omega)
  have c2:=uq (n:=((aa (val y*val (cutL (val y*val y))).toNat).length:Int)) (by omega)
  have d2:=rZ (val y*val (cutL (val y*val y)))
  have m2:=len_mul v0 (by omega:val y<=4*PP) q0 (by omega)
  rw [<- hsq] at m2
  have k2:=xZ (val y*val (cutL (val y*val y)))
  obtain ⟨b0,b1⟩:=BG h (i:=2) (t:=val y) v0 (by omega)
  have dq:=aF (seT y 2 (val y)).toNat
  have lq:=Ew l0
  have vq:=dv b0
  have yp:0<y.length:=by
   rcases Nat.eq_zero_or_pos y.length with e|e
   .rw [List.length_eq_zero_iff.1 e] at b1 l0
    have:val []=0:=rfl
    omega
   .exact e
  have ql:(aa (seT y 2 (val y)).toNat).length<=y.length:=iF b0 (by have:=eZ h.d; omega)
  have nx:=Jq h
  have w6:IntKind.i64.wrap (2*IntKind.i64.wrap (2+1))=6:=by decide
  refine ⟨cSe false true,300,BD _ _,rfl,rfl,_,Yw y,?_,fun _=>?_⟩
  .rw [Q,w6,vq]
   refine ⟨⟨⟨⟨rfl,by omega,by omega,by omega⟩,h.d,d1,by omega⟩,⟨by omega,by omega,by omega⟩,⟨by omega,by omega,by omega⟩,d2,by omega,by omega,by omega⟩,beq_eq_false_iff_ne.2 (by omega),rfl,⟨rfl,rfl⟩,h.d,dq,yp,by omega,ql,by omega⟩
  .rw [Q,vq]
   refine ⟨⟨⟨rfl,rfl,by decide⟩,rfl,rfl⟩,nx,by show (400 - 4:Int).toNat<400; omega,?_⟩
   exact congrArg (fun z=>(Ex.ret,seX z)) (ML h)
 | some x=>
  obtain ⟨i,t,s⟩:=x
  have hI:=hx
  obtain ⟨t0,i0,i1,i2,pw2,s0,ts,sb⟩:=(show 0<t/\i % 2=0/\2<i/\i<=400/\2 ^ (i / 2).toNat*t<=4*PP/\0<s/\(i % 4=2->t<=s)/\s<=i*PP from hx)
  have k:=BF t0 pw2
  have ht:t<=4*PP:=by
   have h4:(1:Int)*t<=2 ^ (i / 2).toNat*t:=by
    refine Int.mul_le_mul_of_nonneg_right ?_ (by omega)
    have:=Nat.one_le_two_pow (n:=(i / 2).toNat)
    have e1:((1:Nat):Int)<=((2 ^ (i / 2).toNat:Nat):Int):=by exact_mod_cast this
    simpa using e1
   omega
  have hs:s<=400*PP:=by
   have:i*PP<=400*PP:=Int.mul_le_mul_of_nonneg_right i2 (by omega)
   omega
  have vt:=dv (a:=t) (by omega)
  have vs:=dv (a:=s) (by omega)
  have dt:=aF t.toNat
  have ds:=aF s.toNat
  have lt:=iZ (a:=t) (by omega) (by omega)
  have ls:=iZ (a:=s) (by omega) hs
  have ls0:=Ew s0
  have Q:=h.q (v:=t) (by omega) (i:=i) (by omega) i2
  have c2:=uq (n:=((aa (t*val (cutL (val y*val y))).toNat).length:Int)) (by omega)
  have d2:=rZ (t*val (cutL (val y*val y)))
  have m2:=len_mul (a:=t) (by omega) ht q0 (by omega)
  rw [<- hsq] at m2
  have k2:=xZ (t*val (cutL (val y*val y)))
  obtain ⟨b0,b1⟩:=BG h (i:=i) (t:=t) (by omega) (by omega)
  have dq:=aF (seT y i t).toNat
  have vq:=dv b0
  have w6:=SQ (i:=i) (by omega) i2
  have w7:1<=i*(i+1):=by have:=Int.mul_le_mul (a:=2) (b:=3) (c:=i) (d:=i+1) (by omega) (by omega) (by decide) (by omega); omega
  have w8:i*(i+1)<=400*401:=Int.mul_le_mul (a:=i) (b:=i+1) (c:=400) (d:=401) i2 (by omega) (by omega) (by decide)
  have w9:IntKind.i64.wrap (i+2)=i+2:=iw (by omega) (by omega)
  by_cases h0:seT y i t=0
  .refine ⟨cSe true false,300,BD _ _,rfl,rfl,_,Z4 y i t s,?_,fun _=>⟨⟨rfl,rfl⟩,?_⟩⟩
   .rw [vt,Q,w6,h0]
    exact ⟨⟨⟨⟨rfl,by omega,by omega,by omega⟩,dt,d1,by omega⟩,⟨by omega,by omega,by omega⟩,⟨by omega,by omega,by omega⟩,d2,by omega,by omega,by omega⟩,by rw [show aa (0:Int).toNat=[] from dQ]; rfl⟩
   .show (Ex.ret,seX _)=(Ex.ret,seX _)
    rw [Ru (by omega) h0]
  .have lq:=Ew (a:=seT y i t) (by omega)
   have nx:=MO h hI h0
   have nr:=MN (y:=y) (i:=i) (t:=t) (s:=s) (by omega) (by omega) h0
   have mu:(400 - (i+2)).toNat<(400 - i).toNat:=by
    have:i<=304:=by omega
    omega
   by_cases hm:i % 4=2
   .have hts:=ts hm
    have ql:=UY b0 (show seT y i t<=s by omega)
    have e4:(match decide (i % 4=2) with|true=>s - seT y i t|false=>s+seT y i t)=s - seT y i t:=by rw [decide_eq_true hm]
    refine ⟨cSe false true,300,BD _ _,rfl,rfl,_,Yx y i t s,?_,fun _=>?_⟩
    .rw [vt,Q,w6,vq,vs]
     refine ⟨⟨⟨⟨rfl,by omega,by omega,by omega⟩,dt,d1,by omega⟩,⟨by omega,by omega,by omega⟩,⟨by omega,by omega,by omega⟩,d2,by omega,by omega,by omega⟩,beq_eq_false_iff_ne.2 (by omega),?_,⟨rfl,rfl⟩,ds,dq,ls0,by omega,ql,by omega⟩
     rw [Int.tmod_eq_emod_of_nonneg (by omega),hm]; rfl
    .rw [vt,Q,vq,vs]
     exact ⟨⟨⟨congrArg (fun z:Int=>((aa z.toNat).length:Int)) e4.symm,rfl,w9⟩,congrArg (fun z:Int=>aa z.toNat) e4.symm,rfl⟩,nx,mu,congrArg (fun z=>(Ex.ret,seX z)) nr⟩
   .have hmm:i % 4=0:=by omega
    have ql:=iZ (a:=seT y i t) b0 (by omega)
    have e4:(match decide (i % 4=2) with|true=>s - seT y i t|false=>s+seT y i t)=s+seT y i t:=by rw [decide_eq_false hm]
    refine ⟨cSe false false,300,BD _ _,rfl,rfl,_,Yy y i t s,?_,fun _=>?_⟩
    .rw [vt,Q,w6]
     refine ⟨⟨⟨⟨rfl,by omega,by omega,by omega⟩,dt,d1,by omega⟩,⟨by omega,by omega,by omega⟩,⟨by omega,by omega,by omega⟩,d2,by omega,by omega,by omega⟩,beq_eq_false_iff_ne.2 (by omega),?_,⟨rfl,rfl⟩,ds,dq,.inl ls0,by omega,by omega⟩
     rw [Int.tmod_eq_emod_of_nonneg (by omega),hmm]; rfl
    .rw [vt,Q,vq,vs]
     exact ⟨⟨⟨congrArg (fun z:Int=>((aa z.toNat).length:Int)) e4.symm,rfl,w9⟩,congrArg (fun z:Int=>aa z.toNat) e4.symm,rfl⟩,nx,mu,congrArg (fun z=>(Ex.ret,seX z)) nr⟩
noncomputable def UZ (y:List Int):Ctx:=aX cZ [bN 75 (seS y).hp.clock Es seA (seS y) .ret (seX (seR y none))]
theorem Rw {y:List Int} (h:SeD y):CtxOk (UZ y):=aL aI (Rv h) (bQ aI)
def Rx (y:List Int):Prop:=(((((↑y.length:Int)=(↑y.length:Int)/\(↑y.length:Int)=(↑y.length:Int))/\Dig y/\Dig y/\y.length+y.length<=(500000:Nat))/\((0:Int)<=aU (↑(aa (val y*val y).toNat).length:Int))/\(aU (↑(aa (val y*val y).toNat).length:Int))<=(↑(aa (val y*val y).toNat).length:Int)/\(↑(aa (val y*val y).toNat).length:Int)<=(↑(aa (val y*val y).toNat).length:Int))/\At (Es) (Es) (seA) (seA) (seS y) (seS y))
def U0 (y:List Int):AV:=(AV.lslice 1 (↑(aa (seR y none).toNat).length:Int))
def U2 (y:List Int):Hp:=⟨[{ wr:=24,body:=ABody.rows IntKind.i64 (aa (seR y none).toNat) },{ wr:=(0:Nat),body:=ABody.rows IntKind.i64 y }],2,25⟩
theorem Z6 (y:List Int):(run (UZ y) 300).call 75 (um y) (zH y)=some ⟨.p (Rx y),[⟨.tt,U0 y,U2 y⟩]⟩:=by kernel_rfl
def U3:List Nu->List (List Int)->Option (Prop×To)
 | [.n k],[y]=>some (k=5/\SeD y,.li false (aa (seR y none).toNat))
 | _,_=>none
theorem Jr:NOk Tryd.prog (fun _=>none) hG0 75 (dK hG0 .i64 [.li,.nu (.i .i64)] U3):=by
 refine eD (fun xs ys p t e h=>?_) ⟨_,Tryd.func75,rfl⟩
 unfold U3 at e
 split at e
 .rename_i k y
  cases e
  obtain ⟨rfl,h⟩:=h
  have hd:=h.d
  have hl:=h.l
  have c1:=uq (n:=((aa (val y*val y).toNat).length:Int)) (by omega)
  exact ⟨UZ y,300,um y,_,_,_,_,_,Rw h,rfl,rfl,⟨rfl,⟨rfl,rfl⟩,trivial⟩,Z6 y,rfl,⟨⟨⟨⟨rfl,rfl⟩,hd,hd,by omega⟩,⟨by omega,by omega,by omega⟩⟩,⟨rfl,rfl,rfl⟩⟩,rfl,rfl,rfl,rfl⟩
 .cases e
def tZ2:List (FuncId×jO):=(75,dK hG0 .i64 [.li,.nu (.i .i64)] U3) :: tZ
theorem U4:∀ x∈tZ2,NOk Tryd.prog (fun _=>none) hG0 x.1 x.2:=by
 intro x hx
 rcases List.mem_cons.1 hx with rfl|hx
 .exact Jr
 exact SL x hx
def MP:AFr:=⟨77,none⟩
def dwA:Code:=ig Tryd.prog 77 0
noncomputable def dwS (a:List Int):St:=rM cZ 300 77 (um a) (zH a)
def dwV (a:List Int):Int:=val a*val (aa (4294967296:Int).toNat)
def dwP (i n:Int):Patch:=⟨(5,.int true .i64 n) :: (7,.int true .i64 i) :: dX 17 11,[],[]⟩
def dwU (a:List Int):SumL (Int×Int):=
 {
  S:=fun (i,n)=>dwP i n
  I:=fun (i,n)=>-1<=i/\i<(cutL (dwV a)).length/\n=val ((cutL (dwV a)).drop (i+1).toNat)
  μ:=fun (i,_)=>(i+1).toNat
  F:=fun _=>(.exit 0,dwP (-1) (dwV a / PP))
  next:=fun (i,n)=>(i - 1,n*1000000000+(cutL (dwV a)).getD i.toNat 0)
  ids:=fun _=>[]
  X:=fun (i,n) _=>some (dwP i n,[]) }
def Ey (a:List Int):Prop:=(0:Int)=(0:Int)/\IntKind.i64.wrap (((↑(aa (val a*val (aa (Int.toNat (4294967296:Int)))).toNat).length:Int) - aU (↑(aa (val a*val (aa (Int.toNat (4294967296:Int)))).toNat).length:Int)) - (1:Int))=(↑(cutL (dwV a)).length:Int) - (1:Int)
theorem MQ (a:List Int):fit (dwS a) (dwS a) (ah (dwS a) (dwP (((cutL (dwV a)).length:Int) - 1) 0)) ([])=some (.p (Ey a)):=by kernel_rfl
def Gc (a:List Int) (i n:Int):Prop:=(decide (i>=(0:Int))=true->(((0:Int)<=aU (↑(aa (val a*val (aa (Int.toNat (4294967296:Int)))).toNat).length:Int))/\(0:Int)<=i/\i<(↑(aa (val a*val (aa (Int.toNat (4294967296:Int)))).toNat).length:Int) - aU (↑(aa (val a*val (aa (Int.toNat (4294967296:Int)))).toNat).length:Int))/\((aU (↑(aa (val a*val (aa (Int.toNat (4294967296:Int)))).toNat).length:Int))+i).toNat<(aa (val a*val (aa (Int.toNat (4294967296:Int)))).toNat).length)/\((!decide (i>=(0:Int)))=true->(n=n/\i=i)/\(dwU a).F (i,n)=(Ex.exit (0:Nat),dwP i n))/\(decide (i>=(0:Int))=true->(IntKind.i64.wrap (IntKind.i64.wrap (n*(1000000000:Int))+(aa (val a*val (aa (Int.toNat (4294967296:Int)))).toNat).getD ((aU (↑(aa (val a*val (aa (Int.toNat (4294967296:Int)))).toNat).length:Int))+i).toNat (0:Int))=n*(1000000000:Int)+(cutL (dwV a)).getD i.toNat (0:Int)/\IntKind.i64.wrap (i - (1:Int))=i - (1:Int))/\(dwU a).I ((dwU a).next (i,n))/\(dwU a).μ ((dwU a).next (i,n))<(dwU a).μ (i,n)/\(dwU a).F ((dwU a).next (i,n))=(dwU a).F (i,n))
theorem Ry (a:List Int) (i n:Int):dE (dwS a) ((dwU a).way ((i,n))) ((run cZ 300).code MP dwA (ah (dwS a) ((dwU a).S (i,n))))=some (.p (Gc a i n)):=by kernel_rfl
structure DwD (a:List Int):Prop where
 d:Dig a
 l:a.length<=100
 hi:dwV a / PP<4611686018427387904
theorem DwD.v {a:List Int} (h:DwD a):0<=dwV a:=Int.mul_nonneg (aA h.d) (aA (aF _))
theorem Rz {l:List Int} (h:Dig l) (k:Nat):val (l.drop k)<=val l:=by
 rw [xY k h]
 exact Int.ediv_le_self _ (aA h)
theorem RA {a:List Int} (h:DwD a):CodeOk cZ MP (.loop dwA) (dwS a) ⟨.tt,[⟨.tt,.exit 0,ah (dwS a) (dwP (-1) (dwV a / PP))⟩]⟩:=by
 have v0:=h.v
 have hc:=HY v0
 have hv:=rY v0
 have hd:=rZ (dwV a)
 have hi:=h.hi
 have c1:=uq (n:=((aa (dwV a).toNat).length:Int)) (by omega)
 have lm:(aa (dwV a).toNat).length<=500000:=by
  have l:=h.l
  have h1:=eZ h.d
  have h2:=jl l
  refine Nat.le_trans (iF (n:=102) v0 ?_) (by decide)
  have e1:val (aa (4294967296:Int).toNat)=4294967296:=dv (by decide)
  have e2:pw 102=1000000000000000000*pw 100:=by rw [jm,jm]; omega
  have h0:=aA h.d
  have p:=pw_pos 100
  unfold dwV
  rw [e1,e2]; omega
 have lc:((cutL (dwV a)).length:Int)=(aa (dwV a).toNat).length - aU (aa (dwV a).toNat).length:=by
  rw [hc,List.length_drop]; omega
 refine kM (bC aI 300) (dwU a) (y0:=(((cutL (dwV a)).length:Int) - 1,0)) ⟨by omega,by show _ - 1<_; omega,?_⟩ ⟨_,MQ a,rfl,?_⟩ (by kernel_rfl) (fun y hy=>?_) rfl
 .show 0=val ((cutL (dwV a)).drop (((cutL (dwV a)).length:Int) - 1+1).toNat)
  rw [show (((cutL (dwV a)).length:Int) - 1+1).toNat=(cutL (dwV a)).length by omega,List.drop_length]; rfl
 .show IntKind.i64.wrap (((aa (dwV a).toNat).length:Int) - aU (aa (dwV a).toNat).length - 1)=(cutL (dwV a)).length - 1
  rw [lc,iw (by omega) (by omega)]
 .obtain ⟨i,n⟩:=y
  obtain ⟨i0,i1,hn⟩:=(show -1<=i/\i<(cutL (dwV a)).length/\n=val ((cutL (dwV a)).drop (i+1).toNat) from hy)
  refine ⟨_,Ry a i n,fun e=>?_,fun e=>?_,fun e=>?_⟩
  .have e:=dt.1 e
   exact ⟨⟨c1.1,e,by show i<((aa (dwV a).toNat).length:Int) - aU (aa (dwV a).toNat).length; omega⟩,by show (aU (aa (dwV a).toNat).length+i).toNat<(aa (dwV a).toNat).length; omega⟩
  .have e:=ndt.1 e
   have:i=-1:=by omega
   subst this
   refine ⟨⟨rfl,rfl⟩,?_⟩
   show (Ex.exit 0,dwP (-1) (dwV a / PP))=(Ex.exit 0,dwP (-1) n)
   rw [hn,show ((-1:Int)+1).toNat=0 from rfl,List.drop_zero,hv]
  .have e:=dt.1 e
   have hl:i.toNat<(cutL (dwV a)).length:=by omega
   have s1:=Ec hl
   have s2:=Rz hd i.toNat
   rw [show i.toNat+1=(i+1).toNat by omega,<- hn] at s1
   rw [hv] at s2
   have g0:=hd.get i.toNat
   have n0:0<=n:=by rw [hn]; exact aA (Et hd _)
   have gd:(aa (dwV a).toNat).getD (aU (aa (dwV a).toNat).length+i).toNat 0=(cutL (dwV a)).getD i.toNat 0:=by
    rw [hc,List.getD_eq_getElem?_getD,List.getD_eq_getElem?_getD,List.getElem?_drop]
    congr 2
    omega
   have w1:IntKind.i64.wrap (n*1000000000)=n*1000000000:=iw (by omega) (by omega)
   have w2:IntKind.i64.wrap (n*1000000000+(cutL (dwV a)).getD i.toNat 0)=n*1000000000+(cutL (dwV a)).getD i.toNat 0:=iw (by omega) (by omega)
   refine ⟨⟨?_,iw (by omega) (by omega)⟩,⟨by show -1<=i - 1; omega,by show i - 1<_; omega,?_⟩,by show (i - 1+1).toNat<(i+1).toNat; omega,rfl⟩
   .show IntKind.i64.wrap (IntKind.i64.wrap (n*1000000000)+(aa (dwV a).toNat).getD (aU (aa (dwV a).toNat).length+i).toNat 0)=_
    rw [w1,gd,w2]
   .show n*1000000000+(cutL (dwV a)).getD i.toNat 0=val ((cutL (dwV a)).drop (i - 1+1).toNat)
    rw [show (i - 1+1).toNat=i.toNat by omega,s1]; omega
noncomputable def U5 (a:List Int):Ctx:=aX cZ [bN 77 (dwS a).hp.clock MP dwA (dwS a) (.exit 0) (dwP (-1) (dwV a / PP))]
theorem RB {a:List Int} (h:DwD a):CtxOk (U5 a):=aL aI (RA h) (bQ aI)
def RD (a:List Int):Prop:=((((0:Int)<(4294967296:Int)/\(4294967296:Int)<(1000000000000000000:Int))/\(((↑a.length:Int)=(↑a.length:Int)/\(↑(aa (Int.toNat (4294967296:Int))).length:Int)=(↑(aa (Int.toNat (4294967296:Int))).length:Int))/\Dig a/\Dig (aa (Int.toNat (4294967296:Int)))/\a.length+(aa (Int.toNat (4294967296:Int))).length<=(500000:Nat))/\((0:Int)<=aU (↑(aa (val a*val (aa (Int.toNat (4294967296:Int)))).toNat).length:Int))/\(aU (↑(aa (val a*val (aa (Int.toNat (4294967296:Int)))).toNat).length:Int))<=(↑(aa (val a*val (aa (Int.toNat (4294967296:Int)))).toNat).length:Int)/\(↑(aa (val a*val (aa (Int.toNat (4294967296:Int)))).toNat).length:Int)<=(↑(aa (val a*val (aa (Int.toNat (4294967296:Int)))).toNat).length:Int))/\At (MP) (MP) (dwA) (dwA) (dwS a) (dwS a))
def U6 (a:List Int):AV:=(AV.int true IntKind.i64 (dwV a / PP))
def U7 (a:List Int):Hp:=⟨[{ wr:=(0:Nat),body:=ABody.rows IntKind.i64 a }],1,28⟩
theorem Z7 (a:List Int):(run (U5 a) 300).call 77 (um a) (zH a)=some ⟨.p (RD a),[⟨.tt,U6 a,U7 a⟩]⟩:=by kernel_rfl
def U8:List Nu->List (List Int)->Option (Prop×To)
 | [.n k],[a]=>some (k=5/\DwD a,.nu .i64 (val a*4294967296 / PP))
 | _,_=>none
theorem MR (a:List Int):dwV a=val a*4294967296:=by
 unfold dwV
 rw [dv (by decide)]
theorem RF:NOk Tryd.prog (fun _=>none) hG0 77 (dK hG0 .i64 [.li,.nu (.i .i64)] U8):=by
 refine eD (fun xs ys p t e h=>?_) ⟨_,Tryd.func77,rfl⟩
 unfold U8 at e
 split at e
 .rename_i k y
  cases e
  obtain ⟨rfl,h⟩:=h
  have hd:=h.d
  have hl:=h.l
  have c1:=uq (n:=((aa (dwV y).toNat).length:Int)) (by omega)
  have l2:(aa (4294967296:Int).toNat).length<=2:=iF (by decide) (by decide)
  exact ⟨U5 y,300,um y,_,_,_,_,_,RB h,rfl,rfl,⟨rfl,⟨rfl,rfl⟩,trivial⟩,Z7 y,rfl,⟨⟨⟨by decide,by decide⟩,⟨⟨rfl,rfl⟩,hd,aF _,by show _+(aa (4294967296:Int).toNat).length<=_; omega⟩,⟨c1.1,c1.2,Int.le_refl _⟩⟩,⟨rfl,rfl,rfl⟩⟩,rfl,rfl,by show dwV y / PP=_; rw [MR]⟩
 .cases e
def Ez:AFr:=⟨85,none⟩
def arA:Code:=ig Tryd.prog 85 0
def Gd (x:Int) (one:List Int):List AV:=[.int true .i64 x,.lslice 0 one.length]
noncomputable def arS (x:Int) (one:List Int):St:=rM cZ 300 85 (Gd x one) (zH one)
def cAr (e m:Bool):Ctx:=cZb [(22,e),(26,m)]
theorem BH (e m:Bool):CtxOk (cAr e m):=Gb _
def arP:Option (Int×Int×Int)->Patch
 | none=>⟨(8,.int true .i64 1) :: (9,.any false) :: dX 15 18,[],[]⟩
 | some (i,t,s)=>⟨(5,.lslice 6 (aa s.toNat).length) :: (8,.int true .i64 i) :: (9,.any false) :: dX 15 18,[(4,.cells [.lslice 5 (aa t.toNat).length])],[.rows .i64 (aa s.toNat),.rows .i64 (aa t.toNat)]⟩
def arX (s:Int):Patch:=⟨(4,.lslice 5 (aa s.toNat).length) :: (5,.any false) :: (8,.any false) :: (9,.any false) :: dX 15 18,[(4,.dead)],[.rows .i64 (aa s.toNat)]⟩
def arQ (x:Int) (one:List Int):Int:=val one*x / (x*x)
def arR (x:Int) (one:List Int):Option (Int×Int×Int)->Int
 | none=>bX x 200 1 (val one*x) 0
 | some (i,t,s)=>bX x (200 - (i / 2).toNat) i t s
def arU (x:Int) (one:List Int):SumL (Option (Int×Int×Int)):=
 {
  S:=arP
  I:=fun y=>match y with
   | none=>True
   | some (i,t,s)=>0<t/\i % 2=1/\2<i/\i<=399/\2 ^ (i / 2).toNat*t<=4*PP/\0<=s/\(i % 4=3->t / (i - 2)<=s)/\s<=i*PP
  μ:=fun y=>match y with
   | none=>400
   | some (i,_,_)=>(400 - i).toNat
  F:=fun y=>(.ret,arX (arR x one y))
  next:=fun y=>match y with
   | none=>some (3,arQ x one,arQ x one / 1)
   | some (i,t,s)=>some (i+2,t / (x*x),match decide (i % 4=1) with|true=>s+t / (x*x) / i|false=>s - t / (x*x) / i)
  ids:=fun y=>match y with
   | none=>[5,7]
   | some _=>[7,9]
  X:=fun y _=>match y with
   | none=>none
   | some (_,_,s)=>some (arX s,[6]) }
def EA (x:Int) (one:List Int):Prop:=(1:Int)=(1:Int)
theorem MS (x:Int) (one:List Int):fit (arS x one) (arS x one) (ah (arS x one) ((arU x one).S none)) ([])=some (.p (EA x one)):=by kernel_rfl
def MU (x:Int) (one:List Int):Prop:=((((↑(aa (val one*val [x]).toNat).length:Int)=(↑(aa (val one*val [x]).toNat).length:Int)/\Dig (aa (val one*val [x]).toNat)/\(aa (val one*val [x]).toNat).length<=(500000:Nat)/\(1:Int)<=IntKind.i64.wrap (x*x)/\IntKind.i64.wrap (x*x)<=(1000000000:Int))/\(↑(aa (val (aa (val one*val [x]).toNat) / IntKind.i64.wrap (x*x)).toNat).length:Int)=(↑(aa (val (aa (val one*val [x]).toNat) / IntKind.i64.wrap (x*x)).toNat).length:Int)/\Dig (aa (val (aa (val one*val [x]).toNat) / IntKind.i64.wrap (x*x)).toNat)/\(aa (val (aa (val one*val [x]).toNat) / IntKind.i64.wrap (x*x)).toNat).length<=(500000:Nat)/\(1:Int)<=(1:Int)/\(1:Int)<=(1000000000:Int))/\((↑(aa (val (aa (val (aa (val one*val [x]).toNat) / IntKind.i64.wrap (x*x)).toNat) / (1:Int)).toNat).length:Int)==(0:Int))=false/\(Int.tmod (1:Int) (4:Int)==(1:Int))=true/\(↑(aa (val (aa (val (aa (val one*val [x]).toNat) / IntKind.i64.wrap (x*x)).toNat) / (1:Int)).toNat).length:Int)=(↑(aa (val (aa (val (aa (val one*val [x]).toNat) / IntKind.i64.wrap (x*x)).toNat) / (1:Int)).toNat).length:Int)/\Dig []/\Dig (aa (val (aa (val (aa (val one*val [x]).toNat) / IntKind.i64.wrap (x*x)).toNat) / (1:Int)).toNat)/\((0:Nat)<([]:List Int).length\/(0:Nat)<(aa (val (aa (val (aa (val one*val [x]).toNat) / IntKind.i64.wrap (x*x)).toNat) / (1:Int)).toNat).length)/\([]:List Int).length<=(400000:Nat)/\(aa (val (aa (val (aa (val one*val [x]).toNat) / IntKind.i64.wrap (x*x)).toNat) / (1:Int)).toNat).length<=(400000:Nat))/\(true=true->(((↑(aa (val []+val (aa (val (aa (val (aa (val one*val [x]).toNat) / IntKind.i64.wrap (x*x)).toNat) / (1:Int)).toNat)).toNat).length:Int)=(↑(aa (arQ x one / (1:Int)).toNat).length:Int)/\IntKind.i64.wrap ((1:Int)+(2:Int))=(3:Int))/\(↑(aa (val (aa (val one*val [x]).toNat) / IntKind.i64.wrap (x*x)).toNat).length:Int)=(↑(aa (arQ x one).toNat).length:Int)/\aa (val []+val (aa (val (aa (val (aa (val one*val [x]).toNat) / IntKind.i64.wrap (x*x)).toNat) / (1:Int)).toNat)).toNat=aa (arQ x one / (1:Int)).toNat/\aa (val (aa (val one*val [x]).toNat) / IntKind.i64.wrap (x*x)).toNat=aa (arQ x one).toNat)/\(arU x one).I ((arU x one).next none)/\(arU x one).μ ((arU x one).next none)<(arU x one).μ none/\(arU x one).F ((arU x one).next none)=(arU x one).F none)
theorem Yz (x:Int) (one:List Int):dE (arS x one) ((arU x one).way (none)) ((run (cAr false true) 300).code Ez arA (ah (arS x one) ((arU x one).S none)))=some (.p (MU x one)):=by kernel_rfl
def MV (x:Int) (one:List Int) (i t s:Int):Prop:=((((↑(aa t.toNat).length:Int)=(↑(aa t.toNat).length:Int)/\Dig (aa t.toNat)/\(aa t.toNat).length<=(500000:Nat)/\(1:Int)<=IntKind.i64.wrap (x*x)/\IntKind.i64.wrap (x*x)<=(1000000000:Int))/\(↑(aa (val (aa t.toNat) / IntKind.i64.wrap (x*x)).toNat).length:Int)=(↑(aa (val (aa t.toNat) / IntKind.i64.wrap (x*x)).toNat).length:Int)/\Dig (aa (val (aa t.toNat) / IntKind.i64.wrap (x*x)).toNat)/\(aa (val (aa t.toNat) / IntKind.i64.wrap (x*x)).toNat).length<=(500000:Nat)/\(1:Int)<=i/\i<=(1000000000:Int))/\((↑(aa (val (aa (val (aa t.toNat) / IntKind.i64.wrap (x*x)).toNat) / i).toNat).length:Int)==(0:Int))=false/\(i.tmod (4:Int)==(1:Int))=true/\((↑(aa s.toNat).length:Int)=(↑(aa s.toNat).length:Int)/\(↑(aa (val (aa (val (aa t.toNat) / IntKind.i64.wrap (x*x)).toNat) / i).toNat).length:Int)=(↑(aa (val (aa (val (aa t.toNat) / IntKind.i64.wrap (x*x)).toNat) / i).toNat).length:Int))/\Dig (aa s.toNat)/\Dig (aa (val (aa (val (aa t.toNat) / IntKind.i64.wrap (x*x)).toNat) / i).toNat)/\((0:Nat)<(aa s.toNat).length\/(0:Nat)<(aa (val (aa (val (aa t.toNat) / IntKind.i64.wrap (x*x)).toNat) / i).toNat).length)/\(aa s.toNat).length<=(400000:Nat)/\(aa (val (aa (val (aa t.toNat) / IntKind.i64.wrap (x*x)).toNat) / i).toNat).length<=(400000:Nat))/\(true=true->(((↑(aa (val (aa s.toNat)+val (aa (val (aa (val (aa t.toNat) / IntKind.i64.wrap (x*x)).toNat) / i).toNat)).toNat).length:Int)=(↑(aa (match decide (i % (4:Int)=(1:Int)) with|true=>s+t / (x*x) / i|false=>s - t / (x*x) / i).toNat).length:Int)/\IntKind.i64.wrap (i+(2:Int))=i+(2:Int))/\(↑(aa (val (aa t.toNat) / IntKind.i64.wrap (x*x)).toNat).length:Int)=(↑(aa (t / (x*x)).toNat).length:Int)/\aa (val (aa s.toNat)+val (aa (val (aa (val (aa t.toNat) / IntKind.i64.wrap (x*x)).toNat) / i).toNat)).toNat=aa (match decide (i % (4:Int)=(1:Int)) with|true=>s+t / (x*x) / i|false=>s - t / (x*x) / i).toNat/\aa (val (aa t.toNat) / IntKind.i64.wrap (x*x)).toNat=aa (t / (x*x)).toNat)/\(arU x one).I ((arU x one).next (some (i,t,s)))/\(arU x one).μ ((arU x one).next (some (i,t,s)))<(arU x one).μ (some (i,t,s))/\(arU x one).F ((arU x one).next (some (i,t,s)))=(arU x one).F (some (i,t,s)))
theorem YA (x:Int) (one:List Int) (i t s:Int):dE (arS x one) ((arU x one).way ((some (i,t,s)))) ((run (cAr false true) 300).code Ez arA (ah (arS x one) ((arU x one).S (some (i,t,s)))))=some (.p (MV x one i t s)):=by kernel_rfl
def MW (x:Int) (one:List Int) (i t s:Int):Prop:=((((↑(aa t.toNat).length:Int)=(↑(aa t.toNat).length:Int)/\Dig (aa t.toNat)/\(aa t.toNat).length<=(500000:Nat)/\(1:Int)<=IntKind.i64.wrap (x*x)/\IntKind.i64.wrap (x*x)<=(1000000000:Int))/\(↑(aa (val (aa t.toNat) / IntKind.i64.wrap (x*x)).toNat).length:Int)=(↑(aa (val (aa t.toNat) / IntKind.i64.wrap (x*x)).toNat).length:Int)/\Dig (aa (val (aa t.toNat) / IntKind.i64.wrap (x*x)).toNat)/\(aa (val (aa t.toNat) / IntKind.i64.wrap (x*x)).toNat).length<=(500000:Nat)/\(1:Int)<=i/\i<=(1000000000:Int))/\((↑(aa (val (aa (val (aa t.toNat) / IntKind.i64.wrap (x*x)).toNat) / i).toNat).length:Int)==(0:Int))=false/\(i.tmod (4:Int)==(1:Int))=false/\((↑(aa s.toNat).length:Int)=(↑(aa s.toNat).length:Int)/\(↑(aa (val (aa (val (aa t.toNat) / IntKind.i64.wrap (x*x)).toNat) / i).toNat).length:Int)=(↑(aa (val (aa (val (aa t.toNat) / IntKind.i64.wrap (x*x)).toNat) / i).toNat).length:Int))/\Dig (aa s.toNat)/\Dig (aa (val (aa (val (aa t.toNat) / IntKind.i64.wrap (x*x)).toNat) / i).toNat)/\(0:Nat)<(aa s.toNat).length/\(aa s.toNat).length<=(500000:Nat)/\(aa (val (aa (val (aa t.toNat) / IntKind.i64.wrap (x*x)).toNat) / i).toNat).length<=(aa s.toNat).length/\val (aa (val (aa (val (aa t.toNat) / IntKind.i64.wrap (x*x)).toNat) / i).toNat)<=val (aa s.toNat))/\(true=true->(((↑(aa (val (aa s.toNat) - val (aa (val (aa (val (aa t.toNat) / IntKind.i64.wrap (x*x)).toNat) / i).toNat)).toNat).length:Int)=(↑(aa (match decide (i % (4:Int)=(1:Int)) with|true=>s+t / (x*x) / i|false=>s - t / (x*x) / i).toNat).length:Int)/\IntKind.i64.wrap (i+(2:Int))=i+(2:Int))/\(↑(aa (val (aa t.toNat) / IntKind.i64.wrap (x*x)).toNat).length:Int)=(↑(aa (t / (x*x)).toNat).length:Int)/\aa (val (aa s.toNat) - val (aa (val (aa (val (aa t.toNat) / IntKind.i64.wrap (x*x)).toNat) / i).toNat)).toNat=aa (match decide (i % (4:Int)=(1:Int)) with|true=>s+t / (x*x) / i|false=>s - t / (x*x) / i).toNat/\aa (val (aa t.toNat) / IntKind.i64.wrap (x*x)).toNat=aa (t / (x*x)).toNat)/\(arU x one).I ((arU x one).next (some (i,t,s)))/\(arU x one).μ ((arU x one).next (some (i,t,s)))<(arU x one).μ (some (i,t,s))/\(arU x one).F ((arU x one).next (some (i,t,s)))=(arU x one).F (some (i,t,s)))
theorem YB (x:Int) (one:List Int) (i t s:Int):dE (arS x one) ((arU x one).way ((some (i,t,s)))) ((run (cAr false false) 300).code Ez arA (ah (arS x one) ((arU x one).S (some (i,t,s)))))=some (.p (MW x one i t s)):=by kernel_rfl
def RH (x:Int) (one:List Int) (i t s:Int):Prop:=((((↑(aa t.toNat).length:Int)=(↑(aa t.toNat).length:Int)/\Dig (aa t.toNat)/\(aa t.toNat).length<=(500000:Nat)/\(1:Int)<=IntKind.i64.wrap (x*x)/\IntKind.i64.wrap (x*x)<=(1000000000:Int))/\(↑(aa (val (aa t.toNat) / IntKind.i64.wrap (x*x)).toNat).length:Int)=(↑(aa (val (aa t.toNat) / IntKind.i64.wrap (x*x)).toNat).length:Int)/\Dig (aa (val (aa t.toNat) / IntKind.i64.wrap (x*x)).toNat)/\(aa (val (aa t.toNat) / IntKind.i64.wrap (x*x)).toNat).length<=(500000:Nat)/\(1:Int)<=i/\i<=(1000000000:Int))/\((↑(aa (val (aa (val (aa t.toNat) / IntKind.i64.wrap (x*x)).toNat) / i).toNat).length:Int)==(0:Int))=true)/\(true=true->((↑(aa s.toNat).length:Int)=(↑(aa s.toNat).length:Int)/\aa s.toNat=aa s.toNat)/\(arU x one).F (some (i,t,s))=(Ex.ret,arX s))
theorem Z8 (x:Int) (one:List Int) (i t s:Int):dE (arS x one) ((arU x one).way ((some (i,t,s)))) ((run (cAr true false) 300).code Ez arA (ah (arS x one) ((arU x one).S (some (i,t,s)))))=some (.p (RH x one i t s)):=by kernel_rfl
structure ArD (x:Int) (one:List Int):Prop where
 d:Dig one
 l:one.length<=100
 hi:val one<=PP
 x0:2<=x
 x1:x<=30000
 lo:0<arQ x one / 1
theorem ArD.xx {x:Int} {one:List Int} (h:ArD x one):4<=x*x/\x*x<=900000000/\IntKind.i64.wrap (x*x)=x*x:=by
 have x0:=h.x0
 have x1:=h.x1
 have a:=Int.mul_le_mul (a:=2) (b:=2) (c:=x) (d:=x) x0 x0 (by decide) (by omega)
 have b:=Int.mul_le_mul (a:=x) (b:=x) (c:=30000) (d:=30000) x1 x1 (by omega) (by decide)
 exact ⟨by omega,by omega,iw (by omega) (by omega)⟩
theorem EB {t m:Int} (ht:0<=t) (hm:2<=m):0<=t / m/\2*(t / m)<=t:=by
 have h0:=Int.ediv_nonneg ht (show 0<=m by omega)
 have h1:=Int.ediv_mul_le t (b:=m) (by omega)
 have h2:=Int.mul_le_mul_of_nonneg_left hm h0
 exact ⟨h0,by omega⟩
theorem HZ {t m:Int} (ht:0<=t) (hm:1<=m):0<=t / m/\t / m<=t:=⟨Int.ediv_nonneg ht (by omega),Int.ediv_le_self _ ht⟩
theorem zK {a b m n:Int} (h0:0<=a) (h1:a<=b) (h2:1<=n) (h3:n<=m):a / m<=b / n:=by
 have p1:=Int.ediv_mul_le a (b:=m) (by omega)
 have p0:0<=a / m:=Int.ediv_nonneg h0 (by omega)
 have p2:=Int.mul_le_mul_of_nonneg_left h3 p0
 exact (Int.le_ediv_iff_mul_le (by omega)).2 (by omega)
theorem ArD.q {x:Int} {one:List Int} (h:ArD x one):0<=arQ x one/\arQ x one<=PP:=by
 have v0:=aA h.d
 have x0:=h.x0
 obtain ⟨a,b,_⟩:=h.xx
 refine ⟨Int.ediv_nonneg (Int.mul_nonneg v0 (by omega)) (by omega),Int.le_trans (Int.ediv_le_of_le_mul (by omega) ?_) h.hi⟩
 refine Int.mul_le_mul_of_nonneg_left ?_ v0
 have:=Int.mul_le_mul_of_nonneg_left (show 1<=x by omega) (show 0<=x by omega)
 omega
theorem MX {x:Int} {one:List Int} (h:ArD x one):arR x one (some (3,arQ x one,arQ x one / 1))=arR x one none:=by
 show bX x 199 3 _ _=bX x (199+1) 1 (val one*x) 0
 rw [zJ (show val one*x / (x*x) / 1≠0 from by have:=h.lo; unfold arQ at this; omega)]
 show _=bX x 199 (1+2) (val one*x / (x*x)) (0+val one*x / (x*x) / 1)
 rw [Int.zero_add]; rfl
theorem RI {x:Int} {one:List Int} {i t s:Int} (hi:(i / 2).toNat<=199) (h:t / (x*x) / i=0):arR x one (some (i,t,s))=s:=by
 show bX x (200 - (i / 2).toNat) i t s=s
 rw [show 200 - (i / 2).toNat=(199 - (i / 2).toNat)+1 by omega,MG h]
theorem MZ {x:Int} {one:List Int} {i t s:Int} (h0:0<=i) (hi:(i / 2).toNat<=199) (h:t / (x*x) / i≠0):arR x one ((arU x one).next (some (i,t,s)))=arR x one (some (i,t,s)):=by
 show bX x (200 - ((i+2) / 2).toNat) (i+2) (t / (x*x)) _=bX x (200 - (i / 2).toNat) i t s
 rw [show 200 - (i / 2).toNat=(199 - (i / 2).toNat)+1 by omega,zJ h,show 200 - ((i+2) / 2).toNat=199 - (i / 2).toNat by omega]
 first|done|rfl
theorem Js {x:Int} {one:List Int} (h:ArD x one):(arU x one).I ((arU x one).next none):=by
 obtain ⟨q0,q1⟩:=h.q
 have l0:=h.lo
 rw [Int.ediv_one] at l0
 have p:=fe
 show 0<arQ x one/\(3:Int) % 2=1/\(2:Int)<3/\(3:Int)<=399/\(2:Int) ^ (1:Nat)*arQ x one<=4*PP/\0<=arQ x one / 1/\((3:Int) % 4=3->arQ x one / (3 - 2)<=arQ x one / 1)/\arQ x one / 1<=3*PP
 rw [show (3:Int) - 2=1 from rfl,Int.ediv_one,show (2:Int) ^ (1:Nat)=2 from rfl]
 refine ⟨l0,by decide,by decide,by decide,by omega,q0,by omega,by omega⟩
theorem M3 {x:Int} {one:List Int} (h:ArD x one) {i t s:Int} (hI:(arU x one).I (some (i,t,s))) (h0:t / (x*x) / i≠0):(arU x one).I ((arU x one).next (some (i,t,s))):=by
 obtain ⟨t0,i0,i1,i2,pw,s0,ts,sb⟩:=(show 0<t/\i % 2=1/\2<i/\i<=399/\2 ^ (i / 2).toNat*t<=4*PP/\0<=s/\(i % 4=3->t / (i - 2)<=s)/\s<=i*PP from hI)
 obtain ⟨xa,xb,_⟩:=h.xx
 obtain ⟨b0,b1⟩:=EB (t:=t) (m:=x*x) (by omega) (by omega)
 obtain ⟨c0,c1⟩:=HZ (t:=t / (x*x)) (m:=i) b0 (by omega)
 have cm:i % 4=3->t / (x*x) / i<=t / (i - 2):=fun _=>zK b0 (by omega) (by omega) (by omega)
 have ce:t / (x*x) / (i+2 - 2)<=t / (x*x) / i:=by rw [show i+2 - 2=i by omega]; exact Int.le_refl _
 have k:=BF t0 pw
 have hp:(2:Int) ^ ((i+2) / 2).toNat*(t / (x*x))<=4*PP:=by
  rw [show ((i+2) / 2).toNat=(i / 2).toNat+1 by omega,Int.pow_succ,Int.mul_assoc]
  have:(2:Int) ^ (i / 2).toNat*(2*(t / (x*x)))<=2 ^ (i / 2).toNat*t:=Int.mul_le_mul_of_nonneg_left b1 (Int.pow_nonneg (by decide))
  omega
 have ht:t<=2*PP:=by
  have h4:(2:Int)*t<=2 ^ (i / 2).toNat*t:=by
   refine Int.mul_le_mul_of_nonneg_right ?_ (by omega)
   have:=Nat.pow_le_pow_right (n:=2) (by decide) (show 1<=(i / 2).toNat by omega)
   have e1:((2 ^ 1:Nat):Int)<=((2 ^ (i / 2).toNat:Nat):Int):=by exact_mod_cast this
   simpa using e1
  omega
 have e2:(i+2)*PP=i*PP+2*PP:=Int.add_mul _ _ _
 have p:=fe
 have tp:0<t / (x*x):=by
  rcases Int.lt_or_eq_of_le b0 with e|e
  .exact e
  .rw [<- e] at h0; simp at h0
 show 0<t / (x*x)/\(i+2) % 2=1/\2<i+2/\i+2<=399/\2 ^ ((i+2) / 2).toNat*(t / (x*x))<=4*PP/\0<=(match decide (i % 4=1) with|true=>s+t / (x*x) / i|false=>s - t / (x*x) / i)/\((i+2) % 4=3->t / (x*x) / (i+2 - 2)<=(match decide (i % 4=1) with|true=>s+t / (x*x) / i|false=>s - t / (x*x) / i))/\(match decide (i % 4=1) with|true=>s+t / (x*x) / i|false=>s - t / (x*x) / i)<=(i+2)*PP
 have h5:0<=(match decide (i % 4=1) with|true=>s+t / (x*x) / i|false=>s - t / (x*x) / i)/\((i+2) % 4=3->t / (x*x) / (i+2 - 2)<=(match decide (i % 4=1) with|true=>s+t / (x*x) / i|false=>s - t / (x*x) / i))/\(match decide (i % 4=1) with|true=>s+t / (x*x) / i|false=>s - t / (x*x) / i)<=(i+2)*PP:=by
  by_cases hm:i % 4=1
  .rw [show (match decide (i % 4=1) with|true=>s+t / (x*x) / i|false=>s - t / (x*x) / i)=s+t / (x*x) / i by rw [decide_eq_true hm]]
   generalize t / (x*x) / i=u at *
   refine ⟨by omega,by omega,by omega⟩
  .have hm3:i % 4=3:=by omega
   have a1:=ts hm3
   have a2:=cm hm3
   rw [show (match decide (i % 4=1) with|true=>s+t / (x*x) / i|false=>s - t / (x*x) / i)=s - t / (x*x) / i by rw [decide_eq_false hm]]
   generalize t / (x*x) / i=u at *
   generalize t / (i - 2)=w at *
   refine ⟨by omega,by omega,by omega⟩
 refine ⟨tp,by omega,by omega,by omega,hp,h5⟩
theorem r9 (x:Int):val [x]=x:=by simp [val]
theorem si {x:Int} (h0:0<=x) (h1:x<1000000000):Dig [x]:=bH.2 ⟨⟨h0,h1⟩,jk⟩
theorem RJ {x:Int} {one:List Int} (h:ArD x one):CodeOk cZ Ez (.loop arA) (arS x one) ⟨.tt,[⟨.tt,.ret,ah (arS x one) (arX (arR x one none))⟩]⟩:=by
 refine kN (arU x one) (y0:=none) trivial ⟨_,MS x one,rfl⟩ (by kernel_rfl) (fun y hy=>?_) rfl
 have v0:=aA h.d
 have v1:=h.hi
 have yl:=h.l
 have x0:=h.x0
 have x1:=h.x1
 have p:=fe
 obtain ⟨xa,xb,xw⟩:=h.xx
 cases y with
 | none=>
  obtain ⟨q0,q1⟩:=h.q
  have l0:=h.lo
  have e1:val (aa (val one*val [x]).toNat)=val one*x:=by rw [r9,dv (Int.mul_nonneg v0 (by omega))]
  have Q:val (aa (val one*val [x]).toNat) / IntKind.i64.wrap (x*x)=arQ x one:=by rw [e1,xw]; rfl
  have vq:=dv q0
  have vq1:=dv (a:=arQ x one / 1) (by omega)
  have l1:(aa (val one*val [x]).toNat).length<=500000:=by
   rw [r9]
   refine Nat.le_trans (iF (n:=8) (Int.mul_nonneg v0 (by omega)) ?_) (by decide)
   have:=Int.mul_le_mul v1 x1 (by omega) (by omega)
   have e:PP*30000<pw 8:=by decide
   omega
  have lq:=iZ q0 (by omega)
  have lq1:=iZ (a:=arQ x one / 1) (by omega) (by rw [Int.ediv_one]; omega)
  have lp:=Ew l0
  refine ⟨cAr false true,300,BH _ _,rfl,rfl,_,Yz x one,?_,fun _=>?_⟩
  .rw [Q,xw,vq]
   refine ⟨⟨⟨rfl,aF _,l1,by omega,by omega⟩,rfl,aF _,by omega,by decide,by decide⟩,beq_eq_false_iff_ne.2 (by omega),rfl,rfl,jk,aF _,.inr lp,by decide,by omega⟩
  .rw [Q,vq,vq1]
   have z:val []+arQ x one / 1=arQ x one / 1:=Int.zero_add _
   rw [z]
   exact ⟨⟨⟨rfl,by decide⟩,rfl,rfl,rfl⟩,Js h,by show (400 - 3:Int).toNat<400; omega,congrArg (fun z=>(Ex.ret,arX z)) (MX h)⟩
 | some y=>
  obtain ⟨i,t,s⟩:=y
  have hI:=hy
  obtain ⟨t0,i0,i1,i2,pw2,s0,ts,sb⟩:=(show 0<t/\i % 2=1/\2<i/\i<=399/\2 ^ (i / 2).toNat*t<=4*PP/\0<=s/\(i % 4=3->t / (i - 2)<=s)/\s<=i*PP from hy)
  have k:=BF t0 pw2
  obtain ⟨b0,b1⟩:=EB (t:=t) (m:=x*x) (by omega) (by omega)
  obtain ⟨c0,c1⟩:=HZ (t:=t / (x*x)) (m:=i) b0 (by omega)
  have ht:t<=4*PP:=by
   have h4:(1:Int)*t<=2 ^ (i / 2).toNat*t:=by
    refine Int.mul_le_mul_of_nonneg_right ?_ (by omega)
    have:=Nat.one_le_two_pow (n:=(i / 2).toNat)
    have e1:((1:Nat):Int)<=((2 ^ (i / 2).toNat:Nat):Int):=by exact_mod_cast this
    simpa using e1
   omega
  have hs:s<=400*PP:=by
   have:i*PP<=400*PP:=Int.mul_le_mul_of_nonneg_right (by omega) (by omega)
   omega
  have vt:=dv (a:=t) (by omega)
  have vs:=dv s0
  have vb:=dv b0
  have vc:=dv c0
  have dt:=aF t.toNat
  have ds:=aF s.toNat
  have db:=aF (t / (x*x)).toNat
  have dc:=aF (t / (x*x) / i).toNat
  have lt:=iZ (a:=t) (by omega) (by omega)
  have ls:=iZ s0 hs
  have lb:=iZ b0 (by omega)
  have lc:=iZ c0 (by omega)
  have w9:IntKind.i64.wrap (i+2)=i+2:=iw (by omega) (by omega)
  by_cases h0:t / (x*x) / i=0
  .refine ⟨cAr true false,300,BH _ _,rfl,rfl,_,Z8 x one i t s,?_,fun _=>⟨⟨rfl,rfl⟩,congrArg (fun z=>(Ex.ret,arX z)) (RI (by omega) h0)⟩⟩
   rw [vt,xw,vb,h0]
   exact ⟨⟨⟨rfl,dt,by omega,by omega,by omega⟩,rfl,db,by omega,by omega,by omega⟩,by rw [show aa (0:Int).toNat=[] from dQ]; rfl⟩
  .have lq:=Ew (a:=t / (x*x) / i) (by omega)
   have nx:=M3 h hI h0
   have nr:=MZ (x:=x) (one:=one) (i:=i) (t:=t) (s:=s) (by omega) (by omega) h0
   have mu:(400 - (i+2)).toNat<(400 - i).toNat:=by omega
   by_cases hm:i % 4=1
   .have e4:(match decide (i % 4=1) with|true=>s+t / (x*x) / i|false=>s - t / (x*x) / i)=s+t / (x*x) / i:=by rw [decide_eq_true hm]
    refine ⟨cAr false true,300,BH _ _,rfl,rfl,_,YA x one i t s,?_,fun _=>?_⟩
    .rw [vt,xw,vb]
     refine ⟨⟨⟨rfl,dt,by omega,by omega,by omega⟩,rfl,db,by omega,by omega,by omega⟩,beq_eq_false_iff_ne.2 (by omega),?_,⟨rfl,rfl⟩,ds,dc,.inr lq,by omega,by omega⟩
     rw [Int.tmod_eq_emod_of_nonneg (by omega),hm]; rfl
    .rw [vt,xw,vb,vc,vs]
     exact ⟨⟨⟨congrArg (fun z:Int=>((aa z.toNat).length:Int)) e4.symm,w9⟩,rfl,congrArg (fun z:Int=>aa z.toNat) e4.symm,rfl⟩,nx,mu,congrArg (fun z=>(Ex.ret,arX z)) nr⟩
   .have hm3:i % 4=3:=by omega
    have a1:=ts hm3
    have a2:t / (x*x) / i<=t / (i - 2):=zK b0 (by omega) (by omega) (by omega)
    have ql:=UY c0 (show t / (x*x) / i<=s by omega)
    have e4:(match decide (i % 4=1) with|true=>s+t / (x*x) / i|false=>s - t / (x*x) / i)=s - t / (x*x) / i:=by rw [decide_eq_false hm]
    refine ⟨cAr false false,300,BH _ _,rfl,rfl,_,YB x one i t s,?_,fun _=>?_⟩
    .rw [vt,xw,vb,vc,vs]
     refine ⟨⟨⟨rfl,dt,by omega,by omega,by omega⟩,rfl,db,by omega,by omega,by omega⟩,beq_eq_false_iff_ne.2 (by omega),?_,⟨rfl,rfl⟩,ds,dc,by omega,by omega,ql,by omega⟩
     rw [Int.tmod_eq_emod_of_nonneg (by omega),hm3]; rfl
    .rw [vt,xw,vb,vc,vs]
     exact ⟨⟨⟨congrArg (fun z:Int=>((aa z.toNat).length:Int)) e4.symm,w9⟩,rfl,congrArg (fun z:Int=>aa z.toNat) e4.symm,rfl⟩,nx,mu,congrArg (fun z=>(Ex.ret,arX z)) nr⟩
noncomputable def U9 (x:Int) (one:List Int):Ctx:=aX cZ [bN 85 (arS x one).hp.clock Ez arA (arS x one) .ret (arX (arR x one none))]
theorem RL {x:Int} {one:List Int} (h:ArD x one):CtxOk (U9 x one):=aL aI (RJ h) (bQ aI)
def RN (x:Int) (one:List Int):Prop:=(((↑one.length:Int)=(↑one.length:Int)/\Dig one/\Dig [x]/\one.length + [x].length<=(500000:Nat))/\At (Ez) (Ez) (arA) (arA) (arS x one) (arS x one))
def Va (x:Int) (one:List Int):AV:=(AV.lslice 1 (↑(aa (arR x one none).toNat).length:Int))
def Vb (x:Int) (one:List Int):Hp:=⟨[{ wr:=15,body:=ABody.rows IntKind.i64 (aa (arR x one none).toNat) },{ wr:=(0:Nat),body:=ABody.rows IntKind.i64 one }],2,16⟩
theorem Z9 (x:Int) (one:List Int):(run (U9 x one) 300).call 85 (Gd x one) (zH one)=some ⟨.p (RN x one),[⟨.tt,Va x one,Vb x one⟩]⟩:=by kernel_rfl
def Vd:List Nu->List (List Int)->Option (Prop×To)
 | [.n x],[one]=>some (ArD x one,.li false (aa (bX x 200 1 (val one*x) 0).toNat))
 | _,_=>none
theorem Vf:NOk Tryd.prog (fun _=>none) hG0 85 (dK hG0 .i64 [.nu (.i .i64),.li] Vd):=by
 refine eD (fun xs ys p t e h=>?_) ⟨_,Tryd.func85,rfl⟩
 unfold Vd at e
 split at e
 .rename_i x one
  cases e
  have hl:=h.l
  have x0:=h.x0
  have x1:=h.x1
  refine ⟨U9 x one,300,Gd x one,_,_,_,_,_,RL h,rfl,rfl,⟨⟨rfl,rfl⟩,rfl,trivial⟩,Z9 x one,rfl,⟨⟨rfl,h.d,si (by omega) (by omega),by show _+1<=_; omega⟩,⟨rfl,rfl,rfl⟩⟩,rfl,rfl,?_⟩
  exact ⟨rfl,rfl⟩
 .cases e
def tZ3:List (FuncId×jO):=(85,dK hG0 .i64 [.nu (.i .i64),.li] Vd) :: (77,dK hG0 .i64 [.li,.nu (.i .i64)] U8) :: tZ2
theorem M4:∀ x∈tZ3,NOk Tryd.prog (fun _=>none) hG0 x.1 x.2:=by
 intro x hx
 rcases List.mem_cons.1 hx with rfl|hx
 .exact Vf
 rcases List.mem_cons.1 hx with rfl|hx
 .exact RF
 exact U4 x hx
def cZ3:Ctx:=mkN Tryd.prog (fun _=>none) hG0 tZ3 [] jZ
theorem Vg:CtxOk cZ3:=tV prog_ok (nI _) M4 (fun x h=>by cases h)
def x8 (one:List Int):Prop:=(((↑one.length:Int)=(↑one.length:Int)/\ArD (5:Int) one)/\((↑(aa (bX (5:Int) (200:Nat) (1:Int) (val one*(5:Int)) (0:Int)).toNat).length:Int)=(↑(aa (bX (5:Int) (200:Nat) (1:Int) (val one*(5:Int)) (0:Int)).toNat).length:Int)/\Dig (aa (bX (5:Int) (200:Nat) (1:Int) (val one*(5:Int)) (0:Int)).toNat)/\Dig [(8:Int)]/\(aa (bX (5:Int) (200:Nat) (1:Int) (val one*(5:Int)) (0:Int)).toNat).length + [(8:Int)].length<=(500000:Nat))/\((↑one.length:Int)=(↑one.length:Int)/\ArD (239:Int) one)/\((↑(aa (bX (239:Int) (200:Nat) (1:Int) (val one*(239:Int)) (0:Int)).toNat).length:Int)=(↑(aa (bX (239:Int) (200:Nat) (1:Int) (val one*(239:Int)) (0:Int)).toNat).length:Int)/\Dig (aa (bX (239:Int) (200:Nat) (1:Int) (val one*(239:Int)) (0:Int)).toNat)/\Dig [(2:Int)]/\(aa (bX (239:Int) (200:Nat) (1:Int) (val one*(239:Int)) (0:Int)).toNat).length + [(2:Int)].length<=(500000:Nat))/\((↑(aa (val (aa (bX (5:Int) (200:Nat) (1:Int) (val one*(5:Int)) (0:Int)).toNat)*val [(8:Int)]).toNat).length:Int)=(↑(aa (val (aa (bX (5:Int) (200:Nat) (1:Int) (val one*(5:Int)) (0:Int)).toNat)*val [(8:Int)]).toNat).length:Int)/\(↑(aa (val (aa (bX (239:Int) (200:Nat) (1:Int) (val one*(239:Int)) (0:Int)).toNat)*val [(2:Int)]).toNat).length:Int)=(↑(aa (val (aa (bX (239:Int) (200:Nat) (1:Int) (val one*(239:Int)) (0:Int)).toNat)*val [(2:Int)]).toNat).length:Int))/\Dig (aa (val (aa (bX (5:Int) (200:Nat) (1:Int) (val one*(5:Int)) (0:Int)).toNat)*val [(8:Int)]).toNat)/\Dig (aa (val (aa (bX (239:Int) (200:Nat) (1:Int) (val one*(239:Int)) (0:Int)).toNat)*val [(2:Int)]).toNat)/\(0:Nat)<(aa (val (aa (bX (5:Int) (200:Nat) (1:Int) (val one*(5:Int)) (0:Int)).toNat)*val [(8:Int)]).toNat).length/\(aa (val (aa (bX (5:Int) (200:Nat) (1:Int) (val one*(5:Int)) (0:Int)).toNat)*val [(8:Int)]).toNat).length<=(500000:Nat)/\(aa (val (aa (bX (239:Int) (200:Nat) (1:Int) (val one*(239:Int)) (0:Int)).toNat)*val [(2:Int)]).toNat).length<=(aa (val (aa (bX (5:Int) (200:Nat) (1:Int) (val one*(5:Int)) (0:Int)).toNat)*val [(8:Int)]).toNat).length/\val (aa (val (aa (bX (239:Int) (200:Nat) (1:Int) (val one*(239:Int)) (0:Int)).toNat)*val [(2:Int)]).toNat)<=val (aa (val (aa (bX (5:Int) (200:Nat) (1:Int) (val one*(5:Int)) (0:Int)).toNat)*val [(8:Int)]).toNat))
def Jt (one:List Int):AV:=(AV.lslice 1 (↑(aa (val (aa (val (aa (bX (5:Int) (200:Nat) (1:Int) (val one*(5:Int)) (0:Int)).toNat)*val [(8:Int)]).toNat) - val (aa (val (aa (bX (239:Int) (200:Nat) (1:Int) (val one*(239:Int)) (0:Int)).toNat)*val [(2:Int)]).toNat)).toNat).length:Int))
def Ju (one:List Int):Hp:=⟨[{ wr:=12,body:=ABody.rows IntKind.i64 (aa (val (aa (val (aa (bX (5:Int) (200:Nat) (1:Int) (val one*(5:Int)) (0:Int)).toNat)*val [(8:Int)]).toNat) - val (aa (val (aa (bX (239:Int) (200:Nat) (1:Int) (val one*(239:Int)) (0:Int)).toNat)*val [(2:Int)]).toNat)).toNat) },{ wr:=(0:Nat),body:=ABody.rows IntKind.i64 one }],2,13⟩
theorem RO (one:List Int):(run cZ3 300).call 71 [.lslice 0 one.length] (zH one)=some ⟨.p (x8 one),[⟨.tt,Jt one,Ju one⟩]⟩:=by kernel_rfl
def RGT:Int:=1570796326794896619231321691639751442098584716
def Vh:List Nu->List (List Int)->Option (Prop×To)
 | [],[one]=>some (Dig one/\one.length<=100/\val one=PP,.li false (aa RGT.toNat))
 | _,_=>none
theorem YC:bX 5 200 1 (PP*5) 0=197395559849880758370049765194790293447585106:=by kernel_rfl
theorem RP:bX 239 200 1 (PP*239) 0=4184076002074723864538214959285452741048066:=by kernel_rfl
theorem Vi:NOk Tryd.prog (fun _=>none) hG0 71 (dK hG0 .i64 [.li] Vh):=by
 refine eD (fun xs ys p t e h=>?_) ⟨_,Tryd.func71,rfl⟩
 unfold Vh at e
 split at e
 .rename_i one
  cases e
  obtain ⟨hd,hl,hv⟩:=h
  have d5:ArD 5 one:=⟨hd,hl,by omega,by decide,by decide,by unfold arQ; rw [hv]; decide⟩
  have d239:ArD 239 one:=⟨hd,hl,by omega,by decide,by decide,by unfold arQ; rw [hv]; decide⟩
  have e5:bX 5 200 1 (val one*5) 0=197395559849880758370049765194790293447585106:=by rw [hv]; exact YC
  have e239:bX 239 200 1 (val one*239) 0=4184076002074723864538214959285452741048066:=by rw [hv]; exact RP
  have v5:val (aa (Int.toNat 197395559849880758370049765194790293447585106))=197395559849880758370049765194790293447585106:=dv (by decide)
  have v239:val (aa (Int.toNat 4184076002074723864538214959285452741048066))=4184076002074723864538214959285452741048066:=dv (by decide)
  have e8:val [8]=8:=r9 8
  have e2:val [2]=2:=r9 2
  have l5:(aa (Int.toNat 197395559849880758370049765194790293447585106)).length<=6:=iZ (a:=197395559849880758370049765194790293447585106) (by decide) (by decide)
  have l239:(aa (Int.toNat 4184076002074723864538214959285452741048066)).length<=6:=iZ (a:=4184076002074723864538214959285452741048066) (by decide) (by decide)
  have la:(aa (Int.toNat (197395559849880758370049765194790293447585106*8))).length<=6:=iZ (a:=197395559849880758370049765194790293447585106*8) (by decide) (by decide)
  have lb:(aa (Int.toNat (4184076002074723864538214959285452741048066*2))).length<=(aa (Int.toNat (197395559849880758370049765194790293447585106*8))).length:=UY (a:=4184076002074723864538214959285452741048066*2) (b:=197395559849880758370049765194790293447585106*8) (by decide) (by decide)
  have l0:0<(aa (Int.toNat (197395559849880758370049765194790293447585106*8))).length:=Ew (a:=197395559849880758370049765194790293447585106*8) (by decide)
  have va:val (aa (Int.toNat (197395559849880758370049765194790293447585106*8)))=197395559849880758370049765194790293447585106*8:=dv (by decide)
  have vb:val (aa (Int.toNat (4184076002074723864538214959285452741048066*2)))=4184076002074723864538214959285452741048066*2:=dv (by decide)
  refine ⟨cZ3,300,[.lslice 0 one.length],_,_,_,_,_,Vg,rfl,rfl,⟨rfl,trivial⟩,RO one,rfl,?_,rfl,rfl,?_⟩
  .unfold x8
   rw [e5,e239,v5,v239,e8,e2,va,vb]
   refine ⟨⟨rfl,d5⟩,⟨rfl,aF _,si (by decide) (by decide),by show _+1<=_; omega⟩,⟨rfl,d239⟩,⟨rfl,aF _,si (by decide) (by decide),by show _+1<=_; omega⟩,⟨rfl,rfl⟩,aF _,aF _,l0,by omega,lb,by decide⟩
  .refine ⟨rfl,?_⟩
   show aa (val (aa (val (aa (bX 5 200 1 (val one*5) 0).toNat)*val [8]).toNat) - val (aa (val (aa (bX 239 200 1 (val one*239) 0).toNat)*val [2]).toNat)).toNat=_
   rw [e5,e239,v5,v239,e8,e2,va,vb]
   rfl
 .cases e
def cOv:Ctx:=cZb [(18,false),(24,true)]
theorem Vj:CtxOk cOv:=Gb _
def RQ (a b:List Int):Prop:=(((((↑a.length:Int)=(↑a.length:Int)/\(↑b.length:Int)=(↑b.length:Int))/\Sm a/\Sm b)/\decide (mE a b<(0:Int))=false)/\((↑b.length:Int)==(1:Int))=true/\((0:Int)<=(0:Int)/\(0:Int)<(↑b.length:Int))/\Int.toNat (0:Int)<b.length/\(↑a.length:Int)=(↑a.length:Int)/\Dig a/\a.length<=(500000:Nat)/\(1:Int)<=b.getD (Int.toNat (0:Int)) (0:Int)/\b.getD (Int.toNat (0:Int)) (0:Int)<=(1000000000:Int))
def Vk (a b:List Int):AV:=(AV.tuple [AV.lslice 2 (↑(aa (val a / b.getD (Int.toNat (0:Int)) (0:Int)).toNat).length:Int),AV.any true])
def Vl (a b:List Int):Hp:=⟨[{ wr:=21,body:=ABody.rows IntKind.i64 (aa (val a / b.getD (Int.toNat (0:Int)) (0:Int)).toNat) },{ wr:=(0:Nat),body:=ABody.rows IntKind.i64 b },{ wr:=(0:Nat),body:=ABody.rows IntKind.i64 a }],3,69⟩
theorem aaa (a b:List Int):(run cOv 300).call 74 (zB a b) (zG a b)=some ⟨.p (RQ a b),[⟨.tt,Vk a b,Vl a b⟩]⟩:=by kernel_rfl
theorem M5 {b:List Int} (h:b.length=1):val b=b.getD 0 0:=by
 match b,h with
 | [x],_=>simp [val]
end
end Go.Proofs.YtbiiiloimbjpaaaDoor.K
