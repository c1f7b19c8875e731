/- What is proved: MtfTwo returns true, whatever the input (part 10). No conditions beyond those of the row. -/
import Derived.Test.YtbiiiloimbjpaaaGreatDoorPI
import Derived.KernelRfl
open Go.IntKind (i64 u64)
set_option linter.unusedVariables false
set_option linter.unusedSimpArgs false
set_option linter.unusedSectionVars false
namespace Go.Proofs.YtbiiiloimbjpaaaGreatDoor.K
open Go Go.Eng Go.Dg
noncomputable section
def aj0:List Nu->List (List Int)->Option (Prop×To)
 | [],[a,b]=>some (Dig a/\Dig b/\0<a.length/\a.length<=500000/\b.length<=a.length/\val b<=val a,.li false (aA (val a - val b).toNat))
 | _,_=>none
theorem afx:NOk Tryz.prog (fun _=>none) hG0 127 (bQ hG0 .i64 [.li,.li] aj0):=by
 refine fw (fun xs ys p t e h=>?_) ⟨_,Tryz.func127,rfl⟩;unfold aj0 at e;split at e
 .rename_i a b;cases e;obtain ⟨ha,hb,f,l1,d,g⟩:=h;have c:0<=Jf a b:=by unfold Jf;omega
  have i:=aO hb;have a1:=eF ha;have ev:val (miD a b)=val a - val b:=kG c (by unfold Jf;omega);exact ⟨cMt a b,300,zB a b,_,_,_,_,_,ajZ ha hb l1 d c,rfl,rfl,⟨rfl,rfl,trivial⟩,aov a b,rfl,⟨⟨by omega,rfl,by omega,by omega⟩,⟨rfl,rfl,rfl⟩,⟨rfl,rfl,rfl⟩,⟨rfl,rfl,rfl⟩⟩,rfl,rfl,MS (j3 _ _) (by rw [MU]) ev⟩
 .cases e
def yD:AFr:=⟨128,none⟩
def Qg:Code:=fP Tryz.prog 128 0
def MV:Code:=fP Tryz.prog 128 1
def cPl (s:Bool):Ctx:=cHb [(13,s)]
theorem MW (s:Bool):CtxOk (cPl s):=yC _
def fT (s:Bool) (a b:List Int):List Int:=match s with|true=>b|false=>a
def shA (s:Bool) (a b:List Int):List Int:=match s with|true=>a|false=>b
noncomputable def q1S (s:Bool) (a b:List Int):St:=qM (cPl s) 300 128 (zB a b) (zG a b)
def q1P (i:Int) (d:List Int):Patch:=⟨bS 6 2++(25,.int true .i64 i) :: bS 26 12,[(2,.ints .i64 d)],[]⟩
def q1D (s:Bool) (a b:List Int) (i:Int):List Int:=uD (fT s a b++[0]) ((shA s a b).take i.toNat)
def q1X (s:Bool) (a b:List Int):Patch:=q1P (shA s a b).length (q1D s a b (shA s a b).length)
def q1U (s:Bool) (a b:List Int):SumL Int:=
 {
  S:=fun i=>q1P i (q1D s a b i)
  I:=fun i=>0<=i/\i<=(shA s a b).length
  μ:=fun i=>((shA s a b).length - i).toNat
  F:=fun _=>(.exit 0,q1X s a b)
  next:=fun i=>i+1
  ids:=fun _=>[]
  X:=fun i _=>some (q1P i (q1D s a b i),[]) }
noncomputable def cQ1 (s:Bool) (a b:List Int):Ctx:=bN (cPl s) [dK 128 (q1S s a b).hp.clock yD Qg (q1S s a b) (.exit 0) (q1X s a b)]
noncomputable def q2S (s:Bool) (a b:List Int):St:=qM (cQ1 s a b) 300 128 (zB a b) (zG a b)
def q2P (i:Int) (d:List Int):Patch:=⟨(8,.any false) :: (40,.int true .i64 i) :: bS 41 21,[(2,.ints .i64 d)],[]⟩
def plV (a b:List Int):Int:=val a+val b
def q2F (s:Bool) (a b:List Int):List Int:=cB ((fT s a b).length+1) (plV a b)
def q2U (s:Bool) (a b:List Int):SumL (Int×List Int):=
 {
  S:=fun (i,d)=>q2P i d
  I:=fun (i,d)=>0<=i/\NcI (fT s a b).length (plV a b) i.toNat d
  μ:=fun (i,_)=>((fT s a b).length - i).toNat
  F:=fun _=>(.exit 2,q2P (fT s a b).length (q2F s a b))
  next:=fun (i,d)=>(i+1,bif decide (d.getD i.toNat 0>=1000000000) then (d.set i.toNat (d.getD i.toNat 0 - 1000000000)).set (i.toNat+1) ((d.set i.toNat (d.getD i.toNat 0 - 1000000000)).getD (i.toNat+1) 0+1) else d)
  ids:=fun _=>[]
  X:=fun (i,d) _=>some (q2P i d,[]) }
def Qh (s:Bool) (a b:List Int):Prop:=(0:Int)=0/\Vy (List.replicate (i64.wrap ((↑(fT s a b).length:Int)+1)).toNat (0:Int)) (Int.toNat (0:Int)) (fT s a b)=q1D s a b (0:Int)
theorem aas (s:Bool) (a b:List Int):fit (q1S s a b) (q1S s a b) (aJ (q1S s a b) ((q1U s a b).S 0)) ([])=some (.p (Qh s a b)):=by cases s <;> kernel_rfl
def Sl (s:Bool) (a b:List Int) (i:Int):Prop:=(decide (i<(↑(shA s a b).length:Int))=true->(((0:Int)<=i/\i<(↑(shA s a b).length:Int))/\i.toNat<(shA s a b).length)/\((0:Int)<=i/\i<i64.wrap ((↑(fT s a b).length:Int)+1))/\((0:Int)+i).toNat<(q1D s a b i).length/\((0:Int)<=i/\i<i64.wrap ((↑(fT s a b).length:Int)+1))/\((0:Int)+i).toNat<(q1D s a b i).length)/\((!decide (i<(↑(shA s a b).length:Int)))=true->(i=i/\q1D s a b i=q1D s a b i)/\(q1U s a b).F i=(Ex.exit (0:Nat),q1P i (q1D s a b i)))/\(decide (i<(↑(shA s a b).length:Int))=true->(i64.wrap (i+1)=(q1U s a b).next i/\(q1D s a b i).set ((0:Int)+i).toNat (i64.wrap ((q1D s a b i).getD ((0:Int)+i).toNat (0:Int)+(shA s a b).getD i.toNat (0:Int)))=q1D s a b ((q1U s a b).next i))/\(q1U s a b).I ((q1U s a b).next i)/\(q1U s a b).μ ((q1U s a b).next i)<(q1U s a b).μ i/\(q1U s a b).F ((q1U s a b).next i)=(q1U s a b).F i)
theorem afy (s:Bool) (a b:List Int) (i:Int):dQ (q1S s a b) ((q1U s a b).way (i)) ((run cL 300).code yD Qg (aJ (q1S s a b) ((q1U s a b).S i)))=some (.p (Sl s a b i)):=by cases s <;> kernel_rfl
def Qi (s:Bool) (a b:List Int):Prop:=(0:Int)=0/\q1D s a b (↑(shA s a b).length:Int)=q1D s a b (↑(shA s a b).length:Int)
theorem aat (s:Bool) (a b:List Int):fit (q2S s a b) (q2S s a b) (aJ (q2S s a b) ((q2U s a b).S (0,q1D s a b (shA s a b).length))) ([])=some (.p (Qi s a b)):=by cases s <;> kernel_rfl
def WA (s:Bool) (a b:List Int) (i:Int) (d:List Int):Prop:=decide (i<(↑(fT s a b).length:Int))=false/\(true=true->(i=i/\d=d)/\(q2U s a b).F (i,d)=(Ex.exit (2:Nat),q2P i d))
theorem aj1 (s:Bool) (a b:List Int) (i:Int) (d:List Int):dQ (q2S s a b) ((q2U s a b).way ((i,d))) ((run (cHb [(41,false)]) 300).code yD MV (aJ (q2S s a b) ((q2U s a b).S (i,d))))=some (.p (WA s a b i d)):=by cases s <;> kernel_rfl
def Sq (s:Bool) (a b:List Int) (i:Int) (d:List Int):Prop:=(decide (i<(↑(fT s a b).length:Int))=true/\((0:Int)<=i/\i<i64.wrap ((↑(fT s a b).length:Int)+1))/\((0:Int)+i).toNat<d.length/\decide (d.getD ((0:Int)+i).toNat (0:Int)>=1000000000)=false)/\(true=true->(i64.wrap (i+1)=i+1/\d=bif decide (d.getD i.toNat (0:Int)>=1000000000) then (d.set i.toNat (d.getD i.toNat (0:Int) - (1000000000:Int))).set (i.toNat+(1:Nat)) ((d.set i.toNat (d.getD i.toNat (0:Int) - (1000000000:Int))).getD (i.toNat+(1:Nat)) (0:Int)+1) else d)/\(q2U s a b).I ((q2U s a b).next (i,d))/\(q2U s a b).μ ((q2U s a b).next (i,d))<(q2U s a b).μ (i,d)/\(q2U s a b).F ((q2U s a b).next (i,d))=(q2U s a b).F (i,d))
theorem afz (s:Bool) (a b:List Int) (i:Int) (d:List Int):dQ (q2S s a b) ((q2U s a b).way ((i,d))) ((run (cHb [(41,true),(47,false)]) 300).code yD MV (aJ (q2S s a b) ((q2U s a b).S (i,d))))=some (.p (Sq s a b i d)):=by cases s <;> kernel_rfl
def Sr (s:Bool) (a b:List Int) (i:Int) (d:List Int):Prop:=(decide (i<(↑(fT s a b).length:Int))=true/\(((0:Int)<=i/\i<i64.wrap ((↑(fT s a b).length:Int)+1))/\((0:Int)+i).toNat<d.length/\decide (d.getD ((0:Int)+i).toNat (0:Int)>=1000000000)=true)/\(((0:Int)<=i/\i<i64.wrap ((↑(fT s a b).length:Int)+1))/\((0:Int)+i).toNat<d.length/\((0:Int)<=i/\i<i64.wrap ((↑(fT s a b).length:Int)+1))/\((0:Int)+i).toNat<d.length)/\((0:Int)<=i64.wrap (i+1)/\i64.wrap (i+1)<i64.wrap ((↑(fT s a b).length:Int)+1))/\((0:Int)+i64.wrap (i+1)).toNat<(d.set ((0:Int)+i).toNat (i64.wrap (d.getD ((0:Int)+i).toNat (0:Int) - (1000000000:Int)))).length/\((0:Int)<=i64.wrap (i+1)/\i64.wrap (i+1)<i64.wrap ((↑(fT s a b).length:Int)+1))/\((0:Int)+i64.wrap (i+1)).toNat<(d.set ((0:Int)+i).toNat (i64.wrap (d.getD ((0:Int)+i).toNat (0:Int) - (1000000000:Int)))).length)/\(true=true->(i64.wrap (i+1)=i+1/\(d.set ((0:Int)+i).toNat (i64.wrap (d.getD ((0:Int)+i).toNat (0:Int) - (1000000000:Int)))).set ((0:Int)+i64.wrap (i+1)).toNat (i64.wrap ((d.set ((0:Int)+i).toNat (i64.wrap (d.getD ((0:Int)+i).toNat (0:Int) - (1000000000:Int)))).getD ((0:Int)+i64.wrap (i+1)).toNat (0:Int)+1))=bif decide (d.getD i.toNat (0:Int)>=1000000000) then (d.set i.toNat (d.getD i.toNat (0:Int) - (1000000000:Int))).set (i.toNat+(1:Nat)) ((d.set i.toNat (d.getD i.toNat (0:Int) - (1000000000:Int))).getD (i.toNat+(1:Nat)) (0:Int)+1) else d)/\(q2U s a b).I ((q2U s a b).next (i,d))/\(q2U s a b).μ ((q2U s a b).next (i,d))<(q2U s a b).μ (i,d)/\(q2U s a b).F ((q2U s a b).next (i,d))=(q2U s a b).F (i,d))
theorem afA (s:Bool) (a b:List Int) (i:Int) (d:List Int):dQ (q2S s a b) ((q2U s a b).way ((i,d))) ((run (cHb [(41,true),(47,true)]) 300).code yD MV (aJ (q2S s a b) ((q2U s a b).S (i,d))))=some (.p (Sr s a b i d)):=by cases s <;> kernel_rfl
theorem aau (u:List Int):Vy (List.replicate (u.length+1) 0) 0 u=u++[0]:=by unfold Vy;rw [uS,List.nil_append,List.drop_replicate,show u.length+1 - (0+u.length)=1 by omega];rfl
theorem afB (s:Bool) (a b:List Int) (i:Int):(q1D s a b i).length=(fT s a b).length+1:=by unfold q1D;rw [CL];simp
theorem afC {s:Bool} {a b:List Int} (ha:Dig a) (hb:Dig b) (m:(fT s a b).length<=400000) (n:(shA s a b).length<=(fT s a b).length):CodeOk cL yD (.loop Qg) (q1S s a b) ⟨.tt,[⟨.tt,.exit 0,aJ (q1S s a b) (q1X s a b)⟩]⟩:=by
 have f:Dig (fT s a b):=by cases s <;> assumption
 have g:Dig (shA s a b):=by cases s <;> assumption
 have c:Dig (fT s a b++[0]):=CB.2 ⟨f,fA.2 ⟨by omega,jF⟩⟩;have d:i64.wrap ((fT s a b).length+1:Int)=(fT s a b).length+1:=iw (by omega) (by omega);refine jX (dw kv 300) (q1U s a b) (y0:=0) ⟨by omega,by omega⟩ ⟨_,aas s a b,rfl,?_⟩ (by cases s <;> kernel_rfl) (fun i hi=>⟨_,afy s a b i,?_⟩) rfl
 .rw [d,show ((fT s a b).length+1:Int).toNat=(fT s a b).length+1 by omega,show Int.toNat 0=0 from rfl,aau];exact (Jd _).symm
 obtain ⟨i0,i1⟩:=(show 0<=i/\i<=(shA s a b).length from hi);have j:=afB s a b i;refine ⟨fun h=>?_,fun h=>⟨⟨rfl,rfl⟩,?_⟩,fun h=>?_⟩
 .have h:i<(shA s a b).length:=dt.1 h;rw [zt,j,d];exact ⟨⟨⟨i0,h⟩,by omega⟩,⟨i0,by omega⟩,by omega,⟨i0,by omega⟩,by omega⟩
 .have h:=ndt.1 h;obtain rfl:i=(shA s a b).length:=by omega
  rfl
 .have h:i<(shA s a b).length:=dt.1 h;have o:=c.get i.toNat;have p:=g.get i.toNat;have k:((shA s a b).take i.toNat).getD i.toNat 0=0:=by rw [bY,dB (by rw [dD];omega)];rfl
  have l:(q1D s a b i).getD i.toNat 0=(fT s a b++[0]).getD i.toNat 0+((shA s a b).take i.toNat).getD i.toNat 0:=CO _ _ i.toNat (by simp;omega);rw [k] at l;refine ⟨⟨iw (by omega) (by omega),?_⟩,?_,?_,rfl⟩
  .rw [zt,iw (by omega) (by omega)];unfold q1D;rw [KX _ _ i.toNat (by omega) (by simp;omega)];show _=uD _ ((shA s a b).take (i+1).toNat);rw [show (i+1).toNat=i.toNat+1 by omega]
  .show 0<=i+1/\i+1<=(shA s a b).length;omega
  .show ((shA s a b).length - (i+1)).toNat<((shA s a b).length - i).toNat;omega
theorem aj2 (s:Bool) (a b:List Int):plV a b=val (fT s a b)+val (shA s a b):=by
 unfold plV;cases s
 .rfl
 .show val a+val b=val b+val a;omega
theorem afD {s:Bool} {a b:List Int} (ha:Dig a) (hb:Dig b) (u:(fT s a b).length<=400000) (o:(shA s a b).length<=(fT s a b).length):CodeOk cL yD (.loop MV) (q2S s a b) ⟨.tt,[⟨.tt,.exit 2,aJ (q2S s a b) (q2P (fT s a b).length (q2F s a b))⟩]⟩:=by
 have p:Dig (fT s a b):=by cases s <;> assumption
 have q:Dig (shA s a b):=by cases s <;> assumption
 have m:i64.wrap ((fT s a b).length+1:Int)=(fT s a b).length+1:=iw (by omega) (by omega);refine jm (q2U s a b) (y0:=(0,q1D s a b (shA s a b).length)) ?_ ⟨_,aat s a b,rfl,rfl⟩ (by cases s <;> kernel_rfl) (fun y r=>?_) rfl
 .show 0<=0/\NcI _ _ _ _;unfold q1D;rw [show (((shA s a b).length:Int)).toNat=(shA s a b).length by omega,gp,aj2 s];exact ⟨by decide,NcI.start p q o⟩
 obtain ⟨i,d⟩:=y;obtain ⟨i0,h⟩:=(show 0<=i/\NcI (fT s a b).length (plV a b) i.toNat d from r);obtain ⟨l,i1,lo,me,k,t0,t1,v⟩:=id h;have j:(i+1).toNat=i.toNat+1:=by omega
 by_cases g:i<(fT s a b).length
 .have f:i64.wrap (i+1)=i+1:=iw (by omega) (by omega);have mu:((fT s a b).length - (i+1)).toNat<((fT s a b).length - i).toNat:=by omega
  by_cases hn:d.getD i.toNat 0>=1000000000
  .have h2:=k (i.toNat+1) (by omega);have e3:(d.set i.toNat (d.getD i.toNat 0 - 1000000000)).getD (i.toNat+1) 0=d.getD (i.toNat+1) 0:=getD_set (by omega);have n:i64.wrap (d.getD i.toNat 0 - 1000000000)=d.getD i.toNat 0 - 1000000000:=iw (by omega) (by omega);have t:i64.wrap (d.getD (i.toNat+1) 0+1)=d.getD (i.toNat+1) 0+1:=iw (by omega) (by omega);have c:(bif decide (d.getD i.toNat 0>=1000000000) then (d.set i.toNat (d.getD i.toNat 0 - 1000000000)).set (i.toNat+1) ((d.set i.toNat (d.getD i.toNat 0 - 1000000000)).getD (i.toNat+1) 0+1) else d)=(d.set i.toNat (d.getD i.toNat 0 - 1000000000)).set (i.toNat+1) ((d.set i.toNat (d.getD i.toNat 0 - 1000000000)).getD (i.toNat+1) 0+1):=by rw [aI hn];rfl
   refine ⟨cHb [(41,true),(47,true)],300,yC _,rfl,rfl,_,afA s a b i d,?_,fun _=>?_⟩
   .rw [zt,f,zt,j,n,jh,m];exact ⟨aI g,⟨⟨i0,by omega⟩,by omega,aI hn⟩,⟨⟨i0,by omega⟩,by omega,⟨i0,by omega⟩,by omega⟩,⟨by omega,by omega⟩,by omega,⟨by omega,by omega⟩,by omega⟩
   .refine ⟨⟨f,?_⟩,?_,mu,rfl⟩
    .rw [zt,f,zt,j,n,c,e3,t]
    .show 0<=i+1/\NcI _ _ (i+1).toNat _;rw [j,c];exact ⟨by omega,h.step (by omega) hn⟩
  .have c:(bif decide (d.getD i.toNat 0>=1000000000) then (d.set i.toNat (d.getD i.toNat 0 - 1000000000)).set (i.toNat+1) ((d.set i.toNat (d.getD i.toNat 0 - 1000000000)).getD (i.toNat+1) 0+1) else d)=d:=by rw [aG hn];rfl
   refine ⟨cHb [(41,true),(47,false)],300,yC _,rfl,rfl,_,afz s a b i d,?_,fun _=>⟨⟨f,c.symm⟩,?_,mu,rfl⟩⟩
   .rw [zt,m];exact ⟨aI g,⟨i0,by omega⟩,by omega,aG hn⟩
   .show 0<=i+1/\NcI _ _ (i+1).toNat _;rw [j,c];exact ⟨by omega,h.skip (by omega) hn⟩
 .refine ⟨cHb [(41,false)],300,yC _,rfl,rfl,_,aj1 s a b i d,aG g,fun _=>⟨⟨rfl,rfl⟩,?_⟩⟩;have e:i.toNat=(fT s a b).length:=by omega
  rw [e] at h;show (Ex.exit 2,q2P (fT s a b).length (q2F s a b))=(Ex.exit 2,q2P i d);unfold q2F;rw [<- h.fin,show i=(fT s a b).length by omega]
def plW (s:Bool):Nat:=match s with|true=>29|false=>25
def plC (s:Bool):Nat:=match s with|true=>32|false=>28
noncomputable def qtS (s:Bool) (a b d:List Int) (N:Int):St:=qM cL 300 138 [.islice true 2 0 N] ⟨[⟨plW s,.ints .i64 d⟩,⟨0,.rows .i64 b⟩,⟨0,.rows .i64 a⟩],3,plC s⟩
theorem aav (s:Bool) (a b d:List Int) (N:Int):fit (qtS s a b d N) (qtS s a b d N) (aJ (qtS s a b d N) ((trU 2 d N).S N)) []=some (.p ((0:Int)=0/\N=N)):=by cases s <;> kernel_rfl
theorem afE (s:Bool) (a b d:List Int) (N y:Int):dQ (qtS s a b d N) ((trU 2 d N).way y) ((run cL 300).code rz trA (aJ (qtS s a b d N) ((trU 2 d N).S y)))=some (.p (trN 2 d N y)):=by cases s <;> kernel_rfl
theorem afF (s:Bool) (a b:List Int) {d:List Int} {N:Int} (hN:N=d.length) (ld:Sm d):CodeOk cL rz (.loop trA) (qtS s a b d N) ⟨.tt,[⟨.tt,.exit 0,aJ (qtS s a b d N) (trP 2 (tlI d N))⟩]⟩:=GD hN ld (aav s a b d N) (by cases s <;> kernel_rfl) (fun y=>afE s a b d N y)
def plN (s:Bool) (a b:List Int):Int:=i64.wrap ((fT s a b).length+1:Int)
noncomputable def cQt (s:Bool) (a b:List Int):Ctx:=bN (cPl s) [dK 128 (q1S s a b).hp.clock yD Qg (q1S s a b) (.exit 0) (q1X s a b),dK 128 (q2S s a b).hp.clock yD MV (q2S s a b) (.exit 2) (q2P (fT s a b).length (q2F s a b)),
 dK 138 (plC s+3) rz trA (qtS s a b (q2F s a b) (plN s a b)) (.exit 0) (trP 2 (tlI (q2F s a b) (plN s a b)))]
theorem UQ (s:Bool) (a b:List Int):(q2F s a b).length=(fT s a b).length+1:=eD _ _
theorem MX {s:Bool} {a b:List Int} (c:(fT s a b).length<=400000):plN s a b=(q2F s a b).length:=by unfold plN;rw [iw (by omega) (by omega),UQ];omega
theorem Jg {C D:Ctx} {fr:AFr} {a:Code} {S:St} {r:R} (h:CodeOk C fr (.loop a) S r) (b:D.P=C.P) (c:D.glob=C.glob):CodeOk D fr (.loop a) S r:=CodeOk.ctx b c h
theorem aaw {s:Bool} {a b:List Int} (ha:Dig a) (hb:Dig b) (c:(fT s a b).length<=400000) (d:(shA s a b).length<=(fT s a b).length):CtxOk (cQt s a b):=
 bE (MW s) (Jg (afC ha hb c d) rfl rfl) (bE (MW s) (Jg (afD ha hb c d) rfl rfl) (bE (MW s) (Jg (afF s a b (MX c) (by show (q2F s a b).length<=500000;rw [UQ];omega)) rfl rfl) (bJ (MW s))))
def afG (a b:List Int):Prop:=(decide ((↑a.length:Int)<(↑b.length:Int))=false/\(i64.wrap ((↑a.length:Int)+1)=i64.wrap ((↑a.length:Int)+1)/\(0:Int)<=i64.wrap ((↑a.length:Int)+1)/\i64.wrap ((↑a.length:Int)+1)<=1048576)/\((↑a.length:Int)=(↑a.length:Int)/\(0:Int)<=0/\(0:Int)<(↑a.length:Int)/\(↑a.length:Int)<=i64.wrap ((↑a.length:Int)+1)/\(0:Int)+i64.wrap ((↑a.length:Int)+1)<=(↑(List.replicate (i64.wrap ((↑a.length:Int)+1)).toNat (0:Int)).length:Int))/\At (yD) (yD) (Qg) (Qg) (q1S false a b) (q1S false a b)/\At (yD) (yD) (MV) (MV) (q2S false a b) (q2S false a b)/\At (rz) (rz) (trA) (trA) (qtS false a b (q2F false a b) (plN false a b)) (qtS false a b (q2F false a b) (plN false a b)))
def aj3 (a b:List Int):AV:=(AV.islice true 2 (0:Int) (tlI (q2F false a b) (plN false a b)))
def aj4 (a b:List Int):Hp:=⟨[{ wr:=25,body:=ABody.ints i64 (q2F false a b) },{ wr:=(0:Nat),body:=ABody.rows i64 b },{ wr:=(0:Nat),body:=ABody.rows i64 a }],3,35⟩
theorem arT (a b:List Int):(run (cQt false a b) 300).call 128 (zB a b) (zG a b)=some ⟨.p (afG a b),[⟨.tt,aj3 a b,aj4 a b⟩]⟩:=by kernel_rfl
def afH (a b:List Int):Prop:=(decide ((↑a.length:Int)<(↑b.length:Int))=true/\(i64.wrap ((↑b.length:Int)+1)=i64.wrap ((↑b.length:Int)+1)/\(0:Int)<=i64.wrap ((↑b.length:Int)+1)/\i64.wrap ((↑b.length:Int)+1)<=1048576)/\((↑b.length:Int)=(↑b.length:Int)/\(0:Int)<=0/\(0:Int)<(↑b.length:Int)/\(↑b.length:Int)<=i64.wrap ((↑b.length:Int)+1)/\(0:Int)+i64.wrap ((↑b.length:Int)+1)<=(↑(List.replicate (i64.wrap ((↑b.length:Int)+1)).toNat (0:Int)).length:Int))/\At (yD) (yD) (Qg) (Qg) (q1S true a b) (q1S true a b)/\At (yD) (yD) (MV) (MV) (q2S true a b) (q2S true a b)/\At (rz) (rz) (trA) (trA) (qtS true a b (q2F true a b) (plN true a b)) (qtS true a b (q2F true a b) (plN true a b)))
def aj5 (a b:List Int):AV:=(AV.islice true 2 (0:Int) (tlI (q2F true a b) (plN true a b)))
def aj6 (a b:List Int):Hp:=⟨[{ wr:=29,body:=ABody.ints i64 (q2F true a b) },{ wr:=(0:Nat),body:=ABody.rows i64 b },{ wr:=(0:Nat),body:=ABody.rows i64 a }],3,39⟩
theorem arV (a b:List Int):(run (cQt true a b) 300).call 128 (zB a b) (zG a b)=some ⟨.p (afH a b),[⟨.tt,aj5 a b,aj6 a b⟩]⟩:=by kernel_rfl
def aj7:List Nu->List (List Int)->Option (Prop×To)
 | [],[a,b]=>some (Dig a/\Dig b/\(0<a.length\/0<b.length)/\a.length<=400000/\b.length<=400000,.li false (aA (val a+val b).toNat))
 | _,_=>none
theorem aax {s:Bool} {a b:List Int} (ha:Dig a) (hb:Dig b) (c:(shA s a b).length<=(fT s a b).length):val (q2F s a b)=val a+val b:=by
 have a0:=aO ha;have f:=aO hb;have a1:=eF ha;have d:=eF hb;refine kG (by unfold plV;omega) ?_;have e:pw ((fT s a b).length+1)=1000000000*pw (fT s a b).length:=by simp [pw]
 have g:=pw_pos (fT s a b).length;have h:val a<pw (fT s a b).length:=by refine uI a1 (gF ?_);cases s <;> simp only [fT,shA] at c ⊢ <;> omega
 have i:val b<pw (fT s a b).length:=by refine uI d (gF ?_);cases s <;> simp only [fT,shA] at c ⊢ <;> omega
 rw [e];unfold plV;omega
theorem afI:NOk Tryz.prog (fun _=>none) hG0 128 (bQ hG0 .i64 [.li,.li] aj7):=by
 refine fw (fun xs ys p t e h=>?_) ⟨_,Tryz.func128,rfl⟩;unfold aj7 at e;split at e
 .rename_i a b;cases e;obtain ⟨ha,hb,k,f,g⟩:=h;have i:i64.wrap ((a.length:Int)+1)=a.length+1:=iw (by omega) (by omega);have j:i64.wrap ((b.length:Int)+1)=b.length+1:=iw (by omega) (by omega);by_cases l:a.length<b.length
  .have c:(shA true a b).length<=(fT true a b).length:=by show a.length<=b.length;omega
   have d:(fT true a b).length<=400000:=g;refine ⟨cQt true a b,300,zB a b,_,_,_,_,_,aaw ha hb d c,rfl,rfl,⟨rfl,rfl,trivial⟩,arV a b,rfl,⟨aI (by omega),⟨rfl,by omega,by omega⟩,⟨rfl,by omega,by omega,by omega,?_⟩,⟨rfl,rfl,rfl⟩,⟨rfl,rfl,rfl⟩,⟨rfl,rfl,rfl⟩⟩,rfl,rfl,MS (j3 _ _) (MX d) (aax ha hb c)⟩;rw [List.length_replicate,j];omega
  .have c:(shA false a b).length<=(fT false a b).length:=by show b.length<=a.length;omega
   have d:(fT false a b).length<=400000:=f;refine ⟨cQt false a b,300,zB a b,_,_,_,_,_,aaw ha hb d c,rfl,rfl,⟨rfl,rfl,trivial⟩,arT a b,rfl,⟨aG (by omega),⟨rfl,by omega,by omega⟩,⟨rfl,by omega,by omega,by omega,?_⟩,⟨rfl,rfl,rfl⟩,⟨rfl,rfl,rfl⟩,⟨rfl,rfl,rfl⟩⟩,rfl,rfl,MS (j3 _ _) (MX d) (aax ha hb c)⟩;rw [List.length_replicate,i];omega
 .cases e
end
end Go.Proofs.YtbiiiloimbjpaaaGreatDoor.K
namespace Go.Dg
open Go Go.Eng
def dfB (a b:List Int):Nat->Int
 | 0=>0
 | n+1=>if a.getD n 0=b.getD n 0 then dfB a b n else i64.wrap (a.getD n 0 - b.getD n 0)
def dfI (a b:List Int) (i:Int):Int:=dfB a b (i+1).toNat
theorem UR {a b:List Int} {i:Int} (h:0<=i):dfI a b i=if a.getD i.toNat 0=b.getD i.toNat 0 then dfI a b (i - 1) else i64.wrap (a.getD i.toNat 0 - b.getD i.toNat 0):=by unfold dfI;rw [show (i+1).toNat=i.toNat+1 by omega,show (i - 1+1).toNat=i.toNat by omega,dfB]
theorem aay {a b:List Int}:∀ n,MO a b n=false->dfB a b n=0
 | 0,_=>rfl
 | n+1,h=>by
  simp only [MO] at h;simp only [dfB];split at h
  .rename_i e;rw [aC e];exact aay n h
  .cases h
def EU (a b:List Int):Int:=if a.length=b.length then dfB a b a.length else i64.wrap ((a.length:Int) - b.length)
theorem MZ {a b:List Int} (ha:Dig a) (hb:Dig b):∀ n,(dfB a b n<0 ↔ vG a b n=true)/\(0<dfB a b n ↔ vG b a n=true)
 | 0=>by simp [dfB,vG]
 | n+1=>by
  have i:=MZ ha hb n;have a0:=ha.get n;have c:=hb.get n;simp only [dfB,vG];by_cases e:a.getD n 0=b.getD n 0
  .rw [aC e,aC e,aC e.symm];exact i
  .rw [aB e,aB e,aB (fun h=>e h.symm),iw (by omega) (by omega)];simp only [aT];omega
theorem afJ {a b:List Int} (ha:Dig a) (hb:Dig b) (ta:Top a) (tb:Top b) (c:a.length<=500000) (d:b.length<=500000):EU a b<0 ↔ val a<val b:=by
 rw [<- pO ha hb ta tb];unfold EU ja;by_cases e:a.length=b.length
 .rw [aC e,aC e];exact (MZ ha hb _).1
 .rw [aB e,aB e,iw (by omega) (by omega)];simp only [aT];omega
theorem afK {a b:List Int} (ha:Dig a) (hb:Dig b) (ta:Top a) (tb:Top b) (c:a.length<=500000) (d:b.length<=500000):0<EU a b ↔ val b<val a:=by
 rw [<- pO hb ha tb ta];unfold EU ja;by_cases e:a.length=b.length
 .rw [aC e,aC e.symm,<- e];exact (MZ ha hb _).2
 .rw [aB e,aB (fun h=>e h.symm),iw (by omega) (by omega)];simp only [aT];omega
end Go.Dg
namespace Go.Proofs.YtbiiiloimbjpaaaGreatDoor.K
open Go Go.Eng Go.Dg
noncomputable section
def Su (d:Bool):Ctx:=cHb [(10,d)]
theorem GG (d:Bool):CtxOk (Su d):=yC _
noncomputable def Gj (a b:List Int):St:=qM (Su false) 300 125 (zB a b) (zG a b)
def Qj:AFr:=⟨125,none⟩
def aaz:Code:=fP Tryz.prog 125 0
def arW (i:Int):Patch:=⟨(5,.int true .i64 i) :: bS 19 22,[],[]⟩
def cmR (r:Int):Patch:=⟨(4,.int true .i64 r) :: (5,.any false) :: bS 19 22,[],[]⟩
def Qk:Patch:=⟨(5,.any false) :: bS 19 22,[],[]⟩
def Bq (a b:List Int):SumL Int:=
 {
  S:=arW
  I:=fun i=>-1<=i/\i<a.length
  μ:=fun i=>(i+1).toNat
  F:=fun i=>bif tQ a b i then (.ret,cmR (dfI a b i)) else (.exit 0,Qk)
  next:=fun i=>i64.wrap (i - 1)
  ids:=fun _=>[]
  X:=fun i x=>match x with
   | .ret=>some (cmR (i64.wrap (a.getD i.toNat 0 - b.getD i.toNat 0)),[])
   | .exit _=>some (Qk,[])
   | _=>none }
def Ql (a b:List Int):Prop:=i64.wrap ((↑a.length:Int) - (1:Int))=i64.wrap ((↑a.length:Int) - (1:Int))
theorem WB (a b:List Int):fit (Gj a b) (Gj a b) (aJ (Gj a b) ((Bq a b).S (i64.wrap ((a.length:Int) - 1)))) ([])=some (.p (Ql a b)):=by kernel_rfl
def Sv (a b:List Int) (i:Int):Prop:=(decide (i>=0)=true->(((0:Int)<=i/\i<(↑a.length:Int))/\i.toNat<a.length/\((0:Int)<=i/\i<(↑b.length:Int))/\i.toNat<b.length)/\((a.getD i.toNat (0:Int) != b.getD i.toNat (0:Int))=true->((0:Int)<=i/\i<(↑a.length:Int))/\i.toNat<a.length/\((0:Int)<=i/\i<(↑b.length:Int))/\i.toNat<b.length))/\((!decide (i>=0))=true->(Bq a b).F i=(Ex.exit (0:Nat),Qk))/\((decide (i>=0)&&!a.getD i.toNat (0:Int) != b.getD i.toNat (0:Int))=true->i64.wrap (i - (1:Int))=(Bq a b).next i/\(Bq a b).I ((Bq a b).next i)/\(Bq a b).μ ((Bq a b).next i)<(Bq a b).μ i/\(Bq a b).F ((Bq a b).next i)=(Bq a b).F i)/\((decide (i>=0)&&a.getD i.toNat (0:Int) != b.getD i.toNat (0:Int))=true->i64.wrap (a.getD i.toNat (0:Int) - b.getD i.toNat (0:Int))=i64.wrap (a.getD i.toNat (0:Int) - b.getD i.toNat (0:Int))/\(Bq a b).F i=(Ex.ret,cmR (i64.wrap (a.getD i.toNat (0:Int) - b.getD i.toNat (0:Int)))))
theorem afL (a b:List Int) (i:Int):dQ (Gj a b) ((Bq a b).way (i)) ((run (Su false) 300).code Qj aaz (aJ (Gj a b) ((Bq a b).S i)))=some (.p (Sv a b i)):=by kernel_rfl
theorem aaA (a b:List Int) (d:Sm a) (g:a.length=b.length):CodeOk (Su false) Qj (.loop aaz) (Gj a b) ⟨.tt,[⟨.b (tQ a b (a.length - 1)),.ret,aJ (Gj a b) (cmR (dfI a b (a.length - 1)))⟩,⟨.b (!tQ a b (a.length - 1)),.exit 0,aJ (Gj a b) Qk⟩]⟩:=by
 have d:=d.le;have f:i64.wrap ((a.length:Int) - 1)=a.length - 1:=iw (by omega) (by omega);refine IV (dw (GG false) 300) (Bq a b) (y0:=i64.wrap ((a.length:Int) - 1)) (by rw [f];exact ⟨by omega,by omega⟩) ⟨_,WB a b,rfl⟩ (by kernel_rfl) (fun i hi=>⟨_,afL a b i,?_⟩) (by rw [f];rfl);obtain ⟨i0,i1⟩:=(show -1<=i/\i<a.length from hi);refine ⟨fun h=>?_,fun h=>?_,fun h=>?_,fun h=>?_⟩
 .have h:=dt.1 h;have q:((0:Int)<=i/\i<(↑a.length:Int))/\i.toNat<a.length/\((0:Int)<=i/\i<(↑b.length:Int))/\i.toNat<b.length:=by omega
  exact ⟨q,fun _=>q⟩
 .have h:=ndt.1 h;have:i=-1:=by omega
  subst this;rfl
 .obtain ⟨c,h⟩:=FU.1 h;have h:=ZY.1 h;have e:i64.wrap (i - 1)=i - 1:=iw (by omega) (by omega);refine ⟨rfl,?_,?_,?_⟩
  .show -1<=i64.wrap (i - 1)/\i64.wrap (i - 1)<a.length;rw [e];omega
  .show (i64.wrap (i - 1)+1).toNat<(i+1).toNat;rw [e];omega
  .show (bif tQ a b (i64.wrap (i - 1)) then (Ex.ret,cmR (dfI a b (i64.wrap (i - 1)))) else (.exit 0,Qk))=bif tQ a b i then (Ex.ret,cmR (dfI a b i)) else (.exit 0,Qk);rw [e,CG c,UR c,aC h,aC h]
 .obtain ⟨c,h⟩:=FU.1 h;have h:=vH.1 h;refine ⟨rfl,?_⟩;show (bif tQ a b i then (Ex.ret,cmR (dfI a b i)) else (.exit 0,Qk))=_;rw [CG c,UR c,aB h,aB h];rfl
noncomputable def aj8 (a b:List Int):Ctx:=bN (Su false) [Ad 125 (Gj a b).hp.clock Qj aaz (Gj a b) (tQ a b (a.length - 1)) .ret (cmR (dfI a b (a.length - 1))) (.exit 0) Qk]
theorem afM (a b:List Int) (c:Sm a) (d:a.length=b.length):CtxOk (aj8 a b):=wP (GG false) (aaA a b c d) (bJ (GG false))
def aaB (a b:List Int):Prop:=(((↑a.length:Int) != (↑b.length:Int))=false/\At (Qj) (Qj) (aaz) (aaz) (Gj a b) (Gj a b))
def afN (a b:List Int):AV:=(AV.int true i64 (bif !tQ a b ((↑a.length:Int) - (1:Int)) then (0:Int) else dfI a b ((↑a.length:Int) - (1:Int))))
def afO (a b:List Int):Hp:=⟨[{ wr:=(0:Nat),body:=ABody.rows i64 b },{ wr:=(0:Nat),body:=ABody.rows i64 a }],2,15⟩
theorem aow (a b:List Int):(run (aj8 a b) 300).call 125 (zB a b) (zG a b)=some ⟨.p (aaB a b),[⟨.tt,afN a b,afO a b⟩]⟩:=by kernel_rfl
def aaC (a b:List Int):Prop:=(((↑a.length:Int) != (↑b.length:Int))=true)
def afP (a b:List Int):AV:=(AV.int true i64 (i64.wrap ((↑a.length:Int) - (↑b.length:Int))))
def afQ (a b:List Int):Hp:=⟨[{ wr:=(0:Nat),body:=ABody.rows i64 b },{ wr:=(0:Nat),body:=ABody.rows i64 a }],2,14⟩
theorem aox (a b:List Int):(run (Su true) 300).call 125 (zB a b) (zG a b)=some ⟨.p (aaC a b),[⟨.tt,afP a b,afQ a b⟩]⟩:=by kernel_rfl
def cmpV:List Nu->List (List Int)->Option (Prop×To)
 | [],[a,b]=>some (Sm a/\Sm b,.nu .i64 (EU a b))
 | _,_=>none
theorem aj9:NOk Tryz.prog (fun _=>none) hG0 125 (bQ hG0 .i64 [.li,.li] cmpV):=by
 refine fw (fun xs ys p t e h=>?_) ⟨_,Tryz.func125,rfl⟩;unfold cmpV at e;split at e
 .rename_i a b;cases e;obtain ⟨ha,hb⟩:=h;by_cases c:a.length=b.length
  .refine ⟨aj8 a b,300,zB a b,_,_,_,_,_,afM a b ha c,rfl,rfl,⟨rfl,rfl,trivial⟩,aow a b,rfl,⟨?_,rfl,rfl,rfl⟩,rfl,rfl,?_⟩
   .rw [c];exact KU.2 rfl
   .show (bif !tQ a b ((a.length:Int) - 1) then 0 else dfI a b ((a.length:Int) - 1))=EU a b;unfold EU tQ dfI;rw [aC c,show ((a.length:Int) - 1+1).toNat=a.length by omega]
    cases e:MO a b a.length with
    | true=>rfl
    | false=>rw [aay _ e];rfl
  .refine ⟨Su true,300,zB a b,_,_,_,_,_,GG true,rfl,rfl,⟨rfl,rfl,trivial⟩,aox a b,rfl,?_,rfl,rfl,?_⟩
   .exact vH.2 (by omega)
   .show i64.wrap ((a.length:Int) - b.length)=EU a b;unfold EU;rw [aB c]
 .cases e
def hUp (x t0:Nat):Nat->Nat->Option AV:=fun c t=>match Nat.beq t t0 with
 | true=>match Nat.ble c x with
  | true=>some (.bool false true)
  | false=>some (.bool false false)
 | false=>none
def cOn (x:Nat):Ctx:=eZ cL (hUp x 9)
theorem aaD (x:Nat):CtxOk (cOn x):=bW kv _
def afR (n:Int):Prop:=((n != (0:Int))=true/\(i64.wrap (n.tdiv (1000000000:Int)) != (0:Int))=false)
def aka (n:Int):AV:=(AV.agg [AV.bool true (decide (n<0)),AV.gslice (0:Nat) (0:Nat) 1 1])
def akb (n:Int):Hp:=⟨[{ wr:=23,body:=ABody.grown [AV.int true i64 (if i64.wrap ((0:Int) - n.tmod (1000000000:Int))>n.tmod (1000000000:Int) then i64.wrap ((0:Int) - n.tmod (1000000000:Int)) else n.tmod (1000000000:Int))] }],1,32⟩
theorem arY (n:Int):(run (cOn 11) 300).call 122 [.int true .i64 n] hG0=some ⟨.p (afR n),[⟨.tt,aka n,akb n⟩]⟩:=by kernel_rfl
def afS (n:Int):Prop:=((n != (0:Int))=true/\(i64.wrap (n.tdiv (1000000000:Int)) != (0:Int))=true/\(i64.wrap ((i64.wrap (n.tdiv (1000000000:Int))).tdiv (1000000000:Int)) != (0:Int))=false)
def akc (n:Int):AV:=(AV.agg [AV.bool true (decide (n<0)),AV.gslice (0:Nat) (0:Nat) 2 1])
def akd (n:Int):Hp:=⟨[{ wr:=42,body:=ABody.grown [AV.int true i64 (if i64.wrap ((0:Int) - n.tmod (1000000000:Int))>n.tmod (1000000000:Int) then i64.wrap ((0:Int) - n.tmod (1000000000:Int)) else n.tmod (1000000000:Int)),AV.int true i64 (if i64.wrap ((0:Int) - (i64.wrap (n.tdiv (1000000000:Int))).tmod (1000000000:Int))>(i64.wrap (n.tdiv (1000000000:Int))).tmod (1000000000:Int) then i64.wrap ((0:Int) - (i64.wrap (n.tdiv (1000000000:Int))).tmod (1000000000:Int)) else (i64.wrap (n.tdiv (1000000000:Int))).tmod (1000000000:Int))] }],1,51⟩
theorem arZ (n:Int):(run (cOn 30) 300).call 122 [.int true .i64 n] hG0=some ⟨.p (afS n),[⟨.tt,akc n,akd n⟩]⟩:=by kernel_rfl
def onV:List Nu->List (List Int)->Option (Prop×To)
 | [.n n],[]=>some (0<n/\n<1000000000000000000,.st [.pb false,.li false (aA n.toNat)])
 | _,_=>none
theorem aoy {n:Int} (a:0<=n) (h1:n<9000000000000000000):(if i64.wrap (0 - n.tmod 1000000000)>n.tmod 1000000000 then i64.wrap (0 - n.tmod 1000000000) else n.tmod 1000000000)=n % 1000000000:=by have e:n.tmod 1000000000=n % 1000000000:=cO a;rw [e,iw (by omega) (by omega),aB (by omega)]
theorem aoz {n:Int} (a:0<=n) (h1:n<9000000000000000000):i64.wrap (n.tdiv 1000000000)=n / 1000000000:=by rw [bV a,iw (by omega) (by omega)]
theorem ake {n:Int} (a:0<n) (h1:n<1000000000):aA n.toNat=[n % 1000000000]:=by
 rw [kE (by omega),show n.toNat / 1000000000=0 by omega,gU]
 congr 1
 omega
theorem akf {n:Int} (a:1000000000<=n) (h1:n<1000000000000000000):aA n.toNat=[n % 1000000000,n / 1000000000 % 1000000000]:=by
 rw [kE (by omega),kE (by omega),show n.toNat / 1000000000 / 1000000000=0 by omega,gU]
 congr 1
 .omega
 .congr 1
  omega
theorem aoA:NOk Tryz.prog (fun _=>none) hG0 122 (bQ hG0 .i64 [.nu (.i .i64)] onV):=by
 refine fw (fun xs ys p t e h=>?_) ⟨_,Tryz.func122,rfl⟩;unfold onV at e;split at e
 .rename_i n;cases e;obtain ⟨c,h1⟩:=h;have a:=aoz (n:=n) (by omega) (by omega);have b:=aoy (n:=n) (by omega) (by omega);by_cases h:n<1000000000
  .refine ⟨cOn 11,300,[.int true .i64 n],_,_,_,_,_,aaD 11,rfl,rfl,⟨⟨rfl,rfl⟩,trivial⟩,arY n,rfl,⟨vH.2 (by omega),?_⟩,rfl,rfl,?_⟩
   .rw [a];exact KU.2 (by omega)
   .refine ⟨aG (by omega),?_⟩;show [_]=aA n.toNat;rw [b,ake c h]
  .have d:=aoz (n:=n / 1000000000) (by omega) (by omega);have f:=aoy (n:=n / 1000000000) (by omega) (by omega);refine ⟨cOn 30,300,[.int true .i64 n],_,_,_,_,_,aaD 30,rfl,rfl,⟨⟨rfl,rfl⟩,trivial⟩,arZ n,rfl,⟨vH.2 (by omega),?_,?_⟩,rfl,rfl,?_⟩
   .rw [a];exact vH.2 (by omega)
   .rw [a,d];exact KU.2 (by omega)
   .refine ⟨aG (by omega),?_⟩;show [_,_]=aA n.toNat;rw [b,a,f,akf (by omega) h1]
 .cases e
def tZ:List (FuncId×ku):=
 (139,bQ hG0 .i64 [.li,.nu (.i .i64)] ajM) ::
 (121,bQ hG0 .i64 [.li,.li] ajX) ::
 (127,bQ hG0 .i64 [.li,.li] aj0) ::
 (128,bQ hG0 .i64 [.li,.li] aj7) ::
 (125,bQ hG0 .i64 [.li,.li] cmpV) ::
 (122,bQ hG0 .i64 [.nu (.i .i64)] onV) :: []
theorem aio:∀ x∈tZ,NOk Tryz.prog (fun _=>none) hG0 x.1 x.2:=by
 intro x a;simp only [tZ,aN,eX,eY] at a;rcases a with rfl|rfl|rfl|rfl|rfl|rfl
 .exact part_ok
 .exact aan
 .exact afx
 .exact afI
 .exact aj9
 .exact aoA
def cZ:Ctx:=mkN Tryz.prog (fun _=>none) hG0 tZ [] lw
theorem vI:CtxOk cZ:=mf prog_ok (iY _) aio (fun x h=>by cases h)
def cZb (l:List (Nat×Bool)):Ctx:=eZ cZ (hZ (l.map fun x=>(x.1,match x.2 with|true=>.bool false true|false=>.bool false false)))
theorem aaE (l:List (Nat×Bool)):CtxOk (cZb l):=bW vI _
def EW (y:List Int):List AV:=[.lslice 0 y.length,.int false .i64 5]
def Qm:AFr:=⟨124,none⟩
def seA:Code:=fP Tryz.prog 124 0
noncomputable def seS (y:List Int):St:=qM cZ 300 124 (EW y) (zH y)
end
end Go.Proofs.YtbiiiloimbjpaaaGreatDoor.K
namespace Go.Dg
open Go Go.Eng
def PP:Int:=1000000000000000000000000000000000000000000000
def uE (sq:Int):Nat->Int->Int->Int->Int
 | 0,_,_,s=>s
 | n+1,i,t,s=>match decide (t*sq / PP / (i*(i+1))=0) with
  | true=>s
  | false=>uE sq n (i+2) (t*sq / PP / (i*(i+1))) (match decide (i % 4=2) with|true=>s - t*sq / PP / (i*(i+1))|false=>s+t*sq / PP / (i*(i+1)))
def fI (n:Int):Int:=if n<5 then n else 5
def cutL (v:Int):List Int:=List.take ((aA v.toNat).length - fI (aA v.toNat).length:Int).toNat (List.drop (fI (aA v.toNat).length).toNat (aA v.toNat))
theorem Jh:∀ {l:List Int} (k:Nat),Dig l->val (l.drop k)=val l / pw k
 | l,0,_=>by simp [pw]
 | [],k+1,_=>by simp [val]
 | x :: l,k+1,h=>by
  have a:=fA.1 h;have p:=pw_pos k;rw [List.drop_succ_cons,Jh k a.2,oo,<- JU (by omega)]
  congr 1
  simp only [val];omega
theorem aip:pw 5=PP:=by decide
theorem UT {v:Int} (h:0<=v):cutL v=(aA v.toNat).drop (fI (aA v.toNat).length).toNat:=by unfold cutL fI;rw [ib];rw [iq];split <;> omega
theorem CP {v:Int} (h:0<=v):val (cutL v)=v / PP:=by
 have a:val (aA v.toNat)=v:=by rw [jZ];omega
 have hd:=bU v.toNat;rw [UT h];unfold fI;split
 .rename_i b;rw [show (((aA v.toNat).length:Int)).toNat=(aA v.toNat).length by omega,DN];have h1:=eF hd;have h2:=gF (show (aA v.toNat).length<=5 by omega);rw [aip] at h2;rw [a] at h1;show (0:Int)=v / PP;rw [oH h (by omega)]
 .rw [show Int.toNat 5=5 from rfl,Jh 5 hd,a,aip]
theorem aaF {l:List Int} (h:Dig l) (n:Nat):Dig (l.take n):=fun x a=>h x (List.mem_of_mem_take a)
theorem Qn {l:List Int} (h:Dig l) (n:Nat):Dig (l.drop n):=fun x a=>h x (List.mem_of_mem_drop a)
theorem CQ (v:Int):Dig (cutL v):=aaF (Qn (bU _) _) _
end Go.Dg
namespace Go.Dg
theorem lm:0<PP:=by decide
theorem aaG {sq t i:Int} (f:0<=sq) (j:sq<=3*PP) (h:0<=t) (hi:2<=i):0<=t*sq / PP / (i*(i+1))/\2*(t*sq / PP / (i*(i+1)))<=t:=by
 have p:=lm;have g:6<=i*(i+1):=bC (a:=2) (b:=3) (c:=i) (d:=i+1) hi (by omega) (by decide) (by omega);have h1:t*sq<=t*(3*PP):=bq j h;have h2:t*sq / PP<=3*t:=by refine gM p ?_;rw [show 3*t*PP=t*(3*PP) by rw [eO 3 t,dM]];exact h1
 have k:0<=t*sq / PP:=bu (aV h f) (by omega);have h3:0<=t*sq / PP / (i*(i+1)):=bu k (by omega);have l:=oP (t*sq / PP) (b:=i*(i+1)) (by omega);have m:=bq g h3;exact ⟨h3,by omega⟩
theorem Qo {sq:Int} {n:Nat} {i t s:Int} (h:t*sq / PP / (i*(i+1))=0):uE sq (n+1) i t s=s:=by rw [uE,aI h]
theorem EX {sq:Int} {n:Nat} {i t s:Int} (h:t*sq / PP / (i*(i+1))≠0):uE sq (n+1) i t s=uE sq n (i+2) (t*sq / PP / (i*(i+1))) (match decide (i % 4=2) with|true=>s - t*sq / PP / (i*(i+1))|false=>s+t*sq / PP / (i*(i+1))):=by rw [uE,aG h]
def jc (x:Int):Nat->Int->Int->Int->Int
 | 0,_,_,s=>s
 | n+1,i,t,s=>match decide (t / (x*x) / i=0) with
  | true=>s
  | false=>jc x n (i+2) (t / (x*x)) (match decide (i % 4=1) with|true=>s+t / (x*x) / i|false=>s - t / (x*x) / i)
theorem aaH {x:Int} {n:Nat} {i t s:Int} (h:t / (x*x) / i=0):jc x (n+1) i t s=s:=by rw [jc,aI h]
theorem KY {x:Int} {n:Nat} {i t s:Int} (h:t / (x*x) / i≠0):jc x (n+1) i t s=jc x n (i+2) (t / (x*x)) (match decide (i % 4=1) with|true=>s+t / (x*x) / i|false=>s - t / (x*x) / i):=by rw [jc,aG h]
end Go.Dg
namespace Go.Proofs.YtbiiiloimbjpaaaGreatDoor.K
open Go Go.Eng Go.Dg
noncomputable section
def cSe (e m:Bool):Ctx:=cZb [(33,e),(37,m)]
theorem M3 (e m:Bool):CtxOk (cSe e m):=aaE _
def seP:Option (Int×Int×Int)->Patch
 | none=>⟨(8,.int true .i64 2) :: bS 16 28,[],[]⟩
 | some (i,t,s)=>⟨(6,.lslice 3 (aA s.toNat).length) :: (7,.lslice 2 (aA t.toNat).length) :: (8,.int true .i64 i) :: bS 16 28,[],[.rows .i64 (aA s.toNat),.rows .i64 (aA t.toNat)]⟩
def seX (s:Int):Patch:=⟨(4,.lslice 2 (aA s.toNat).length) :: (6,.any false) :: (7,.any false) :: (8,.any false) :: bS 16 28,[],[.rows .i64 (aA s.toNat)]⟩
def Br (y:List Int):Int:=val y*val y / PP
def seT (y:List Int) (i t:Int):Int:=t*Br y / PP / (i*(i+1))
def seR (y:List Int):Option (Int×Int×Int)->Int
 | none=>uE (Br y) 200 2 (val y) (val y)
 | some (i,t,s)=>uE (Br y) (201 - (i / 2).toNat) i t s
def seU (y:List Int):SumL (Option (Int×Int×Int)):=
 {
  S:=seP
  I:=fun x=>match x with
   | none=>True
   | some (i,t,s)=>0<t/\i % 2=0/\2<i/\i<=400/\2 ^ (i / 2).toNat*t<=4*PP/\0<s/\(i % 4=2->t<=s)/\s<=i*PP
  μ:=fun x=>match x with
   | none=>400
   | some (i,_,_)=>(400 - i).toNat
  F:=fun x=>(.ret,seX (seR y x))
  next:=fun x=>match x with
   | none=>some (4,seT y 2 (val y),val y - seT y 2 (val y))
   | some (i,t,s)=>some (i+2,seT y i t,match decide (i % 4=2) with|true=>s - seT y i t|false=>s+seT y i t)
  ids:=fun x=>match x with
   | none=>[3,4]
   | some _=>[5,6]
  X:=fun x _=>match x with
   | none=>none
   | some (_,_,s)=>some (seX s,[3]) }
def Qp (y:List Int):Prop:=(2:Int)=2
theorem aaI (y:List Int):fit (seS y) (seS y) (aJ (seS y) ((seU y).S none)) ([])=some (.p (Qp y)):=by kernel_rfl
def aaJ (y:List Int):Prop:=(((((↑y.length:Int)=(↑y.length:Int)/\((0:Int)<=fI (↑(aA (val y*val y).toNat).length:Int))/\((0:Int)<=(↑(aA (val y*val y).toNat).length:Int) - fI (↑(aA (val y*val y).toNat).length:Int))/\(fI (↑(aA (val y*val y).toNat).length:Int))+((↑(aA (val y*val y).toNat).length:Int) - fI (↑(aA (val y*val y).toNat).length:Int))<=(↑(aA (val y*val y).toNat).length:Int))/\Dig y/\Dig (cutL (val y*val y))/\y.length+(cutL (val y*val y)).length<=(500000:Nat))/\(((0:Int)<=fI (↑(aA (val y*val (cutL (val y*val y))).toNat).length:Int))/\(fI (↑(aA (val y*val (cutL (val y*val y))).toNat).length:Int))<=(↑(aA (val y*val (cutL (val y*val y))).toNat).length:Int)/\(↑(aA (val y*val (cutL (val y*val y))).toNat).length:Int)<=(↑(aA (val y*val (cutL (val y*val y))).toNat).length:Int))/\(((0:Int)<=fI (↑(aA (val y*val (cutL (val y*val y))).toNat).length:Int))/\((0:Int)<=(↑(aA (val y*val (cutL (val y*val y))).toNat).length:Int) - fI (↑(aA (val y*val (cutL (val y*val y))).toNat).length:Int))/\(fI (↑(aA (val y*val (cutL (val y*val y))).toNat).length:Int))+((↑(aA (val y*val (cutL (val y*val y))).toNat).length:Int) - fI (↑(aA (val y*val (cutL (val y*val y))).toNat).length:Int))<=(↑(aA (val y*val (cutL (val y*val y))).toNat).length:Int))/\Dig (cutL (val y*val (cutL (val y*val y))))/\(cutL (val y*val (cutL (val y*val y)))).length<=(500000:Nat)/\(1:Int)<=i64.wrap ((2:Int)*i64.wrap ((2:Int)+1))/\i64.wrap ((2:Int)*i64.wrap ((2:Int)+1))<=1000000000)/\((↑(aA (val (cutL (val y*val (cutL (val y*val y)))) / i64.wrap ((2:Int)*i64.wrap ((2:Int)+1))).toNat).length:Int)==0)=false/\(Int.tmod (2:Int) (4:Int)==2)=true/\((↑y.length:Int)=(↑y.length:Int)/\(↑(aA (val (cutL (val y*val (cutL (val y*val y)))) / i64.wrap ((2:Int)*i64.wrap ((2:Int)+1))).toNat).length:Int)=(↑(aA (val (cutL (val y*val (cutL (val y*val y)))) / i64.wrap ((2:Int)*i64.wrap ((2:Int)+1))).toNat).length:Int))/\Dig y/\Dig (aA (val (cutL (val y*val (cutL (val y*val y)))) / i64.wrap ((2:Int)*i64.wrap ((2:Int)+1))).toNat)/\(0:Nat)<y.length/\y.length<=(500000:Nat)/\(aA (val (cutL (val y*val (cutL (val y*val y)))) / i64.wrap ((2:Int)*i64.wrap ((2:Int)+1))).toNat).length<=y.length/\val (aA (val (cutL (val y*val (cutL (val y*val y)))) / i64.wrap ((2:Int)*i64.wrap ((2:Int)+1))).toNat)<=val y)/\(true=true->(((↑(aA (val y - val (aA (val (cutL (val y*val (cutL (val y*val y)))) / i64.wrap ((2:Int)*i64.wrap ((2:Int)+1))).toNat)).toNat).length:Int)=(↑(aA (val y - seT y (2:Int) (val y)).toNat).length:Int)/\(↑(aA (val (cutL (val y*val (cutL (val y*val y)))) / i64.wrap ((2:Int)*i64.wrap ((2:Int)+1))).toNat).length:Int)=(↑(aA (seT y (2:Int) (val y)).toNat).length:Int)/\i64.wrap ((2:Int)+2)=4)/\aA (val y - val (aA (val (cutL (val y*val (cutL (val y*val y)))) / i64.wrap ((2:Int)*i64.wrap ((2:Int)+1))).toNat)).toNat=aA (val y - seT y (2:Int) (val y)).toNat/\aA (val (cutL (val y*val (cutL (val y*val y)))) / i64.wrap ((2:Int)*i64.wrap ((2:Int)+1))).toNat=aA (seT y (2:Int) (val y)).toNat)/\(seU y).I ((seU y).next none)/\(seU y).μ ((seU y).next none)<(seU y).μ none/\(seU y).F ((seU y).next none)=(seU y).F none)
theorem aoB (y:List Int):dQ (seS y) ((seU y).way (none)) ((run (cSe false true) 300).code Qm seA (aJ (seS y) ((seU y).S none)))=some (.p (aaJ y)):=by kernel_rfl
def aaK (y:List Int) (i t s:Int):Prop:=(((((↑(aA t.toNat).length:Int)=(↑(aA t.toNat).length:Int)/\((0:Int)<=fI (↑(aA (val y*val y).toNat).length:Int))/\((0:Int)<=(↑(aA (val y*val y).toNat).length:Int) - fI (↑(aA (val y*val y).toNat).length:Int))/\(fI (↑(aA (val y*val y).toNat).length:Int))+((↑(aA (val y*val y).toNat).length:Int) - fI (↑(aA (val y*val y).toNat).length:Int))<=(↑(aA (val y*val y).toNat).length:Int))/\Dig (aA t.toNat)/\Dig (cutL (val y*val y))/\(aA t.toNat).length+(cutL (val y*val y)).length<=(500000:Nat))/\(((0:Int)<=fI (↑(aA (val (aA t.toNat)*val (cutL (val y*val y))).toNat).length:Int))/\(fI (↑(aA (val (aA t.toNat)*val (cutL (val y*val y))).toNat).length:Int))<=(↑(aA (val (aA t.toNat)*val (cutL (val y*val y))).toNat).length:Int)/\(↑(aA (val (aA t.toNat)*val (cutL (val y*val y))).toNat).length:Int)<=(↑(aA (val (aA t.toNat)*val (cutL (val y*val y))).toNat).length:Int))/\(((0:Int)<=fI (↑(aA (val (aA t.toNat)*val (cutL (val y*val y))).toNat).length:Int))/\((0:Int)<=(↑(aA (val (aA t.toNat)*val (cutL (val y*val y))).toNat).length:Int) - fI (↑(aA (val (aA t.toNat)*val (cutL (val y*val y))).toNat).length:Int))/\(fI (↑(aA (val (aA t.toNat)*val (cutL (val y*val y))).toNat).length:Int))+((↑(aA (val (aA t.toNat)*val (cutL (val y*val y))).toNat).length:Int) - fI (↑(aA (val (aA t.toNat)*val (cutL (val y*val y))).toNat).length:Int))<=(↑(aA (val (aA t.toNat)*val (cutL (val y*val y))).toNat).length:Int))/\Dig (cutL (val (aA t.toNat)*val (cutL (val y*val y))))/\(cutL (val (aA t.toNat)*val (cutL (val y*val y)))).length<=(500000:Nat)/\(1:Int)<=i64.wrap (i*i64.wrap (i+1))/\i64.wrap (i*i64.wrap (i+1))<=1000000000)/\((↑(aA (val (cutL (val (aA t.toNat)*val (cutL (val y*val y)))) / i64.wrap (i*i64.wrap (i+1))).toNat).length:Int)==0)=false/\(i.tmod (4:Int)==2)=true/\((↑(aA s.toNat).length:Int)=(↑(aA s.toNat).length:Int)/\(↑(aA (val (cutL (val (aA t.toNat)*val (cutL (val y*val y)))) / i64.wrap (i*i64.wrap (i+1))).toNat).length:Int)=(↑(aA (val (cutL (val (aA t.toNat)*val (cutL (val y*val y)))) / i64.wrap (i*i64.wrap (i+1))).toNat).length:Int))/\Dig (aA s.toNat)/\Dig (aA (val (cutL (val (aA t.toNat)*val (cutL (val y*val y)))) / i64.wrap (i*i64.wrap (i+1))).toNat)/\(0:Nat)<(aA s.toNat).length/\(aA s.toNat).length<=(500000:Nat)/\(aA (val (cutL (val (aA t.toNat)*val (cutL (val y*val y)))) / i64.wrap (i*i64.wrap (i+1))).toNat).length<=(aA s.toNat).length/\val (aA (val (cutL (val (aA t.toNat)*val (cutL (val y*val y)))) / i64.wrap (i*i64.wrap (i+1))).toNat)<=val (aA s.toNat))/\(true=true->(((↑(aA (val (aA s.toNat) - val (aA (val (cutL (val (aA t.toNat)*val (cutL (val y*val y)))) / i64.wrap (i*i64.wrap (i+1))).toNat)).toNat).length:Int)=(↑(aA (match decide (i % (4:Int)=2) with|true=>s - seT y i t|false=>s+seT y i t).toNat).length:Int)/\(↑(aA (val (cutL (val (aA t.toNat)*val (cutL (val y*val y)))) / i64.wrap (i*i64.wrap (i+1))).toNat).length:Int)=(↑(aA (seT y i t).toNat).length:Int)/\i64.wrap (i+2)=i+2)/\aA (val (aA s.toNat) - val (aA (val (cutL (val (aA t.toNat)*val (cutL (val y*val y)))) / i64.wrap (i*i64.wrap (i+1))).toNat)).toNat=aA (match decide (i % (4:Int)=2) with|true=>s - seT y i t|false=>s+seT y i t).toNat/\aA (val (cutL (val (aA t.toNat)*val (cutL (val y*val y)))) / i64.wrap (i*i64.wrap (i+1))).toNat=aA (seT y i t).toNat)/\(seU y).I ((seU y).next (some (i,t,s)))/\(seU y).μ ((seU y).next (some (i,t,s)))<(seU y).μ (some (i,t,s))/\(seU y).F ((seU y).next (some (i,t,s)))=(seU y).F (some (i,t,s)))
theorem aoC (y:List Int) (i t s:Int):dQ (seS y) ((seU y).way ((some (i,t,s)))) ((run (cSe false true) 300).code Qm seA (aJ (seS y) ((seU y).S (some (i,t,s)))))=some (.p (aaK y i t s)):=by kernel_rfl
def aaL (y:List Int) (i t s:Int):Prop:=(((((↑(aA t.toNat).length:Int)=(↑(aA t.toNat).length:Int)/\((0:Int)<=fI (↑(aA (val y*val y).toNat).length:Int))/\((0:Int)<=(↑(aA (val y*val y).toNat).length:Int) - fI (↑(aA (val y*val y).toNat).length:Int))/\(fI (↑(aA (val y*val y).toNat).length:Int))+((↑(aA (val y*val y).toNat).length:Int) - fI (↑(aA (val y*val y).toNat).length:Int))<=(↑(aA (val y*val y).toNat).length:Int))/\Dig (aA t.toNat)/\Dig (cutL (val y*val y))/\(aA t.toNat).length+(cutL (val y*val y)).length<=(500000:Nat))/\(((0:Int)<=fI (↑(aA (val (aA t.toNat)*val (cutL (val y*val y))).toNat).length:Int))/\(fI (↑(aA (val (aA t.toNat)*val (cutL (val y*val y))).toNat).length:Int))<=(↑(aA (val (aA t.toNat)*val (cutL (val y*val y))).toNat).length:Int)/\(↑(aA (val (aA t.toNat)*val (cutL (val y*val y))).toNat).length:Int)<=(↑(aA (val (aA t.toNat)*val (cutL (val y*val y))).toNat).length:Int))/\(((0:Int)<=fI (↑(aA (val (aA t.toNat)*val (cutL (val y*val y))).toNat).length:Int))/\((0:Int)<=(↑(aA (val (aA t.toNat)*val (cutL (val y*val y))).toNat).length:Int) - fI (↑(aA (val (aA t.toNat)*val (cutL (val y*val y))).toNat).length:Int))/\(fI (↑(aA (val (aA t.toNat)*val (cutL (val y*val y))).toNat).length:Int))+((↑(aA (val (aA t.toNat)*val (cutL (val y*val y))).toNat).length:Int) - fI (↑(aA (val (aA t.toNat)*val (cutL (val y*val y))).toNat).length:Int))<=(↑(aA (val (aA t.toNat)*val (cutL (val y*val y))).toNat).length:Int))/\Dig (cutL (val (aA t.toNat)*val (cutL (val y*val y))))/\(cutL (val (aA t.toNat)*val (cutL (val y*val y)))).length<=(500000:Nat)/\(1:Int)<=i64.wrap (i*i64.wrap (i+1))/\i64.wrap (i*i64.wrap (i+1))<=1000000000)/\((↑(aA (val (cutL (val (aA t.toNat)*val (cutL (val y*val y)))) / i64.wrap (i*i64.wrap (i+1))).toNat).length:Int)==0)=false/\(i.tmod (4:Int)==2)=false/\((↑(aA s.toNat).length:Int)=(↑(aA s.toNat).length:Int)/\(↑(aA (val (cutL (val (aA t.toNat)*val (cutL (val y*val y)))) / i64.wrap (i*i64.wrap (i+1))).toNat).length:Int)=(↑(aA (val (cutL (val (aA t.toNat)*val (cutL (val y*val y)))) / i64.wrap (i*i64.wrap (i+1))).toNat).length:Int))/\Dig (aA s.toNat)/\Dig (aA (val (cutL (val (aA t.toNat)*val (cutL (val y*val y)))) / i64.wrap (i*i64.wrap (i+1))).toNat)/\((0:Nat)<(aA s.toNat).length\/(0:Nat)<(aA (val (cutL (val (aA t.toNat)*val (cutL (val y*val y)))) / i64.wrap (i*i64.wrap (i+1))).toNat).length)/\(aA s.toNat).length<=(400000:Nat)/\(aA (val (cutL (val (aA t.toNat)*val (cutL (val y*val y)))) / i64.wrap (i*i64.wrap (i+1))).toNat).length<=(400000:Nat))/\(true=true->(((↑(aA (val (aA s.toNat)+val (aA (val (cutL (val (aA t.toNat)*val (cutL (val y*val y)))) / i64.wrap (i*i64.wrap (i+1))).toNat)).toNat).length:Int)=(↑(aA (match decide (i % (4:Int)=2) with|true=>s - seT y i t|false=>s+seT y i t).toNat).length:Int)/\(↑(aA (val (cutL (val (aA t.toNat)*val (cutL (val y*val y)))) / i64.wrap (i*i64.wrap (i+1))).toNat).length:Int)=(↑(aA (seT y i t).toNat).length:Int)/\i64.wrap (i+2)=i+2)/\aA (val (aA s.toNat)+val (aA (val (cutL (val (aA t.toNat)*val (cutL (val y*val y)))) / i64.wrap (i*i64.wrap (i+1))).toNat)).toNat=aA (match decide (i % (4:Int)=2) with|true=>s - seT y i t|false=>s+seT y i t).toNat/\aA (val (cutL (val (aA t.toNat)*val (cutL (val y*val y)))) / i64.wrap (i*i64.wrap (i+1))).toNat=aA (seT y i t).toNat)/\(seU y).I ((seU y).next (some (i,t,s)))/\(seU y).μ ((seU y).next (some (i,t,s)))<(seU y).μ (some (i,t,s))/\(seU y).F ((seU y).next (some (i,t,s)))=(seU y).F (some (i,t,s)))
theorem aoD (y:List Int) (i t s:Int):dQ (seS y) ((seU y).way ((some (i,t,s)))) ((run (cSe false false) 300).code Qm seA (aJ (seS y) ((seU y).S (some (i,t,s)))))=some (.p (aaL y i t s)):=by kernel_rfl
def afT (y:List Int) (i t s:Int):Prop:=(((((↑(aA t.toNat).length:Int)=(↑(aA t.toNat).length:Int)/\((0:Int)<=fI (↑(aA (val y*val y).toNat).length:Int))/\((0:Int)<=(↑(aA (val y*val y).toNat).length:Int) - fI (↑(aA (val y*val y).toNat).length:Int))/\(fI (↑(aA (val y*val y).toNat).length:Int))+((↑(aA (val y*val y).toNat).length:Int) - fI (↑(aA (val y*val y).toNat).length:Int))<=(↑(aA (val y*val y).toNat).length:Int))/\Dig (aA t.toNat)/\Dig (cutL (val y*val y))/\(aA t.toNat).length+(cutL (val y*val y)).length<=(500000:Nat))/\(((0:Int)<=fI (↑(aA (val (aA t.toNat)*val (cutL (val y*val y))).toNat).length:Int))/\(fI (↑(aA (val (aA t.toNat)*val (cutL (val y*val y))).toNat).length:Int))<=(↑(aA (val (aA t.toNat)*val (cutL (val y*val y))).toNat).length:Int)/\(↑(aA (val (aA t.toNat)*val (cutL (val y*val y))).toNat).length:Int)<=(↑(aA (val (aA t.toNat)*val (cutL (val y*val y))).toNat).length:Int))/\(((0:Int)<=fI (↑(aA (val (aA t.toNat)*val (cutL (val y*val y))).toNat).length:Int))/\((0:Int)<=(↑(aA (val (aA t.toNat)*val (cutL (val y*val y))).toNat).length:Int) - fI (↑(aA (val (aA t.toNat)*val (cutL (val y*val y))).toNat).length:Int))/\(fI (↑(aA (val (aA t.toNat)*val (cutL (val y*val y))).toNat).length:Int))+((↑(aA (val (aA t.toNat)*val (cutL (val y*val y))).toNat).length:Int) - fI (↑(aA (val (aA t.toNat)*val (cutL (val y*val y))).toNat).length:Int))<=(↑(aA (val (aA t.toNat)*val (cutL (val y*val y))).toNat).length:Int))/\Dig (cutL (val (aA t.toNat)*val (cutL (val y*val y))))/\(cutL (val (aA t.toNat)*val (cutL (val y*val y)))).length<=(500000:Nat)/\(1:Int)<=i64.wrap (i*i64.wrap (i+1))/\i64.wrap (i*i64.wrap (i+1))<=1000000000)/\((↑(aA (val (cutL (val (aA t.toNat)*val (cutL (val y*val y)))) / i64.wrap (i*i64.wrap (i+1))).toNat).length:Int)==0)=true)/\(true=true->((↑(aA s.toNat).length:Int)=(↑(aA s.toNat).length:Int)/\aA s.toNat=aA s.toNat)/\(seU y).F (some (i,t,s))=(Ex.ret,seX s))
theorem ar0 (y:List Int) (i t s:Int):dQ (seS y) ((seU y).way ((some (i,t,s)))) ((run (cSe true false) 300).code Qm seA (aJ (seS y) ((seU y).S (some (i,t,s)))))=some (.p (afT y i t s)):=by kernel_rfl
structure SeD (y:List Int):Prop where
 d:Dig y
 l:y.length<=100
 hi:val y<=1700000000000000000000000000000000000000000000
 lo:0<seT y 2 (val y)
theorem SeD.sq {y:List Int} (h:SeD y):0<=Br y/\Br y<=3*PP:=by
 have v0:=aO h.d;have v1:=h.hi;have p:=lm;refine ⟨bu (aV v0 v0) (by omega),gM p ?_⟩;have:=bC (a:=val y) (b:=val y) (c:=1700000000000000000000000000000000000000000000) (d:=1700000000000000000000000000000000000000000000) v1 v1 v0 (by decide);have e:(1700000000000000000000000000000000000000000000:Int)*1700000000000000000000000000000000000000000000<=3*PP*PP:=by decide
 omega
theorem aiq {i:Int} (f:2<=i) (h1:i<=400):i64.wrap (i*i64.wrap (i+1))=i*(i+1):=by have e:i*(i+1)<=400*401:=bC (a:=i) (b:=i+1) (c:=400) (d:=401) h1 (by omega) (by omega) (by decide);have g:2*3<=i*(i+1):=bC (a:=2) (b:=3) (c:=i) (d:=i+1) f (by omega) (by decide) (by omega);rw [show i64.wrap (i+1)=i+1 from iw (by omega) (by omega),iw (by omega) (by omega)]
theorem SeD.q {y:List Int} (h:SeD y) {v i:Int} (E:0<=v) (J:2<=i) (h1:i<=400):val (cutL (v*val (cutL (val y*val y)))) / i64.wrap (i*i64.wrap (i+1))=seT y i v:=by have v0:=aO h.d;have h2:=h.sq;rw [aiq J h1,CP (aV v0 v0),CP (v:=v*(val y*val y / PP)) (aV E h2.1)];rfl
theorem EY {n:Int} (h:0<=n):0<=fI n/\fI n<=n:=by unfold fI;split <;> omega
theorem Ji (v:Int):(cutL v).length<=(aA v.toNat).length:=by unfold cutL;rw [dD,iq];omega
theorem rA {v:Int} {n:Nat} (a:0<=v) (h:v<pw n):(aA v.toNat).length<=n:=lL (by omega)
theorem len_mul {a b:Int} (a0:0<=a) (a1:a<=4*PP) (c:0<=b) (d:b<=4*PP):(aA (a*b).toNat).length<=11:=by
 have p:=lm;have h:=bC a1 d c (by omega);have e:4*PP*(4*PP)<pw 11:=by decide
 exact rA (aV a0 c) (by omega)
theorem qU {a:Int} (a0:0<=a) (a1:a<=400*PP):(aA a.toNat).length<=6:=by
 have e:400*PP<pw 6:=by decide
 exact rA a0 (by omega)
theorem dv {a:Int} (a0:0<=a):val (aA a.toNat)=a:=by rw [jZ];omega
theorem Qq {a:Int} (a0:0<a):0<(aA a.toNat).length:=wU (by omega)
theorem akg {a b:Int} (a0:0<=a) (h:a<=b):(aA a.toNat).length<=(aA b.toNat).length:=by refine rA a0 ?_;have:=eF (bU b.toNat);rw [dv (by omega)] at this;omega
theorem M4 {n:Nat} {t:Int} (b:0<t) (h:2 ^ n*t<=4*PP):n<=151:=by
 refine Nat.le_of_not_lt fun hn=>?_;have h1:(2:Int) ^ 152<=2 ^ n:=by
  have:=kM (n:=2) (by decide) (show 152<=n by omega);have a:((2 ^ 152:Nat):Int)<=((2 ^ n:Nat):Int):=by exact_mod_cast this
  simpa using a
 have h2:(2:Int) ^ n*1<=2 ^ n*t:=bq (by omega) (by omega);have e:4*PP<2 ^ 152:=by decide
 omega
theorem M5 {y:List Int} (h:SeD y) {i t:Int} (a:0<=t) (hi:2<=i):0<=seT y i t/\2*seT y i t<=t:=aaG h.sq.1 h.sq.2 a hi
theorem aaM {y:List Int} (h:SeD y):seR y (some (4,seT y 2 (val y),val y - seT y 2 (val y)))=seR y none:=by show uE (Br y) 199 4 _ _=uE (Br y) (199+1) 2 (val y) (val y);rw [EX (show val y*Br y / PP / (2*(2+1))≠0 from by have:=h.lo;unfold seT at this;omega)];rfl
theorem afU {y:List Int} {i t s:Int} (hi:(i / 2).toNat<=200) (h:seT y i t=0):seR y (some (i,t,s))=s:=by show uE (Br y) (201 - (i / 2).toNat) i t s=s;rw [show 201 - (i / 2).toNat=(200 - (i / 2).toNat)+1 by omega,Qo h]
theorem aaN {y:List Int} {i t s:Int} (a:0<=i) (hi:(i / 2).toNat<=200) (h:seT y i t≠0):seR y ((seU y).next (some (i,t,s)))=seR y (some (i,t,s)):=by show uE (Br y) (201 - ((i+2) / 2).toNat) (i+2) (seT y i t) _=uE (Br y) (201 - (i / 2).toNat) i t s;rw [show 201 - (i / 2).toNat=(200 - (i / 2).toNat)+1 by omega,EX h,show 201 - ((i+2) / 2).toNat=200 - (i / 2).toNat by omega];rfl
theorem aaO {y:List Int} (h:SeD y) {i t s:Int} (b:(seU y).I (some (i,t,s))) (g:seT y i t≠0):(seU y).I ((seU y).next (some (i,t,s))):=by
 obtain ⟨t0,i0,i1,j,pw,s0,c,sb⟩:=(show 0<t/\i % 2=0/\2<i/\i<=400/\2 ^ (i / 2).toNat*t<=4*PP/\0<s/\(i % 4=2->t<=s)/\s<=i*PP from b);obtain ⟨l,d⟩:=M5 h (i:=i) (t:=t) (by omega) (by omega);have k:=M4 t0 pw;have hp:(2:Int) ^ ((i+2) / 2).toNat*seT y i t<=4*PP:=by rw [show ((i+2) / 2).toNat=(i / 2).toNat+1 by omega,zC,dM];have:(2:Int) ^ (i / 2).toNat*(2*seT y i t)<=2 ^ (i / 2).toNat*t:=bq d (D6 (by decide));omega
 have m:t<=PP:=by
  have o:(4:Int)*t<=2 ^ (i / 2).toNat*t:=by
   refine bG ?_ (by omega);have:=kM (n:=2) (by decide) (show 2<=(i / 2).toNat by omega);have f:((2 ^ 2:Nat):Int)<=((2 ^ (i / 2).toNat:Nat):Int):=by exact_mod_cast this
   simpa using f
  omega
 have q:(i+2)*PP=i*PP+2*PP:=iQ _ _ _;have p:=lm;show 0<seT y i t/\(i+2) % 2=0/\2<i+2/\i+2<=400/\2 ^ ((i+2) / 2).toNat*seT y i t<=4*PP/\0<(match decide (i % 4=2) with|true=>s - seT y i t|false=>s+seT y i t)/\((i+2) % 4=2->seT y i t<=(match decide (i % 4=2) with|true=>s - seT y i t|false=>s+seT y i t))/\(match decide (i % 4=2) with|true=>s - seT y i t|false=>s+seT y i t)<=(i+2)*PP;by_cases a:i % 4=2
 .have:=c a;rw [show (match decide (i % 4=2) with|true=>s - seT y i t|false=>s+seT y i t)=s - seT y i t by rw [aI a]];refine ⟨by omega,by omega,by omega,by omega,hp,by omega,by omega,by omega⟩
 .rw [show (match decide (i % 4=2) with|true=>s - seT y i t|false=>s+seT y i t)=s+seT y i t by rw [aG a]];refine ⟨by omega,by omega,by omega,by omega,hp,by omega,by omega,by omega⟩
theorem WC {y:List Int} (h:SeD y):(seU y).I ((seU y).next none):=by
 have v0:=aO h.d;have v1:=h.hi;have a:=h.lo;obtain ⟨b,c⟩:=M5 h (i:=2) (t:=val y) v0 (by omega);have e:(1700000000000000000000000000000000000000000000:Int)<=2*PP:=by decide
 show 0<seT y 2 (val y)/\(4:Int) % 2=0/\(2:Int)<4/\(4:Int)<=400/\(2:Int) ^ (2:Nat)*seT y 2 (val y)<=4*PP/\0<val y - seT y 2 (val y)/\((4:Int) % 4=2->seT y 2 (val y)<=val y - seT y 2 (val y))/\val y - seT y 2 (val y)<=4*PP;have p:=lm;refine ⟨a,by decide,by decide,by decide,?_,by omega,by omega,by omega⟩;rw [show (2:Int) ^ (2:Nat)=4 from rfl];omega
theorem afV {y:List Int} (h:SeD y):CodeOk cZ Qm (.loop seA) (seS y) ⟨.tt,[⟨.tt,.ret,aJ (seS y) (seX (seR y none))⟩]⟩:=by
 refine jm (seU y) (y0:=none) trivial ⟨_,aaI y,rfl⟩ (by kernel_rfl) (fun x M=>?_) rfl;have v0:=aO h.d;have v1:=h.hi;have yl:=h.l;have N:=h.lo;have p:=lm;have Y:(1700000000000000000000000000000000000000000000:Int)<=2*PP:=by decide
 obtain ⟨O,q1⟩:=h.sq;have j:val (cutL (val y*val y))=Br y:=by rw [CP (aV v0 v0)];rfl
 have m1:=len_mul v0 (by omega) v0 (by omega:val y<=4*PP);have k1:=Ji (val y*val y);have c1:=EY (n:=((aA (val y*val y).toNat).length:Int)) (by omega);have A:=CQ (val y*val y)
 cases x with
 | none=>
  have Q:=h.q (v:=val y) v0 (i:=2) (by omega) (by omega);have c2:=EY (n:=((aA (val y*val (cutL (val y*val y))).toNat).length:Int)) (by omega);have m:=CQ (val y*val (cutL (val y*val y)));have J:=len_mul v0 (by omega:val y<=4*PP) O (by omega);rw [<- j] at J;have k2:=Ji (val y*val (cutL (val y*val y)));obtain ⟨f,P⟩:=M5 h (i:=2) (t:=val y) v0 (by omega);have dq:=bU (seT y 2 (val y)).toNat;have lq:=Qq N;have g:=dv f;have yp:0<y.length:=by
   rcases Nat.eq_zero_or_pos y.length with e|e
   .rw [gK.1 e] at P N;have:val []=0:=rfl;omega
   .exact e
  have D:(aA (seT y 2 (val y)).toNat).length<=y.length:=rA f (by have:=eF h.d;omega);have E:=WC h;have o:i64.wrap (2*i64.wrap (2+1))=6:=by decide
  refine ⟨cSe false true,300,M3 _ _,rfl,rfl,_,aoB y,?_,fun _=>?_⟩
  .rw [Q,o,g];refine ⟨⟨⟨⟨rfl,by omega,by omega,by omega⟩,h.d,A,by omega⟩,⟨by omega,by omega,by omega⟩,⟨by omega,by omega,by omega⟩,m,by omega,by omega,by omega⟩,dm.2 (by omega),rfl,⟨rfl,rfl⟩,h.d,dq,yp,by omega,D,by omega⟩
  .rw [Q,g];refine ⟨⟨⟨rfl,rfl,by decide⟩,rfl,rfl⟩,E,by show (400 - 4:Int).toNat<400;omega,?_⟩;exact bL (fun z=>(Ex.ret,seX z)) (aaM h)
 | some x=>
  obtain ⟨i,t,s⟩:=x;have hI:=M;obtain ⟨t0,i0,i1,F,pw2,s0,ts,sb⟩:=(show 0<t/\i % 2=0/\2<i/\i<=400/\2 ^ (i / 2).toNat*t<=4*PP/\0<s/\(i % 4=2->t<=s)/\s<=i*PP from M);have k:=M4 t0 pw2;have ht:t<=4*PP:=by
   have h4:(1:Int)*t<=2 ^ (i / 2).toNat*t:=by
    refine bG ?_ (by omega);have:=DC (n:=(i / 2).toNat);have e1:((1:Nat):Int)<=((2 ^ (i / 2).toNat:Nat):Int):=by exact_mod_cast this
    simpa using e1
   omega
  have hs:s<=400*PP:=by have:i*PP<=400*PP:=bG F (by omega);omega
  have r:=dv (a:=t) (by omega);have K:=dv (a:=s) (by omega);have dt:=bU t.toNat;have W:=bU s.toNat;have lt:=qU (a:=t) (by omega) (by omega);have ls:=qU (a:=s) (by omega) hs;have u:=Qq s0;have Q:=h.q (v:=t) (by omega) (i:=i) (by omega) F;have c2:=EY (n:=((aA (t*val (cutL (val y*val y))).toNat).length:Int)) (by omega);have m:=CQ (t*val (cutL (val y*val y)));have J:=len_mul (a:=t) (by omega) ht O (by omega);rw [<- j] at J;have k2:=Ji (t*val (cutL (val y*val y)));obtain ⟨f,P⟩:=M5 h (i:=i) (t:=t) (by omega) (by omega);have dq:=bU (seT y i t).toNat;have g:=dv f;have o:=aiq (i:=i) (by omega) F;have w7:1<=i*(i+1):=by have:=bC (a:=2) (b:=3) (c:=i) (d:=i+1) (by omega) (by omega) (by decide) (by omega);omega
  have w8:i*(i+1)<=400*401:=bC (a:=i) (b:=i+1) (c:=400) (d:=401) F (by omega) (by omega) (by decide);have X:i64.wrap (i+2)=i+2:=iw (by omega) (by omega);by_cases H:seT y i t=0
  .refine ⟨cSe true false,300,M3 _ _,rfl,rfl,_,ar0 y i t s,?_,fun _=>⟨⟨rfl,rfl⟩,?_⟩⟩
   .rw [r,Q,o,H];exact ⟨⟨⟨⟨rfl,by omega,by omega,by omega⟩,dt,A,by omega⟩,⟨by omega,by omega,by omega⟩,⟨by omega,by omega,by omega⟩,m,by omega,by omega,by omega⟩,by rw [show aA (0:Int).toNat=[] from gU];rfl⟩
   .show (Ex.ret,seX _)=(Ex.ret,seX _);rw [afU (by omega) H]
  .have lq:=Qq (a:=seT y i t) (by omega);have E:=aaO h hI H;have nr:=aaN (y:=y) (i:=i) (t:=t) (s:=s) (by omega) (by omega) H;have mu:(400 - (i+2)).toNat<(400 - i).toNat:=by
    have:i<=304:=by omega
    omega
   by_cases I:i % 4=2
   .have aa:=ts I;have D:=akg f (show seT y i t<=s by omega);have w:(match decide (i % 4=2) with|true=>s - seT y i t|false=>s+seT y i t)=s - seT y i t:=by rw [aI I]
    refine ⟨cSe false true,300,M3 _ _,rfl,rfl,_,aoC y i t s,?_,fun _=>?_⟩
    .rw [r,Q,o,g,K];refine ⟨⟨⟨⟨rfl,by omega,by omega,by omega⟩,dt,A,by omega⟩,⟨by omega,by omega,by omega⟩,⟨by omega,by omega,by omega⟩,m,by omega,by omega,by omega⟩,dm.2 (by omega),?_,⟨rfl,rfl⟩,W,dq,u,by omega,D,by omega⟩;rw [cO (by omega),I];rfl
    .rw [r,Q,g,K];exact ⟨⟨⟨bL (fun z:Int=>((aA z.toNat).length:Int)) w.symm,rfl,X⟩,bL (fun z:Int=>aA z.toNat) w.symm,rfl⟩,E,mu,bL (fun z=>(Ex.ret,seX z)) nr⟩
   .have L:i % 4=0:=by omega
    have D:=qU (a:=seT y i t) f (by omega);have w:(match decide (i % 4=2) with|true=>s - seT y i t|false=>s+seT y i t)=s+seT y i t:=by rw [aG I]
    refine ⟨cSe false false,300,M3 _ _,rfl,rfl,_,aoD y i t s,?_,fun _=>?_⟩
    .rw [r,Q,o];refine ⟨⟨⟨⟨rfl,by omega,by omega,by omega⟩,dt,A,by omega⟩,⟨by omega,by omega,by omega⟩,⟨by omega,by omega,by omega⟩,m,by omega,by omega,by omega⟩,dm.2 (by omega),?_,⟨rfl,rfl⟩,W,dq,.inl u,by omega,by omega⟩;rw [cO (by omega),L];rfl
    .rw [r,Q,g,K];exact ⟨⟨⟨bL (fun z:Int=>((aA z.toNat).length:Int)) w.symm,rfl,X⟩,bL (fun z:Int=>aA z.toNat) w.symm,rfl⟩,E,mu,bL (fun z=>(Ex.ret,seX z)) nr⟩
noncomputable def akh (y:List Int):Ctx:=bN cZ [dK 124 (seS y).hp.clock Qm seA (seS y) .ret (seX (seR y none))]
theorem afW {y:List Int} (h:SeD y):CtxOk (akh y):=bE vI (afV h) (bJ vI)
def afX (y:List Int):Prop:=(((((↑y.length:Int)=(↑y.length:Int)/\(↑y.length:Int)=(↑y.length:Int))/\Dig y/\Dig y/\y.length+y.length<=(500000:Nat))/\((0:Int)<=fI (↑(aA (val y*val y).toNat).length:Int))/\(fI (↑(aA (val y*val y).toNat).length:Int))<=(↑(aA (val y*val y).toNat).length:Int)/\(↑(aA (val y*val y).toNat).length:Int)<=(↑(aA (val y*val y).toNat).length:Int))/\At (Qm) (Qm) (seA) (seA) (seS y) (seS y))
def aki (y:List Int):AV:=(AV.lslice 1 (↑(aA (seR y none).toNat).length:Int))
def akj (y:List Int):Hp:=⟨[{ wr:=24,body:=ABody.rows i64 (aA (seR y none).toNat) },{ wr:=(0:Nat),body:=ABody.rows i64 y }],2,25⟩
theorem ar1 (y:List Int):(run (akh y) 300).call 124 (EW y) (zH y)=some ⟨.p (afX y),[⟨.tt,aki y,akj y⟩]⟩:=by kernel_rfl
def akk:List Nu->List (List Int)->Option (Prop×To)
 | [.n k],[y]=>some (k=5/\SeD y,.li false (aA (seR y none).toNat))
 | _,_=>none
theorem WE:NOk Tryz.prog (fun _=>none) hG0 124 (bQ hG0 .i64 [.li,.nu (.i .i64)] akk):=by
 refine fw (fun xs ys p t e h=>?_) ⟨_,Tryz.func124,rfl⟩;unfold akk at e;split at e
 .rename_i k y;cases e;obtain ⟨rfl,h⟩:=h;have hd:=h.d;have a:=h.l;have c1:=EY (n:=((aA (val y*val y).toNat).length:Int)) (by omega);exact ⟨akh y,300,EW y,_,_,_,_,_,afW h,rfl,rfl,⟨rfl,⟨rfl,rfl⟩,trivial⟩,ar1 y,rfl,⟨⟨⟨⟨rfl,rfl⟩,hd,hd,by omega⟩,⟨by omega,by omega,by omega⟩⟩,⟨rfl,rfl,rfl⟩⟩,rfl,rfl,rfl,rfl⟩
 .cases e
def tZ2:List (FuncId×ku):=(124,bQ hG0 .i64 [.li,.nu (.i .i64)] akk) :: tZ
theorem akl:∀ x∈tZ2,NOk Tryz.prog (fun _=>none) hG0 x.1 x.2:=by
 intro x a;rcases aN.1 a with rfl|a
 .exact WE
 exact aio x a
def aaP:AFr:=⟨126,none⟩
def dwA:Code:=fP Tryz.prog 126 0
noncomputable def dwS (a:List Int):St:=qM cZ 300 126 (EW a) (zH a)
def dwV (a:List Int):Int:=val a*val (aA (4294967296:Int).toNat)
def dwP (i n:Int):Patch:=⟨(5,.int true .i64 n) :: (7,.int true .i64 i) :: bS 17 11,[],[]⟩
def dwU (a:List Int):SumL (Int×Int):=
 {
  S:=fun (i,n)=>dwP i n
  I:=fun (i,n)=>-1<=i/\i<(cutL (dwV a)).length/\n=val ((cutL (dwV a)).drop (i+1).toNat)
  μ:=fun (i,_)=>(i+1).toNat
  F:=fun _=>(.exit 0,dwP (-1) (dwV a / PP))
  next:=fun (i,n)=>(i - 1,n*1000000000+(cutL (dwV a)).getD i.toNat 0)
  ids:=fun _=>[]
  X:=fun (i,n) _=>some (dwP i n,[]) }
def Qr (a:List Int):Prop:=(0:Int)=0/\i64.wrap (((↑(aA (val a*val (aA (Int.toNat (4294967296:Int)))).toNat).length:Int) - fI (↑(aA (val a*val (aA (Int.toNat (4294967296:Int)))).toNat).length:Int)) - (1:Int))=(↑(cutL (dwV a)).length:Int) - (1:Int)
theorem aaQ (a:List Int):fit (dwS a) (dwS a) (aJ (dwS a) (dwP (((cutL (dwV a)).length:Int) - 1) 0)) ([])=some (.p (Qr a)):=by kernel_rfl
def Sw (a:List Int) (i n:Int):Prop:=(decide (i>=0)=true->(((0:Int)<=fI (↑(aA (val a*val (aA (Int.toNat (4294967296:Int)))).toNat).length:Int))/\(0:Int)<=i/\i<(↑(aA (val a*val (aA (Int.toNat (4294967296:Int)))).toNat).length:Int) - fI (↑(aA (val a*val (aA (Int.toNat (4294967296:Int)))).toNat).length:Int))/\((fI (↑(aA (val a*val (aA (Int.toNat (4294967296:Int)))).toNat).length:Int))+i).toNat<(aA (val a*val (aA (Int.toNat (4294967296:Int)))).toNat).length)/\((!decide (i>=0))=true->(n=n/\i=i)/\(dwU a).F (i,n)=(Ex.exit (0:Nat),dwP i n))/\(decide (i>=0)=true->(i64.wrap (i64.wrap (n*1000000000)+(aA (val a*val (aA (Int.toNat (4294967296:Int)))).toNat).getD ((fI (↑(aA (val a*val (aA (Int.toNat (4294967296:Int)))).toNat).length:Int))+i).toNat (0:Int))=n*1000000000+(cutL (dwV a)).getD i.toNat (0:Int)/\i64.wrap (i - (1:Int))=i - (1:Int))/\(dwU a).I ((dwU a).next (i,n))/\(dwU a).μ ((dwU a).next (i,n))<(dwU a).μ (i,n)/\(dwU a).F ((dwU a).next (i,n))=(dwU a).F (i,n))
theorem afY (a:List Int) (i n:Int):dQ (dwS a) ((dwU a).way ((i,n))) ((run cZ 300).code aaP dwA (aJ (dwS a) ((dwU a).S (i,n))))=some (.p (Sw a i n)):=by kernel_rfl
structure DwD (a:List Int):Prop where
 d:Dig a
 l:a.length<=100
 hi:dwV a / PP<4611686018427387904
theorem DwD.v {a:List Int} (h:DwD a):0<=dwV a:=aV (aO h.d) (aO (bU _))
theorem afZ {l:List Int} (h:Dig l) (k:Nat):val (l.drop k)<=val l:=by rw [Jh k h];exact kS _ (aO h)
theorem af0 {a:List Int} (h:DwD a):CodeOk cZ aaP (.loop dwA) (dwS a) ⟨.tt,[⟨.tt,.exit 0,aJ (dwS a) (dwP (-1) (dwV a / PP))⟩]⟩:=by
 have v0:=h.v;have b:=UT v0;have c:=CP v0;have hd:=CQ (dwV a);have hi:=h.hi;have c1:=EY (n:=((aA (dwV a).toNat).length:Int)) (by omega);have t:(aA (dwV a).toNat).length<=500000:=by
  have l:=h.l;have h1:=eF h.d;have h2:=gF l;refine dF (rA (n:=102) v0 ?_) (by decide);have g:val (aA (4294967296:Int).toNat)=4294967296:=dv (by decide);have j:pw 102=1000000000000000000*pw 100:=by rw [oo,oo];omega
  have u:=aO h.d;have p:=pw_pos 100;unfold dwV;rw [g,j];omega
 have lc:((cutL (dwV a)).length:Int)=(aA (dwV a).toNat).length - fI (aA (dwV a).toNat).length:=by rw [b,iq];omega
 refine jX (dw vI 300) (dwU a) (y0:=(((cutL (dwV a)).length:Int) - 1,0)) ⟨by omega,by show _ - 1<_;omega,?_⟩ ⟨_,aaQ a,rfl,?_⟩ (by kernel_rfl) (fun y k=>?_) rfl
 .show 0=val ((cutL (dwV a)).drop (((cutL (dwV a)).length:Int) - 1+1).toNat);rw [show (((cutL (dwV a)).length:Int) - 1+1).toNat=(cutL (dwV a)).length by omega,DN];rfl
 .show i64.wrap (((aA (dwV a).toNat).length:Int) - fI (aA (dwV a).toNat).length - 1)=(cutL (dwV a)).length - 1;rw [lc,iw (by omega) (by omega)]
 .obtain ⟨i,n⟩:=y;obtain ⟨i0,i1,hn⟩:=(show -1<=i/\i<(cutL (dwV a)).length/\n=val ((cutL (dwV a)).drop (i+1).toNat) from k);refine ⟨_,afY a i n,fun e=>?_,fun e=>?_,fun e=>?_⟩
  .have e:=dt.1 e;exact ⟨⟨c1.1,e,by show i<((aA (dwV a).toNat).length:Int) - fI (aA (dwV a).toNat).length;omega⟩,by show (fI (aA (dwV a).toNat).length+i).toNat<(aA (dwV a).toNat).length;omega⟩
  .have e:=ndt.1 e;have:i=-1:=by omega
   subst this;refine ⟨⟨rfl,rfl⟩,?_⟩;show (Ex.exit 0,dwP (-1) (dwV a / PP))=(Ex.exit 0,dwP (-1) n);rw [hn,show ((-1:Int)+1).toNat=0 from rfl,iA,c]
  .have e:=dt.1 e;have m:i.toNat<(cutL (dwV a)).length:=by omega
   have f:=P8 m;have o:=afZ hd i.toNat;rw [show i.toNat+1=(i+1).toNat by omega,<- hn] at f;rw [c] at o;have w:=hd.get i.toNat;have x:0<=n:=by rw [hn];exact aO (Qn hd _)
   have q:(aA (dwV a).toNat).getD (fI (aA (dwV a).toNat).length+i).toNat 0=(cutL (dwV a)).getD i.toNat 0:=by
    rw [b,bY,bY,ig]
    congr 2
    omega
   have r:i64.wrap (n*1000000000)=n*1000000000:=iw (by omega) (by omega);have s:i64.wrap (n*1000000000+(cutL (dwV a)).getD i.toNat 0)=n*1000000000+(cutL (dwV a)).getD i.toNat 0:=iw (by omega) (by omega);refine ⟨⟨?_,iw (by omega) (by omega)⟩,⟨by show -1<=i - 1;omega,by show i - 1<_;omega,?_⟩,by show (i - 1+1).toNat<(i+1).toNat;omega,rfl⟩
   .show i64.wrap (i64.wrap (n*1000000000)+(aA (dwV a).toNat).getD (fI (aA (dwV a).toNat).length+i).toNat 0)=_;rw [r,q,s]
   .show n*1000000000+(cutL (dwV a)).getD i.toNat 0=val ((cutL (dwV a)).drop (i - 1+1).toNat);rw [show (i - 1+1).toNat=i.toNat by omega,f];omega
noncomputable def akm (a:List Int):Ctx:=bN cZ [dK 126 (dwS a).hp.clock aaP dwA (dwS a) (.exit 0) (dwP (-1) (dwV a / PP))]
theorem af1 {a:List Int} (h:DwD a):CtxOk (akm a):=bE vI (af0 h) (bJ vI)
def af2 (a:List Int):Prop:=((((0:Int)<4294967296/\(4294967296:Int)<1000000000000000000)/\(((↑a.length:Int)=(↑a.length:Int)/\(↑(aA (Int.toNat (4294967296:Int))).length:Int)=(↑(aA (Int.toNat (4294967296:Int))).length:Int))/\Dig a/\Dig (aA (Int.toNat (4294967296:Int)))/\a.length+(aA (Int.toNat (4294967296:Int))).length<=(500000:Nat))/\((0:Int)<=fI (↑(aA (val a*val (aA (Int.toNat (4294967296:Int)))).toNat).length:Int))/\(fI (↑(aA (val a*val (aA (Int.toNat (4294967296:Int)))).toNat).length:Int))<=(↑(aA (val a*val (aA (Int.toNat (4294967296:Int)))).toNat).length:Int)/\(↑(aA (val a*val (aA (Int.toNat (4294967296:Int)))).toNat).length:Int)<=(↑(aA (val a*val (aA (Int.toNat (4294967296:Int)))).toNat).length:Int))/\At (aaP) (aaP) (dwA) (dwA) (dwS a) (dwS a))
def akn (a:List Int):AV:=(AV.int true i64 (dwV a / PP))
def ako (a:List Int):Hp:=⟨[{ wr:=(0:Nat),body:=ABody.rows i64 a }],1,28⟩
theorem ar2 (a:List Int):(run (akm a) 300).call 126 (EW a) (zH a)=some ⟨.p (af2 a),[⟨.tt,akn a,ako a⟩]⟩:=by kernel_rfl
def akp:List Nu->List (List Int)->Option (Prop×To)
 | [.n k],[a]=>some (k=5/\DwD a,.nu .i64 (val a*4294967296 / PP))
 | _,_=>none
theorem aaR (a:List Int):dwV a=val a*4294967296:=by unfold dwV;rw [dv (by decide)]
theorem af3:NOk Tryz.prog (fun _=>none) hG0 126 (bQ hG0 .i64 [.li,.nu (.i .i64)] akp):=by
 refine fw (fun xs ys p t e h=>?_) ⟨_,Tryz.func126,rfl⟩;unfold akp at e;split at e
 .rename_i k y;cases e;obtain ⟨rfl,h⟩:=h;have hd:=h.d;have a:=h.l;have c1:=EY (n:=((aA (dwV y).toNat).length:Int)) (by omega);have l2:(aA (4294967296:Int).toNat).length<=2:=rA (by decide) (by decide);exact ⟨akm y,300,EW y,_,_,_,_,_,af1 h,rfl,rfl,⟨rfl,⟨rfl,rfl⟩,trivial⟩,ar2 y,rfl,⟨⟨⟨by decide,by decide⟩,⟨⟨rfl,rfl⟩,hd,bU _,by show _+(aA (4294967296:Int).toNat).length<=_;omega⟩,⟨c1.1,c1.2,dO _⟩⟩,⟨rfl,rfl,rfl⟩⟩,rfl,rfl,by show dwV y / PP=_;rw [aaR]⟩
 .cases e
def Qs:AFr:=⟨137,none⟩
def arA:Code:=fP Tryz.prog 137 0
def Sy (x:Int) (one:List Int):List AV:=[.int true .i64 x,.lslice 0 one.length]
noncomputable def arS (x:Int) (one:List Int):St:=qM cZ 300 137 (Sy x one) (zH one)
def cAr (e m:Bool):Ctx:=cZb [(22,e),(26,m)]
theorem M6 (e m:Bool):CtxOk (cAr e m):=aaE _
def arP:Option (Int×Int×Int)->Patch
 | none=>⟨(8,.int true .i64 1) :: (9,.any false) :: bS 15 18,[],[]⟩
 | some (i,t,s)=>⟨(5,.lslice 6 (aA s.toNat).length) :: (8,.int true .i64 i) :: (9,.any false) :: bS 15 18,[(4,.cells [.lslice 5 (aA t.toNat).length])],[.rows .i64 (aA s.toNat),.rows .i64 (aA t.toNat)]⟩
def arX (s:Int):Patch:=⟨(4,.lslice 5 (aA s.toNat).length) :: (5,.any false) :: (8,.any false) :: (9,.any false) :: bS 15 18,[(4,.dead)],[.rows .i64 (aA s.toNat)]⟩
def arQ (x:Int) (one:List Int):Int:=val one*x / (x*x)
def arR (x:Int) (one:List Int):Option (Int×Int×Int)->Int
 | none=>jc x 200 1 (val one*x) 0
 | some (i,t,s)=>jc x (200 - (i / 2).toNat) i t s
def arU (x:Int) (one:List Int):SumL (Option (Int×Int×Int)):=
 {
  S:=arP
  I:=fun y=>match y with
   | none=>True
   | some (i,t,s)=>0<t/\i % 2=1/\2<i/\i<=399/\2 ^ (i / 2).toNat*t<=4*PP/\0<=s/\(i % 4=3->t / (i - 2)<=s)/\s<=i*PP
  μ:=fun y=>match y with
   | none=>400
   | some (i,_,_)=>(400 - i).toNat
  F:=fun y=>(.ret,arX (arR x one y))
  next:=fun y=>match y with
   | none=>some (3,arQ x one,arQ x one / 1)
   | some (i,t,s)=>some (i+2,t / (x*x),match decide (i % 4=1) with|true=>s+t / (x*x) / i|false=>s - t / (x*x) / i)
  ids:=fun y=>match y with
   | none=>[5,7]
   | some _=>[7,9]
  X:=fun y _=>match y with
   | none=>none
   | some (_,_,s)=>some (arX s,[6]) }
def Qt (x:Int) (one:List Int):Prop:=(1:Int)=1
theorem aaS (x:Int) (one:List Int):fit (arS x one) (arS x one) (aJ (arS x one) ((arU x one).S none)) ([])=some (.p (Qt x one)):=by kernel_rfl
def aaT (x:Int) (one:List Int):Prop:=((((↑(aA (val one*val [x]).toNat).length:Int)=(↑(aA (val one*val [x]).toNat).length:Int)/\Dig (aA (val one*val [x]).toNat)/\(aA (val one*val [x]).toNat).length<=(500000:Nat)/\(1:Int)<=i64.wrap (x*x)/\i64.wrap (x*x)<=1000000000)/\(↑(aA (val (aA (val one*val [x]).toNat) / i64.wrap (x*x)).toNat).length:Int)=(↑(aA (val (aA (val one*val [x]).toNat) / i64.wrap (x*x)).toNat).length:Int)/\Dig (aA (val (aA (val one*val [x]).toNat) / i64.wrap (x*x)).toNat)/\(aA (val (aA (val one*val [x]).toNat) / i64.wrap (x*x)).toNat).length<=(500000:Nat)/\(1:Int)<=1/\(1:Int)<=1000000000)/\((↑(aA (val (aA (val (aA (val one*val [x]).toNat) / i64.wrap (x*x)).toNat) / (1:Int)).toNat).length:Int)==0)=false/\(Int.tmod (1:Int) (4:Int)==1)=true/\(↑(aA (val (aA (val (aA (val one*val [x]).toNat) / i64.wrap (x*x)).toNat) / (1:Int)).toNat).length:Int)=(↑(aA (val (aA (val (aA (val one*val [x]).toNat) / i64.wrap (x*x)).toNat) / (1:Int)).toNat).length:Int)/\Dig []/\Dig (aA (val (aA (val (aA (val one*val [x]).toNat) / i64.wrap (x*x)).toNat) / (1:Int)).toNat)/\((0:Nat)<([]:List Int).length\/(0:Nat)<(aA (val (aA (val (aA (val one*val [x]).toNat) / i64.wrap (x*x)).toNat) / (1:Int)).toNat).length)/\([]:List Int).length<=(400000:Nat)/\(aA (val (aA (val (aA (val one*val [x]).toNat) / i64.wrap (x*x)).toNat) / (1:Int)).toNat).length<=(400000:Nat))/\(true=true->(((↑(aA (val []+val (aA (val (aA (val (aA (val one*val [x]).toNat) / i64.wrap (x*x)).toNat) / (1:Int)).toNat)).toNat).length:Int)=(↑(aA (arQ x one / (1:Int)).toNat).length:Int)/\i64.wrap ((1:Int)+2)=3)/\(↑(aA (val (aA (val one*val [x]).toNat) / i64.wrap (x*x)).toNat).length:Int)=(↑(aA (arQ x one).toNat).length:Int)/\aA (val []+val (aA (val (aA (val (aA (val one*val [x]).toNat) / i64.wrap (x*x)).toNat) / (1:Int)).toNat)).toNat=aA (arQ x one / (1:Int)).toNat/\aA (val (aA (val one*val [x]).toNat) / i64.wrap (x*x)).toNat=aA (arQ x one).toNat)/\(arU x one).I ((arU x one).next none)/\(arU x one).μ ((arU x one).next none)<(arU x one).μ none/\(arU x one).F ((arU x one).next none)=(arU x one).F none)
theorem aoE (x:Int) (one:List Int):dQ (arS x one) ((arU x one).way (none)) ((run (cAr false true) 300).code Qs arA (aJ (arS x one) ((arU x one).S none)))=some (.p (aaT x one)):=by kernel_rfl
def aaU (x:Int) (one:List Int) (i t s:Int):Prop:=((((↑(aA t.toNat).length:Int)=(↑(aA t.toNat).length:Int)/\Dig (aA t.toNat)/\(aA t.toNat).length<=(500000:Nat)/\(1:Int)<=i64.wrap (x*x)/\i64.wrap (x*x)<=1000000000)/\(↑(aA (val (aA t.toNat) / i64.wrap (x*x)).toNat).length:Int)=(↑(aA (val (aA t.toNat) / i64.wrap (x*x)).toNat).length:Int)/\Dig (aA (val (aA t.toNat) / i64.wrap (x*x)).toNat)/\(aA (val (aA t.toNat) / i64.wrap (x*x)).toNat).length<=(500000:Nat)/\(1:Int)<=i/\i<=1000000000)/\((↑(aA (val (aA (val (aA t.toNat) / i64.wrap (x*x)).toNat) / i).toNat).length:Int)==0)=false/\(i.tmod (4:Int)==1)=true/\((↑(aA s.toNat).length:Int)=(↑(aA s.toNat).length:Int)/\(↑(aA (val (aA (val (aA t.toNat) / i64.wrap (x*x)).toNat) / i).toNat).length:Int)=(↑(aA (val (aA (val (aA t.toNat) / i64.wrap (x*x)).toNat) / i).toNat).length:Int))/\Dig (aA s.toNat)/\Dig (aA (val (aA (val (aA t.toNat) / i64.wrap (x*x)).toNat) / i).toNat)/\((0:Nat)<(aA s.toNat).length\/(0:Nat)<(aA (val (aA (val (aA t.toNat) / i64.wrap (x*x)).toNat) / i).toNat).length)/\(aA s.toNat).length<=(400000:Nat)/\(aA (val (aA (val (aA t.toNat) / i64.wrap (x*x)).toNat) / i).toNat).length<=(400000:Nat))/\(true=true->(((↑(aA (val (aA s.toNat)+val (aA (val (aA (val (aA t.toNat) / i64.wrap (x*x)).toNat) / i).toNat)).toNat).length:Int)=(↑(aA (match decide (i % (4:Int)=1) with|true=>s+t / (x*x) / i|false=>s - t / (x*x) / i).toNat).length:Int)/\i64.wrap (i+2)=i+2)/\(↑(aA (val (aA t.toNat) / i64.wrap (x*x)).toNat).length:Int)=(↑(aA (t / (x*x)).toNat).length:Int)/\aA (val (aA s.toNat)+val (aA (val (aA (val (aA t.toNat) / i64.wrap (x*x)).toNat) / i).toNat)).toNat=aA (match decide (i % (4:Int)=1) with|true=>s+t / (x*x) / i|false=>s - t / (x*x) / i).toNat/\aA (val (aA t.toNat) / i64.wrap (x*x)).toNat=aA (t / (x*x)).toNat)/\(arU x one).I ((arU x one).next (some (i,t,s)))/\(arU x one).μ ((arU x one).next (some (i,t,s)))<(arU x one).μ (some (i,t,s))/\(arU x one).F ((arU x one).next (some (i,t,s)))=(arU x one).F (some (i,t,s)))
theorem aoF (x:Int) (one:List Int) (i t s:Int):dQ (arS x one) ((arU x one).way ((some (i,t,s)))) ((run (cAr false true) 300).code Qs arA (aJ (arS x one) ((arU x one).S (some (i,t,s)))))=some (.p (aaU x one i t s)):=by kernel_rfl
def aaV (x:Int) (one:List Int) (i t s:Int):Prop:=((((↑(aA t.toNat).length:Int)=(↑(aA t.toNat).length:Int)/\Dig (aA t.toNat)/\(aA t.toNat).length<=(500000:Nat)/\(1:Int)<=i64.wrap (x*x)/\i64.wrap (x*x)<=1000000000)/\(↑(aA (val (aA t.toNat) / i64.wrap (x*x)).toNat).length:Int)=(↑(aA (val (aA t.toNat) / i64.wrap (x*x)).toNat).length:Int)/\Dig (aA (val (aA t.toNat) / i64.wrap (x*x)).toNat)/\(aA (val (aA t.toNat) / i64.wrap (x*x)).toNat).length<=(500000:Nat)/\(1:Int)<=i/\i<=1000000000)/\((↑(aA (val (aA (val (aA t.toNat) / i64.wrap (x*x)).toNat) / i).toNat).length:Int)==0)=false/\(i.tmod (4:Int)==1)=false/\((↑(aA s.toNat).length:Int)=(↑(aA s.toNat).length:Int)/\(↑(aA (val (aA (val (aA t.toNat) / i64.wrap (x*x)).toNat) / i).toNat).length:Int)=(↑(aA (val (aA (val (aA t.toNat) / i64.wrap (x*x)).toNat) / i).toNat).length:Int))/\Dig (aA s.toNat)/\Dig (aA (val (aA (val (aA t.toNat) / i64.wrap (x*x)).toNat) / i).toNat)/\(0:Nat)<(aA s.toNat).length/\(aA s.toNat).length<=(500000:Nat)/\(aA (val (aA (val (aA t.toNat) / i64.wrap (x*x)).toNat) / i).toNat).length<=(aA s.toNat).length/\val (aA (val (aA (val (aA t.toNat) / i64.wrap (x*x)).toNat) / i).toNat)<=val (aA s.toNat))/\(true=true->(((↑(aA (val (aA s.toNat) - val (aA (val (aA (val (aA t.toNat) / i64.wrap (x*x)).toNat) / i).toNat)).toNat).length:Int)=(↑(aA (match decide (i % (4:Int)=1) with|true=>s+t / (x*x) / i|false=>s - t / (x*x) / i).toNat).length:Int)/\i64.wrap (i+2)=i+2)/\(↑(aA (val (aA t.toNat) / i64.wrap (x*x)).toNat).length:Int)=(↑(aA (t / (x*x)).toNat).length:Int)/\aA (val (aA s.toNat) - val (aA (val (aA (val (aA t.toNat) / i64.wrap (x*x)).toNat) / i).toNat)).toNat=aA (match decide (i % (4:Int)=1) with|true=>s+t / (x*x) / i|false=>s - t / (x*x) / i).toNat/\aA (val (aA t.toNat) / i64.wrap (x*x)).toNat=aA (t / (x*x)).toNat)/\(arU x one).I ((arU x one).next (some (i,t,s)))/\(arU x one).μ ((arU x one).next (some (i,t,s)))<(arU x one).μ (some (i,t,s))/\(arU x one).F ((arU x one).next (some (i,t,s)))=(arU x one).F (some (i,t,s)))
theorem aoG (x:Int) (one:List Int) (i t s:Int):dQ (arS x one) ((arU x one).way ((some (i,t,s)))) ((run (cAr false false) 300).code Qs arA (aJ (arS x one) ((arU x one).S (some (i,t,s)))))=some (.p (aaV x one i t s)):=by kernel_rfl
def af4 (x:Int) (one:List Int) (i t s:Int):Prop:=((((↑(aA t.toNat).length:Int)=(↑(aA t.toNat).length:Int)/\Dig (aA t.toNat)/\(aA t.toNat).length<=(500000:Nat)/\(1:Int)<=i64.wrap (x*x)/\i64.wrap (x*x)<=1000000000)/\(↑(aA (val (aA t.toNat) / i64.wrap (x*x)).toNat).length:Int)=(↑(aA (val (aA t.toNat) / i64.wrap (x*x)).toNat).length:Int)/\Dig (aA (val (aA t.toNat) / i64.wrap (x*x)).toNat)/\(aA (val (aA t.toNat) / i64.wrap (x*x)).toNat).length<=(500000:Nat)/\(1:Int)<=i/\i<=1000000000)/\((↑(aA (val (aA (val (aA t.toNat) / i64.wrap (x*x)).toNat) / i).toNat).length:Int)==0)=true)/\(true=true->((↑(aA s.toNat).length:Int)=(↑(aA s.toNat).length:Int)/\aA s.toNat=aA s.toNat)/\(arU x one).F (some (i,t,s))=(Ex.ret,arX s))
theorem ar3 (x:Int) (one:List Int) (i t s:Int):dQ (arS x one) ((arU x one).way ((some (i,t,s)))) ((run (cAr true false) 300).code Qs arA (aJ (arS x one) ((arU x one).S (some (i,t,s)))))=some (.p (af4 x one i t s)):=by kernel_rfl
structure ArD (x:Int) (one:List Int):Prop where
 d:Dig one
 l:one.length<=100
 hi:val one<=PP
 x0:2<=x
 x1:x<=30000
 lo:0<arQ x one / 1
theorem ArD.xx {x:Int} {one:List Int} (h:ArD x one):4<=x*x/\x*x<=900000000/\i64.wrap (x*x)=x*x:=by have x0:=h.x0;have x1:=h.x1;have a:=bC (a:=2) (b:=2) (c:=x) (d:=x) x0 x0 (by decide) (by omega);have b:=bC (a:=x) (b:=x) (c:=30000) (d:=30000) x1 x1 (by omega) (by decide);exact ⟨by omega,by omega,iw (by omega) (by omega)⟩
theorem Qu {t m:Int} (c:0<=t) (d:2<=m):0<=t / m/\2*(t / m)<=t:=by have a:=bu c (show 0<=m by omega);have h1:=oP t (b:=m) (by omega);have h2:=bq d a;exact ⟨a,by omega⟩
theorem UU {t m:Int} (a:0<=t) (b:1<=m):0<=t / m/\t / m<=t:=⟨bu a (by omega),kS _ a⟩
theorem KZ {a b m n:Int} (c:0<=a) (h1:a<=b) (h2:1<=n) (h3:n<=m):a / m<=b / n:=by have f:=oP a (b:=m) (by omega);have d:0<=a / m:=bu c (by omega);have p2:=bq h3 d;exact (jf (by omega)).2 (by omega)
theorem ArD.q {x:Int} {one:List Int} (h:ArD x one):0<=arQ x one/\arQ x one<=PP:=by have v0:=aO h.d;have x0:=h.x0;obtain ⟨a,b,_⟩:=h.xx;refine ⟨bu (aV v0 (by omega)) (by omega),jk (gM (by omega) ?_) h.hi⟩;refine bq ?_ v0;have:=bq (show 1<=x by omega) (show 0<=x by omega);omega
theorem aaW {x:Int} {one:List Int} (h:ArD x one):arR x one (some (3,arQ x one,arQ x one / 1))=arR x one none:=by show jc x 199 3 _ _=jc x (199+1) 1 (val one*x) 0;rw [KY (show val one*x / (x*x) / 1≠0 from by have:=h.lo;unfold arQ at this;omega)];show _=jc x 199 (1+2) (val one*x / (x*x)) (0+val one*x / (x*x) / 1);rw [oW];rfl
theorem af5 {x:Int} {one:List Int} {i t s:Int} (hi:(i / 2).toNat<=199) (h:t / (x*x) / i=0):arR x one (some (i,t,s))=s:=by show jc x (200 - (i / 2).toNat) i t s=s;rw [show 200 - (i / 2).toNat=(199 - (i / 2).toNat)+1 by omega,aaH h]
theorem aaX {x:Int} {one:List Int} {i t s:Int} (a:0<=i) (hi:(i / 2).toNat<=199) (h:t / (x*x) / i≠0):arR x one ((arU x one).next (some (i,t,s)))=arR x one (some (i,t,s)):=by
 show jc x (200 - ((i+2) / 2).toNat) (i+2) (t / (x*x)) _=jc x (200 - (i / 2).toNat) i t s;rw [show 200 - (i / 2).toNat=(199 - (i / 2).toNat)+1 by omega,KY h,show 200 - ((i+2) / 2).toNat=199 - (i / 2).toNat by omega]
 first|done|rfl
theorem WF {x:Int} {one:List Int} (h:ArD x one):(arU x one).I ((arU x one).next none):=by obtain ⟨b,c⟩:=h.q;have a:=h.lo;rw [Ee] at a;have p:=lm;show 0<arQ x one/\(3:Int) % 2=1/\(2:Int)<3/\(3:Int)<=399/\(2:Int) ^ (1:Nat)*arQ x one<=4*PP/\0<=arQ x one / 1/\((3:Int) % 4=3->arQ x one / (3 - 2)<=arQ x one / 1)/\arQ x one / 1<=3*PP;rw [show (3:Int) - 2=1 from rfl,Ee,show (2:Int) ^ (1:Nat)=2 from rfl];refine ⟨a,by decide,by decide,by decide,by omega,b,by omega,by omega⟩
theorem aaY {x:Int} {one:List Int} (h:ArD x one) {i t s:Int} (f:(arU x one).I (some (i,t,s))) (c:t / (x*x) / i≠0):(arU x one).I ((arU x one).next (some (i,t,s))):=by
 obtain ⟨t0,i0,i1,r,pw,s0,g,sb⟩:=(show 0<t/\i % 2=1/\2<i/\i<=399/\2 ^ (i / 2).toNat*t<=4*PP/\0<=s/\(i % 4=3->t / (i - 2)<=s)/\s<=i*PP from f);obtain ⟨v,y,_⟩:=h.xx;obtain ⟨b,j⟩:=Qu (t:=t) (m:=x*x) (by omega) (by omega);obtain ⟨c0,c1⟩:=UU (t:=t / (x*x)) (m:=i) b (by omega);have cm:i % 4=3->t / (x*x) / i<=t / (i - 2):=fun _=>KZ b (by omega) (by omega) (by omega);have z:t / (x*x) / (i+2 - 2)<=t / (x*x) / i:=by rw [show i+2 - 2=i by omega];exact dO _
 have k:=M4 t0 pw;have hp:(2:Int) ^ ((i+2) / 2).toNat*(t / (x*x))<=4*PP:=by rw [show ((i+2) / 2).toNat=(i / 2).toNat+1 by omega,zC,dM];have:(2:Int) ^ (i / 2).toNat*(2*(t / (x*x)))<=2 ^ (i / 2).toNat*t:=bq j (D6 (by decide));omega
 have A:t<=2*PP:=by
  have D:(2:Int)*t<=2 ^ (i / 2).toNat*t:=by
   refine bG ?_ (by omega);have:=kM (n:=2) (by decide) (show 1<=(i / 2).toNat by omega);have l:((2 ^ 1:Nat):Int)<=((2 ^ (i / 2).toNat:Nat):Int):=by exact_mod_cast this
   simpa using l
  omega
 have E:(i+2)*PP=i*PP+2*PP:=iQ _ _ _;have p:=lm;have o:0<t / (x*x):=by
  rcases Int.lt_or_eq_of_le b with e|e
  .exact e
  .rw [<- e] at c;simp at c
 show 0<t / (x*x)/\(i+2) % 2=1/\2<i+2/\i+2<=399/\2 ^ ((i+2) / 2).toNat*(t / (x*x))<=4*PP/\0<=(match decide (i % 4=1) with|true=>s+t / (x*x) / i|false=>s - t / (x*x) / i)/\((i+2) % 4=3->t / (x*x) / (i+2 - 2)<=(match decide (i % 4=1) with|true=>s+t / (x*x) / i|false=>s - t / (x*x) / i))/\(match decide (i % 4=1) with|true=>s+t / (x*x) / i|false=>s - t / (x*x) / i)<=(i+2)*PP;have q:0<=(match decide (i % 4=1) with|true=>s+t / (x*x) / i|false=>s - t / (x*x) / i)/\((i+2) % 4=3->t / (x*x) / (i+2 - 2)<=(match decide (i % 4=1) with|true=>s+t / (x*x) / i|false=>s - t / (x*x) / i))/\(match decide (i % 4=1) with|true=>s+t / (x*x) / i|false=>s - t / (x*x) / i)<=(i+2)*PP:=by
  by_cases d:i % 4=1
  .rw [show (match decide (i % 4=1) with|true=>s+t / (x*x) / i|false=>s - t / (x*x) / i)=s+t / (x*x) / i by rw [aI d]];generalize t / (x*x) / i=u at *
   refine ⟨by omega,by omega,by omega⟩
  .have a:i % 4=3:=by omega
   have a1:=g a;have a2:=cm a;rw [show (match decide (i % 4=1) with|true=>s+t / (x*x) / i|false=>s - t / (x*x) / i)=s - t / (x*x) / i by rw [aG d]];generalize t / (x*x) / i=u at *
   generalize t / (i - 2)=w at *
   refine ⟨by omega,by omega,by omega⟩
 refine ⟨o,by omega,by omega,by omega,hp,q⟩
theorem CS (x:Int):val [x]=x:=by simp [val]
theorem GH {x:Int} (a:0<=x) (h1:x<1000000000):Dig [x]:=fA.2 ⟨⟨a,h1⟩,jF⟩
theorem af6 {x:Int} {one:List Int} (h:ArD x one):CodeOk cZ Qs (.loop arA) (arS x one) ⟨.tt,[⟨.tt,.ret,aJ (arS x one) (arX (arR x one none))⟩]⟩:=by
 refine jm (arU x one) (y0:=none) trivial ⟨_,aaS x one,rfl⟩ (by kernel_rfl) (fun y F=>?_) rfl;have v0:=aO h.d;have v1:=h.hi;have yl:=h.l;have x0:=h.x0;have x1:=h.x1;have p:=lm;obtain ⟨xa,xb,b⟩:=h.xx
 cases y with
 | none=>
  obtain ⟨H,q1⟩:=h.q;have N:=h.lo;have u:val (aA (val one*val [x]).toNat)=val one*x:=by rw [CS,dv (aV v0 (by omega))]
  have Q:val (aA (val one*val [x]).toNat) / i64.wrap (x*x)=arQ x one:=by rw [u,b];rfl
  have I:=dv H;have v:=dv (a:=arQ x one / 1) (by omega);have l1:(aA (val one*val [x]).toNat).length<=500000:=by
   rw [CS];refine dF (rA (n:=8) (aV v0 (by omega)) ?_) (by decide);have:=bC v1 x1 (by omega) (by omega);have e:PP*30000<pw 8:=by decide
   omega
  have lq:=qU H (by omega);have O:=qU (a:=arQ x one / 1) (by omega) (by rw [Ee];omega);have P:=Qq N;refine ⟨cAr false true,300,M6 _ _,rfl,rfl,_,aoE x one,?_,fun _=>?_⟩
  .rw [Q,b,I];refine ⟨⟨⟨rfl,bU _,l1,by omega,by omega⟩,rfl,bU _,by omega,by decide,by decide⟩,dm.2 (by omega),rfl,rfl,jF,bU _,.inr P,by decide,by omega⟩
  .rw [Q,I,v];have z:val []+arQ x one / 1=arQ x one / 1:=oW _;rw [z];exact ⟨⟨⟨rfl,by decide⟩,rfl,rfl,rfl⟩,WF h,by show (400 - 3:Int).toNat<400;omega,bL (fun z=>(Ex.ret,arX z)) (aaW h)⟩
 | some y=>
  obtain ⟨i,t,s⟩:=y;have W:=F;obtain ⟨t0,i0,i1,i2,pw2,s0,X,sb⟩:=(show 0<t/\i % 2=1/\2<i/\i<=399/\2 ^ (i / 2).toNat*t<=4*PP/\0<=s/\(i % 4=3->t / (i - 2)<=s)/\s<=i*PP from F);have k:=M4 t0 pw2;obtain ⟨o,b1⟩:=Qu (t:=t) (m:=x*x) (by omega) (by omega);obtain ⟨c0,c1⟩:=UU (t:=t / (x*x)) (m:=i) o (by omega);have ht:t<=4*PP:=by
   have h4:(1:Int)*t<=2 ^ (i / 2).toNat*t:=by
    refine bG ?_ (by omega);have:=DC (n:=(i / 2).toNat);have u:((1:Nat):Int)<=((2 ^ (i / 2).toNat:Nat):Int):=by exact_mod_cast this
    simpa using u
   omega
  have Y:s<=400*PP:=by have:i*PP<=400*PP:=bG (by omega) (by omega);omega
  have c:=dv (a:=t) (by omega);have w:=dv s0;have f:=dv o;have A:=dv c0;have dt:=bU t.toNat;have J:=bU s.toNat;have D:=bU (t / (x*x)).toNat;have K:=bU (t / (x*x) / i).toNat;have lt:=qU (a:=t) (by omega) (by omega);have ls:=qU s0 Y;have lb:=qU o (by omega);have lc:=qU c0 (by omega);have L:i64.wrap (i+2)=i+2:=iw (by omega) (by omega);by_cases r:t / (x*x) / i=0
  .refine ⟨cAr true false,300,M6 _ _,rfl,rfl,_,ar3 x one i t s,?_,fun _=>⟨⟨rfl,rfl⟩,bL (fun z=>(Ex.ret,arX z)) (af5 (by omega) r)⟩⟩;rw [c,b,f,r];exact ⟨⟨⟨rfl,dt,by omega,by omega,by omega⟩,rfl,D,by omega,by omega,by omega⟩,by rw [show aA (0:Int).toNat=[] from gU];rfl⟩
  .have lq:=Qq (a:=t / (x*x) / i) (by omega);have M:=aaY h W r;have nr:=aaX (x:=x) (one:=one) (i:=i) (t:=t) (s:=s) (by omega) (by omega) r;have mu:(400 - (i+2)).toNat<(400 - i).toNat:=by omega
   by_cases E:i % 4=1
   .have g:(match decide (i % 4=1) with|true=>s+t / (x*x) / i|false=>s - t / (x*x) / i)=s+t / (x*x) / i:=by rw [aI E]
    refine ⟨cAr false true,300,M6 _ _,rfl,rfl,_,aoF x one i t s,?_,fun _=>?_⟩
    .rw [c,b,f];refine ⟨⟨⟨rfl,dt,by omega,by omega,by omega⟩,rfl,D,by omega,by omega,by omega⟩,dm.2 (by omega),?_,⟨rfl,rfl⟩,J,K,.inr lq,by omega,by omega⟩;rw [cO (by omega),E];rfl
    .rw [c,b,f,A,w];exact ⟨⟨⟨bL (fun z:Int=>((aA z.toNat).length:Int)) g.symm,L⟩,rfl,bL (fun z:Int=>aA z.toNat) g.symm,rfl⟩,M,mu,bL (fun z=>(Ex.ret,arX z)) nr⟩
   .have j:i % 4=3:=by omega
    have a1:=X j;have a2:t / (x*x) / i<=t / (i - 2):=KZ o (by omega) (by omega) (by omega);have ql:=akg c0 (show t / (x*x) / i<=s by omega);have g:(match decide (i % 4=1) with|true=>s+t / (x*x) / i|false=>s - t / (x*x) / i)=s - t / (x*x) / i:=by rw [aG E]
    refine ⟨cAr false false,300,M6 _ _,rfl,rfl,_,aoG x one i t s,?_,fun _=>?_⟩
    .rw [c,b,f,A,w];refine ⟨⟨⟨rfl,dt,by omega,by omega,by omega⟩,rfl,D,by omega,by omega,by omega⟩,dm.2 (by omega),?_,⟨rfl,rfl⟩,J,K,by omega,by omega,ql,by omega⟩;rw [cO (by omega),j];rfl
    .rw [c,b,f,A,w];exact ⟨⟨⟨bL (fun z:Int=>((aA z.toNat).length:Int)) g.symm,L⟩,rfl,bL (fun z:Int=>aA z.toNat) g.symm,rfl⟩,M,mu,bL (fun z=>(Ex.ret,arX z)) nr⟩
noncomputable def akq (x:Int) (one:List Int):Ctx:=bN cZ [dK 137 (arS x one).hp.clock Qs arA (arS x one) .ret (arX (arR x one none))]
theorem af7 {x:Int} {one:List Int} (h:ArD x one):CtxOk (akq x one):=bE vI (af6 h) (bJ vI)
def af8 (x:Int) (one:List Int):Prop:=(((↑one.length:Int)=(↑one.length:Int)/\Dig one/\Dig [x]/\one.length + [x].length<=(500000:Nat))/\At (Qs) (Qs) (arA) (arA) (arS x one) (arS x one))
def akr (x:Int) (one:List Int):AV:=(AV.lslice 1 (↑(aA (arR x one none).toNat).length:Int))
def aks (x:Int) (one:List Int):Hp:=⟨[{ wr:=15,body:=ABody.rows i64 (aA (arR x one none).toNat) },{ wr:=(0:Nat),body:=ABody.rows i64 one }],2,16⟩
theorem ar4 (x:Int) (one:List Int):(run (akq x one) 300).call 137 (Sy x one) (zH one)=some ⟨.p (af8 x one),[⟨.tt,akr x one,aks x one⟩]⟩:=by kernel_rfl
def akt:List Nu->List (List Int)->Option (Prop×To)
 | [.n x],[one]=>some (ArD x one,.li false (aA (jc x 200 1 (val one*x) 0).toNat))
 | _,_=>none
theorem aku:NOk Tryz.prog (fun _=>none) hG0 137 (bQ hG0 .i64 [.nu (.i .i64),.li] akt):=by
 refine fw (fun xs ys p t e h=>?_) ⟨_,Tryz.func137,rfl⟩;unfold akt at e;split at e
 .rename_i x one;cases e;have a:=h.l;have x0:=h.x0;have x1:=h.x1;refine ⟨akq x one,300,Sy x one,_,_,_,_,_,af7 h,rfl,rfl,⟨⟨rfl,rfl⟩,rfl,trivial⟩,ar4 x one,rfl,⟨⟨rfl,h.d,GH (by omega) (by omega),by show _+1<=_;omega⟩,⟨rfl,rfl,rfl⟩⟩,rfl,rfl,?_⟩;exact ⟨rfl,rfl⟩
 .cases e
def tZ3:List (FuncId×ku):=(137,bQ hG0 .i64 [.nu (.i .i64),.li] akt) :: (126,bQ hG0 .i64 [.li,.nu (.i .i64)] akp) :: tZ2
theorem aaZ:∀ x∈tZ3,NOk Tryz.prog (fun _=>none) hG0 x.1 x.2:=by
 intro x a;rcases aN.1 a with rfl|a
 .exact aku
 rcases aN.1 a with rfl|a
 .exact af3
 exact akl x a
def cZ3:Ctx:=mkN Tryz.prog (fun _=>none) hG0 tZ3 [] lw
theorem akv:CtxOk cZ3:=mf prog_ok (iY _) aaZ (fun x h=>by cases h)
def Jj (one:List Int):Prop:=(((↑one.length:Int)=(↑one.length:Int)/\ArD (5:Int) one)/\((↑(aA (jc (5:Int) (200:Nat) (1:Int) (val one*5) (0:Int)).toNat).length:Int)=(↑(aA (jc (5:Int) (200:Nat) (1:Int) (val one*5) (0:Int)).toNat).length:Int)/\Dig (aA (jc (5:Int) (200:Nat) (1:Int) (val one*5) (0:Int)).toNat)/\Dig [(8:Int)]/\(aA (jc (5:Int) (200:Nat) (1:Int) (val one*5) (0:Int)).toNat).length + [(8:Int)].length<=(500000:Nat))/\((↑one.length:Int)=(↑one.length:Int)/\ArD (239:Int) one)/\((↑(aA (jc (239:Int) (200:Nat) (1:Int) (val one*239) (0:Int)).toNat).length:Int)=(↑(aA (jc (239:Int) (200:Nat) (1:Int) (val one*239) (0:Int)).toNat).length:Int)/\Dig (aA (jc (239:Int) (200:Nat) (1:Int) (val one*239) (0:Int)).toNat)/\Dig [(2:Int)]/\(aA (jc (239:Int) (200:Nat) (1:Int) (val one*239) (0:Int)).toNat).length + [(2:Int)].length<=(500000:Nat))/\((↑(aA (val (aA (jc (5:Int) (200:Nat) (1:Int) (val one*5) (0:Int)).toNat)*val [(8:Int)]).toNat).length:Int)=(↑(aA (val (aA (jc (5:Int) (200:Nat) (1:Int) (val one*5) (0:Int)).toNat)*val [(8:Int)]).toNat).length:Int)/\(↑(aA (val (aA (jc (239:Int) (200:Nat) (1:Int) (val one*239) (0:Int)).toNat)*val [(2:Int)]).toNat).length:Int)=(↑(aA (val (aA (jc (239:Int) (200:Nat) (1:Int) (val one*239) (0:Int)).toNat)*val [(2:Int)]).toNat).length:Int))/\Dig (aA (val (aA (jc (5:Int) (200:Nat) (1:Int) (val one*5) (0:Int)).toNat)*val [(8:Int)]).toNat)/\Dig (aA (val (aA (jc (239:Int) (200:Nat) (1:Int) (val one*239) (0:Int)).toNat)*val [(2:Int)]).toNat)/\(0:Nat)<(aA (val (aA (jc (5:Int) (200:Nat) (1:Int) (val one*5) (0:Int)).toNat)*val [(8:Int)]).toNat).length/\(aA (val (aA (jc (5:Int) (200:Nat) (1:Int) (val one*5) (0:Int)).toNat)*val [(8:Int)]).toNat).length<=(500000:Nat)/\(aA (val (aA (jc (239:Int) (200:Nat) (1:Int) (val one*239) (0:Int)).toNat)*val [(2:Int)]).toNat).length<=(aA (val (aA (jc (5:Int) (200:Nat) (1:Int) (val one*5) (0:Int)).toNat)*val [(8:Int)]).toNat).length/\val (aA (val (aA (jc (239:Int) (200:Nat) (1:Int) (val one*239) (0:Int)).toNat)*val [(2:Int)]).toNat)<=val (aA (val (aA (jc (5:Int) (200:Nat) (1:Int) (val one*5) (0:Int)).toNat)*val [(8:Int)]).toNat))
def WG (one:List Int):AV:=(AV.lslice 1 (↑(aA (val (aA (val (aA (jc (5:Int) (200:Nat) (1:Int) (val one*5) (0:Int)).toNat)*val [(8:Int)]).toNat) - val (aA (val (aA (jc (239:Int) (200:Nat) (1:Int) (val one*239) (0:Int)).toNat)*val [(2:Int)]).toNat)).toNat).length:Int))
def WH (one:List Int):Hp:=⟨[{ wr:=12,body:=ABody.rows i64 (aA (val (aA (val (aA (jc (5:Int) (200:Nat) (1:Int) (val one*5) (0:Int)).toNat)*val [(8:Int)]).toNat) - val (aA (val (aA (jc (239:Int) (200:Nat) (1:Int) (val one*239) (0:Int)).toNat)*val [(2:Int)]).toNat)).toNat) },{ wr:=(0:Nat),body:=ABody.rows i64 one }],2,13⟩
theorem af9 (one:List Int):(run cZ3 300).call 120 [.lslice 0 one.length] (zH one)=some ⟨.p (Jj one),[⟨.tt,WG one,WH one⟩]⟩:=by kernel_rfl
def RGT:Int:=1570796326794896619231321691639751442098584716
def akw:List Nu->List (List Int)->Option (Prop×To)
 | [],[one]=>some (Dig one/\one.length<=100/\val one=PP,.li false (aA RGT.toNat))
 | _,_=>none
theorem aoH:jc 5 200 1 (PP*5) 0=197395559849880758370049765194790293447585106:=by kernel_rfl
theorem aga:jc 239 200 1 (PP*239) 0=4184076002074723864538214959285452741048066:=by kernel_rfl
theorem akx:NOk Tryz.prog (fun _=>none) hG0 120 (bQ hG0 .i64 [.li] akw):=by
 refine fw (fun xs ys p t e h=>?_) ⟨_,Tryz.func120,rfl⟩;unfold akw at e;split at e
 .rename_i one;cases e;obtain ⟨hd,i,g⟩:=h;have r:ArD 5 one:=⟨hd,i,by omega,by decide,by decide,by unfold arQ;rw [g];decide⟩;have f:ArD 239 one:=⟨hd,i,by omega,by decide,by decide,by unfold arQ;rw [g];decide⟩;have j:jc 5 200 1 (val one*5) 0=197395559849880758370049765194790293447585106:=by rw [g];exact aoH
  have c:jc 239 200 1 (val one*239) 0=4184076002074723864538214959285452741048066:=by rw [g];exact aga
  have k:val (aA (Int.toNat 197395559849880758370049765194790293447585106))=197395559849880758370049765194790293447585106:=dv (by decide);have d:val (aA (Int.toNat 4184076002074723864538214959285452741048066))=4184076002074723864538214959285452741048066:=dv (by decide);have l:val [8]=8:=CS 8;have m:val [2]=2:=CS 2;have v:(aA (Int.toNat 197395559849880758370049765194790293447585106)).length<=6:=qU (a:=197395559849880758370049765194790293447585106) (by decide) (by decide);have n:(aA (Int.toNat 4184076002074723864538214959285452741048066)).length<=6:=qU (a:=4184076002074723864538214959285452741048066) (by decide) (by decide);have w:(aA (Int.toNat (197395559849880758370049765194790293447585106*8))).length<=6:=qU (a:=197395559849880758370049765194790293447585106*8) (by decide) (by decide);have s:(aA (Int.toNat (4184076002074723864538214959285452741048066*2))).length<=(aA (Int.toNat (197395559849880758370049765194790293447585106*8))).length:=akg (a:=4184076002074723864538214959285452741048066*2) (b:=197395559849880758370049765194790293447585106*8) (by decide) (by decide);have u:0<(aA (Int.toNat (197395559849880758370049765194790293447585106*8))).length:=Qq (a:=197395559849880758370049765194790293447585106*8) (by decide);have o:val (aA (Int.toNat (197395559849880758370049765194790293447585106*8)))=197395559849880758370049765194790293447585106*8:=dv (by decide);have q:val (aA (Int.toNat (4184076002074723864538214959285452741048066*2)))=4184076002074723864538214959285452741048066*2:=dv (by decide);refine ⟨cZ3,300,[.lslice 0 one.length],_,_,_,_,_,akv,rfl,rfl,⟨rfl,trivial⟩,af9 one,rfl,?_,rfl,rfl,?_⟩
  .unfold Jj;rw [j,c,k,d,l,m,o,q];refine ⟨⟨rfl,r⟩,⟨rfl,bU _,GH (by decide) (by decide),by show _+1<=_;omega⟩,⟨rfl,f⟩,⟨rfl,bU _,GH (by decide) (by decide),by show _+1<=_;omega⟩,⟨rfl,rfl⟩,bU _,bU _,u,by omega,s,by decide⟩
  .refine ⟨rfl,?_⟩;show aA (val (aA (val (aA (jc 5 200 1 (val one*5) 0).toNat)*val [8]).toNat) - val (aA (val (aA (jc 239 200 1 (val one*239) 0).toNat)*val [2]).toNat)).toNat=_;rw [j,c,k,d,l,m,o,q];rfl
 .cases e
def aoI:List (Nat×Nat×Nat×AV)->Nat->Nat->Option AV
 | [],_,_=>none
 | (a,b,d,v) :: l,c,t=>match Nat.beq t d&&Nat.ble a c&&Nat.ble c b with
  | true=>some v
  | false=>aoI l c t
end
end Go.Proofs.YtbiiiloimbjpaaaGreatDoor.K
namespace Go.Dg
def RG:Int:=1570796326794896619231321691639751442098584716
def eG (m d:Int):Int:=RG*m / d
def rC (m d:Int):Int:=uE (eG m d*eG m d / PP) 200 2 (eG m d) (eG m d)
def qV (m d:Int):Int:=(rC m d - 100000000)*4294967296 / PP
structure SinG (m d:Int):Prop where
 t:0<eG m d*(eG m d*eG m d / PP) / PP / (2*(2+1))
 hi:rC m d<=2*PP
 far:100000000<rC m d
 same:(rC m d+100000000)*4294967296 / PP=qV m d
def jD (m d:Int):Int:=if m=0 then 0 else if m=d then 4294967296 else if 3*m=d then 2147483648 else qV m d
def jE (m d:Int):Int:=if m=0 then 0 else if m=d then 4294967296 else if 3*m=d then 2147483648 else qV m d+1
theorem aky {r c D R:Int} (k:0<=r) (h1:r<858993459200000000) (c0:0<=c) (c1:c<1000000000) (hD:D=r / 858993459) (l:R=r % 858993459):
  0<=D/\D<=1000000000/\0<=R/\R<858993459 /\
  ((D>=1000000000\/D*200000000>R*1000000000+c)->D - 1=(r*1000000000+c) / 858993459200000000/\¬ (D - 1>=1000000000)/\¬ ((D - 1)*200000000>(R+858993459)*1000000000+c)) /\
  (¬ (D>=1000000000\/D*200000000>R*1000000000+c)->D=(r*1000000000+c) / 858993459200000000):=by
 have e:r=858993459*D+R:=by omega
 have f:0<=R:=by omega
 have g:R<858993459:=by omega
 have i:0<=D:=by omega
 have j:D<=1000000000:=by omega
 have d:∀ q:Int,q*858993459200000000<=r*1000000000+c->r*1000000000+c<(q+1)*858993459200000000->q=(r*1000000000+c) / 858993459200000000:=fun q a b=>by omega
 refine ⟨i,j,f,g,fun h=>⟨d _ ?_ ?_,?_,?_⟩,fun h=>d _ ?_ ?_⟩ <;> omega
theorem agb {r c e:Int} (p:0<=r) (h1:r<858993459200000000) (c0:0<=c) (c1:c<1000000000) (q:e=(r*1000000000+c) / 858993459200000000)
  {p3 p4 n a b p7 p8 m g f d h:Int} (e3:p3=200000000*e % 1000000000) (s:p4=200000000*e / 1000000000) (v:n=c - p3) (k:a=if n<0 then n+1000000000 else n) (eb:b=if n<0 then p4+1 else p4)
  (w:p7=858993459*e % 1000000000) (x:p8=858993459*e / 1000000000) (y:m=r % 1000000000 - p7 - b) (i:g=if m<0 then m+1000000000 else m) (j:f=if g<0 then g+1000000000 else g)
  (o:d=if m<0 then p8+1 else p8) (l:h=if g<0 then d+1 else d):
  ¬ a<0/\a=(r*1000000000+c) % 858993459200000000 % 1000000000/\f=(r*1000000000+c) % 858993459200000000 / 1000000000/\r / 1000000000=h:=by
 have A:0<=e:=by omega
 have D:e<1000000000:=by omega
 have E:0<=r*1000000000+c - e*858993459200000000:=by omega
 have F:r*1000000000+c - e*858993459200000000<858993459200000000:=by omega
 have H:0<=a/\a<1000000000:=by omega
 have I:c - 200000000*e=a - 1000000000*b:=by split at k <;> split at eb <;> omega
 have J:r % 1000000000 - 858993459*e - b=f - 1000000000*h:=by split at i <;> split at j <;> split at o <;> split at l <;> omega
 have K:0<=f/\f<1000000000:=by
  have:0<=b/\b<=200000001:=by split at eb <;> omega
  split at i <;> split at j <;> omega
 have t:r*1000000000+c - e*858993459200000000=(r / 1000000000 - h)*1000000000000000000+f*1000000000+a:=by omega
 have z:r / 1000000000 - h=0:=by omega
 have u:(r*1000000000+c) % 858993459200000000=f*1000000000+a:=by omega
 rw [u];refine ⟨by omega,by omega,by omega,by omega⟩
def cyN (x:Nat->Int):Nat->Int
 | 0=>0
 | i+1=>(x i*200000000+cyN x i) / 1000000000
def dyN (x:Nat->Int) (i:Nat):Int:=(x i*200000000+cyN x i) % 1000000000
def rmN (x:Nat->Int) (n:Nat):Nat->Int
 | 0=>cyN x n*1000000000+dyN x (n - 1)
 | k+1=>(rmN x n k*1000000000+dyN x (n - 2 - k)) % 858993459200000000
def qyN (x:Nat->Int) (n k:Nat):Int:=(rmN x n k*1000000000+dyN x (n - 2 - k)) / 858993459200000000
def n1N (x:Nat->Int) (n k:Nat):Int:=dyN x (n - 2 - k) - 200000000*qyN x n k % 1000000000
def b1N (x:Nat->Int) (n k:Nat):Int:=if n1N x n k<0 then 200000000*qyN x n k / 1000000000+1 else 200000000*qyN x n k / 1000000000
def ovW (x:Nat->Int) (n:Nat) (k i:Nat):Int:=
 match k with
 | 20=>dyN x i
 | 21=>cyN x (i+1)
 | _=>match i with
  | 0=>rmN x n k / 1000000000
  | 1=>rmN x n k % 1000000000
  | 2=>qyN x n k
  | 3=>200000000*qyN x n k % 1000000000
  | 4=>200000000*qyN x n k / 1000000000
  | 5=>rmN x n (k+1) % 1000000000
  | 6=>b1N x n k
  | 7=>858993459*qyN x n k % 1000000000
  | 8=>858993459*qyN x n k / 1000000000
  | 9=>rmN x n (k+1) / 1000000000
  | 10=>rmN x n k / 1000000000
  | _=>qyN x n k
theorem aa0 {x:Nat->Int} {n:Nat} (h:∀ i,i<n->0<=x i/\x i<1000000000):∀ i,i<=n->0<=cyN x i/\cyN x i<200000000
 | 0,_=>by unfold cyN;omega
 | i+1,hi=>by
  have a:=aa0 h i (by omega);have b:=h i (by omega);unfold cyN;omega
theorem UV (x:Nat->Int) (i:Nat):0<=dyN x i/\dyN x i<1000000000:=by unfold dyN;omega
theorem K3 {x:Nat->Int} {n:Nat} (h:∀ i,i<n->0<=x i/\x i<1000000000):∀ k,0<=rmN x n k/\rmN x n k<858993459200000000
 | 0=>by
  have a:=aa0 h n (bD n);have b:=UV x (n - 1);unfold rmN;omega
 | k+1=>by
  unfold rmN;omega
end Go.Dg
