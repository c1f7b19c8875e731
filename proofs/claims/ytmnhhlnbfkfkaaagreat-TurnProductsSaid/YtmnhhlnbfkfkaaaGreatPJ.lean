/- What is proved: TurnProducts returns true, whatever the input (part 10). No conditions beyond those of the row. -/
import Derived.Test.YtmnhhlnbfkfkaaaGreatPI
import Derived.KernelRfl
set_option linter.unusedVariables false
set_option linter.unusedSimpArgs false
set_option linter.unusedSectionVars false
namespace Go.Proofs.YtmnhhlnbfkfkaaaGreat.K
open Go Go.Eng Go.Dg
noncomputable section
def UC:List Nu->List (List Int)->Option (Prop×To)
 | [],[a,b]=>some (Dig a/\Dig b/\0<a.length/\a.length<=500000/\b.length<=a.length/\val b<=val a,.li false (aa (val a - val b).toNat))
 | _,_=>none
theorem PE:NOk Tryz.prog (fun _=>none) hG0 104 (au hG0 .i64 [.li,.li] UC):=by
 refine bg (fun xs ys p t e h=>?_) ⟨_,Tryz.func104,rfl⟩
 unfold UC at e
 split at e
 .rename_i a b
  cases e
  obtain ⟨ha,hb,l0,l1,hl,hv⟩:=h
  have hV:0<=uN a b:=by unfold uN; omega
  have b0:=af hb
  have a1:=bc ha
  have ev:val (miD a b)=val a - val b:=dw hV (by unfold uN; omega)
  exact ⟨cMt a b,300,zB a b,_,_,_,_,_,UB ha hb l1 hl hV,rfl,rfl,⟨rfl,rfl,trivial⟩,Yv a b,rfl,⟨⟨by omega,rfl,by omega,by omega⟩,⟨rfl,rfl,rfl⟩,⟨rfl,rfl,rfl⟩,⟨rfl,rfl,rfl⟩⟩,rfl,rfl,x8 (c5 _ _) (by rw [yc]) ev⟩
 .cases e
def lQ:AFr:=⟨105,none⟩
def Bg:Code:=bJ Tryz.prog 105 0
def yd:Code:=bJ Tryz.prog 105 1
def cPl (s:Bool):Ctx:=cHb [(13,s)]
theorem ye (s:Bool):CtxOk (cPl s):=lP _
def bC (s:Bool) (a b:List Int):List Int:=match s with|true=>b|false=>a
def shA (s:Bool) (a b:List Int):List Int:=match s with|true=>a|false=>b
noncomputable def q1S (s:Bool) (a b:List Int):St:=ib (cPl s) 300 105 (zB a b) (zG a b)
def q1P (i:Int) (d:List Int):Patch:=⟨aC 6 2++(25,.int true .i64 i) :: aC 26 12,[(2,.ints .i64 d)],[]⟩
def q1D (s:Bool) (a b:List Int) (i:Int):List Int:=jn (bC s a b++[0]) ((shA s a b).take i.toNat)
def q1X (s:Bool) (a b:List Int):Patch:=q1P (shA s a b).length (q1D s a b (shA s a b).length)
def q1U (s:Bool) (a b:List Int):SumL Int:=
 {
  S:=fun i=>q1P i (q1D s a b i)
  I:=fun i=>0<=i/\i<=(shA s a b).length
  μ:=fun i=>((shA s a b).length - i).toNat
  F:=fun _=>(.exit 0,q1X s a b)
  next:=fun i=>i+1
  ids:=fun _=>[]
  X:=fun i _=>some (q1P i (q1D s a b i),[]) }
noncomputable def cQ1 (s:Bool) (a b:List Int):Ctx:=aw (cPl s) [aR 105 (q1S s a b).hp.clock lQ Bg (q1S s a b) (.exit 0) (q1X s a b)]
noncomputable def q2S (s:Bool) (a b:List Int):St:=ib (cQ1 s a b) 300 105 (zB a b) (zG a b)
def q2P (i:Int) (d:List Int):Patch:=⟨(8,.any false) :: (40,.int true .i64 i) :: aC 41 21,[(2,.ints .i64 d)],[]⟩
def plV (a b:List Int):Int:=val a+val b
def q2F (s:Bool) (a b:List Int):List Int:=aG ((bC s a b).length+1) (plV a b)
def q2U (s:Bool) (a b:List Int):SumL (Int×List Int):=
 {
  S:=fun (i,d)=>q2P i d
  I:=fun (i,d)=>0<=i/\NcI (bC s a b).length (plV a b) i.toNat d
  μ:=fun (i,_)=>((bC s a b).length - i).toNat
  F:=fun _=>(.exit 2,q2P (bC s a b).length (q2F s a b))
  next:=fun (i,d)=>(i+1,bif decide (d.getD i.toNat 0>=1000000000) then (d.set i.toNat (d.getD i.toNat 0 - 1000000000)).set (i.toNat+1) ((d.set i.toNat (d.getD i.toNat 0 - 1000000000)).getD (i.toNat+1) 0+1) else d)
  ids:=fun _=>[]
  X:=fun (i,d) _=>some (q2P i d,[]) }
def Bh (s:Bool) (a b:List Int):Prop:=(0:Int)=0/\FM (List.replicate (IntKind.i64.wrap ((↑(bC s a b).length:Int)+1)).toNat (0:Int)) (Int.toNat (0:Int)) (bC s a b)=q1D s a b (0:Int)
theorem KI (s:Bool) (a b:List Int):fit (q1S s a b) (q1S s a b) (ac (q1S s a b) ((q1U s a b).S 0)) ([])=some (.p (Bh s a b)):=by cases s <;> kernel_rfl
def Db (s:Bool) (a b:List Int) (i:Int):Prop:=(decide (i<(↑(shA s a b).length:Int))=true->(((0:Int)<=i/\i<(↑(shA s a b).length:Int))/\i.toNat<(shA s a b).length)/\((0:Int)<=i/\i<IntKind.i64.wrap ((↑(bC s a b).length:Int)+1))/\((0:Int)+i).toNat<(q1D s a b i).length/\((0:Int)<=i/\i<IntKind.i64.wrap ((↑(bC s a b).length:Int)+1))/\((0:Int)+i).toNat<(q1D s a b i).length)/\((!decide (i<(↑(shA s a b).length:Int)))=true->(i=i/\q1D s a b i=q1D s a b i)/\(q1U s a b).F i=(Ex.exit (0:Nat),q1P i (q1D s a b i)))/\(decide (i<(↑(shA s a b).length:Int))=true->(IntKind.i64.wrap (i+1)=(q1U s a b).next i/\(q1D s a b i).set ((0:Int)+i).toNat (IntKind.i64.wrap ((q1D s a b i).getD ((0:Int)+i).toNat (0:Int)+(shA s a b).getD i.toNat (0:Int)))=q1D s a b ((q1U s a b).next i))/\(q1U s a b).I ((q1U s a b).next i)/\(q1U s a b).μ ((q1U s a b).next i)<(q1U s a b).μ i/\(q1U s a b).F ((q1U s a b).next i)=(q1U s a b).F i)
theorem PF (s:Bool) (a b:List Int) (i:Int):aW (q1S s a b) ((q1U s a b).way (i)) ((run cL 300).code lQ Bg (ac (q1S s a b) ((q1U s a b).S i)))=some (.p (Db s a b i)):=by cases s <;> kernel_rfl
def Bi (s:Bool) (a b:List Int):Prop:=(0:Int)=0/\q1D s a b (↑(shA s a b).length:Int)=q1D s a b (↑(shA s a b).length:Int)
theorem KJ (s:Bool) (a b:List Int):fit (q2S s a b) (q2S s a b) (ac (q2S s a b) ((q2U s a b).S (0,q1D s a b (shA s a b).length))) ([])=some (.p (Bi s a b)):=by cases s <;> kernel_rfl
def GU (s:Bool) (a b:List Int) (i:Int) (d:List Int):Prop:=decide (i<(↑(bC s a b).length:Int))=false/\(true=true->(i=i/\d=d)/\(q2U s a b).F (i,d)=(Ex.exit (2:Nat),q2P i d))
theorem UD (s:Bool) (a b:List Int) (i:Int) (d:List Int):aW (q2S s a b) ((q2U s a b).way ((i,d))) ((run (cHb [(41,false)]) 300).code lQ yd (ac (q2S s a b) ((q2U s a b).S (i,d))))=some (.p (GU s a b i d)):=by cases s <;> kernel_rfl
def Dc (s:Bool) (a b:List Int) (i:Int) (d:List Int):Prop:=(decide (i<(↑(bC s a b).length:Int))=true/\((0:Int)<=i/\i<IntKind.i64.wrap ((↑(bC s a b).length:Int)+1))/\((0:Int)+i).toNat<d.length/\decide (d.getD ((0:Int)+i).toNat (0:Int)>=1000000000)=false)/\(true=true->(IntKind.i64.wrap (i+1)=i+1/\d=bif decide (d.getD i.toNat (0:Int)>=1000000000) then (d.set i.toNat (d.getD i.toNat (0:Int) - (1000000000:Int))).set (i.toNat+(1:Nat)) ((d.set i.toNat (d.getD i.toNat (0:Int) - (1000000000:Int))).getD (i.toNat+(1:Nat)) (0:Int)+1) else d)/\(q2U s a b).I ((q2U s a b).next (i,d))/\(q2U s a b).μ ((q2U s a b).next (i,d))<(q2U s a b).μ (i,d)/\(q2U s a b).F ((q2U s a b).next (i,d))=(q2U s a b).F (i,d))
theorem PG (s:Bool) (a b:List Int) (i:Int) (d:List Int):aW (q2S s a b) ((q2U s a b).way ((i,d))) ((run (cHb [(41,true),(47,false)]) 300).code lQ yd (ac (q2S s a b) ((q2U s a b).S (i,d))))=some (.p (Dc s a b i d)):=by cases s <;> kernel_rfl
def Dd (s:Bool) (a b:List Int) (i:Int) (d:List Int):Prop:=(decide (i<(↑(bC s a b).length:Int))=true/\(((0:Int)<=i/\i<IntKind.i64.wrap ((↑(bC s a b).length:Int)+1))/\((0:Int)+i).toNat<d.length/\decide (d.getD ((0:Int)+i).toNat (0:Int)>=1000000000)=true)/\(((0:Int)<=i/\i<IntKind.i64.wrap ((↑(bC s a b).length:Int)+1))/\((0:Int)+i).toNat<d.length/\((0:Int)<=i/\i<IntKind.i64.wrap ((↑(bC s a b).length:Int)+1))/\((0:Int)+i).toNat<d.length)/\((0:Int)<=IntKind.i64.wrap (i+1)/\IntKind.i64.wrap (i+1)<IntKind.i64.wrap ((↑(bC s a b).length:Int)+1))/\((0:Int)+IntKind.i64.wrap (i+1)).toNat<(d.set ((0:Int)+i).toNat (IntKind.i64.wrap (d.getD ((0:Int)+i).toNat (0:Int) - (1000000000:Int)))).length/\((0:Int)<=IntKind.i64.wrap (i+1)/\IntKind.i64.wrap (i+1)<IntKind.i64.wrap ((↑(bC s a b).length:Int)+1))/\((0:Int)+IntKind.i64.wrap (i+1)).toNat<(d.set ((0:Int)+i).toNat (IntKind.i64.wrap (d.getD ((0:Int)+i).toNat (0:Int) - (1000000000:Int)))).length)/\(true=true->(IntKind.i64.wrap (i+1)=i+1/\(d.set ((0:Int)+i).toNat (IntKind.i64.wrap (d.getD ((0:Int)+i).toNat (0:Int) - (1000000000:Int)))).set ((0:Int)+IntKind.i64.wrap (i+1)).toNat (IntKind.i64.wrap ((d.set ((0:Int)+i).toNat (IntKind.i64.wrap (d.getD ((0:Int)+i).toNat (0:Int) - (1000000000:Int)))).getD ((0:Int)+IntKind.i64.wrap (i+1)).toNat (0:Int)+1))=bif decide (d.getD i.toNat (0:Int)>=1000000000) then (d.set i.toNat (d.getD i.toNat (0:Int) - (1000000000:Int))).set (i.toNat+(1:Nat)) ((d.set i.toNat (d.getD i.toNat (0:Int) - (1000000000:Int))).getD (i.toNat+(1:Nat)) (0:Int)+1) else d)/\(q2U s a b).I ((q2U s a b).next (i,d))/\(q2U s a b).μ ((q2U s a b).next (i,d))<(q2U s a b).μ (i,d)/\(q2U s a b).F ((q2U s a b).next (i,d))=(q2U s a b).F (i,d))
theorem PH (s:Bool) (a b:List Int) (i:Int) (d:List Int):aW (q2S s a b) ((q2U s a b).way ((i,d))) ((run (cHb [(41,true),(47,true)]) 300).code lQ yd (ac (q2S s a b) ((q2U s a b).S (i,d))))=some (.p (Dd s a b i d)):=by cases s <;> kernel_rfl
theorem KL (u:List Int):FM (List.replicate (u.length+1) 0) 0 u=u++[0]:=by
 unfold FM
 rw [List.take_zero,List.nil_append,List.drop_replicate,show u.length+1 - (0+u.length)=1 by omega]
 rfl
theorem PI (s:Bool) (a b:List Int) (i:Int):(q1D s a b i).length=(bC s a b).length+1:=by
 unfold q1D
 rw [pu]; simp
theorem PJ {s:Bool} {a b:List Int} (ha:Dig a) (hb:Dig b) (la:(bC s a b).length<=400000) (hl:(shA s a b).length<=(bC s a b).length):CodeOk cL lQ (.loop Bg) (q1S s a b) ⟨.tt,[⟨.tt,.exit 0,ac (q1S s a b) (q1X s a b)⟩]⟩:=by
 have hL:Dig (bC s a b):=by cases s <;> assumption
 have hS:Dig (shA s a b):=by cases s <;> assumption
 have hLz:Dig (bC s a b++[0]):=ph.2 ⟨hL,bB.2 ⟨by omega,b9⟩⟩
 have eN:IntKind.i64.wrap ((bC s a b).length+1:Int)=(bC s a b).length+1:=iw (by omega) (by omega)
 refine cY (aQ de 300) (q1U s a b) (y0:=0) ⟨by omega,by omega⟩ ⟨_,KI s a b,rfl,?_⟩ (by cases s <;> kernel_rfl) (fun i hi=>⟨_,PF s a b i,?_⟩) rfl
 .rw [eN,show ((bC s a b).length+1:Int).toNat=(bC s a b).length+1 by omega,show Int.toNat 0=0 from rfl,KL]
  exact (uK _).symm
 obtain ⟨i0,i1⟩:=(show 0<=i/\i<=(shA s a b).length from hi)
 have ll:=PI s a b i
 refine ⟨fun h=>?_,fun h=>⟨⟨rfl,rfl⟩,?_⟩,fun h=>?_⟩
 .have h:i<(shA s a b).length:=dt.1 h
  rw [zt,ll,eN]
  exact ⟨⟨⟨i0,h⟩,by omega⟩,⟨i0,by omega⟩,by omega,⟨i0,by omega⟩,by omega⟩
 .have h:=ndt.1 h
  obtain rfl:i=(shA s a b).length:=by omega
  rfl
 .have h:i<(shA s a b).length:=dt.1 h
  have g1:=hLz.get i.toNat
  have g2:=hS.get i.toNat
  have e0:((shA s a b).take i.toNat).getD i.toNat 0=0:=by rw [List.getD_eq_getElem?_getD,List.getElem?_eq_none (by rw [List.length_take]; omega)]; rfl
  have e1:(q1D s a b i).getD i.toNat 0=(bC s a b++[0]).getD i.toNat 0+((shA s a b).take i.toNat).getD i.toNat 0:=px _ _ i.toNat (by simp; omega)
  rw [e0] at e1
  refine ⟨⟨iw (by omega) (by omega),?_⟩,?_,?_,rfl⟩
  .rw [zt,iw (by omega) (by omega)]
   unfold q1D
   rw [wp _ _ i.toNat (by omega) (by simp; omega)]
   show _=jn _ ((shA s a b).take (i+1).toNat)
   rw [show (i+1).toNat=i.toNat+1 by omega]
  .show 0<=i+1/\i+1<=(shA s a b).length
   omega
  .show ((shA s a b).length - (i+1)).toNat<((shA s a b).length - i).toNat
   omega
theorem UE (s:Bool) (a b:List Int):plV a b=val (bC s a b)+val (shA s a b):=by
 unfold plV
 cases s
 .rfl
 .show val a+val b=val b+val a
  omega
theorem PK {s:Bool} {a b:List Int} (ha:Dig a) (hb:Dig b) (la:(bC s a b).length<=400000) (hl:(shA s a b).length<=(bC s a b).length):CodeOk cL lQ (.loop yd) (q2S s a b) ⟨.tt,[⟨.tt,.exit 2,ac (q2S s a b) (q2P (bC s a b).length (q2F s a b))⟩]⟩:=by
 have hL:Dig (bC s a b):=by cases s <;> assumption
 have hS:Dig (shA s a b):=by cases s <;> assumption
 have eN:IntKind.i64.wrap ((bC s a b).length+1:Int)=(bC s a b).length+1:=iw (by omega) (by omega)
 refine cG (q2U s a b) (y0:=(0,q1D s a b (shA s a b).length)) ?_ ⟨_,KJ s a b,rfl,rfl⟩ (by cases s <;> kernel_rfl) (fun y hy=>?_) rfl
 .show 0<=0/\NcI _ _ _ _
  unfold q1D
  rw [show (((shA s a b).length:Int)).toNat=(shA s a b).length by omega,List.take_length,UE s]
  exact ⟨by decide,NcI.start hL hS hl⟩
 obtain ⟨i,d⟩:=y
 obtain ⟨i0,hI⟩:=(show 0<=i/\NcI (bC s a b).length (plV a b) i.toNat d from hy)
 obtain ⟨l,i1,lo,me,hi',t0,t1,v⟩:=id hI
 have e2:(i+1).toNat=i.toNat+1:=by omega
 by_cases hlt:i<(bC s a b).length
 .have iw1:IntKind.i64.wrap (i+1)=i+1:=iw (by omega) (by omega)
  have mu:((bC s a b).length - (i+1)).toNat<((bC s a b).length - i).toNat:=by omega
  by_cases hn:d.getD i.toNat 0>=1000000000
  .have h2:=hi' (i.toNat+1) (by omega)
   have e3:(d.set i.toNat (d.getD i.toNat 0 - 1000000000)).getD (i.toNat+1) 0=d.getD (i.toNat+1) 0:=getD_set (by omega)
   have e4:IntKind.i64.wrap (d.getD i.toNat 0 - 1000000000)=d.getD i.toNat 0 - 1000000000:=iw (by omega) (by omega)
   have e5:IntKind.i64.wrap (d.getD (i.toNat+1) 0+1)=d.getD (i.toNat+1) 0+1:=iw (by omega) (by omega)
   have hb':(bif decide (d.getD i.toNat 0>=1000000000) then (d.set i.toNat (d.getD i.toNat 0 - 1000000000)).set (i.toNat+1) ((d.set i.toNat (d.getD i.toNat 0 - 1000000000)).getD (i.toNat+1) 0+1) else d)=(d.set i.toNat (d.getD i.toNat 0 - 1000000000)).set (i.toNat+1) ((d.set i.toNat (d.getD i.toNat 0 - 1000000000)).getD (i.toNat+1) 0+1):=by rw [decide_eq_true hn]; rfl
   refine ⟨cHb [(41,true),(47,true)],300,lP _,rfl,rfl,_,PH s a b i d,?_,fun _=>?_⟩
   .rw [zt,iw1,zt,e2,e4,List.length_set,eN]
    exact ⟨decide_eq_true hlt,⟨⟨i0,by omega⟩,by omega,decide_eq_true hn⟩,⟨⟨i0,by omega⟩,by omega,⟨i0,by omega⟩,by omega⟩,⟨by omega,by omega⟩,by omega,⟨by omega,by omega⟩,by omega⟩
   .refine ⟨⟨iw1,?_⟩,?_,mu,rfl⟩
    .rw [zt,iw1,zt,e2,e4,hb',e3,e5]
    .show 0<=i+1/\NcI _ _ (i+1).toNat _
     rw [e2,hb']
     exact ⟨by omega,hI.step (by omega) hn⟩
  .have hb':(bif decide (d.getD i.toNat 0>=1000000000) then (d.set i.toNat (d.getD i.toNat 0 - 1000000000)).set (i.toNat+1) ((d.set i.toNat (d.getD i.toNat 0 - 1000000000)).getD (i.toNat+1) 0+1) else d)=d:=by rw [decide_eq_false hn]; rfl
   refine ⟨cHb [(41,true),(47,false)],300,lP _,rfl,rfl,_,PG s a b i d,?_,fun _=>⟨⟨iw1,hb'.symm⟩,?_,mu,rfl⟩⟩
   .rw [zt,eN]
    exact ⟨decide_eq_true hlt,⟨i0,by omega⟩,by omega,decide_eq_false hn⟩
   .show 0<=i+1/\NcI _ _ (i+1).toNat _
    rw [e2,hb']
    exact ⟨by omega,hI.skip (by omega) hn⟩
 .refine ⟨cHb [(41,false)],300,lP _,rfl,rfl,_,UD s a b i d,decide_eq_false hlt,fun _=>⟨⟨rfl,rfl⟩,?_⟩⟩
  have e:i.toNat=(bC s a b).length:=by omega
  rw [e] at hI
  show (Ex.exit 2,q2P (bC s a b).length (q2F s a b))=(Ex.exit 2,q2P i d)
  unfold q2F
  rw [<- hI.fin,show i=(bC s a b).length by omega]
def plW (s:Bool):Nat:=match s with|true=>29|false=>25
def plC (s:Bool):Nat:=match s with|true=>32|false=>28
noncomputable def qtS (s:Bool) (a b d:List Int) (N:Int):St:=ib cL 300 117 [.islice true 2 0 N] ⟨[⟨plW s,.ints .i64 d⟩,⟨0,.rows .i64 b⟩,⟨0,.rows .i64 a⟩],3,plC s⟩
theorem KM (s:Bool) (a b d:List Int) (N:Int):fit (qtS s a b d N) (qtS s a b d N) (ac (qtS s a b d N) ((trU 2 d N).S N)) []=some (.p ((0:Int)=0/\N=N)):=by cases s <;> kernel_rfl
theorem PL (s:Bool) (a b d:List Int) (N y:Int):aW (qtS s a b d N) ((trU 2 d N).way y) ((run cL 300).code iB trA (ac (qtS s a b d N) ((trU 2 d N).S y)))=some (.p (trN 2 d N y)):=by cases s <;> kernel_rfl
theorem PM (s:Bool) (a b:List Int) {d:List Int} {N:Int} (hN:N=d.length) (ld:Sm d):CodeOk cL iB (.loop trA) (qtS s a b d N) ⟨.tt,[⟨.tt,.exit 0,ac (qtS s a b d N) (trP 2 (tlI d N))⟩]⟩:=sC hN ld (KM s a b d N) (by cases s <;> kernel_rfl) (fun y=>PL s a b d N y)
def plN (s:Bool) (a b:List Int):Int:=IntKind.i64.wrap ((bC s a b).length+1:Int)
noncomputable def cQt (s:Bool) (a b:List Int):Ctx:=aw (cPl s) [aR 105 (q1S s a b).hp.clock lQ Bg (q1S s a b) (.exit 0) (q1X s a b),aR 105 (q2S s a b).hp.clock lQ yd (q2S s a b) (.exit 2) (q2P (bC s a b).length (q2F s a b)),
 aR 117 (plC s+3) iB trA (qtS s a b (q2F s a b) (plN s a b)) (.exit 0) (trP 2 (tlI (q2F s a b) (plN s a b)))]
theorem Fc (s:Bool) (a b:List Int):(q2F s a b).length=(bC s a b).length+1:=a6 _ _
theorem yf {s:Bool} {a b:List Int} (la:(bC s a b).length<=400000):plN s a b=(q2F s a b).length:=by
 unfold plN
 rw [iw (by omega) (by omega),Fc]; omega
theorem uO {C D:Ctx} {fr:AFr} {a:Code} {S:St} {r:R} (h:CodeOk C fr (.loop a) S r) (hP:D.P=C.P) (hg:D.glob=C.glob):CodeOk D fr (.loop a) S r:=CodeOk.ctx hP hg h
theorem KN {s:Bool} {a b:List Int} (ha:Dig a) (hb:Dig b) (la:(bC s a b).length<=400000) (hl:(shA s a b).length<=(bC s a b).length):CtxOk (cQt s a b):=
 ak (ye s) (uO (PJ ha hb la hl) rfl rfl) (ak (ye s) (uO (PK ha hb la hl) rfl rfl) (ak (ye s) (uO (PM s a b (yf la) (by show (q2F s a b).length<=500000; rw [Fc]; omega)) rfl rfl) (aq (ye s))))
def PN (a b:List Int):Prop:=(decide ((↑a.length:Int)<(↑b.length:Int))=false/\(IntKind.i64.wrap ((↑a.length:Int)+1)=IntKind.i64.wrap ((↑a.length:Int)+1)/\(0:Int)<=IntKind.i64.wrap ((↑a.length:Int)+1)/\IntKind.i64.wrap ((↑a.length:Int)+1)<=1048576)/\((↑a.length:Int)=(↑a.length:Int)/\(0:Int)<=0/\(0:Int)<(↑a.length:Int)/\(↑a.length:Int)<=IntKind.i64.wrap ((↑a.length:Int)+1)/\(0:Int)+IntKind.i64.wrap ((↑a.length:Int)+1)<=(↑(List.replicate (IntKind.i64.wrap ((↑a.length:Int)+1)).toNat (0:Int)).length:Int))/\At (lQ) (lQ) (Bg) (Bg) (q1S false a b) (q1S false a b)/\At (lQ) (lQ) (yd) (yd) (q2S false a b) (q2S false a b)/\At (iB) (iB) (trA) (trA) (qtS false a b (q2F false a b) (plN false a b)) (qtS false a b (q2F false a b) (plN false a b)))
def UF (a b:List Int):AV:=(AV.islice true 2 (0:Int) (tlI (q2F false a b) (plN false a b)))
def UG (a b:List Int):Hp:=⟨[{ wr:=25,body:=ABody.ints IntKind.i64 (q2F false a b) },{ wr:=(0:Nat),body:=ABody.rows IntKind.i64 b },{ wr:=(0:Nat),body:=ABody.rows IntKind.i64 a }],3,35⟩
theorem abE (a b:List Int):(run (cQt false a b) 300).call 105 (zB a b) (zG a b)=some ⟨.p (PN a b),[⟨.tt,UF a b,UG a b⟩]⟩:=by kernel_rfl
def PO (a b:List Int):Prop:=(decide ((↑a.length:Int)<(↑b.length:Int))=true/\(IntKind.i64.wrap ((↑b.length:Int)+1)=IntKind.i64.wrap ((↑b.length:Int)+1)/\(0:Int)<=IntKind.i64.wrap ((↑b.length:Int)+1)/\IntKind.i64.wrap ((↑b.length:Int)+1)<=1048576)/\((↑b.length:Int)=(↑b.length:Int)/\(0:Int)<=0/\(0:Int)<(↑b.length:Int)/\(↑b.length:Int)<=IntKind.i64.wrap ((↑b.length:Int)+1)/\(0:Int)+IntKind.i64.wrap ((↑b.length:Int)+1)<=(↑(List.replicate (IntKind.i64.wrap ((↑b.length:Int)+1)).toNat (0:Int)).length:Int))/\At (lQ) (lQ) (Bg) (Bg) (q1S true a b) (q1S true a b)/\At (lQ) (lQ) (yd) (yd) (q2S true a b) (q2S true a b)/\At (iB) (iB) (trA) (trA) (qtS true a b (q2F true a b) (plN true a b)) (qtS true a b (q2F true a b) (plN true a b)))
def UH (a b:List Int):AV:=(AV.islice true 2 (0:Int) (tlI (q2F true a b) (plN true a b)))
def UI (a b:List Int):Hp:=⟨[{ wr:=29,body:=ABody.ints IntKind.i64 (q2F true a b) },{ wr:=(0:Nat),body:=ABody.rows IntKind.i64 b },{ wr:=(0:Nat),body:=ABody.rows IntKind.i64 a }],3,39⟩
theorem abF (a b:List Int):(run (cQt true a b) 300).call 105 (zB a b) (zG a b)=some ⟨.p (PO a b),[⟨.tt,UH a b,UI a b⟩]⟩:=by kernel_rfl
def UJ:List Nu->List (List Int)->Option (Prop×To)
 | [],[a,b]=>some (Dig a/\Dig b/\(0<a.length\/0<b.length)/\a.length<=400000/\b.length<=400000,.li false (aa (val a+val b).toNat))
 | _,_=>none
theorem KO {s:Bool} {a b:List Int} (ha:Dig a) (hb:Dig b) (hl:(shA s a b).length<=(bC s a b).length):val (q2F s a b)=val a+val b:=by
 have a0:=af ha
 have b0:=af hb
 have a1:=bc ha
 have b1:=bc hb
 refine dw (by unfold plV; omega) ?_
 have e:pw ((bC s a b).length+1)=1000000000*pw (bC s a b).length:=by simp [pw]
 have p0:=pw_pos (bC s a b).length
 have ka:val a<pw (bC s a b).length:=by
  refine Int.lt_of_lt_of_le a1 (bN ?_)
  cases s <;> simp only [bC,shA] at hl ⊢ <;> omega
 have kb:val b<pw (bC s a b).length:=by
  refine Int.lt_of_lt_of_le b1 (bN ?_)
  cases s <;> simp only [bC,shA] at hl ⊢ <;> omega
 rw [e]; unfold plV; omega
theorem PQ:NOk Tryz.prog (fun _=>none) hG0 105 (au hG0 .i64 [.li,.li] UJ):=by
 refine bg (fun xs ys p t e h=>?_) ⟨_,Tryz.func105,rfl⟩
 unfold UJ at e
 split at e
 .rename_i a b
  cases e
  obtain ⟨ha,hb,l0,la,lb⟩:=h
  have wa:IntKind.i64.wrap ((a.length:Int)+1)=a.length+1:=iw (by omega) (by omega)
  have wb:IntKind.i64.wrap ((b.length:Int)+1)=b.length+1:=iw (by omega) (by omega)
  by_cases hs:a.length<b.length
  .have hl:(shA true a b).length<=(bC true a b).length:=by show a.length<=b.length; omega
   have lg:(bC true a b).length<=400000:=lb
   refine ⟨cQt true a b,300,zB a b,_,_,_,_,_,KN ha hb lg hl,rfl,rfl,⟨rfl,rfl,trivial⟩,abF a b,rfl,⟨decide_eq_true (by omega),⟨rfl,by omega,by omega⟩,⟨rfl,by omega,by omega,by omega,?_⟩,⟨rfl,rfl,rfl⟩,⟨rfl,rfl,rfl⟩,⟨rfl,rfl,rfl⟩⟩,rfl,rfl,x8 (c5 _ _) (yf lg) (KO ha hb hl)⟩
   rw [List.length_replicate,wb]; omega
  .have hl:(shA false a b).length<=(bC false a b).length:=by show b.length<=a.length; omega
   have lg:(bC false a b).length<=400000:=la
   refine ⟨cQt false a b,300,zB a b,_,_,_,_,_,KN ha hb lg hl,rfl,rfl,⟨rfl,rfl,trivial⟩,abE a b,rfl,⟨decide_eq_false (by omega),⟨rfl,by omega,by omega⟩,⟨rfl,by omega,by omega,by omega,?_⟩,⟨rfl,rfl,rfl⟩,⟨rfl,rfl,rfl⟩,⟨rfl,rfl,rfl⟩⟩,rfl,rfl,x8 (c5 _ _) (yf lg) (KO ha hb hl)⟩
   rw [List.length_replicate,wa]; omega
 .cases e
end
end Go.Proofs.YtmnhhlnbfkfkaaaGreat.K
namespace Go.Dg
open Go Go.Eng
def dfB (a b:List Int):Nat->Int
 | 0=>0
 | n+1=>if a.getD n 0=b.getD n 0 then dfB a b n else IntKind.i64.wrap (a.getD n 0 - b.getD n 0)
def dfI (a b:List Int) (i:Int):Int:=dfB a b (i+1).toNat
theorem Fdq {a b:List Int} {i:Int} (h:0<=i):dfI a b i=if a.getD i.toNat 0=b.getD i.toNat 0 then dfI a b (i - 1) else IntKind.i64.wrap (a.getD i.toNat 0 - b.getD i.toNat 0):=by
 unfold dfI
 rw [show (i+1).toNat=i.toNat+1 by omega,show (i - 1+1).toNat=i.toNat by omega,dfB]
theorem KP {a b:List Int}:∀ n,xX a b n=false->dfB a b n=0
 | 0,_=>rfl
 | n+1,h=>by
  simp only [xX] at h
  simp only [dfB]
  split at h
  .rename_i e; rw [if_pos e]; exact KP n h
  .cases h
def mO (a b:List Int):Int:=if a.length=b.length then dfB a b a.length else IntKind.i64.wrap ((a.length:Int) - b.length)
theorem yg {a b:List Int} (ha:Dig a) (hb:Dig b):∀ n,(dfB a b n<0 ↔ jI a b n=true)/\(0<dfB a b n ↔ jI b a n=true)
 | 0=>by simp [dfB,jI]
 | n+1=>by
  have i:=yg ha hb n
  have a0:=ha.get n
  have b0:=hb.get n
  simp only [dfB,jI]
  by_cases e:a.getD n 0=b.getD n 0
  .rw [if_pos e,if_pos e,if_pos e.symm]; exact i
  .rw [if_neg e,if_neg e,if_neg (fun h=>e h.symm),iw (by omega) (by omega)]
   simp only [decide_eq_true_eq]
   omega
theorem PR {a b:List Int} (ha:Dig a) (hb:Dig b) (ta:Top a) (tb:Top b) (la:a.length<=500000) (lb:b.length<=500000):mO a b<0 ↔ val a<val b:=by
 rw [<- gC ha hb ta tb]
 unfold mO cz
 by_cases e:a.length=b.length
 .rw [if_pos e,if_pos e]; exact (yg ha hb _).1
 .rw [if_neg e,if_neg e,iw (by omega) (by omega)]
  simp only [decide_eq_true_eq]
  omega
theorem PS {a b:List Int} (ha:Dig a) (hb:Dig b) (ta:Top a) (tb:Top b) (la:a.length<=500000) (lb:b.length<=500000):0<mO a b ↔ val b<val a:=by
 rw [<- gC hb ha tb ta]
 unfold mO cz
 by_cases e:a.length=b.length
 .rw [if_pos e,if_pos e.symm,<- e]; exact (yg ha hb _).2
 .rw [if_neg e,if_neg (fun h=>e h.symm),iw (by omega) (by omega)]
  simp only [decide_eq_true_eq]
  omega
end Go.Dg
namespace Go.Proofs.YtmnhhlnbfkfkaaaGreat.K
open Go Go.Eng Go.Dg
noncomputable section
def De (d:Bool):Ctx:=cHb [(10,d)]
theorem sE (d:Bool):CtxOk (De d):=lP _
noncomputable def sd (a b:List Int):St:=ib (De false) 300 102 (zB a b) (zG a b)
def Bj:AFr:=⟨102,none⟩
def KQ:Code:=bJ Tryz.prog 102 0
def abG (i:Int):Patch:=⟨(5,.int true .i64 i) :: aC 19 22,[],[]⟩
def cmR (r:Int):Patch:=⟨(4,.int true .i64 r) :: (5,.any false) :: aC 19 22,[],[]⟩
def Bk:Patch:=⟨(5,.any false) :: aC 19 22,[],[]⟩
def nZ (a b:List Int):SumL Int:=
 {
  S:=abG
  I:=fun i=>-1<=i/\i<a.length
  μ:=fun i=>(i+1).toNat
  F:=fun i=>bif iV a b i then (.ret,cmR (dfI a b i)) else (.exit 0,Bk)
  next:=fun i=>IntKind.i64.wrap (i - 1)
  ids:=fun _=>[]
  X:=fun i x=>match x with
   | .ret=>some (cmR (IntKind.i64.wrap (a.getD i.toNat 0 - b.getD i.toNat 0)),[])
   | .exit _=>some (Bk,[])
   | _=>none }
def Bm (a b:List Int):Prop:=IntKind.i64.wrap ((↑a.length:Int) - (1:Int))=IntKind.i64.wrap ((↑a.length:Int) - (1:Int))
theorem GV (a b:List Int):fit (sd a b) (sd a b) (ac (sd a b) ((nZ a b).S (IntKind.i64.wrap ((a.length:Int) - 1)))) ([])=some (.p (Bm a b)):=by kernel_rfl
def Df (a b:List Int) (i:Int):Prop:=(decide (i>=0)=true->(((0:Int)<=i/\i<(↑a.length:Int))/\i.toNat<a.length/\((0:Int)<=i/\i<(↑b.length:Int))/\i.toNat<b.length)/\((a.getD i.toNat (0:Int) != b.getD i.toNat (0:Int))=true->((0:Int)<=i/\i<(↑a.length:Int))/\i.toNat<a.length/\((0:Int)<=i/\i<(↑b.length:Int))/\i.toNat<b.length))/\((!decide (i>=0))=true->(nZ a b).F i=(Ex.exit (0:Nat),Bk))/\((decide (i>=0)&&!a.getD i.toNat (0:Int) != b.getD i.toNat (0:Int))=true->IntKind.i64.wrap (i - (1:Int))=(nZ a b).next i/\(nZ a b).I ((nZ a b).next i)/\(nZ a b).μ ((nZ a b).next i)<(nZ a b).μ i/\(nZ a b).F ((nZ a b).next i)=(nZ a b).F i)/\((decide (i>=0)&&a.getD i.toNat (0:Int) != b.getD i.toNat (0:Int))=true->IntKind.i64.wrap (a.getD i.toNat (0:Int) - b.getD i.toNat (0:Int))=IntKind.i64.wrap (a.getD i.toNat (0:Int) - b.getD i.toNat (0:Int))/\(nZ a b).F i=(Ex.ret,cmR (IntKind.i64.wrap (a.getD i.toNat (0:Int) - b.getD i.toNat (0:Int)))))
theorem PT (a b:List Int) (i:Int):aW (sd a b) ((nZ a b).way (i)) ((run (De false) 300).code Bj KQ (ac (sd a b) ((nZ a b).S i)))=some (.p (Df a b i)):=by kernel_rfl
theorem KR (a b:List Int) (hs:Sm a) (hl:a.length=b.length):CodeOk (De false) Bj (.loop KQ) (sd a b) ⟨.tt,[⟨.b (iV a b (a.length - 1)),.ret,ac (sd a b) (cmR (dfI a b (a.length - 1)))⟩,⟨.b (!iV a b (a.length - 1)),.exit 0,ac (sd a b) Bk⟩]⟩:=by
 have hs:=hs.le
 have e0:IntKind.i64.wrap ((a.length:Int) - 1)=a.length - 1:=iw (by omega) (by omega)
 refine ux (aQ (sE false) 300) (nZ a b) (y0:=IntKind.i64.wrap ((a.length:Int) - 1)) (by rw [e0]; exact ⟨by omega,by omega⟩) ⟨_,GV a b,rfl⟩ (by kernel_rfl) (fun i hi=>⟨_,PT a b i,?_⟩) (by rw [e0]; rfl)
 obtain ⟨i0,i1⟩:=(show -1<=i/\i<a.length from hi)
 refine ⟨fun h=>?_,fun h=>?_,fun h=>?_,fun h=>?_⟩
 .have h:=dt.1 h
  have q:((0:Int)<=i/\i<(↑a.length:Int))/\i.toNat<a.length/\((0:Int)<=i/\i<(↑b.length:Int))/\i.toNat<b.length:=by omega
  exact ⟨q,fun _=>q⟩
 .have h:=ndt.1 h
  have:i=-1:=by omega
  subst this; rfl
 .obtain ⟨h0,h⟩:=rI.1 h
  have h:=Ki.1 h
  have e:IntKind.i64.wrap (i - 1)=i - 1:=iw (by omega) (by omega)
  refine ⟨rfl,?_,?_,?_⟩
  .show -1<=IntKind.i64.wrap (i - 1)/\IntKind.i64.wrap (i - 1)<a.length
   rw [e]; omega
  .show (IntKind.i64.wrap (i - 1)+1).toNat<(i+1).toNat
   rw [e]; omega
  .show (bif iV a b (IntKind.i64.wrap (i - 1)) then (Ex.ret,cmR (dfI a b (IntKind.i64.wrap (i - 1)))) else (.exit 0,Bk))=bif iV a b i then (Ex.ret,cmR (dfI a b i)) else (.exit 0,Bk)
   rw [e,pk h0,Fdq h0,if_pos h,if_pos h]
 .obtain ⟨h0,h⟩:=rI.1 h
  have h:=jJ.1 h
  refine ⟨rfl,?_⟩
  show (bif iV a b i then (Ex.ret,cmR (dfI a b i)) else (.exit 0,Bk))=_
  rw [pk h0,Fdq h0,if_neg h,if_neg h]; rfl
noncomputable def UK (a b:List Int):Ctx:=aw (De false) [oZ 102 (sd a b).hp.clock Bj KQ (sd a b) (iV a b (a.length - 1)) .ret (cmR (dfI a b (a.length - 1))) (.exit 0) Bk]
theorem PU (a b:List Int) (hs:Sm a) (hl:a.length=b.length):CtxOk (UK a b):=nO (sE false) (KR a b hs hl) (aq (sE false))
def KS (a b:List Int):Prop:=(((↑a.length:Int) != (↑b.length:Int))=false/\At (Bj) (Bj) (KQ) (KQ) (sd a b) (sd a b))
def PW (a b:List Int):AV:=(AV.int true IntKind.i64 (bif !iV a b ((↑a.length:Int) - (1:Int)) then (0:Int) else dfI a b ((↑a.length:Int) - (1:Int))))
def PX (a b:List Int):Hp:=⟨[{ wr:=(0:Nat),body:=ABody.rows IntKind.i64 b },{ wr:=(0:Nat),body:=ABody.rows IntKind.i64 a }],2,15⟩
theorem Yw (a b:List Int):(run (UK a b) 300).call 102 (zB a b) (zG a b)=some ⟨.p (KS a b),[⟨.tt,PW a b,PX a b⟩]⟩:=by kernel_rfl
def KT (a b:List Int):Prop:=(((↑a.length:Int) != (↑b.length:Int))=true)
def PY (a b:List Int):AV:=(AV.int true IntKind.i64 (IntKind.i64.wrap ((↑a.length:Int) - (↑b.length:Int))))
def PZ (a b:List Int):Hp:=⟨[{ wr:=(0:Nat),body:=ABody.rows IntKind.i64 b },{ wr:=(0:Nat),body:=ABody.rows IntKind.i64 a }],2,14⟩
theorem Yx (a b:List Int):(run (De true) 300).call 102 (zB a b) (zG a b)=some ⟨.p (KT a b),[⟨.tt,PY a b,PZ a b⟩]⟩:=by kernel_rfl
def cmpV:List Nu->List (List Int)->Option (Prop×To)
 | [],[a,b]=>some (Sm a/\Sm b,.nu .i64 (mO a b))
 | _,_=>none
theorem UL:NOk Tryz.prog (fun _=>none) hG0 102 (au hG0 .i64 [.li,.li] cmpV):=by
 refine bg (fun xs ys p t e h=>?_) ⟨_,Tryz.func102,rfl⟩
 unfold cmpV at e
 split at e
 .rename_i a b
  cases e
  obtain ⟨ha,hb⟩:=h
  by_cases hl:a.length=b.length
  .refine ⟨UK a b,300,zB a b,_,_,_,_,_,PU a b ha hl,rfl,rfl,⟨rfl,rfl,trivial⟩,Yw a b,rfl,⟨?_,rfl,rfl,rfl⟩,rfl,rfl,?_⟩
   .rw [hl]; exact wm.2 rfl
   .show (bif !iV a b ((a.length:Int) - 1) then 0 else dfI a b ((a.length:Int) - 1))=mO a b
    unfold mO iV dfI
    rw [if_pos hl,show ((a.length:Int) - 1+1).toNat=a.length by omega]
    cases e:xX a b a.length with
    | true=>rfl
    | false=>rw [KP _ e]; rfl
  .refine ⟨De true,300,zB a b,_,_,_,_,_,sE true,rfl,rfl,⟨rfl,rfl,trivial⟩,Yx a b,rfl,?_,rfl,rfl,?_⟩
   .exact jJ.2 (by omega)
   .show IntKind.i64.wrap ((a.length:Int) - b.length)=mO a b
    unfold mO
    rw [if_neg hl]
 .cases e
def hUp (x t0:Nat):Nat->Nat->Option AV:=fun c t=>match Nat.beq t t0 with
 | true=>match Nat.ble c x with
  | true=>some (.bool false true)
  | false=>some (.bool false false)
 | false=>none
def cOn (x:Nat):Ctx:=aP cL (hUp x 9)
theorem KU (x:Nat):CtxOk (cOn x):=aj de _
def P1 (n:Int):Prop:=((n != (0:Int))=true/\(IntKind.i64.wrap (n.tdiv (1000000000:Int)) != (0:Int))=false)
def UM (n:Int):AV:=(AV.agg [AV.bool true (decide (n<0)),AV.gslice (0:Nat) (0:Nat) 1 1])
def UN (n:Int):Hp:=⟨[{ wr:=23,body:=ABody.grown [AV.int true IntKind.i64 (if IntKind.i64.wrap ((0:Int) - n.tmod (1000000000:Int))>n.tmod (1000000000:Int) then IntKind.i64.wrap ((0:Int) - n.tmod (1000000000:Int)) else n.tmod (1000000000:Int))] }],1,32⟩
theorem abI (n:Int):(run (cOn 11) 300).call 99 [.int true .i64 n] hG0=some ⟨.p (P1 n),[⟨.tt,UM n,UN n⟩]⟩:=by kernel_rfl
def P2 (n:Int):Prop:=((n != (0:Int))=true/\(IntKind.i64.wrap (n.tdiv (1000000000:Int)) != (0:Int))=true/\(IntKind.i64.wrap ((IntKind.i64.wrap (n.tdiv (1000000000:Int))).tdiv (1000000000:Int)) != (0:Int))=false)
def UO (n:Int):AV:=(AV.agg [AV.bool true (decide (n<0)),AV.gslice (0:Nat) (0:Nat) 2 1])
def UP (n:Int):Hp:=⟨[{ wr:=42,body:=ABody.grown [AV.int true IntKind.i64 (if IntKind.i64.wrap ((0:Int) - n.tmod (1000000000:Int))>n.tmod (1000000000:Int) then IntKind.i64.wrap ((0:Int) - n.tmod (1000000000:Int)) else n.tmod (1000000000:Int)),AV.int true IntKind.i64 (if IntKind.i64.wrap ((0:Int) - (IntKind.i64.wrap (n.tdiv (1000000000:Int))).tmod (1000000000:Int))>(IntKind.i64.wrap (n.tdiv (1000000000:Int))).tmod (1000000000:Int) then IntKind.i64.wrap ((0:Int) - (IntKind.i64.wrap (n.tdiv (1000000000:Int))).tmod (1000000000:Int)) else (IntKind.i64.wrap (n.tdiv (1000000000:Int))).tmod (1000000000:Int))] }],1,51⟩
theorem abJ (n:Int):(run (cOn 30) 300).call 99 [.int true .i64 n] hG0=some ⟨.p (P2 n),[⟨.tt,UO n,UP n⟩]⟩:=by kernel_rfl
def onV:List Nu->List (List Int)->Option (Prop×To)
 | [.n n],[]=>some (0<n/\n<1000000000000000000,.st [.pb false,.li false (aa n.toNat)])
 | _,_=>none
theorem Yy {n:Int} (h0:0<=n) (h1:n<9000000000000000000):(if IntKind.i64.wrap (0 - n.tmod 1000000000)>n.tmod 1000000000 then IntKind.i64.wrap (0 - n.tmod 1000000000) else n.tmod 1000000000)=n % 1000000000:=by
 have e:n.tmod 1000000000=n % 1000000000:=Int.tmod_eq_emod_of_nonneg h0
 rw [e,iw (by omega) (by omega),if_neg (by omega)]
theorem Yz {n:Int} (h0:0<=n) (h1:n<9000000000000000000):IntKind.i64.wrap (n.tdiv 1000000000)=n / 1000000000:=by
 rw [Int.tdiv_eq_ediv_of_nonneg h0,iw (by omega) (by omega)]
theorem UQ {n:Int} (h0:0<n) (h1:n<1000000000):aa n.toNat=[n % 1000000000]:=by
 rw [dk (by omega),show n.toNat / 1000000000=0 by omega,bS]
 congr 1
 omega
theorem UR {n:Int} (h0:1000000000<=n) (h1:n<1000000000000000000):aa n.toNat=[n % 1000000000,n / 1000000000 % 1000000000]:=by
 rw [dk (by omega),dk (by omega),show n.toNat / 1000000000 / 1000000000=0 by omega,bS]
 congr 1
 .omega
 .congr 1
  omega
theorem YA:NOk Tryz.prog (fun _=>none) hG0 99 (au hG0 .i64 [.nu (.i .i64)] onV):=by
 refine bg (fun xs ys p t e h=>?_) ⟨_,Tryz.func99,rfl⟩
 unfold onV at e
 split at e
 .rename_i n
  cases e
  obtain ⟨h0,h1⟩:=h
  have q1:=Yz (n:=n) (by omega) (by omega)
  have d1:=Yy (n:=n) (by omega) (by omega)
  by_cases h:n<1000000000
  .refine ⟨cOn 11,300,[.int true .i64 n],_,_,_,_,_,KU 11,rfl,rfl,⟨⟨rfl,rfl⟩,trivial⟩,abI n,rfl,⟨jJ.2 (by omega),?_⟩,rfl,rfl,?_⟩
   .rw [q1]; exact wm.2 (by omega)
   .refine ⟨decide_eq_false (by omega),?_⟩
    show [_]=aa n.toNat
    rw [d1,UQ h0 h]
  .have q2:=Yz (n:=n / 1000000000) (by omega) (by omega)
   have d2:=Yy (n:=n / 1000000000) (by omega) (by omega)
   refine ⟨cOn 30,300,[.int true .i64 n],_,_,_,_,_,KU 30,rfl,rfl,⟨⟨rfl,rfl⟩,trivial⟩,abJ n,rfl,⟨jJ.2 (by omega),?_,?_⟩,rfl,rfl,?_⟩
   .rw [q1]; exact jJ.2 (by omega)
   .rw [q1,q2]; exact wm.2 (by omega)
   .refine ⟨decide_eq_false (by omega),?_⟩
    show [_,_]=aa n.toNat
    rw [d1,q1,d2,UR (by omega) h1]
 .cases e
def tZ:List (FuncId×eF):=
 (118,au hG0 .i64 [.li,.nu (.i .i64)] zpaV) ::
 (98,au hG0 .i64 [.li,.li] Uz) ::
 (104,au hG0 .i64 [.li,.li] UC) ::
 (105,au hG0 .i64 [.li,.li] UJ) ::
 (102,au hG0 .i64 [.li,.li] cmpV) ::
 (99,au hG0 .i64 [.nu (.i .i64)] onV) :: []
theorem SU:∀ x∈tZ,NOk Tryz.prog (fun _=>none) hG0 x.1 x.2:=by
 intro x hx
 simp only [tZ,List.mem_cons,List.not_mem_nil,or_false] at hx
 rcases hx with rfl|rfl|rfl|rfl|rfl|rfl
 .exact part_ok
 .exact KD
 .exact PE
 .exact PQ
 .exact UL
 .exact YA
def cZ:Ctx:=mkN Tryz.prog (fun _=>none) hG0 tZ [] dK
theorem lR:CtxOk cZ:=fP aM (cw _) SU (fun x h=>by cases h)
def cZb (l:List (Nat×Bool)):Ctx:=aP cZ (hZ (l.map fun x=>(x.1,match x.2 with|true=>.bool false true|false=>.bool false false)))
theorem Dh (l:List (Nat×Bool)):CtxOk (cZb l):=aj lR _
def qD (y:List Int):List AV:=[.lslice 0 y.length,.int false .i64 5]
def Bn:AFr:=⟨101,none⟩
def seA:Code:=bJ Tryz.prog 101 0
noncomputable def seS (y:List Int):St:=ib cZ 300 101 (qD y) (zH y)
end
end Go.Proofs.YtmnhhlnbfkfkaaaGreat.K
namespace Go.Dg
open Go Go.Eng
def PP:Int:=1000000000000000000000000000000000000000000000
def jo (sq:Int):Nat->Int->Int->Int->Int
 | 0,_,_,s=>s
 | n+1,i,t,s=>match decide (t*sq / PP / (i*(i+1))=0) with
  | true=>s
  | false=>jo sq n (i+2) (t*sq / PP / (i*(i+1))) (match decide (i % 4=2) with|true=>s - t*sq / PP / (i*(i+1))|false=>s+t*sq / PP / (i*(i+1)))
def bu (n:Int):Int:=if n<5 then n else 5
def cutL (v:Int):List Int:=List.take ((aa v.toNat).length - bu (aa v.toNat).length:Int).toNat (List.drop (bu (aa v.toNat).length).toNat (aa v.toNat))
theorem uP:∀ {l:List Int} (k:Nat),Dig l->val (l.drop k)=val l / pw k
 | l,0,_=>by simp [pw]
 | [],k+1,_=>by simp [val]
 | x :: l,k+1,h=>by
  have hh:=bB.1 h
  have p:=pw_pos k
  rw [List.drop_succ_cons,uP k hh.2,fT,<- Int.ediv_ediv_of_nonneg (by omega)]
  congr 1
  simp only [val]
  omega
theorem SW:pw 5=PP:=by decide
theorem Fe {v:Int} (h:0<=v):cutL v=(aa v.toNat).drop (bu (aa v.toNat).length).toNat:=by
 unfold cutL bu
 rw [List.take_of_length_le]
 rw [List.length_drop]
 split <;> omega
theorem pz {v:Int} (h:0<=v):val (cutL v)=v / PP:=by
 have hv:val (aa v.toNat)=v:=by rw [dn]; omega
 have hd:=ay v.toNat
 rw [Fe h]
 unfold bu
 split
 .rename_i h5
  rw [show (((aa v.toNat).length:Int)).toNat=(aa v.toNat).length by omega,List.drop_length]
  have h1:=bc hd
  have h2:=bN (show (aa v.toNat).length<=5 by omega)
  rw [SW] at h2
  rw [hv] at h1
  show (0:Int)=v / PP
  rw [Int.ediv_eq_zero_of_lt h (by omega)]
 .rw [show Int.toNat 5=5 from rfl,uP 5 hd,hv,SW]
theorem KV {l:List Int} (h:Dig l) (n:Nat):Dig (l.take n):=fun x hx=>h x (List.mem_of_mem_take hx)
theorem Bo {l:List Int} (h:Dig l) (n:Nat):Dig (l.drop n):=fun x hx=>h x (List.mem_of_mem_drop hx)
theorem pA (v:Int):Dig (cutL v):=KV (Bo (ay _) _) _
end Go.Dg
namespace Go.Dg
theorem dI:0<PP:=by decide
theorem KW {sq t i:Int} (hs0:0<=sq) (hs:sq<=3*PP) (ht:0<=t) (hi:2<=i):0<=t*sq / PP / (i*(i+1))/\2*(t*sq / PP / (i*(i+1)))<=t:=by
 have p:=dI
 have hii:6<=i*(i+1):=Int.mul_le_mul (a:=2) (b:=3) (c:=i) (d:=i+1) hi (by omega) (by decide) (by omega)
 have h1:t*sq<=t*(3*PP):=Int.mul_le_mul_of_nonneg_left hs ht
 have h2:t*sq / PP<=3*t:=by
  refine Int.ediv_le_of_le_mul p ?_
  rw [show 3*t*PP=t*(3*PP) by rw [Int.mul_comm 3 t,Int.mul_assoc]]
  exact h1
 have h0:0<=t*sq / PP:=Int.ediv_nonneg (Int.mul_nonneg ht hs0) (by omega)
 have h3:0<=t*sq / PP / (i*(i+1)):=Int.ediv_nonneg h0 (by omega)
 have h4:=Int.ediv_mul_le (t*sq / PP) (b:=i*(i+1)) (by omega)
 have h5:=Int.mul_le_mul_of_nonneg_left hii h3
 exact ⟨h3,by omega⟩
theorem Bp {sq:Int} {n:Nat} {i t s:Int} (h:t*sq / PP / (i*(i+1))=0):jo sq (n+1) i t s=s:=by
 rw [jo,decide_eq_true h]
theorem qE {sq:Int} {n:Nat} {i t s:Int} (h:t*sq / PP / (i*(i+1))≠0):jo sq (n+1) i t s=jo sq n (i+2) (t*sq / PP / (i*(i+1))) (match decide (i % 4=2) with|true=>s - t*sq / PP / (i*(i+1))|false=>s+t*sq / PP / (i*(i+1))):=by
 rw [jo,decide_eq_false h]
def cC (x:Int):Nat->Int->Int->Int->Int
 | 0,_,_,s=>s
 | n+1,i,t,s=>match decide (t / (x*x) / i=0) with
  | true=>s
  | false=>cC x n (i+2) (t / (x*x)) (match decide (i % 4=1) with|true=>s+t / (x*x) / i|false=>s - t / (x*x) / i)
theorem KX {x:Int} {n:Nat} {i t s:Int} (h:t / (x*x) / i=0):cC x (n+1) i t s=s:=by
 rw [cC,decide_eq_true h]
theorem wq {x:Int} {n:Nat} {i t s:Int} (h:t / (x*x) / i≠0):cC x (n+1) i t s=cC x n (i+2) (t / (x*x)) (match decide (i % 4=1) with|true=>s+t / (x*x) / i|false=>s - t / (x*x) / i):=by
 rw [cC,decide_eq_false h]
end Go.Dg
namespace Go.Proofs.YtmnhhlnbfkfkaaaGreat.K
open Go Go.Eng Go.Dg
noncomputable section
def cSe (e m:Bool):Ctx:=cZb [(33,e),(37,m)]
theorem yi (e m:Bool):CtxOk (cSe e m):=Dh _
def seP:Option (Int×Int×Int)->Patch
 | none=>⟨(8,.int true .i64 2) :: aC 16 28,[],[]⟩
 | some (i,t,s)=>⟨(6,.lslice 3 (aa s.toNat).length) :: (7,.lslice 2 (aa t.toNat).length) :: (8,.int true .i64 i) :: aC 16 28,[],[.rows .i64 (aa s.toNat),.rows .i64 (aa t.toNat)]⟩
def seX (s:Int):Patch:=⟨(4,.lslice 2 (aa s.toNat).length) :: (6,.any false) :: (7,.any false) :: (8,.any false) :: aC 16 28,[],[.rows .i64 (aa s.toNat)]⟩
def n5 (y:List Int):Int:=val y*val y / PP
def seT (y:List Int) (i t:Int):Int:=t*n5 y / PP / (i*(i+1))
def seR (y:List Int):Option (Int×Int×Int)->Int
 | none=>jo (n5 y) 200 2 (val y) (val y)
 | some (i,t,s)=>jo (n5 y) (201 - (i / 2).toNat) i t s
def seU (y:List Int):SumL (Option (Int×Int×Int)):=
 {
  S:=seP
  I:=fun x=>match x with
   | none=>True
   | some (i,t,s)=>0<t/\i % 2=0/\2<i/\i<=400/\2 ^ (i / 2).toNat*t<=4*PP/\0<s/\(i % 4=2->t<=s)/\s<=i*PP
  μ:=fun x=>match x with
   | none=>400
   | some (i,_,_)=>(400 - i).toNat
  F:=fun x=>(.ret,seX (seR y x))
  next:=fun x=>match x with
   | none=>some (4,seT y 2 (val y),val y - seT y 2 (val y))
   | some (i,t,s)=>some (i+2,seT y i t,match decide (i % 4=2) with|true=>s - seT y i t|false=>s+seT y i t)
  ids:=fun x=>match x with
   | none=>[3,4]
   | some _=>[5,6]
  X:=fun x _=>match x with
   | none=>none
   | some (_,_,s)=>some (seX s,[3]) }
def Bq (y:List Int):Prop:=(2:Int)=2
theorem KY (y:List Int):fit (seS y) (seS y) (ac (seS y) ((seU y).S none)) ([])=some (.p (Bq y)):=by kernel_rfl
def KZ (y:List Int):Prop:=(((((↑y.length:Int)=(↑y.length:Int)/\((0:Int)<=bu (↑(aa (val y*val y).toNat).length:Int))/\((0:Int)<=(↑(aa (val y*val y).toNat).length:Int) - bu (↑(aa (val y*val y).toNat).length:Int))/\(bu (↑(aa (val y*val y).toNat).length:Int))+((↑(aa (val y*val y).toNat).length:Int) - bu (↑(aa (val y*val y).toNat).length:Int))<=(↑(aa (val y*val y).toNat).length:Int))/\Dig y/\Dig (cutL (val y*val y))/\y.length+(cutL (val y*val y)).length<=(500000:Nat))/\(((0:Int)<=bu (↑(aa (val y*val (cutL (val y*val y))).toNat).length:Int))/\(bu (↑(aa (val y*val (cutL (val y*val y))).toNat).length:Int))<=(↑(aa (val y*val (cutL (val y*val y))).toNat).length:Int)/\(↑(aa (val y*val (cutL (val y*val y))).toNat).length:Int)<=(↑(aa (val y*val (cutL (val y*val y))).toNat).length:Int))/\(((0:Int)<=bu (↑(aa (val y*val (cutL (val y*val y))).toNat).length:Int))/\((0:Int)<=(↑(aa (val y*val (cutL (val y*val y))).toNat).length:Int) - bu (↑(aa (val y*val (cutL (val y*val y))).toNat).length:Int))/\(bu (↑(aa (val y*val (cutL (val y*val y))).toNat).length:Int))+((↑(aa (val y*val (cutL (val y*val y))).toNat).length:Int) - bu (↑(aa (val y*val (cutL (val y*val y))).toNat).length:Int))<=(↑(aa (val y*val (cutL (val y*val y))).toNat).length:Int))/\Dig (cutL (val y*val (cutL (val y*val y))))/\(cutL (val y*val (cutL (val y*val y)))).length<=(500000:Nat)/\(1:Int)<=IntKind.i64.wrap ((2:Int)*IntKind.i64.wrap ((2:Int)+1))/\IntKind.i64.wrap ((2:Int)*IntKind.i64.wrap ((2:Int)+1))<=1000000000)/\((↑(aa (val (cutL (val y*val (cutL (val y*val y)))) / IntKind.i64.wrap ((2:Int)*IntKind.i64.wrap ((2:Int)+1))).toNat).length:Int)==0)=false/\(Int.tmod (2:Int) (4:Int)==2)=true/\((↑y.length:Int)=(↑y.length:Int)/\(↑(aa (val (cutL (val y*val (cutL (val y*val y)))) / IntKind.i64.wrap ((2:Int)*IntKind.i64.wrap ((2:Int)+1))).toNat).length:Int)=(↑(aa (val (cutL (val y*val (cutL (val y*val y)))) / IntKind.i64.wrap ((2:Int)*IntKind.i64.wrap ((2:Int)+1))).toNat).length:Int))/\Dig y/\Dig (aa (val (cutL (val y*val (cutL (val y*val y)))) / IntKind.i64.wrap ((2:Int)*IntKind.i64.wrap ((2:Int)+1))).toNat)/\(0:Nat)<y.length/\y.length<=(500000:Nat)/\(aa (val (cutL (val y*val (cutL (val y*val y)))) / IntKind.i64.wrap ((2:Int)*IntKind.i64.wrap ((2:Int)+1))).toNat).length<=y.length/\val (aa (val (cutL (val y*val (cutL (val y*val y)))) / IntKind.i64.wrap ((2:Int)*IntKind.i64.wrap ((2:Int)+1))).toNat)<=val y)/\(true=true->(((↑(aa (val y - val (aa (val (cutL (val y*val (cutL (val y*val y)))) / IntKind.i64.wrap ((2:Int)*IntKind.i64.wrap ((2:Int)+1))).toNat)).toNat).length:Int)=(↑(aa (val y - seT y (2:Int) (val y)).toNat).length:Int)/\(↑(aa (val (cutL (val y*val (cutL (val y*val y)))) / IntKind.i64.wrap ((2:Int)*IntKind.i64.wrap ((2:Int)+1))).toNat).length:Int)=(↑(aa (seT y (2:Int) (val y)).toNat).length:Int)/\IntKind.i64.wrap ((2:Int)+2)=4)/\aa (val y - val (aa (val (cutL (val y*val (cutL (val y*val y)))) / IntKind.i64.wrap ((2:Int)*IntKind.i64.wrap ((2:Int)+1))).toNat)).toNat=aa (val y - seT y (2:Int) (val y)).toNat/\aa (val (cutL (val y*val (cutL (val y*val y)))) / IntKind.i64.wrap ((2:Int)*IntKind.i64.wrap ((2:Int)+1))).toNat=aa (seT y (2:Int) (val y)).toNat)/\(seU y).I ((seU y).next none)/\(seU y).μ ((seU y).next none)<(seU y).μ none/\(seU y).F ((seU y).next none)=(seU y).F none)
theorem YB (y:List Int):aW (seS y) ((seU y).way (none)) ((run (cSe false true) 300).code Bn seA (ac (seS y) ((seU y).S none)))=some (.p (KZ y)):=by kernel_rfl
def K0 (y:List Int) (i t s:Int):Prop:=(((((↑(aa t.toNat).length:Int)=(↑(aa t.toNat).length:Int)/\((0:Int)<=bu (↑(aa (val y*val y).toNat).length:Int))/\((0:Int)<=(↑(aa (val y*val y).toNat).length:Int) - bu (↑(aa (val y*val y).toNat).length:Int))/\(bu (↑(aa (val y*val y).toNat).length:Int))+((↑(aa (val y*val y).toNat).length:Int) - bu (↑(aa (val y*val y).toNat).length:Int))<=(↑(aa (val y*val y).toNat).length:Int))/\Dig (aa t.toNat)/\Dig (cutL (val y*val y))/\(aa t.toNat).length+(cutL (val y*val y)).length<=(500000:Nat))/\(((0:Int)<=bu (↑(aa (val (aa t.toNat)*val (cutL (val y*val y))).toNat).length:Int))/\(bu (↑(aa (val (aa t.toNat)*val (cutL (val y*val y))).toNat).length:Int))<=(↑(aa (val (aa t.toNat)*val (cutL (val y*val y))).toNat).length:Int)/\(↑(aa (val (aa t.toNat)*val (cutL (val y*val y))).toNat).length:Int)<=(↑(aa (val (aa t.toNat)*val (cutL (val y*val y))).toNat).length:Int))/\(((0:Int)<=bu (↑(aa (val (aa t.toNat)*val (cutL (val y*val y))).toNat).length:Int))/\((0:Int)<=(↑(aa (val (aa t.toNat)*val (cutL (val y*val y))).toNat).length:Int) - bu (↑(aa (val (aa t.toNat)*val (cutL (val y*val y))).toNat).length:Int))/\(bu (↑(aa (val (aa t.toNat)*val (cutL (val y*val y))).toNat).length:Int))+((↑(aa (val (aa t.toNat)*val (cutL (val y*val y))).toNat).length:Int) - bu (↑(aa (val (aa t.toNat)*val (cutL (val y*val y))).toNat).length:Int))<=(↑(aa (val (aa t.toNat)*val (cutL (val y*val y))).toNat).length:Int))/\Dig (cutL (val (aa t.toNat)*val (cutL (val y*val y))))/\(cutL (val (aa t.toNat)*val (cutL (val y*val y)))).length<=(500000:Nat)/\(1:Int)<=IntKind.i64.wrap (i*IntKind.i64.wrap (i+1))/\IntKind.i64.wrap (i*IntKind.i64.wrap (i+1))<=1000000000)/\((↑(aa (val (cutL (val (aa t.toNat)*val (cutL (val y*val y)))) / IntKind.i64.wrap (i*IntKind.i64.wrap (i+1))).toNat).length:Int)==0)=false/\(i.tmod (4:Int)==2)=true/\((↑(aa s.toNat).length:Int)=(↑(aa s.toNat).length:Int)/\(↑(aa (val (cutL (val (aa t.toNat)*val (cutL (val y*val y)))) / IntKind.i64.wrap (i*IntKind.i64.wrap (i+1))).toNat).length:Int)=(↑(aa (val (cutL (val (aa t.toNat)*val (cutL (val y*val y)))) / IntKind.i64.wrap (i*IntKind.i64.wrap (i+1))).toNat).length:Int))/\Dig (aa s.toNat)/\Dig (aa (val (cutL (val (aa t.toNat)*val (cutL (val y*val y)))) / IntKind.i64.wrap (i*IntKind.i64.wrap (i+1))).toNat)/\(0:Nat)<(aa s.toNat).length/\(aa s.toNat).length<=(500000:Nat)/\(aa (val (cutL (val (aa t.toNat)*val (cutL (val y*val y)))) / IntKind.i64.wrap (i*IntKind.i64.wrap (i+1))).toNat).length<=(aa s.toNat).length/\val (aa (val (cutL (val (aa t.toNat)*val (cutL (val y*val y)))) / IntKind.i64.wrap (i*IntKind.i64.wrap (i+1))).toNat)<=val (aa s.toNat))/\(true=true->(((↑(aa (val (aa s.toNat) - val (aa (val (cutL (val (aa t.toNat)*val (cutL (val y*val y)))) / IntKind.i64.wrap (i*IntKind.i64.wrap (i+1))).toNat)).toNat).length:Int)=(↑(aa (match decide (i % (4:Int)=2) with|true=>s - seT y i t|false=>s+seT y i t).toNat).length:Int)/\(↑(aa (val (cutL (val (aa t.toNat)*val (cutL (val y*val y)))) / IntKind.i64.wrap (i*IntKind.i64.wrap (i+1))).toNat).length:Int)=(↑(aa (seT y i t).toNat).length:Int)/\IntKind.i64.wrap (i+2)=i+2)/\aa (val (aa s.toNat) - val (aa (val (cutL (val (aa t.toNat)*val (cutL (val y*val y)))) / IntKind.i64.wrap (i*IntKind.i64.wrap (i+1))).toNat)).toNat=aa (match decide (i % (4:Int)=2) with|true=>s - seT y i t|false=>s+seT y i t).toNat/\aa (val (cutL (val (aa t.toNat)*val (cutL (val y*val y)))) / IntKind.i64.wrap (i*IntKind.i64.wrap (i+1))).toNat=aa (seT y i t).toNat)/\(seU y).I ((seU y).next (some (i,t,s)))/\(seU y).μ ((seU y).next (some (i,t,s)))<(seU y).μ (some (i,t,s))/\(seU y).F ((seU y).next (some (i,t,s)))=(seU y).F (some (i,t,s)))
theorem YC (y:List Int) (i t s:Int):aW (seS y) ((seU y).way ((some (i,t,s)))) ((run (cSe false true) 300).code Bn seA (ac (seS y) ((seU y).S (some (i,t,s)))))=some (.p (K0 y i t s)):=by kernel_rfl
def K1 (y:List Int) (i t s:Int):Prop:=(((((↑(aa t.toNat).length:Int)=(↑(aa t.toNat).length:Int)/\((0:Int)<=bu (↑(aa (val y*val y).toNat).length:Int))/\((0:Int)<=(↑(aa (val y*val y).toNat).length:Int) - bu (↑(aa (val y*val y).toNat).length:Int))/\(bu (↑(aa (val y*val y).toNat).length:Int))+((↑(aa (val y*val y).toNat).length:Int) - bu (↑(aa (val y*val y).toNat).length:Int))<=(↑(aa (val y*val y).toNat).length:Int))/\Dig (aa t.toNat)/\Dig (cutL (val y*val y))/\(aa t.toNat).length+(cutL (val y*val y)).length<=(500000:Nat))/\(((0:Int)<=bu (↑(aa (val (aa t.toNat)*val (cutL (val y*val y))).toNat).length:Int))/\(bu (↑(aa (val (aa t.toNat)*val (cutL (val y*val y))).toNat).length:Int))<=(↑(aa (val (aa t.toNat)*val (cutL (val y*val y))).toNat).length:Int)/\(↑(aa (val (aa t.toNat)*val (cutL (val y*val y))).toNat).length:Int)<=(↑(aa (val (aa t.toNat)*val (cutL (val y*val y))).toNat).length:Int))/\(((0:Int)<=bu (↑(aa (val (aa t.toNat)*val (cutL (val y*val y))).toNat).length:Int))/\((0:Int)<=(↑(aa (val (aa t.toNat)*val (cutL (val y*val y))).toNat).length:Int) - bu (↑(aa (val (aa t.toNat)*val (cutL (val y*val y))).toNat).length:Int))/\(bu (↑(aa (val (aa t.toNat)*val (cutL (val y*val y))).toNat).length:Int))+((↑(aa (val (aa t.toNat)*val (cutL (val y*val y))).toNat).length:Int) - bu (↑(aa (val (aa t.toNat)*val (cutL (val y*val y))).toNat).length:Int))<=(↑(aa (val (aa t.toNat)*val (cutL (val y*val y))).toNat).length:Int))/\Dig (cutL (val (aa t.toNat)*val (cutL (val y*val y))))/\(cutL (val (aa t.toNat)*val (cutL (val y*val y)))).length<=(500000:Nat)/\(1:Int)<=IntKind.i64.wrap (i*IntKind.i64.wrap (i+1))/\IntKind.i64.wrap (i*IntKind.i64.wrap (i+1))<=1000000000)/\((↑(aa (val (cutL (val (aa t.toNat)*val (cutL (val y*val y)))) / IntKind.i64.wrap (i*IntKind.i64.wrap (i+1))).toNat).length:Int)==0)=false/\(i.tmod (4:Int)==2)=false/\((↑(aa s.toNat).length:Int)=(↑(aa s.toNat).length:Int)/\(↑(aa (val (cutL (val (aa t.toNat)*val (cutL (val y*val y)))) / IntKind.i64.wrap (i*IntKind.i64.wrap (i+1))).toNat).length:Int)=(↑(aa (val (cutL (val (aa t.toNat)*val (cutL (val y*val y)))) / IntKind.i64.wrap (i*IntKind.i64.wrap (i+1))).toNat).length:Int))/\Dig (aa s.toNat)/\Dig (aa (val (cutL (val (aa t.toNat)*val (cutL (val y*val y)))) / IntKind.i64.wrap (i*IntKind.i64.wrap (i+1))).toNat)/\((0:Nat)<(aa s.toNat).length\/(0:Nat)<(aa (val (cutL (val (aa t.toNat)*val (cutL (val y*val y)))) / IntKind.i64.wrap (i*IntKind.i64.wrap (i+1))).toNat).length)/\(aa s.toNat).length<=(400000:Nat)/\(aa (val (cutL (val (aa t.toNat)*val (cutL (val y*val y)))) / IntKind.i64.wrap (i*IntKind.i64.wrap (i+1))).toNat).length<=(400000:Nat))/\(true=true->(((↑(aa (val (aa s.toNat)+val (aa (val (cutL (val (aa t.toNat)*val (cutL (val y*val y)))) / IntKind.i64.wrap (i*IntKind.i64.wrap (i+1))).toNat)).toNat).length:Int)=(↑(aa (match decide (i % (4:Int)=2) with|true=>s - seT y i t|false=>s+seT y i t).toNat).length:Int)/\(↑(aa (val (cutL (val (aa t.toNat)*val (cutL (val y*val y)))) / IntKind.i64.wrap (i*IntKind.i64.wrap (i+1))).toNat).length:Int)=(↑(aa (seT y i t).toNat).length:Int)/\IntKind.i64.wrap (i+2)=i+2)/\aa (val (aa s.toNat)+val (aa (val (cutL (val (aa t.toNat)*val (cutL (val y*val y)))) / IntKind.i64.wrap (i*IntKind.i64.wrap (i+1))).toNat)).toNat=aa (match decide (i % (4:Int)=2) with|true=>s - seT y i t|false=>s+seT y i t).toNat/\aa (val (cutL (val (aa t.toNat)*val (cutL (val y*val y)))) / IntKind.i64.wrap (i*IntKind.i64.wrap (i+1))).toNat=aa (seT y i t).toNat)/\(seU y).I ((seU y).next (some (i,t,s)))/\(seU y).μ ((seU y).next (some (i,t,s)))<(seU y).μ (some (i,t,s))/\(seU y).F ((seU y).next (some (i,t,s)))=(seU y).F (some (i,t,s)))
theorem YD (y:List Int) (i t s:Int):aW (seS y) ((seU y).way ((some (i,t,s)))) ((run (cSe false false) 300).code Bn seA (ac (seS y) ((seU y).S (some (i,t,s)))))=some (.p (K1 y i t s)):=by kernel_rfl
def P3 (y:List Int) (i t s:Int):Prop:=(((((↑(aa t.toNat).length:Int)=(↑(aa t.toNat).length:Int)/\((0:Int)<=bu (↑(aa (val y*val y).toNat).length:Int))/\((0:Int)<=(↑(aa (val y*val y).toNat).length:Int) - bu (↑(aa (val y*val y).toNat).length:Int))/\(bu (↑(aa (val y*val y).toNat).length:Int))+((↑(aa (val y*val y).toNat).length:Int) - bu (↑(aa (val y*val y).toNat).length:Int))<=(↑(aa (val y*val y).toNat).length:Int))/\Dig (aa t.toNat)/\Dig (cutL (val y*val y))/\(aa t.toNat).length+(cutL (val y*val y)).length<=(500000:Nat))/\(((0:Int)<=bu (↑(aa (val (aa t.toNat)*val (cutL (val y*val y))).toNat).length:Int))/\(bu (↑(aa (val (aa t.toNat)*val (cutL (val y*val y))).toNat).length:Int))<=(↑(aa (val (aa t.toNat)*val (cutL (val y*val y))).toNat).length:Int)/\(↑(aa (val (aa t.toNat)*val (cutL (val y*val y))).toNat).length:Int)<=(↑(aa (val (aa t.toNat)*val (cutL (val y*val y))).toNat).length:Int))/\(((0:Int)<=bu (↑(aa (val (aa t.toNat)*val (cutL (val y*val y))).toNat).length:Int))/\((0:Int)<=(↑(aa (val (aa t.toNat)*val (cutL (val y*val y))).toNat).length:Int) - bu (↑(aa (val (aa t.toNat)*val (cutL (val y*val y))).toNat).length:Int))/\(bu (↑(aa (val (aa t.toNat)*val (cutL (val y*val y))).toNat).length:Int))+((↑(aa (val (aa t.toNat)*val (cutL (val y*val y))).toNat).length:Int) - bu (↑(aa (val (aa t.toNat)*val (cutL (val y*val y))).toNat).length:Int))<=(↑(aa (val (aa t.toNat)*val (cutL (val y*val y))).toNat).length:Int))/\Dig (cutL (val (aa t.toNat)*val (cutL (val y*val y))))/\(cutL (val (aa t.toNat)*val (cutL (val y*val y)))).length<=(500000:Nat)/\(1:Int)<=IntKind.i64.wrap (i*IntKind.i64.wrap (i+1))/\IntKind.i64.wrap (i*IntKind.i64.wrap (i+1))<=1000000000)/\((↑(aa (val (cutL (val (aa t.toNat)*val (cutL (val y*val y)))) / IntKind.i64.wrap (i*IntKind.i64.wrap (i+1))).toNat).length:Int)==0)=true)/\(true=true->((↑(aa s.toNat).length:Int)=(↑(aa s.toNat).length:Int)/\aa s.toNat=aa s.toNat)/\(seU y).F (some (i,t,s))=(Ex.ret,seX s))
theorem abK (y:List Int) (i t s:Int):aW (seS y) ((seU y).way ((some (i,t,s)))) ((run (cSe true false) 300).code Bn seA (ac (seS y) ((seU y).S (some (i,t,s)))))=some (.p (P3 y i t s)):=by kernel_rfl
structure SeD (y:List Int):Prop where
 d:Dig y
 l:y.length<=100
 hi:val y<=1700000000000000000000000000000000000000000000
 lo:0<seT y 2 (val y)
theorem SeD.sq {y:List Int} (h:SeD y):0<=n5 y/\n5 y<=3*PP:=by
 have v0:=af h.d
 have v1:=h.hi
 have p:=dI
 refine ⟨Int.ediv_nonneg (Int.mul_nonneg v0 v0) (by omega),Int.ediv_le_of_le_mul p ?_⟩
 have:=Int.mul_le_mul (a:=val y) (b:=val y) (c:=1700000000000000000000000000000000000000000000) (d:=1700000000000000000000000000000000000000000000) v1 v1 v0 (by decide)
 have e:(1700000000000000000000000000000000000000000000:Int)*1700000000000000000000000000000000000000000000<=3*PP*PP:=by decide
 omega
theorem SX {i:Int} (h0:2<=i) (h1:i<=400):IntKind.i64.wrap (i*IntKind.i64.wrap (i+1))=i*(i+1):=by
 have e:i*(i+1)<=400*401:=Int.mul_le_mul (a:=i) (b:=i+1) (c:=400) (d:=401) h1 (by omega) (by omega) (by decide)
 have e2:2*3<=i*(i+1):=Int.mul_le_mul (a:=2) (b:=3) (c:=i) (d:=i+1) h0 (by omega) (by decide) (by omega)
 rw [show IntKind.i64.wrap (i+1)=i+1 from iw (by omega) (by omega),iw (by omega) (by omega)]
theorem SeD.q {y:List Int} (h:SeD y) {v i:Int} (hv:0<=v) (h0:2<=i) (h1:i<=400):val (cutL (v*val (cutL (val y*val y)))) / IntKind.i64.wrap (i*IntKind.i64.wrap (i+1))=seT y i v:=by
 have v0:=af h.d
 have h2:=h.sq
 rw [SX h0 h1,pz (Int.mul_nonneg v0 v0),pz (v:=v*(val y*val y / PP)) (Int.mul_nonneg hv h2.1)]
 rfl
theorem qF {n:Int} (h:0<=n):0<=bu n/\bu n<=n:=by unfold bu; split <;> omega
theorem uQ (v:Int):(cutL v).length<=(aa v.toNat).length:=by
 unfold cutL
 rw [List.length_take,List.length_drop]
 omega
theorem gJ {v:Int} {n:Nat} (h0:0<=v) (h:v<pw n):(aa v.toNat).length<=n:=dX (by omega)
theorem len_mul {a b:Int} (a0:0<=a) (a1:a<=4*PP) (b0:0<=b) (b1:b<=4*PP):(aa (a*b).toNat).length<=11:=by
 have p:=dI
 have h:=Int.mul_le_mul a1 b1 b0 (by omega)
 have e:4*PP*(4*PP)<pw 11:=by decide
 exact gJ (Int.mul_nonneg a0 b0) (by omega)
theorem ig {a:Int} (a0:0<=a) (a1:a<=400*PP):(aa a.toNat).length<=6:=by
 have e:400*PP<pw 6:=by decide
 exact gJ a0 (by omega)
theorem dv {a:Int} (a0:0<=a):val (aa a.toNat)=a:=by rw [dn]; omega
theorem Br {a:Int} (a0:0<a):0<(aa a.toNat).length:=kA (by omega)
theorem US {a b:Int} (a0:0<=a) (h:a<=b):(aa a.toNat).length<=(aa b.toNat).length:=by
 refine gJ a0 ?_
 have:=bc (ay b.toNat)
 rw [dv (by omega)] at this
 omega
theorem yj {n:Nat} {t:Int} (h0:0<t) (h:2 ^ n*t<=4*PP):n<=151:=by
 refine Nat.le_of_not_lt fun hn=>?_
 have h1:(2:Int) ^ 152<=2 ^ n:=by
  have:=Nat.pow_le_pow_right (n:=2) (by decide) (show 152<=n by omega)
  have e1:((2 ^ 152:Nat):Int)<=((2 ^ n:Nat):Int):=by exact_mod_cast this
  simpa using e1
 have h2:(2:Int) ^ n*1<=2 ^ n*t:=Int.mul_le_mul_of_nonneg_left (by omega) (by omega)
 have e:4*PP<2 ^ 152:=by decide
 omega
theorem yk {y:List Int} (h:SeD y) {i t:Int} (ht:0<=t) (hi:2<=i):0<=seT y i t/\2*seT y i t<=t:=KW h.sq.1 h.sq.2 ht hi
theorem K2 {y:List Int} (h:SeD y):seR y (some (4,seT y 2 (val y),val y - seT y 2 (val y)))=seR y none:=by
 show jo (n5 y) 199 4 _ _=jo (n5 y) (199+1) 2 (val y) (val y)
 rw [qE (show val y*n5 y / PP / (2*(2+1))≠0 from by have:=h.lo; unfold seT at this; omega)]
 rfl
theorem P4 {y:List Int} {i t s:Int} (hi:(i / 2).toNat<=200) (h:seT y i t=0):seR y (some (i,t,s))=s:=by
 show jo (n5 y) (201 - (i / 2).toNat) i t s=s
 rw [show 201 - (i / 2).toNat=(200 - (i / 2).toNat)+1 by omega,Bp h]
theorem K3 {y:List Int} {i t s:Int} (h0:0<=i) (hi:(i / 2).toNat<=200) (h:seT y i t≠0):seR y ((seU y).next (some (i,t,s)))=seR y (some (i,t,s)):=by
 show jo (n5 y) (201 - ((i+2) / 2).toNat) (i+2) (seT y i t) _=jo (n5 y) (201 - (i / 2).toNat) i t s
 rw [show 201 - (i / 2).toNat=(200 - (i / 2).toNat)+1 by omega,qE h,show 201 - ((i+2) / 2).toNat=200 - (i / 2).toNat by omega]
 rfl
theorem K4 {y:List Int} (h:SeD y) {i t s:Int} (hI:(seU y).I (some (i,t,s))) (h0:seT y i t≠0):(seU y).I ((seU y).next (some (i,t,s))):=by
 obtain ⟨t0,i0,i1,i2,pw,s0,ts,sb⟩:=(show 0<t/\i % 2=0/\2<i/\i<=400/\2 ^ (i / 2).toNat*t<=4*PP/\0<s/\(i % 4=2->t<=s)/\s<=i*PP from hI)
 obtain ⟨b0,b1⟩:=yk h (i:=i) (t:=t) (by omega) (by omega)
 have k:=yj t0 pw
 have hp:(2:Int) ^ ((i+2) / 2).toNat*seT y i t<=4*PP:=by
  rw [show ((i+2) / 2).toNat=(i / 2).toNat+1 by omega,Int.pow_succ,Int.mul_assoc]
  have:(2:Int) ^ (i / 2).toNat*(2*seT y i t)<=2 ^ (i / 2).toNat*t:=Int.mul_le_mul_of_nonneg_left b1 (Int.pow_nonneg (by decide))
  omega
 have ht:t<=PP:=by
  have h4:(4:Int)*t<=2 ^ (i / 2).toNat*t:=by
   refine Int.mul_le_mul_of_nonneg_right ?_ (by omega)
   have:=Nat.pow_le_pow_right (n:=2) (by decide) (show 2<=(i / 2).toNat by omega)
   have e1:((2 ^ 2:Nat):Int)<=((2 ^ (i / 2).toNat:Nat):Int):=by exact_mod_cast this
   simpa using e1
  omega
 have e2:(i+2)*PP=i*PP+2*PP:=Int.add_mul _ _ _
 have p:=dI
 show 0<seT y i t/\(i+2) % 2=0/\2<i+2/\i+2<=400/\2 ^ ((i+2) / 2).toNat*seT y i t<=4*PP/\0<(match decide (i % 4=2) with|true=>s - seT y i t|false=>s+seT y i t)/\((i+2) % 4=2->seT y i t<=(match decide (i % 4=2) with|true=>s - seT y i t|false=>s+seT y i t))/\(match decide (i % 4=2) with|true=>s - seT y i t|false=>s+seT y i t)<=(i+2)*PP
 by_cases hm:i % 4=2
 .have:=ts hm
  rw [show (match decide (i % 4=2) with|true=>s - seT y i t|false=>s+seT y i t)=s - seT y i t by rw [decide_eq_true hm]]
  refine ⟨by omega,by omega,by omega,by omega,hp,by omega,by omega,by omega⟩
 .rw [show (match decide (i % 4=2) with|true=>s - seT y i t|false=>s+seT y i t)=s+seT y i t by rw [decide_eq_false hm]]
  refine ⟨by omega,by omega,by omega,by omega,hp,by omega,by omega,by omega⟩
theorem GW {y:List Int} (h:SeD y):(seU y).I ((seU y).next none):=by
 have v0:=af h.d
 have v1:=h.hi
 have l0:=h.lo
 obtain ⟨b0,b1⟩:=yk h (i:=2) (t:=val y) v0 (by omega)
 have e:(1700000000000000000000000000000000000000000000:Int)<=2*PP:=by decide
 show 0<seT y 2 (val y)/\(4:Int) % 2=0/\(2:Int)<4/\(4:Int)<=400/\(2:Int) ^ (2:Nat)*seT y 2 (val y)<=4*PP/\0<val y - seT y 2 (val y)/\((4:Int) % 4=2->seT y 2 (val y)<=val y - seT y 2 (val y))/\val y - seT y 2 (val y)<=4*PP
 have p:=dI
 refine ⟨l0,by decide,by decide,by decide,?_,by omega,by omega,by omega⟩
 rw [show (2:Int) ^ (2:Nat)=4 from rfl]; omega
theorem P5 {y:List Int} (h:SeD y):CodeOk cZ Bn (.loop seA) (seS y) ⟨.tt,[⟨.tt,.ret,ac (seS y) (seX (seR y none))⟩]⟩:=by
 refine cG (seU y) (y0:=none) trivial ⟨_,KY y,rfl⟩ (by kernel_rfl) (fun x hx=>?_) rfl
 have v0:=af h.d
 have v1:=h.hi
 have yl:=h.l
 have l0:=h.lo
 have p:=dI
 have e17:(1700000000000000000000000000000000000000000000:Int)<=2*PP:=by decide
 obtain ⟨q0,q1⟩:=h.sq
 have hsq:val (cutL (val y*val y))=n5 y:=by rw [pz (Int.mul_nonneg v0 v0)]; rfl
 have m1:=len_mul v0 (by omega) v0 (by omega:val y<=4*PP)
 have k1:=uQ (val y*val y)
 have c1:=qF (n:=((aa (val y*val y).toNat).length:Int)) (by omega)
 have d1:=pA (val y*val y)
 cases x with
 | none=>
  have Q:=h.q (v:=val y) v0 (i:=2) (by omega) (by omega)
  have c2:=qF (n:=((aa (val y*val (cutL (val y*val y))).toNat).length:Int)) (by omega)
  have d2:=pA (val y*val (cutL (val y*val y)))
  have m2:=len_mul v0 (by omega:val y<=4*PP) q0 (by omega)
  rw [<- hsq] at m2
  have k2:=uQ (val y*val (cutL (val y*val y)))
  obtain ⟨b0,b1⟩:=yk h (i:=2) (t:=val y) v0 (by omega)
  have dq:=ay (seT y 2 (val y)).toNat
  have lq:=Br l0
  have vq:=dv b0
  have yp:0<y.length:=by
   rcases Nat.eq_zero_or_pos y.length with e|e
   .rw [List.length_eq_zero_iff.1 e] at b1 l0
    have:val []=0:=rfl
    omega
   .exact e
  have ql:(aa (seT y 2 (val y)).toNat).length<=y.length:=gJ b0 (by have:=bc h.d; omega)
  have nx:=GW h
  have w6:IntKind.i64.wrap (2*IntKind.i64.wrap (2+1))=6:=by decide
  refine ⟨cSe false true,300,yi _ _,rfl,rfl,_,YB y,?_,fun _=>?_⟩
  .rw [Q,w6,vq]
   refine ⟨⟨⟨⟨rfl,by omega,by omega,by omega⟩,h.d,d1,by omega⟩,⟨by omega,by omega,by omega⟩,⟨by omega,by omega,by omega⟩,d2,by omega,by omega,by omega⟩,beq_eq_false_iff_ne.2 (by omega),rfl,⟨rfl,rfl⟩,h.d,dq,yp,by omega,ql,by omega⟩
  .rw [Q,vq]
   refine ⟨⟨⟨rfl,rfl,by decide⟩,rfl,rfl⟩,nx,by show (400 - 4:Int).toNat<400; omega,?_⟩
   exact congrArg (fun z=>(Ex.ret,seX z)) (K2 h)
 | some x=>
  obtain ⟨i,t,s⟩:=x
  have hI:=hx
  obtain ⟨t0,i0,i1,i2,pw2,s0,ts,sb⟩:=(show 0<t/\i % 2=0/\2<i/\i<=400/\2 ^ (i / 2).toNat*t<=4*PP/\0<s/\(i % 4=2->t<=s)/\s<=i*PP from hx)
  have k:=yj t0 pw2
  have ht:t<=4*PP:=by
   have h4:(1:Int)*t<=2 ^ (i / 2).toNat*t:=by
    refine Int.mul_le_mul_of_nonneg_right ?_ (by omega)
    have:=Nat.one_le_two_pow (n:=(i / 2).toNat)
    have e1:((1:Nat):Int)<=((2 ^ (i / 2).toNat:Nat):Int):=by exact_mod_cast this
    simpa using e1
   omega
  have hs:s<=400*PP:=by
   have:i*PP<=400*PP:=Int.mul_le_mul_of_nonneg_right i2 (by omega)
   omega
  have vt:=dv (a:=t) (by omega)
  have vs:=dv (a:=s) (by omega)
  have dt:=ay t.toNat
  have ds:=ay s.toNat
  have lt:=ig (a:=t) (by omega) (by omega)
  have ls:=ig (a:=s) (by omega) hs
  have ls0:=Br s0
  have Q:=h.q (v:=t) (by omega) (i:=i) (by omega) i2
  have c2:=qF (n:=((aa (t*val (cutL (val y*val y))).toNat).length:Int)) (by omega)
  have d2:=pA (t*val (cutL (val y*val y)))
  have m2:=len_mul (a:=t) (by omega) ht q0 (by omega)
  rw [<- hsq] at m2
  have k2:=uQ (t*val (cutL (val y*val y)))
  obtain ⟨b0,b1⟩:=yk h (i:=i) (t:=t) (by omega) (by omega)
  have dq:=ay (seT y i t).toNat
  have vq:=dv b0
  have w6:=SX (i:=i) (by omega) i2
  have w7:1<=i*(i+1):=by have:=Int.mul_le_mul (a:=2) (b:=3) (c:=i) (d:=i+1) (by omega) (by omega) (by decide) (by omega); omega
  have w8:i*(i+1)<=400*401:=Int.mul_le_mul (a:=i) (b:=i+1) (c:=400) (d:=401) i2 (by omega) (by omega) (by decide)
  have w9:IntKind.i64.wrap (i+2)=i+2:=iw (by omega) (by omega)
  by_cases h0:seT y i t=0
  .refine ⟨cSe true false,300,yi _ _,rfl,rfl,_,abK y i t s,?_,fun _=>⟨⟨rfl,rfl⟩,?_⟩⟩
   .rw [vt,Q,w6,h0]
    exact ⟨⟨⟨⟨rfl,by omega,by omega,by omega⟩,dt,d1,by omega⟩,⟨by omega,by omega,by omega⟩,⟨by omega,by omega,by omega⟩,d2,by omega,by omega,by omega⟩,by rw [show aa (0:Int).toNat=[] from bS]; rfl⟩
   .show (Ex.ret,seX _)=(Ex.ret,seX _)
    rw [P4 (by omega) h0]
  .have lq:=Br (a:=seT y i t) (by omega)
   have nx:=K4 h hI h0
   have nr:=K3 (y:=y) (i:=i) (t:=t) (s:=s) (by omega) (by omega) h0
   have mu:(400 - (i+2)).toNat<(400 - i).toNat:=by
    have:i<=304:=by omega
    omega
   by_cases hm:i % 4=2
   .have hts:=ts hm
    have ql:=US b0 (show seT y i t<=s by omega)
    have e4:(match decide (i % 4=2) with|true=>s - seT y i t|false=>s+seT y i t)=s - seT y i t:=by rw [decide_eq_true hm]
    refine ⟨cSe false true,300,yi _ _,rfl,rfl,_,YC y i t s,?_,fun _=>?_⟩
    .rw [vt,Q,w6,vq,vs]
     refine ⟨⟨⟨⟨rfl,by omega,by omega,by omega⟩,dt,d1,by omega⟩,⟨by omega,by omega,by omega⟩,⟨by omega,by omega,by omega⟩,d2,by omega,by omega,by omega⟩,beq_eq_false_iff_ne.2 (by omega),?_,⟨rfl,rfl⟩,ds,dq,ls0,by omega,ql,by omega⟩
     rw [Int.tmod_eq_emod_of_nonneg (by omega),hm]; rfl
    .rw [vt,Q,vq,vs]
     exact ⟨⟨⟨congrArg (fun z:Int=>((aa z.toNat).length:Int)) e4.symm,rfl,w9⟩,congrArg (fun z:Int=>aa z.toNat) e4.symm,rfl⟩,nx,mu,congrArg (fun z=>(Ex.ret,seX z)) nr⟩
   .have hmm:i % 4=0:=by omega
    have ql:=ig (a:=seT y i t) b0 (by omega)
    have e4:(match decide (i % 4=2) with|true=>s - seT y i t|false=>s+seT y i t)=s+seT y i t:=by rw [decide_eq_false hm]
    refine ⟨cSe false false,300,yi _ _,rfl,rfl,_,YD y i t s,?_,fun _=>?_⟩
    .rw [vt,Q,w6]
     refine ⟨⟨⟨⟨rfl,by omega,by omega,by omega⟩,dt,d1,by omega⟩,⟨by omega,by omega,by omega⟩,⟨by omega,by omega,by omega⟩,d2,by omega,by omega,by omega⟩,beq_eq_false_iff_ne.2 (by omega),?_,⟨rfl,rfl⟩,ds,dq,.inl ls0,by omega,by omega⟩
     rw [Int.tmod_eq_emod_of_nonneg (by omega),hmm]; rfl
    .rw [vt,Q,vq,vs]
     exact ⟨⟨⟨congrArg (fun z:Int=>((aa z.toNat).length:Int)) e4.symm,rfl,w9⟩,congrArg (fun z:Int=>aa z.toNat) e4.symm,rfl⟩,nx,mu,congrArg (fun z=>(Ex.ret,seX z)) nr⟩
noncomputable def UT (y:List Int):Ctx:=aw cZ [aR 101 (seS y).hp.clock Bn seA (seS y) .ret (seX (seR y none))]
theorem P6 {y:List Int} (h:SeD y):CtxOk (UT y):=ak lR (P5 h) (aq lR)
def P7 (y:List Int):Prop:=(((((↑y.length:Int)=(↑y.length:Int)/\(↑y.length:Int)=(↑y.length:Int))/\Dig y/\Dig y/\y.length+y.length<=(500000:Nat))/\((0:Int)<=bu (↑(aa (val y*val y).toNat).length:Int))/\(bu (↑(aa (val y*val y).toNat).length:Int))<=(↑(aa (val y*val y).toNat).length:Int)/\(↑(aa (val y*val y).toNat).length:Int)<=(↑(aa (val y*val y).toNat).length:Int))/\At (Bn) (Bn) (seA) (seA) (seS y) (seS y))
def UU (y:List Int):AV:=(AV.lslice 1 (↑(aa (seR y none).toNat).length:Int))
def UV (y:List Int):Hp:=⟨[{ wr:=24,body:=ABody.rows IntKind.i64 (aa (seR y none).toNat) },{ wr:=(0:Nat),body:=ABody.rows IntKind.i64 y }],2,25⟩
theorem abM (y:List Int):(run (UT y) 300).call 101 (qD y) (zH y)=some ⟨.p (P7 y),[⟨.tt,UU y,UV y⟩]⟩:=by kernel_rfl
def UW:List Nu->List (List Int)->Option (Prop×To)
 | [.n k],[y]=>some (k=5/\SeD y,.li false (aa (seR y none).toNat))
 | _,_=>none
theorem GX:NOk Tryz.prog (fun _=>none) hG0 101 (au hG0 .i64 [.li,.nu (.i .i64)] UW):=by
 refine bg (fun xs ys p t e h=>?_) ⟨_,Tryz.func101,rfl⟩
 unfold UW at e
 split at e
 .rename_i k y
  cases e
  obtain ⟨rfl,h⟩:=h
  have hd:=h.d
  have hl:=h.l
  have c1:=qF (n:=((aa (val y*val y).toNat).length:Int)) (by omega)
  exact ⟨UT y,300,qD y,_,_,_,_,_,P6 h,rfl,rfl,⟨rfl,⟨rfl,rfl⟩,trivial⟩,abM y,rfl,⟨⟨⟨⟨rfl,rfl⟩,hd,hd,by omega⟩,⟨by omega,by omega,by omega⟩⟩,⟨rfl,rfl,rfl⟩⟩,rfl,rfl,rfl,rfl⟩
 .cases e
def tZ2:List (FuncId×eF):=(101,au hG0 .i64 [.li,.nu (.i .i64)] UW) :: tZ
theorem UX:∀ x∈tZ2,NOk Tryz.prog (fun _=>none) hG0 x.1 x.2:=by
 intro x hx
 rcases List.mem_cons.1 hx with rfl|hx
 .exact GX
 exact SU x hx
def K5:AFr:=⟨103,none⟩
def dwA:Code:=bJ Tryz.prog 103 0
noncomputable def dwS (a:List Int):St:=ib cZ 300 103 (qD a) (zH a)
def dwV (a:List Int):Int:=val a*val (aa (4294967296:Int).toNat)
def dwP (i n:Int):Patch:=⟨(5,.int true .i64 n) :: (7,.int true .i64 i) :: aC 17 11,[],[]⟩
def dwU (a:List Int):SumL (Int×Int):=
 {
  S:=fun (i,n)=>dwP i n
  I:=fun (i,n)=>-1<=i/\i<(cutL (dwV a)).length/\n=val ((cutL (dwV a)).drop (i+1).toNat)
  μ:=fun (i,_)=>(i+1).toNat
  F:=fun _=>(.exit 0,dwP (-1) (dwV a / PP))
  next:=fun (i,n)=>(i - 1,n*1000000000+(cutL (dwV a)).getD i.toNat 0)
  ids:=fun _=>[]
  X:=fun (i,n) _=>some (dwP i n,[]) }
def Bs (a:List Int):Prop:=(0:Int)=0/\IntKind.i64.wrap (((↑(aa (val a*val (aa (Int.toNat (4294967296:Int)))).toNat).length:Int) - bu (↑(aa (val a*val (aa (Int.toNat (4294967296:Int)))).toNat).length:Int)) - (1:Int))=(↑(cutL (dwV a)).length:Int) - (1:Int)
theorem K6 (a:List Int):fit (dwS a) (dwS a) (ac (dwS a) (dwP (((cutL (dwV a)).length:Int) - 1) 0)) ([])=some (.p (Bs a)):=by kernel_rfl
def Di (a:List Int) (i n:Int):Prop:=(decide (i>=0)=true->(((0:Int)<=bu (↑(aa (val a*val (aa (Int.toNat (4294967296:Int)))).toNat).length:Int))/\(0:Int)<=i/\i<(↑(aa (val a*val (aa (Int.toNat (4294967296:Int)))).toNat).length:Int) - bu (↑(aa (val a*val (aa (Int.toNat (4294967296:Int)))).toNat).length:Int))/\((bu (↑(aa (val a*val (aa (Int.toNat (4294967296:Int)))).toNat).length:Int))+i).toNat<(aa (val a*val (aa (Int.toNat (4294967296:Int)))).toNat).length)/\((!decide (i>=0))=true->(n=n/\i=i)/\(dwU a).F (i,n)=(Ex.exit (0:Nat),dwP i n))/\(decide (i>=0)=true->(IntKind.i64.wrap (IntKind.i64.wrap (n*1000000000)+(aa (val a*val (aa (Int.toNat (4294967296:Int)))).toNat).getD ((bu (↑(aa (val a*val (aa (Int.toNat (4294967296:Int)))).toNat).length:Int))+i).toNat (0:Int))=n*1000000000+(cutL (dwV a)).getD i.toNat (0:Int)/\IntKind.i64.wrap (i - (1:Int))=i - (1:Int))/\(dwU a).I ((dwU a).next (i,n))/\(dwU a).μ ((dwU a).next (i,n))<(dwU a).μ (i,n)/\(dwU a).F ((dwU a).next (i,n))=(dwU a).F (i,n))
theorem P8 (a:List Int) (i n:Int):aW (dwS a) ((dwU a).way ((i,n))) ((run cZ 300).code K5 dwA (ac (dwS a) ((dwU a).S (i,n))))=some (.p (Di a i n)):=by kernel_rfl
structure DwD (a:List Int):Prop where
 d:Dig a
 l:a.length<=100
 hi:dwV a / PP<4611686018427387904
theorem DwD.v {a:List Int} (h:DwD a):0<=dwV a:=Int.mul_nonneg (af h.d) (af (ay _))
theorem P9 {l:List Int} (h:Dig l) (k:Nat):val (l.drop k)<=val l:=by
 rw [uP k h]
 exact Int.ediv_le_self _ (af h)
theorem Qa {a:List Int} (h:DwD a):CodeOk cZ K5 (.loop dwA) (dwS a) ⟨.tt,[⟨.tt,.exit 0,ac (dwS a) (dwP (-1) (dwV a / PP))⟩]⟩:=by
 have v0:=h.v
 have hc:=Fe v0
 have hv:=pz v0
 have hd:=pA (dwV a)
 have hi:=h.hi
 have c1:=qF (n:=((aa (dwV a).toNat).length:Int)) (by omega)
 have lm:(aa (dwV a).toNat).length<=500000:=by
  have l:=h.l
  have h1:=bc h.d
  have h2:=bN l
  refine Nat.le_trans (gJ (n:=102) v0 ?_) (by decide)
  have e1:val (aa (4294967296:Int).toNat)=4294967296:=dv (by decide)
  have e2:pw 102=1000000000000000000*pw 100:=by rw [fT,fT]; omega
  have h0:=af h.d
  have p:=pw_pos 100
  unfold dwV
  rw [e1,e2]; omega
 have lc:((cutL (dwV a)).length:Int)=(aa (dwV a).toNat).length - bu (aa (dwV a).toNat).length:=by
  rw [hc,List.length_drop]; omega
 refine cY (aQ lR 300) (dwU a) (y0:=(((cutL (dwV a)).length:Int) - 1,0)) ⟨by omega,by show _ - 1<_; omega,?_⟩ ⟨_,K6 a,rfl,?_⟩ (by kernel_rfl) (fun y hy=>?_) rfl
 .show 0=val ((cutL (dwV a)).drop (((cutL (dwV a)).length:Int) - 1+1).toNat)
  rw [show (((cutL (dwV a)).length:Int) - 1+1).toNat=(cutL (dwV a)).length by omega,List.drop_length]; rfl
 .show IntKind.i64.wrap (((aa (dwV a).toNat).length:Int) - bu (aa (dwV a).toNat).length - 1)=(cutL (dwV a)).length - 1
  rw [lc,iw (by omega) (by omega)]
 .obtain ⟨i,n⟩:=y
  obtain ⟨i0,i1,hn⟩:=(show -1<=i/\i<(cutL (dwV a)).length/\n=val ((cutL (dwV a)).drop (i+1).toNat) from hy)
  refine ⟨_,P8 a i n,fun e=>?_,fun e=>?_,fun e=>?_⟩
  .have e:=dt.1 e
   exact ⟨⟨c1.1,e,by show i<((aa (dwV a).toNat).length:Int) - bu (aa (dwV a).toNat).length; omega⟩,by show (bu (aa (dwV a).toNat).length+i).toNat<(aa (dwV a).toNat).length; omega⟩
  .have e:=ndt.1 e
   have:i=-1:=by omega
   subst this
   refine ⟨⟨rfl,rfl⟩,?_⟩
   show (Ex.exit 0,dwP (-1) (dwV a / PP))=(Ex.exit 0,dwP (-1) n)
   rw [hn,show ((-1:Int)+1).toNat=0 from rfl,List.drop_zero,hv]
  .have e:=dt.1 e
   have hl:i.toNat<(cutL (dwV a)).length:=by omega
   have s1:=A7 hl
   have s2:=P9 hd i.toNat
   rw [show i.toNat+1=(i+1).toNat by omega,<- hn] at s1
   rw [hv] at s2
   have g0:=hd.get i.toNat
   have n0:0<=n:=by rw [hn]; exact af (Bo hd _)
   have gd:(aa (dwV a).toNat).getD (bu (aa (dwV a).toNat).length+i).toNat 0=(cutL (dwV a)).getD i.toNat 0:=by
    rw [hc,List.getD_eq_getElem?_getD,List.getD_eq_getElem?_getD,List.getElem?_drop]
    congr 2
    omega
   have w1:IntKind.i64.wrap (n*1000000000)=n*1000000000:=iw (by omega) (by omega)
   have w2:IntKind.i64.wrap (n*1000000000+(cutL (dwV a)).getD i.toNat 0)=n*1000000000+(cutL (dwV a)).getD i.toNat 0:=iw (by omega) (by omega)
   refine ⟨⟨?_,iw (by omega) (by omega)⟩,⟨by show -1<=i - 1; omega,by show i - 1<_; omega,?_⟩,by show (i - 1+1).toNat<(i+1).toNat; omega,rfl⟩
   .show IntKind.i64.wrap (IntKind.i64.wrap (n*1000000000)+(aa (dwV a).toNat).getD (bu (aa (dwV a).toNat).length+i).toNat 0)=_
    rw [w1,gd,w2]
   .show n*1000000000+(cutL (dwV a)).getD i.toNat 0=val ((cutL (dwV a)).drop (i - 1+1).toNat)
    rw [show (i - 1+1).toNat=i.toNat by omega,s1]; omega
noncomputable def UY (a:List Int):Ctx:=aw cZ [aR 103 (dwS a).hp.clock K5 dwA (dwS a) (.exit 0) (dwP (-1) (dwV a / PP))]
theorem Qb {a:List Int} (h:DwD a):CtxOk (UY a):=ak lR (Qa h) (aq lR)
def Qc (a:List Int):Prop:=((((0:Int)<4294967296/\(4294967296:Int)<1000000000000000000)/\(((↑a.length:Int)=(↑a.length:Int)/\(↑(aa (Int.toNat (4294967296:Int))).length:Int)=(↑(aa (Int.toNat (4294967296:Int))).length:Int))/\Dig a/\Dig (aa (Int.toNat (4294967296:Int)))/\a.length+(aa (Int.toNat (4294967296:Int))).length<=(500000:Nat))/\((0:Int)<=bu (↑(aa (val a*val (aa (Int.toNat (4294967296:Int)))).toNat).length:Int))/\(bu (↑(aa (val a*val (aa (Int.toNat (4294967296:Int)))).toNat).length:Int))<=(↑(aa (val a*val (aa (Int.toNat (4294967296:Int)))).toNat).length:Int)/\(↑(aa (val a*val (aa (Int.toNat (4294967296:Int)))).toNat).length:Int)<=(↑(aa (val a*val (aa (Int.toNat (4294967296:Int)))).toNat).length:Int))/\At (K5) (K5) (dwA) (dwA) (dwS a) (dwS a))
def UZ (a:List Int):AV:=(AV.int true IntKind.i64 (dwV a / PP))
def U0 (a:List Int):Hp:=⟨[{ wr:=(0:Nat),body:=ABody.rows IntKind.i64 a }],1,28⟩
theorem abO (a:List Int):(run (UY a) 300).call 103 (qD a) (zH a)=some ⟨.p (Qc a),[⟨.tt,UZ a,U0 a⟩]⟩:=by kernel_rfl
def U2:List Nu->List (List Int)->Option (Prop×To)
 | [.n k],[a]=>some (k=5/\DwD a,.nu .i64 (val a*4294967296 / PP))
 | _,_=>none
theorem K7 (a:List Int):dwV a=val a*4294967296:=by
 unfold dwV
 rw [dv (by decide)]
theorem Qd:NOk Tryz.prog (fun _=>none) hG0 103 (au hG0 .i64 [.li,.nu (.i .i64)] U2):=by
 refine bg (fun xs ys p t e h=>?_) ⟨_,Tryz.func103,rfl⟩
 unfold U2 at e
 split at e
 .rename_i k y
  cases e
  obtain ⟨rfl,h⟩:=h
  have hd:=h.d
  have hl:=h.l
  have c1:=qF (n:=((aa (dwV y).toNat).length:Int)) (by omega)
  have l2:(aa (4294967296:Int).toNat).length<=2:=gJ (by decide) (by decide)
  exact ⟨UY y,300,qD y,_,_,_,_,_,Qb h,rfl,rfl,⟨rfl,⟨rfl,rfl⟩,trivial⟩,abO y,rfl,⟨⟨⟨by decide,by decide⟩,⟨⟨rfl,rfl⟩,hd,ay _,by show _+(aa (4294967296:Int).toNat).length<=_; omega⟩,⟨c1.1,c1.2,Int.le_refl _⟩⟩,⟨rfl,rfl,rfl⟩⟩,rfl,rfl,by show dwV y / PP=_; rw [K7]⟩
 .cases e
def Bt:AFr:=⟨116,none⟩
def arA:Code:=bJ Tryz.prog 116 0
def Dj (x:Int) (one:List Int):List AV:=[.int true .i64 x,.lslice 0 one.length]
noncomputable def arS (x:Int) (one:List Int):St:=ib cZ 300 116 (Dj x one) (zH one)
def cAr (e m:Bool):Ctx:=cZb [(22,e),(26,m)]
theorem ym (e m:Bool):CtxOk (cAr e m):=Dh _
def arP:Option (Int×Int×Int)->Patch
 | none=>⟨(8,.int true .i64 1) :: (9,.any false) :: aC 15 18,[],[]⟩
 | some (i,t,s)=>⟨(5,.lslice 6 (aa s.toNat).length) :: (8,.int true .i64 i) :: (9,.any false) :: aC 15 18,[(4,.cells [.lslice 5 (aa t.toNat).length])],[.rows .i64 (aa s.toNat),.rows .i64 (aa t.toNat)]⟩
def arX (s:Int):Patch:=⟨(4,.lslice 5 (aa s.toNat).length) :: (5,.any false) :: (8,.any false) :: (9,.any false) :: aC 15 18,[(4,.dead)],[.rows .i64 (aa s.toNat)]⟩
def arQ (x:Int) (one:List Int):Int:=val one*x / (x*x)
def arR (x:Int) (one:List Int):Option (Int×Int×Int)->Int
 | none=>cC x 200 1 (val one*x) 0
 | some (i,t,s)=>cC x (200 - (i / 2).toNat) i t s
def arU (x:Int) (one:List Int):SumL (Option (Int×Int×Int)):=
 {
  S:=arP
  I:=fun y=>match y with
   | none=>True
   | some (i,t,s)=>0<t/\i % 2=1/\2<i/\i<=399/\2 ^ (i / 2).toNat*t<=4*PP/\0<=s/\(i % 4=3->t / (i - 2)<=s)/\s<=i*PP
  μ:=fun y=>match y with
   | none=>400
   | some (i,_,_)=>(400 - i).toNat
  F:=fun y=>(.ret,arX (arR x one y))
  next:=fun y=>match y with
   | none=>some (3,arQ x one,arQ x one / 1)
   | some (i,t,s)=>some (i+2,t / (x*x),match decide (i % 4=1) with|true=>s+t / (x*x) / i|false=>s - t / (x*x) / i)
  ids:=fun y=>match y with
   | none=>[5,7]
   | some _=>[7,9]
  X:=fun y _=>match y with
   | none=>none
   | some (_,_,s)=>some (arX s,[6]) }
def Bu (x:Int) (one:List Int):Prop:=(1:Int)=1
theorem K8 (x:Int) (one:List Int):fit (arS x one) (arS x one) (ac (arS x one) ((arU x one).S none)) ([])=some (.p (Bu x one)):=by kernel_rfl
def K9 (x:Int) (one:List Int):Prop:=((((↑(aa (val one*val [x]).toNat).length:Int)=(↑(aa (val one*val [x]).toNat).length:Int)/\Dig (aa (val one*val [x]).toNat)/\(aa (val one*val [x]).toNat).length<=(500000:Nat)/\(1:Int)<=IntKind.i64.wrap (x*x)/\IntKind.i64.wrap (x*x)<=1000000000)/\(↑(aa (val (aa (val one*val [x]).toNat) / IntKind.i64.wrap (x*x)).toNat).length:Int)=(↑(aa (val (aa (val one*val [x]).toNat) / IntKind.i64.wrap (x*x)).toNat).length:Int)/\Dig (aa (val (aa (val one*val [x]).toNat) / IntKind.i64.wrap (x*x)).toNat)/\(aa (val (aa (val one*val [x]).toNat) / IntKind.i64.wrap (x*x)).toNat).length<=(500000:Nat)/\(1:Int)<=1/\(1:Int)<=1000000000)/\((↑(aa (val (aa (val (aa (val one*val [x]).toNat) / IntKind.i64.wrap (x*x)).toNat) / (1:Int)).toNat).length:Int)==0)=false/\(Int.tmod (1:Int) (4:Int)==1)=true/\(↑(aa (val (aa (val (aa (val one*val [x]).toNat) / IntKind.i64.wrap (x*x)).toNat) / (1:Int)).toNat).length:Int)=(↑(aa (val (aa (val (aa (val one*val [x]).toNat) / IntKind.i64.wrap (x*x)).toNat) / (1:Int)).toNat).length:Int)/\Dig []/\Dig (aa (val (aa (val (aa (val one*val [x]).toNat) / IntKind.i64.wrap (x*x)).toNat) / (1:Int)).toNat)/\((0:Nat)<([]:List Int).length\/(0:Nat)<(aa (val (aa (val (aa (val one*val [x]).toNat) / IntKind.i64.wrap (x*x)).toNat) / (1:Int)).toNat).length)/\([]:List Int).length<=(400000:Nat)/\(aa (val (aa (val (aa (val one*val [x]).toNat) / IntKind.i64.wrap (x*x)).toNat) / (1:Int)).toNat).length<=(400000:Nat))/\(true=true->(((↑(aa (val []+val (aa (val (aa (val (aa (val one*val [x]).toNat) / IntKind.i64.wrap (x*x)).toNat) / (1:Int)).toNat)).toNat).length:Int)=(↑(aa (arQ x one / (1:Int)).toNat).length:Int)/\IntKind.i64.wrap ((1:Int)+2)=3)/\(↑(aa (val (aa (val one*val [x]).toNat) / IntKind.i64.wrap (x*x)).toNat).length:Int)=(↑(aa (arQ x one).toNat).length:Int)/\aa (val []+val (aa (val (aa (val (aa (val one*val [x]).toNat) / IntKind.i64.wrap (x*x)).toNat) / (1:Int)).toNat)).toNat=aa (arQ x one / (1:Int)).toNat/\aa (val (aa (val one*val [x]).toNat) / IntKind.i64.wrap (x*x)).toNat=aa (arQ x one).toNat)/\(arU x one).I ((arU x one).next none)/\(arU x one).μ ((arU x one).next none)<(arU x one).μ none/\(arU x one).F ((arU x one).next none)=(arU x one).F none)
theorem YE (x:Int) (one:List Int):aW (arS x one) ((arU x one).way (none)) ((run (cAr false true) 300).code Bt arA (ac (arS x one) ((arU x one).S none)))=some (.p (K9 x one)):=by kernel_rfl
def La (x:Int) (one:List Int) (i t s:Int):Prop:=((((↑(aa t.toNat).length:Int)=(↑(aa t.toNat).length:Int)/\Dig (aa t.toNat)/\(aa t.toNat).length<=(500000:Nat)/\(1:Int)<=IntKind.i64.wrap (x*x)/\IntKind.i64.wrap (x*x)<=1000000000)/\(↑(aa (val (aa t.toNat) / IntKind.i64.wrap (x*x)).toNat).length:Int)=(↑(aa (val (aa t.toNat) / IntKind.i64.wrap (x*x)).toNat).length:Int)/\Dig (aa (val (aa t.toNat) / IntKind.i64.wrap (x*x)).toNat)/\(aa (val (aa t.toNat) / IntKind.i64.wrap (x*x)).toNat).length<=(500000:Nat)/\(1:Int)<=i/\i<=1000000000)/\((↑(aa (val (aa (val (aa t.toNat) / IntKind.i64.wrap (x*x)).toNat) / i).toNat).length:Int)==0)=false/\(i.tmod (4:Int)==1)=true/\((↑(aa s.toNat).length:Int)=(↑(aa s.toNat).length:Int)/\(↑(aa (val (aa (val (aa t.toNat) / IntKind.i64.wrap (x*x)).toNat) / i).toNat).length:Int)=(↑(aa (val (aa (val (aa t.toNat) / IntKind.i64.wrap (x*x)).toNat) / i).toNat).length:Int))/\Dig (aa s.toNat)/\Dig (aa (val (aa (val (aa t.toNat) / IntKind.i64.wrap (x*x)).toNat) / i).toNat)/\((0:Nat)<(aa s.toNat).length\/(0:Nat)<(aa (val (aa (val (aa t.toNat) / IntKind.i64.wrap (x*x)).toNat) / i).toNat).length)/\(aa s.toNat).length<=(400000:Nat)/\(aa (val (aa (val (aa t.toNat) / IntKind.i64.wrap (x*x)).toNat) / i).toNat).length<=(400000:Nat))/\(true=true->(((↑(aa (val (aa s.toNat)+val (aa (val (aa (val (aa t.toNat) / IntKind.i64.wrap (x*x)).toNat) / i).toNat)).toNat).length:Int)=(↑(aa (match decide (i % (4:Int)=1) with|true=>s+t / (x*x) / i|false=>s - t / (x*x) / i).toNat).length:Int)/\IntKind.i64.wrap (i+2)=i+2)/\(↑(aa (val (aa t.toNat) / IntKind.i64.wrap (x*x)).toNat).length:Int)=(↑(aa (t / (x*x)).toNat).length:Int)/\aa (val (aa s.toNat)+val (aa (val (aa (val (aa t.toNat) / IntKind.i64.wrap (x*x)).toNat) / i).toNat)).toNat=aa (match decide (i % (4:Int)=1) with|true=>s+t / (x*x) / i|false=>s - t / (x*x) / i).toNat/\aa (val (aa t.toNat) / IntKind.i64.wrap (x*x)).toNat=aa (t / (x*x)).toNat)/\(arU x one).I ((arU x one).next (some (i,t,s)))/\(arU x one).μ ((arU x one).next (some (i,t,s)))<(arU x one).μ (some (i,t,s))/\(arU x one).F ((arU x one).next (some (i,t,s)))=(arU x one).F (some (i,t,s)))
theorem YF (x:Int) (one:List Int) (i t s:Int):aW (arS x one) ((arU x one).way ((some (i,t,s)))) ((run (cAr false true) 300).code Bt arA (ac (arS x one) ((arU x one).S (some (i,t,s)))))=some (.p (La x one i t s)):=by kernel_rfl
def Lb (x:Int) (one:List Int) (i t s:Int):Prop:=((((↑(aa t.toNat).length:Int)=(↑(aa t.toNat).length:Int)/\Dig (aa t.toNat)/\(aa t.toNat).length<=(500000:Nat)/\(1:Int)<=IntKind.i64.wrap (x*x)/\IntKind.i64.wrap (x*x)<=1000000000)/\(↑(aa (val (aa t.toNat) / IntKind.i64.wrap (x*x)).toNat).length:Int)=(↑(aa (val (aa t.toNat) / IntKind.i64.wrap (x*x)).toNat).length:Int)/\Dig (aa (val (aa t.toNat) / IntKind.i64.wrap (x*x)).toNat)/\(aa (val (aa t.toNat) / IntKind.i64.wrap (x*x)).toNat).length<=(500000:Nat)/\(1:Int)<=i/\i<=1000000000)/\((↑(aa (val (aa (val (aa t.toNat) / IntKind.i64.wrap (x*x)).toNat) / i).toNat).length:Int)==0)=false/\(i.tmod (4:Int)==1)=false/\((↑(aa s.toNat).length:Int)=(↑(aa s.toNat).length:Int)/\(↑(aa (val (aa (val (aa t.toNat) / IntKind.i64.wrap (x*x)).toNat) / i).toNat).length:Int)=(↑(aa (val (aa (val (aa t.toNat) / IntKind.i64.wrap (x*x)).toNat) / i).toNat).length:Int))/\Dig (aa s.toNat)/\Dig (aa (val (aa (val (aa t.toNat) / IntKind.i64.wrap (x*x)).toNat) / i).toNat)/\(0:Nat)<(aa s.toNat).length/\(aa s.toNat).length<=(500000:Nat)/\(aa (val (aa (val (aa t.toNat) / IntKind.i64.wrap (x*x)).toNat) / i).toNat).length<=(aa s.toNat).length/\val (aa (val (aa (val (aa t.toNat) / IntKind.i64.wrap (x*x)).toNat) / i).toNat)<=val (aa s.toNat))/\(true=true->(((↑(aa (val (aa s.toNat) - val (aa (val (aa (val (aa t.toNat) / IntKind.i64.wrap (x*x)).toNat) / i).toNat)).toNat).length:Int)=(↑(aa (match decide (i % (4:Int)=1) with|true=>s+t / (x*x) / i|false=>s - t / (x*x) / i).toNat).length:Int)/\IntKind.i64.wrap (i+2)=i+2)/\(↑(aa (val (aa t.toNat) / IntKind.i64.wrap (x*x)).toNat).length:Int)=(↑(aa (t / (x*x)).toNat).length:Int)/\aa (val (aa s.toNat) - val (aa (val (aa (val (aa t.toNat) / IntKind.i64.wrap (x*x)).toNat) / i).toNat)).toNat=aa (match decide (i % (4:Int)=1) with|true=>s+t / (x*x) / i|false=>s - t / (x*x) / i).toNat/\aa (val (aa t.toNat) / IntKind.i64.wrap (x*x)).toNat=aa (t / (x*x)).toNat)/\(arU x one).I ((arU x one).next (some (i,t,s)))/\(arU x one).μ ((arU x one).next (some (i,t,s)))<(arU x one).μ (some (i,t,s))/\(arU x one).F ((arU x one).next (some (i,t,s)))=(arU x one).F (some (i,t,s)))
theorem YG (x:Int) (one:List Int) (i t s:Int):aW (arS x one) ((arU x one).way ((some (i,t,s)))) ((run (cAr false false) 300).code Bt arA (ac (arS x one) ((arU x one).S (some (i,t,s)))))=some (.p (Lb x one i t s)):=by kernel_rfl
def Qe (x:Int) (one:List Int) (i t s:Int):Prop:=((((↑(aa t.toNat).length:Int)=(↑(aa t.toNat).length:Int)/\Dig (aa t.toNat)/\(aa t.toNat).length<=(500000:Nat)/\(1:Int)<=IntKind.i64.wrap (x*x)/\IntKind.i64.wrap (x*x)<=1000000000)/\(↑(aa (val (aa t.toNat) / IntKind.i64.wrap (x*x)).toNat).length:Int)=(↑(aa (val (aa t.toNat) / IntKind.i64.wrap (x*x)).toNat).length:Int)/\Dig (aa (val (aa t.toNat) / IntKind.i64.wrap (x*x)).toNat)/\(aa (val (aa t.toNat) / IntKind.i64.wrap (x*x)).toNat).length<=(500000:Nat)/\(1:Int)<=i/\i<=1000000000)/\((↑(aa (val (aa (val (aa t.toNat) / IntKind.i64.wrap (x*x)).toNat) / i).toNat).length:Int)==0)=true)/\(true=true->((↑(aa s.toNat).length:Int)=(↑(aa s.toNat).length:Int)/\aa s.toNat=aa s.toNat)/\(arU x one).F (some (i,t,s))=(Ex.ret,arX s))
theorem abP (x:Int) (one:List Int) (i t s:Int):aW (arS x one) ((arU x one).way ((some (i,t,s)))) ((run (cAr true false) 300).code Bt arA (ac (arS x one) ((arU x one).S (some (i,t,s)))))=some (.p (Qe x one i t s)):=by kernel_rfl
structure ArD (x:Int) (one:List Int):Prop where
 d:Dig one
 l:one.length<=100
 hi:val one<=PP
 x0:2<=x
 x1:x<=30000
 lo:0<arQ x one / 1
theorem ArD.xx {x:Int} {one:List Int} (h:ArD x one):4<=x*x/\x*x<=900000000/\IntKind.i64.wrap (x*x)=x*x:=by
 have x0:=h.x0
 have x1:=h.x1
 have a:=Int.mul_le_mul (a:=2) (b:=2) (c:=x) (d:=x) x0 x0 (by decide) (by omega)
 have b:=Int.mul_le_mul (a:=x) (b:=x) (c:=30000) (d:=30000) x1 x1 (by omega) (by decide)
 exact ⟨by omega,by omega,iw (by omega) (by omega)⟩
theorem Bv {t m:Int} (ht:0<=t) (hm:2<=m):0<=t / m/\2*(t / m)<=t:=by
 have h0:=Int.ediv_nonneg ht (show 0<=m by omega)
 have h1:=Int.ediv_mul_le t (b:=m) (by omega)
 have h2:=Int.mul_le_mul_of_nonneg_left hm h0
 exact ⟨h0,by omega⟩
theorem Ff {t m:Int} (ht:0<=t) (hm:1<=m):0<=t / m/\t / m<=t:=⟨Int.ediv_nonneg ht (by omega),Int.ediv_le_self _ ht⟩
theorem wt {a b m n:Int} (h0:0<=a) (h1:a<=b) (h2:1<=n) (h3:n<=m):a / m<=b / n:=by
 have p1:=Int.ediv_mul_le a (b:=m) (by omega)
 have p0:0<=a / m:=Int.ediv_nonneg h0 (by omega)
 have p2:=Int.mul_le_mul_of_nonneg_left h3 p0
 exact (Int.le_ediv_iff_mul_le (by omega)).2 (by omega)
theorem ArD.q {x:Int} {one:List Int} (h:ArD x one):0<=arQ x one/\arQ x one<=PP:=by
 have v0:=af h.d
 have x0:=h.x0
 obtain ⟨a,b,_⟩:=h.xx
 refine ⟨Int.ediv_nonneg (Int.mul_nonneg v0 (by omega)) (by omega),Int.le_trans (Int.ediv_le_of_le_mul (by omega) ?_) h.hi⟩
 refine Int.mul_le_mul_of_nonneg_left ?_ v0
 have:=Int.mul_le_mul_of_nonneg_left (show 1<=x by omega) (show 0<=x by omega)
 omega
theorem Lc {x:Int} {one:List Int} (h:ArD x one):arR x one (some (3,arQ x one,arQ x one / 1))=arR x one none:=by
 show cC x 199 3 _ _=cC x (199+1) 1 (val one*x) 0
 rw [wq (show val one*x / (x*x) / 1≠0 from by have:=h.lo; unfold arQ at this; omega)]
 show _=cC x 199 (1+2) (val one*x / (x*x)) (0+val one*x / (x*x) / 1)
 rw [Int.zero_add]; rfl
theorem Qf {x:Int} {one:List Int} {i t s:Int} (hi:(i / 2).toNat<=199) (h:t / (x*x) / i=0):arR x one (some (i,t,s))=s:=by
 show cC x (200 - (i / 2).toNat) i t s=s
 rw [show 200 - (i / 2).toNat=(199 - (i / 2).toNat)+1 by omega,KX h]
theorem Ld {x:Int} {one:List Int} {i t s:Int} (h0:0<=i) (hi:(i / 2).toNat<=199) (h:t / (x*x) / i≠0):arR x one ((arU x one).next (some (i,t,s)))=arR x one (some (i,t,s)):=by
 show cC x (200 - ((i+2) / 2).toNat) (i+2) (t / (x*x)) _=cC x (200 - (i / 2).toNat) i t s
 rw [show 200 - (i / 2).toNat=(199 - (i / 2).toNat)+1 by omega,wq h,show 200 - ((i+2) / 2).toNat=199 - (i / 2).toNat by omega]
 first|done|rfl
theorem GY {x:Int} {one:List Int} (h:ArD x one):(arU x one).I ((arU x one).next none):=by
 obtain ⟨q0,q1⟩:=h.q
 have l0:=h.lo
 rw [Int.ediv_one] at l0
 have p:=dI
 show 0<arQ x one/\(3:Int) % 2=1/\(2:Int)<3/\(3:Int)<=399/\(2:Int) ^ (1:Nat)*arQ x one<=4*PP/\0<=arQ x one / 1/\((3:Int) % 4=3->arQ x one / (3 - 2)<=arQ x one / 1)/\arQ x one / 1<=3*PP
 rw [show (3:Int) - 2=1 from rfl,Int.ediv_one,show (2:Int) ^ (1:Nat)=2 from rfl]
 refine ⟨l0,by decide,by decide,by decide,by omega,q0,by omega,by omega⟩
theorem Le {x:Int} {one:List Int} (h:ArD x one) {i t s:Int} (hI:(arU x one).I (some (i,t,s))) (h0:t / (x*x) / i≠0):(arU x one).I ((arU x one).next (some (i,t,s))):=by
 obtain ⟨t0,i0,i1,i2,pw,s0,ts,sb⟩:=(show 0<t/\i % 2=1/\2<i/\i<=399/\2 ^ (i / 2).toNat*t<=4*PP/\0<=s/\(i % 4=3->t / (i - 2)<=s)/\s<=i*PP from hI)
 obtain ⟨xa,xb,_⟩:=h.xx
 obtain ⟨b0,b1⟩:=Bv (t:=t) (m:=x*x) (by omega) (by omega)
 obtain ⟨c0,c1⟩:=Ff (t:=t / (x*x)) (m:=i) b0 (by omega)
 have cm:i % 4=3->t / (x*x) / i<=t / (i - 2):=fun _=>wt b0 (by omega) (by omega) (by omega)
 have ce:t / (x*x) / (i+2 - 2)<=t / (x*x) / i:=by rw [show i+2 - 2=i by omega]; exact Int.le_refl _
 have k:=yj t0 pw
 have hp:(2:Int) ^ ((i+2) / 2).toNat*(t / (x*x))<=4*PP:=by
  rw [show ((i+2) / 2).toNat=(i / 2).toNat+1 by omega,Int.pow_succ,Int.mul_assoc]
  have:(2:Int) ^ (i / 2).toNat*(2*(t / (x*x)))<=2 ^ (i / 2).toNat*t:=Int.mul_le_mul_of_nonneg_left b1 (Int.pow_nonneg (by decide))
  omega
 have ht:t<=2*PP:=by
  have h4:(2:Int)*t<=2 ^ (i / 2).toNat*t:=by
   refine Int.mul_le_mul_of_nonneg_right ?_ (by omega)
   have:=Nat.pow_le_pow_right (n:=2) (by decide) (show 1<=(i / 2).toNat by omega)
   have e1:((2 ^ 1:Nat):Int)<=((2 ^ (i / 2).toNat:Nat):Int):=by exact_mod_cast this
   simpa using e1
  omega
 have e2:(i+2)*PP=i*PP+2*PP:=Int.add_mul _ _ _
 have p:=dI
 have tp:0<t / (x*x):=by
  rcases Int.lt_or_eq_of_le b0 with e|e
  .exact e
  .rw [<- e] at h0; simp at h0
 show 0<t / (x*x)/\(i+2) % 2=1/\2<i+2/\i+2<=399/\2 ^ ((i+2) / 2).toNat*(t / (x*x))<=4*PP/\0<=(match decide (i % 4=1) with|true=>s+t / (x*x) / i|false=>s - t / (x*x) / i)/\((i+2) % 4=3->t / (x*x) / (i+2 - 2)<=(match decide (i % 4=1) with|true=>s+t / (x*x) / i|false=>s - t / (x*x) / i))/\(match decide (i % 4=1) with|true=>s+t / (x*x) / i|false=>s - t / (x*x) / i)<=(i+2)*PP
 have h5:0<=(match decide (i % 4=1) with|true=>s+t / (x*x) / i|false=>s - t / (x*x) / i)/\((i+2) % 4=3->t / (x*x) / (i+2 - 2)<=(match decide (i % 4=1) with|true=>s+t / (x*x) / i|false=>s - t / (x*x) / i))/\(match decide (i % 4=1) with|true=>s+t / (x*x) / i|false=>s - t / (x*x) / i)<=(i+2)*PP:=by
  by_cases hm:i % 4=1
  .rw [show (match decide (i % 4=1) with|true=>s+t / (x*x) / i|false=>s - t / (x*x) / i)=s+t / (x*x) / i by rw [decide_eq_true hm]]
   generalize t / (x*x) / i=u at *
   refine ⟨by omega,by omega,by omega⟩
  .have hm3:i % 4=3:=by omega
   have a1:=ts hm3
   have a2:=cm hm3
   rw [show (match decide (i % 4=1) with|true=>s+t / (x*x) / i|false=>s - t / (x*x) / i)=s - t / (x*x) / i by rw [decide_eq_false hm]]
   generalize t / (x*x) / i=u at *
   generalize t / (i - 2)=w at *
   refine ⟨by omega,by omega,by omega⟩
 refine ⟨tp,by omega,by omega,by omega,hp,h5⟩
theorem pB (x:Int):val [x]=x:=by simp [val]
theorem pC {x:Int} (h0:0<=x) (h1:x<1000000000):Dig [x]:=bB.2 ⟨⟨h0,h1⟩,b9⟩
theorem Qg {x:Int} {one:List Int} (h:ArD x one):CodeOk cZ Bt (.loop arA) (arS x one) ⟨.tt,[⟨.tt,.ret,ac (arS x one) (arX (arR x one none))⟩]⟩:=by
 refine cG (arU x one) (y0:=none) trivial ⟨_,K8 x one,rfl⟩ (by kernel_rfl) (fun y hy=>?_) rfl
 have v0:=af h.d
 have v1:=h.hi
 have yl:=h.l
 have x0:=h.x0
 have x1:=h.x1
 have p:=dI
 obtain ⟨xa,xb,xw⟩:=h.xx
 cases y with
 | none=>
  obtain ⟨q0,q1⟩:=h.q
  have l0:=h.lo
  have e1:val (aa (val one*val [x]).toNat)=val one*x:=by rw [pB,dv (Int.mul_nonneg v0 (by omega))]
  have Q:val (aa (val one*val [x]).toNat) / IntKind.i64.wrap (x*x)=arQ x one:=by rw [e1,xw]; rfl
  have vq:=dv q0
  have vq1:=dv (a:=arQ x one / 1) (by omega)
  have l1:(aa (val one*val [x]).toNat).length<=500000:=by
   rw [pB]
   refine Nat.le_trans (gJ (n:=8) (Int.mul_nonneg v0 (by omega)) ?_) (by decide)
   have:=Int.mul_le_mul v1 x1 (by omega) (by omega)
   have e:PP*30000<pw 8:=by decide
   omega
  have lq:=ig q0 (by omega)
  have lq1:=ig (a:=arQ x one / 1) (by omega) (by rw [Int.ediv_one]; omega)
  have lp:=Br l0
  refine ⟨cAr false true,300,ym _ _,rfl,rfl,_,YE x one,?_,fun _=>?_⟩
  .rw [Q,xw,vq]
   refine ⟨⟨⟨rfl,ay _,l1,by omega,by omega⟩,rfl,ay _,by omega,by decide,by decide⟩,beq_eq_false_iff_ne.2 (by omega),rfl,rfl,b9,ay _,.inr lp,by decide,by omega⟩
  .rw [Q,vq,vq1]
   have z:val []+arQ x one / 1=arQ x one / 1:=Int.zero_add _
   rw [z]
   exact ⟨⟨⟨rfl,by decide⟩,rfl,rfl,rfl⟩,GY h,by show (400 - 3:Int).toNat<400; omega,congrArg (fun z=>(Ex.ret,arX z)) (Lc h)⟩
 | some y=>
  obtain ⟨i,t,s⟩:=y
  have hI:=hy
  obtain ⟨t0,i0,i1,i2,pw2,s0,ts,sb⟩:=(show 0<t/\i % 2=1/\2<i/\i<=399/\2 ^ (i / 2).toNat*t<=4*PP/\0<=s/\(i % 4=3->t / (i - 2)<=s)/\s<=i*PP from hy)
  have k:=yj t0 pw2
  obtain ⟨b0,b1⟩:=Bv (t:=t) (m:=x*x) (by omega) (by omega)
  obtain ⟨c0,c1⟩:=Ff (t:=t / (x*x)) (m:=i) b0 (by omega)
  have ht:t<=4*PP:=by
   have h4:(1:Int)*t<=2 ^ (i / 2).toNat*t:=by
    refine Int.mul_le_mul_of_nonneg_right ?_ (by omega)
    have:=Nat.one_le_two_pow (n:=(i / 2).toNat)
    have e1:((1:Nat):Int)<=((2 ^ (i / 2).toNat:Nat):Int):=by exact_mod_cast this
    simpa using e1
   omega
  have hs:s<=400*PP:=by
   have:i*PP<=400*PP:=Int.mul_le_mul_of_nonneg_right (by omega) (by omega)
   omega
  have vt:=dv (a:=t) (by omega)
  have vs:=dv s0
  have vb:=dv b0
  have vc:=dv c0
  have dt:=ay t.toNat
  have ds:=ay s.toNat
  have db:=ay (t / (x*x)).toNat
  have dc:=ay (t / (x*x) / i).toNat
  have lt:=ig (a:=t) (by omega) (by omega)
  have ls:=ig s0 hs
  have lb:=ig b0 (by omega)
  have lc:=ig c0 (by omega)
  have w9:IntKind.i64.wrap (i+2)=i+2:=iw (by omega) (by omega)
  by_cases h0:t / (x*x) / i=0
  .refine ⟨cAr true false,300,ym _ _,rfl,rfl,_,abP x one i t s,?_,fun _=>⟨⟨rfl,rfl⟩,congrArg (fun z=>(Ex.ret,arX z)) (Qf (by omega) h0)⟩⟩
   rw [vt,xw,vb,h0]
   exact ⟨⟨⟨rfl,dt,by omega,by omega,by omega⟩,rfl,db,by omega,by omega,by omega⟩,by rw [show aa (0:Int).toNat=[] from bS]; rfl⟩
  .have lq:=Br (a:=t / (x*x) / i) (by omega)
   have nx:=Le h hI h0
   have nr:=Ld (x:=x) (one:=one) (i:=i) (t:=t) (s:=s) (by omega) (by omega) h0
   have mu:(400 - (i+2)).toNat<(400 - i).toNat:=by omega
   by_cases hm:i % 4=1
   .have e4:(match decide (i % 4=1) with|true=>s+t / (x*x) / i|false=>s - t / (x*x) / i)=s+t / (x*x) / i:=by rw [decide_eq_true hm]
    refine ⟨cAr false true,300,ym _ _,rfl,rfl,_,YF x one i t s,?_,fun _=>?_⟩
    .rw [vt,xw,vb]
     refine ⟨⟨⟨rfl,dt,by omega,by omega,by omega⟩,rfl,db,by omega,by omega,by omega⟩,beq_eq_false_iff_ne.2 (by omega),?_,⟨rfl,rfl⟩,ds,dc,.inr lq,by omega,by omega⟩
     rw [Int.tmod_eq_emod_of_nonneg (by omega),hm]; rfl
    .rw [vt,xw,vb,vc,vs]
     exact ⟨⟨⟨congrArg (fun z:Int=>((aa z.toNat).length:Int)) e4.symm,w9⟩,rfl,congrArg (fun z:Int=>aa z.toNat) e4.symm,rfl⟩,nx,mu,congrArg (fun z=>(Ex.ret,arX z)) nr⟩
   .have hm3:i % 4=3:=by omega
    have a1:=ts hm3
    have a2:t / (x*x) / i<=t / (i - 2):=wt b0 (by omega) (by omega) (by omega)
    have ql:=US c0 (show t / (x*x) / i<=s by omega)
    have e4:(match decide (i % 4=1) with|true=>s+t / (x*x) / i|false=>s - t / (x*x) / i)=s - t / (x*x) / i:=by rw [decide_eq_false hm]
    refine ⟨cAr false false,300,ym _ _,rfl,rfl,_,YG x one i t s,?_,fun _=>?_⟩
    .rw [vt,xw,vb,vc,vs]
     refine ⟨⟨⟨rfl,dt,by omega,by omega,by omega⟩,rfl,db,by omega,by omega,by omega⟩,beq_eq_false_iff_ne.2 (by omega),?_,⟨rfl,rfl⟩,ds,dc,by omega,by omega,ql,by omega⟩
     rw [Int.tmod_eq_emod_of_nonneg (by omega),hm3]; rfl
    .rw [vt,xw,vb,vc,vs]
     exact ⟨⟨⟨congrArg (fun z:Int=>((aa z.toNat).length:Int)) e4.symm,w9⟩,rfl,congrArg (fun z:Int=>aa z.toNat) e4.symm,rfl⟩,nx,mu,congrArg (fun z=>(Ex.ret,arX z)) nr⟩
noncomputable def U3 (x:Int) (one:List Int):Ctx:=aw cZ [aR 116 (arS x one).hp.clock Bt arA (arS x one) .ret (arX (arR x one none))]
theorem Qh {x:Int} {one:List Int} (h:ArD x one):CtxOk (U3 x one):=ak lR (Qg h) (aq lR)
def Qi (x:Int) (one:List Int):Prop:=(((↑one.length:Int)=(↑one.length:Int)/\Dig one/\Dig [x]/\one.length + [x].length<=(500000:Nat))/\At (Bt) (Bt) (arA) (arA) (arS x one) (arS x one))
def U4 (x:Int) (one:List Int):AV:=(AV.lslice 1 (↑(aa (arR x one none).toNat).length:Int))
def U5 (x:Int) (one:List Int):Hp:=⟨[{ wr:=15,body:=ABody.rows IntKind.i64 (aa (arR x one none).toNat) },{ wr:=(0:Nat),body:=ABody.rows IntKind.i64 one }],2,16⟩
theorem abQ (x:Int) (one:List Int):(run (U3 x one) 300).call 116 (Dj x one) (zH one)=some ⟨.p (Qi x one),[⟨.tt,U4 x one,U5 x one⟩]⟩:=by kernel_rfl
def U6:List Nu->List (List Int)->Option (Prop×To)
 | [.n x],[one]=>some (ArD x one,.li false (aa (cC x 200 1 (val one*x) 0).toNat))
 | _,_=>none
theorem U7:NOk Tryz.prog (fun _=>none) hG0 116 (au hG0 .i64 [.nu (.i .i64),.li] U6):=by
 refine bg (fun xs ys p t e h=>?_) ⟨_,Tryz.func116,rfl⟩
 unfold U6 at e
 split at e
 .rename_i x one
  cases e
  have hl:=h.l
  have x0:=h.x0
  have x1:=h.x1
  refine ⟨U3 x one,300,Dj x one,_,_,_,_,_,Qh h,rfl,rfl,⟨⟨rfl,rfl⟩,rfl,trivial⟩,abQ x one,rfl,⟨⟨rfl,h.d,pC (by omega) (by omega),by show _+1<=_; omega⟩,⟨rfl,rfl,rfl⟩⟩,rfl,rfl,?_⟩
  exact ⟨rfl,rfl⟩
 .cases e
def tZ3:List (FuncId×eF):=(116,au hG0 .i64 [.nu (.i .i64),.li] U6) :: (103,au hG0 .i64 [.li,.nu (.i .i64)] U2) :: tZ2
theorem Lf:∀ x∈tZ3,NOk Tryz.prog (fun _=>none) hG0 x.1 x.2:=by
 intro x hx
 rcases List.mem_cons.1 hx with rfl|hx
 .exact U7
 rcases List.mem_cons.1 hx with rfl|hx
 .exact Qd
 exact UX x hx
def cZ3:Ctx:=mkN Tryz.prog (fun _=>none) hG0 tZ3 [] dK
theorem U8:CtxOk cZ3:=fP aM (cw _) Lf (fun x h=>by cases h)
def uR (one:List Int):Prop:=(((↑one.length:Int)=(↑one.length:Int)/\ArD (5:Int) one)/\((↑(aa (cC (5:Int) (200:Nat) (1:Int) (val one*5) (0:Int)).toNat).length:Int)=(↑(aa (cC (5:Int) (200:Nat) (1:Int) (val one*5) (0:Int)).toNat).length:Int)/\Dig (aa (cC (5:Int) (200:Nat) (1:Int) (val one*5) (0:Int)).toNat)/\Dig [(8:Int)]/\(aa (cC (5:Int) (200:Nat) (1:Int) (val one*5) (0:Int)).toNat).length + [(8:Int)].length<=(500000:Nat))/\((↑one.length:Int)=(↑one.length:Int)/\ArD (239:Int) one)/\((↑(aa (cC (239:Int) (200:Nat) (1:Int) (val one*239) (0:Int)).toNat).length:Int)=(↑(aa (cC (239:Int) (200:Nat) (1:Int) (val one*239) (0:Int)).toNat).length:Int)/\Dig (aa (cC (239:Int) (200:Nat) (1:Int) (val one*239) (0:Int)).toNat)/\Dig [(2:Int)]/\(aa (cC (239:Int) (200:Nat) (1:Int) (val one*239) (0:Int)).toNat).length + [(2:Int)].length<=(500000:Nat))/\((↑(aa (val (aa (cC (5:Int) (200:Nat) (1:Int) (val one*5) (0:Int)).toNat)*val [(8:Int)]).toNat).length:Int)=(↑(aa (val (aa (cC (5:Int) (200:Nat) (1:Int) (val one*5) (0:Int)).toNat)*val [(8:Int)]).toNat).length:Int)/\(↑(aa (val (aa (cC (239:Int) (200:Nat) (1:Int) (val one*239) (0:Int)).toNat)*val [(2:Int)]).toNat).length:Int)=(↑(aa (val (aa (cC (239:Int) (200:Nat) (1:Int) (val one*239) (0:Int)).toNat)*val [(2:Int)]).toNat).length:Int))/\Dig (aa (val (aa (cC (5:Int) (200:Nat) (1:Int) (val one*5) (0:Int)).toNat)*val [(8:Int)]).toNat)/\Dig (aa (val (aa (cC (239:Int) (200:Nat) (1:Int) (val one*239) (0:Int)).toNat)*val [(2:Int)]).toNat)/\(0:Nat)<(aa (val (aa (cC (5:Int) (200:Nat) (1:Int) (val one*5) (0:Int)).toNat)*val [(8:Int)]).toNat).length/\(aa (val (aa (cC (5:Int) (200:Nat) (1:Int) (val one*5) (0:Int)).toNat)*val [(8:Int)]).toNat).length<=(500000:Nat)/\(aa (val (aa (cC (239:Int) (200:Nat) (1:Int) (val one*239) (0:Int)).toNat)*val [(2:Int)]).toNat).length<=(aa (val (aa (cC (5:Int) (200:Nat) (1:Int) (val one*5) (0:Int)).toNat)*val [(8:Int)]).toNat).length/\val (aa (val (aa (cC (239:Int) (200:Nat) (1:Int) (val one*239) (0:Int)).toNat)*val [(2:Int)]).toNat)<=val (aa (val (aa (cC (5:Int) (200:Nat) (1:Int) (val one*5) (0:Int)).toNat)*val [(8:Int)]).toNat))
def GZ (one:List Int):AV:=(AV.lslice 1 (↑(aa (val (aa (val (aa (cC (5:Int) (200:Nat) (1:Int) (val one*5) (0:Int)).toNat)*val [(8:Int)]).toNat) - val (aa (val (aa (cC (239:Int) (200:Nat) (1:Int) (val one*239) (0:Int)).toNat)*val [(2:Int)]).toNat)).toNat).length:Int))
def G0 (one:List Int):Hp:=⟨[{ wr:=12,body:=ABody.rows IntKind.i64 (aa (val (aa (val (aa (cC (5:Int) (200:Nat) (1:Int) (val one*5) (0:Int)).toNat)*val [(8:Int)]).toNat) - val (aa (val (aa (cC (239:Int) (200:Nat) (1:Int) (val one*239) (0:Int)).toNat)*val [(2:Int)]).toNat)).toNat) },{ wr:=(0:Nat),body:=ABody.rows IntKind.i64 one }],2,13⟩
theorem Qj (one:List Int):(run cZ3 300).call 97 [.lslice 0 one.length] (zH one)=some ⟨.p (uR one),[⟨.tt,GZ one,G0 one⟩]⟩:=by kernel_rfl
def RGT:Int:=1570796326794896619231321691639751442098584716
def U9:List Nu->List (List Int)->Option (Prop×To)
 | [],[one]=>some (Dig one/\one.length<=100/\val one=PP,.li false (aa RGT.toNat))
 | _,_=>none
theorem YH:cC 5 200 1 (PP*5) 0=197395559849880758370049765194790293447585106:=by kernel_rfl
theorem Qk:cC 239 200 1 (PP*239) 0=4184076002074723864538214959285452741048066:=by kernel_rfl
theorem Va:NOk Tryz.prog (fun _=>none) hG0 97 (au hG0 .i64 [.li] U9):=by
 refine bg (fun xs ys p t e h=>?_) ⟨_,Tryz.func97,rfl⟩
 unfold U9 at e
 split at e
 .rename_i one
  cases e
  obtain ⟨hd,hl,hv⟩:=h
  have d5:ArD 5 one:=⟨hd,hl,by omega,by decide,by decide,by unfold arQ; rw [hv]; decide⟩
  have d239:ArD 239 one:=⟨hd,hl,by omega,by decide,by decide,by unfold arQ; rw [hv]; decide⟩
  have e5:cC 5 200 1 (val one*5) 0=197395559849880758370049765194790293447585106:=by rw [hv]; exact YH
  have e239:cC 239 200 1 (val one*239) 0=4184076002074723864538214959285452741048066:=by rw [hv]; exact Qk
  have v5:val (aa (Int.toNat 197395559849880758370049765194790293447585106))=197395559849880758370049765194790293447585106:=dv (by decide)
  have v239:val (aa (Int.toNat 4184076002074723864538214959285452741048066))=4184076002074723864538214959285452741048066:=dv (by decide)
  have e8:val [8]=8:=pB 8
  have e2:val [2]=2:=pB 2
  have l5:(aa (Int.toNat 197395559849880758370049765194790293447585106)).length<=6:=ig (a:=197395559849880758370049765194790293447585106) (by decide) (by decide)
  have l239:(aa (Int.toNat 4184076002074723864538214959285452741048066)).length<=6:=ig (a:=4184076002074723864538214959285452741048066) (by decide) (by decide)
  have la:(aa (Int.toNat (197395559849880758370049765194790293447585106*8))).length<=6:=ig (a:=197395559849880758370049765194790293447585106*8) (by decide) (by decide)
  have lb:(aa (Int.toNat (4184076002074723864538214959285452741048066*2))).length<=(aa (Int.toNat (197395559849880758370049765194790293447585106*8))).length:=US (a:=4184076002074723864538214959285452741048066*2) (b:=197395559849880758370049765194790293447585106*8) (by decide) (by decide)
  have l0:0<(aa (Int.toNat (197395559849880758370049765194790293447585106*8))).length:=Br (a:=197395559849880758370049765194790293447585106*8) (by decide)
  have va:val (aa (Int.toNat (197395559849880758370049765194790293447585106*8)))=197395559849880758370049765194790293447585106*8:=dv (by decide)
  have vb:val (aa (Int.toNat (4184076002074723864538214959285452741048066*2)))=4184076002074723864538214959285452741048066*2:=dv (by decide)
  refine ⟨cZ3,300,[.lslice 0 one.length],_,_,_,_,_,U8,rfl,rfl,⟨rfl,trivial⟩,Qj one,rfl,?_,rfl,rfl,?_⟩
  .unfold uR
   rw [e5,e239,v5,v239,e8,e2,va,vb]
   refine ⟨⟨rfl,d5⟩,⟨rfl,ay _,pC (by decide) (by decide),by show _+1<=_; omega⟩,⟨rfl,d239⟩,⟨rfl,ay _,pC (by decide) (by decide),by show _+1<=_; omega⟩,⟨rfl,rfl⟩,ay _,ay _,l0,by omega,lb,by decide⟩
  .refine ⟨rfl,?_⟩
   show aa (val (aa (val (aa (cC 5 200 1 (val one*5) 0).toNat)*val [8]).toNat) - val (aa (val (aa (cC 239 200 1 (val one*239) 0).toNat)*val [2]).toNat)).toNat=_
   rw [e5,e239,v5,v239,e8,e2,va,vb]
   rfl
 .cases e
def cOv:Ctx:=cZb [(18,false),(24,true)]
theorem Vb:CtxOk cOv:=Dh _
def Ql (a b:List Int):Prop:=(((((↑a.length:Int)=(↑a.length:Int)/\(↑b.length:Int)=(↑b.length:Int))/\Sm a/\Sm b)/\decide (mO a b<0)=false)/\((↑b.length:Int)==1)=true/\((0:Int)<=0/\(0:Int)<(↑b.length:Int))/\Int.toNat (0:Int)<b.length/\(↑a.length:Int)=(↑a.length:Int)/\Dig a/\a.length<=(500000:Nat)/\(1:Int)<=b.getD (Int.toNat (0:Int)) (0:Int)/\b.getD (Int.toNat (0:Int)) (0:Int)<=1000000000)
def Vd (a b:List Int):AV:=(AV.tuple [AV.lslice 2 (↑(aa (val a / b.getD (Int.toNat (0:Int)) (0:Int)).toNat).length:Int),AV.any true])
def Vf (a b:List Int):Hp:=⟨[{ wr:=21,body:=ABody.rows IntKind.i64 (aa (val a / b.getD (Int.toNat (0:Int)) (0:Int)).toNat) },{ wr:=(0:Nat),body:=ABody.rows IntKind.i64 b },{ wr:=(0:Nat),body:=ABody.rows IntKind.i64 a }],3,69⟩
theorem abR (a b:List Int):(run cOv 300).call 100 (zB a b) (zG a b)=some ⟨.p (Ql a b),[⟨.tt,Vd a b,Vf a b⟩]⟩:=by kernel_rfl
theorem Lg {b:List Int} (h:b.length=1):val b=b.getD 0 0:=by
 match b,h with
 | [x],_=>simp [val]
def Qm:List (Nat×Nat×Nat×AV)->Nat->Nat->Option AV
 | [],_,_=>none
 | (a,b,t',v) :: l,c,t=>match Nat.beq t t'&&Nat.ble a c&&Nat.ble c b with
  | true=>some v
  | false=>Qm l c t
def oA1:List Int:=[394338864,559005768,925286766,179586476,283185307,6]
def oB1:List Int:=[294967296,4]
def oH1:List (Nat×Nat×Nat×AV):=[(0,10,17,.int false .i64 2),(11,31,18,.bool false false),(20,31,43,.int false .i64 4),(32,194,11,.int false .i64 6),(195,264,11,.int false .i64 2),(32,194,15,.int false .i64 6),(195,264,15,.int false .i64 2),(32,194,36,.int false .i64 6),(195,264,36,.int false .i64 2),(42,65,20,.int false .i64 394338864),(66,89,20,.int false .i64 559005768),(90,113,20,.int false .i64 925286766),(114,137,20,.int false .i64 179586476),(138,161,20,.int false .i64 283185307),(162,185,20,.int false .i64 6),(206,229,20,.int false .i64 294967296),(230,253,20,.int false .i64 4),(265,294,55,.int false .i64 6)]
def cO1:Ctx:=aP cZ (Qm oH1)
theorem Vg:CtxOk cO1:=aj lR _
def oA2:List Int:=[711109072,823253194,522842290,119904847,977824172,746518845,6]
def oB2:List Int:=[294967296,4]
def oH2:List (Nat×Nat×Nat×AV):=[(0,10,17,.int false .i64 2),(11,31,18,.bool false false),(20,31,43,.int false .i64 4),(32,218,11,.int false .i64 7),(219,288,11,.int false .i64 2),(32,218,15,.int false .i64 7),(219,288,15,.int false .i64 2),(32,218,36,.int false .i64 7),(219,288,36,.int false .i64 2),(42,65,20,.int false .i64 711109072),(66,89,20,.int false .i64 823253194),(90,113,20,.int false .i64 522842290),(114,137,20,.int false .i64 119904847),(138,161,20,.int false .i64 977824172),(162,185,20,.int false .i64 746518845),(186,209,20,.int false .i64 6),(230,253,20,.int false .i64 294967296),(254,277,20,.int false .i64 4),(289,318,55,.int false .i64 7)]
def cO2:Ctx:=aP cZ (Qm oH2)
theorem Vh:CtxOk cO2:=aj lR _
def oA3:List Int:=[552723968,691129481,224064528,649745662,130504739,373259426,3]
def oB3:List Int:=[221225472,3]
def oH3:List (Nat×Nat×Nat×AV):=[(0,10,17,.int false .i64 2),(11,31,18,.bool false false),(20,31,43,.int false .i64 3),(32,218,11,.int false .i64 7),(219,288,11,.int false .i64 2),(32,218,15,.int false .i64 7),(219,288,15,.int false .i64 2),(32,218,36,.int false .i64 7),(219,288,36,.int false .i64 2),(42,65,20,.int false .i64 552723968),(66,89,20,.int false .i64 691129481),(90,113,20,.int false .i64 224064528),(114,137,20,.int false .i64 649745662),(138,161,20,.int false .i64 130504739),(162,185,20,.int false .i64 373259426),(186,209,20,.int false .i64 3),(230,253,20,.int false .i64 221225472),(254,277,20,.int false .i64 3),(289,318,55,.int false .i64 7)]
def cO3:Ctx:=aP cZ (Qm oH3)
theorem Vi:CtxOk cO3:=aj lR _
def yn (z:Int):Prop:=((↑oB1.length:Int)=2/\((((↑oA1.length:Int)=(↑oA1.length:Int)/\(↑oB1.length:Int)=(↑oB1.length:Int))/\Sm oA1/\Sm oB1)/\decide (mO oA1 oB1<0)=false)/\(((0:Int)<=Int.ofNat 1/\Int.ofNat 1<(↑oB1.length:Int))/\(Int.ofNat 1).toNat<oB1.length/\oB1.getD (Int.ofNat 1).toNat (0:Int)=4)/\(((↑oA1.length:Int)=6/\((↑oA1.length:Int)=6/\(((0:Int)<=0/\(0:Int)<(↑oA1.length:Int))/\Int.toNat (0:Int)<oA1.length/\oA1.getD (Int.toNat (0:Int)) (0:Int)=394338864)/\(((0:Int)<=Int.ofNat 1/\Int.ofNat 1<(↑oA1.length:Int))/\(Int.ofNat 1).toNat<oA1.length/\oA1.getD (Int.ofNat 1).toNat (0:Int)=559005768)/\(((0:Int)<=Int.ofNat 2/\Int.ofNat 2<(↑oA1.length:Int))/\(Int.ofNat 2).toNat<oA1.length/\oA1.getD (Int.ofNat 2).toNat (0:Int)=925286766)/\(((0:Int)<=Int.ofNat 3/\Int.ofNat 3<(↑oA1.length:Int))/\(Int.ofNat 3).toNat<oA1.length/\oA1.getD (Int.ofNat 3).toNat (0:Int)=179586476)/\(((0:Int)<=Int.ofNat 4/\Int.ofNat 4<(↑oA1.length:Int))/\(Int.ofNat 4).toNat<oA1.length/\oA1.getD (Int.ofNat 4).toNat (0:Int)=283185307)/\((0:Int)<=Int.ofNat 5/\Int.ofNat 5<(↑oA1.length:Int))/\(Int.ofNat 5).toNat<oA1.length/\oA1.getD (Int.ofNat 5).toNat (0:Int)=6)/\(↑oA1.length:Int)=6)/\(↑oB1.length:Int)=2/\((↑oB1.length:Int)=2/\(((0:Int)<=0/\(0:Int)<(↑oB1.length:Int))/\Int.toNat (0:Int)<oB1.length/\oB1.getD (Int.toNat (0:Int)) (0:Int)=294967296)/\((0:Int)<=Int.ofNat 1/\Int.ofNat 1<(↑oB1.length:Int))/\(Int.ofNat 1).toNat<oB1.length/\oB1.getD (Int.ofNat 1).toNat (0:Int)=4)/\(↑oB1.length:Int)=2)/\(↑oA1.length:Int)=6/\Dig [Int.ofNat 400000000,Int.ofNat 45323990]/\[Int.ofNat 400000000,Int.ofNat 45323990].length<=(500000:Nat)/\(1:Int)<=Int.ofNat 200000000/\Int.ofNat 200000000<=1000000000)
def Vj (z:Int):AV:=(AV.tuple [AV.slice 2 (0:Nat) 5 5,AV.lslice 3 (↑(aa (val [Int.ofNat 400000000,Int.ofNat 45323990] / Int.ofNat 200000000).toNat).length:Int)])
def Vk (z:Int):Hp:=⟨[{ wr:=1190,body:=ABody.rows IntKind.i64 (aa (val [Int.ofNat 400000000,Int.ofNat 45323990] / Int.ofNat 200000000).toNat) },{ wr:=1162,body:=ABody.cells [AV.int false IntKind.i64 (Int.ofNat 309792297),AV.int false IntKind.i64 (Int.ofNat 51337804),AV.int false IntKind.i64 (Int.ofNat 267159681),AV.int false IntKind.i64 (Int.ofNat 462918079),AV.int false IntKind.i64 (Int.ofNat 1)] },{ wr:=(0:Nat),body:=ABody.rows IntKind.i64 [(294967296:Int),(4:Int)] },{ wr:=(0:Nat),body:=ABody.rows IntKind.i64 [(394338864:Int),(559005768:Int),(925286766:Int),(179586476:Int),(283185307:Int),(6:Int)] }],4,1216⟩
theorem abS (z:Int):(run cO1 300).call 100 (zB oA1 oB1) (zG oA1 oB1)=some ⟨.p (yn z),[⟨.tt,Vj z,Vk z⟩]⟩:=by kernel_rfl
def yo (z:Int):Prop:=((↑oB2.length:Int)=2/\((((↑oA2.length:Int)=(↑oA2.length:Int)/\(↑oB2.length:Int)=(↑oB2.length:Int))/\Sm oA2/\Sm oB2)/\decide (mO oA2 oB2<0)=false)/\(((0:Int)<=Int.ofNat 1/\Int.ofNat 1<(↑oB2.length:Int))/\(Int.ofNat 1).toNat<oB2.length/\oB2.getD (Int.ofNat 1).toNat (0:Int)=4)/\(((↑oA2.length:Int)=7/\((↑oA2.length:Int)=7/\(((0:Int)<=0/\(0:Int)<(↑oA2.length:Int))/\Int.toNat (0:Int)<oA2.length/\oA2.getD (Int.toNat (0:Int)) (0:Int)=711109072)/\(((0:Int)<=Int.ofNat 1/\Int.ofNat 1<(↑oA2.length:Int))/\(Int.ofNat 1).toNat<oA2.length/\oA2.getD (Int.ofNat 1).toNat (0:Int)=823253194)/\(((0:Int)<=Int.ofNat 2/\Int.ofNat 2<(↑oA2.length:Int))/\(Int.ofNat 2).toNat<oA2.length/\oA2.getD (Int.ofNat 2).toNat (0:Int)=522842290)/\(((0:Int)<=Int.ofNat 3/\Int.ofNat 3<(↑oA2.length:Int))/\(Int.ofNat 3).toNat<oA2.length/\oA2.getD (Int.ofNat 3).toNat (0:Int)=119904847)/\(((0:Int)<=Int.ofNat 4/\Int.ofNat 4<(↑oA2.length:Int))/\(Int.ofNat 4).toNat<oA2.length/\oA2.getD (Int.ofNat 4).toNat (0:Int)=977824172)/\(((0:Int)<=Int.ofNat 5/\Int.ofNat 5<(↑oA2.length:Int))/\(Int.ofNat 5).toNat<oA2.length/\oA2.getD (Int.ofNat 5).toNat (0:Int)=746518845)/\((0:Int)<=Int.ofNat 6/\Int.ofNat 6<(↑oA2.length:Int))/\(Int.ofNat 6).toNat<oA2.length/\oA2.getD (Int.ofNat 6).toNat (0:Int)=6)/\(↑oA2.length:Int)=7)/\(↑oB2.length:Int)=2/\((↑oB2.length:Int)=2/\(((0:Int)<=0/\(0:Int)<(↑oB2.length:Int))/\Int.toNat (0:Int)<oB2.length/\oB2.getD (Int.toNat (0:Int)) (0:Int)=294967296)/\((0:Int)<=Int.ofNat 1/\Int.ofNat 1<(↑oB2.length:Int))/\(Int.ofNat 1).toNat<oB2.length/\oB2.getD (Int.ofNat 1).toNat (0:Int)=4)/\(↑oB2.length:Int)=2)/\(↑oA2.length:Int)=7/\Dig [Int.ofNat 800000000,Int.ofNat 813669468]/\[Int.ofNat 800000000,Int.ofNat 813669468].length<=(500000:Nat)/\(1:Int)<=Int.ofNat 200000000/\Int.ofNat 200000000<=1000000000)
def Vl (z:Int):AV:=(AV.tuple [AV.slice 2 (0:Nat) 6 6,AV.lslice 3 (↑(aa (val [Int.ofNat 800000000,Int.ofNat 813669468] / Int.ofNat 200000000).toNat).length:Int)])
def Vm (z:Int):Hp:=⟨[{ wr:=1469,body:=ABody.rows IntKind.i64 (aa (val [Int.ofNat 800000000,Int.ofNat 813669468] / Int.ofNat 200000000).toNat) },{ wr:=1441,body:=ABody.cells [AV.int false IntKind.i64 (Int.ofNat 788792418),AV.int false IntKind.i64 (Int.ofNat 588413637),AV.int false IntKind.i64 (Int.ofNat 964162010),AV.int false IntKind.i64 (Int.ofNat 331978539),AV.int false IntKind.i64 (Int.ofNat 570796325),AV.int false IntKind.i64 (Int.ofNat 1)] },{ wr:=(0:Nat),body:=ABody.rows IntKind.i64 [(294967296:Int),(4:Int)] },{ wr:=(0:Nat),body:=ABody.rows IntKind.i64 [(711109072:Int),(823253194:Int),(522842290:Int),(119904847:Int),(977824172:Int),(746518845:Int),(6:Int)] }],4,1495⟩
theorem abT (z:Int):(run cO2 300).call 100 (zB oA2 oB2) (zG oA2 oB2)=some ⟨.p (yo z),[⟨.tt,Vl z,Vm z⟩]⟩:=by kernel_rfl
def yq (z:Int):Prop:=((↑oB3.length:Int)=2/\((((↑oA3.length:Int)=(↑oA3.length:Int)/\(↑oB3.length:Int)=(↑oB3.length:Int))/\Sm oA3/\Sm oB3)/\decide (mO oA3 oB3<0)=false)/\(((0:Int)<=Int.ofNat 1/\Int.ofNat 1<(↑oB3.length:Int))/\(Int.ofNat 1).toNat<oB3.length/\oB3.getD (Int.ofNat 1).toNat (0:Int)=3)/\(((↑oA3.length:Int)=7/\((↑oA3.length:Int)=7/\(((0:Int)<=0/\(0:Int)<(↑oA3.length:Int))/\Int.toNat (0:Int)<oA3.length/\oA3.getD (Int.toNat (0:Int)) (0:Int)=552723968)/\(((0:Int)<=Int.ofNat 1/\Int.ofNat 1<(↑oA3.length:Int))/\(Int.ofNat 1).toNat<oA3.length/\oA3.getD (Int.ofNat 1).toNat (0:Int)=691129481)/\(((0:Int)<=Int.ofNat 2/\Int.ofNat 2<(↑oA3.length:Int))/\(Int.ofNat 2).toNat<oA3.length/\oA3.getD (Int.ofNat 2).toNat (0:Int)=224064528)/\(((0:Int)<=Int.ofNat 3/\Int.ofNat 3<(↑oA3.length:Int))/\(Int.ofNat 3).toNat<oA3.length/\oA3.getD (Int.ofNat 3).toNat (0:Int)=649745662)/\(((0:Int)<=Int.ofNat 4/\Int.ofNat 4<(↑oA3.length:Int))/\(Int.ofNat 4).toNat<oA3.length/\oA3.getD (Int.ofNat 4).toNat (0:Int)=130504739)/\(((0:Int)<=Int.ofNat 5/\Int.ofNat 5<(↑oA3.length:Int))/\(Int.ofNat 5).toNat<oA3.length/\oA3.getD (Int.ofNat 5).toNat (0:Int)=373259426)/\((0:Int)<=Int.ofNat 6/\Int.ofNat 6<(↑oA3.length:Int))/\(Int.ofNat 6).toNat<oA3.length/\oA3.getD (Int.ofNat 6).toNat (0:Int)=3)/\(↑oA3.length:Int)=7)/\(↑oB3.length:Int)=2/\((↑oB3.length:Int)=2/\(((0:Int)<=0/\(0:Int)<(↑oB3.length:Int))/\Int.toNat (0:Int)<oB3.length/\oB3.getD (Int.toNat (0:Int)) (0:Int)=221225472)/\((0:Int)<=Int.ofNat 1/\Int.ofNat 1<(↑oB3.length:Int))/\(Int.ofNat 1).toNat<oB3.length/\oB3.getD (Int.ofNat 1).toNat (0:Int)=3)/\(↑oB3.length:Int)=2)/\(↑oA3.length:Int)=7/\Dig ([]:List Int)/\([]:List Int).length<=(500000:Nat)/\(1:Int)<=Int.ofNat 250000000/\Int.ofNat 250000000<=1000000000)
def Vn (z:Int):AV:=(AV.tuple [AV.slice 2 (0:Nat) 6 6,AV.lslice 3 (↑(aa (val ([]:List Int) / Int.ofNat 250000000).toNat).length:Int)])
def Vo (z:Int):Hp:=⟨[{ wr:=1393,body:=ABody.rows IntKind.i64 (aa (val ([]:List Int) / Int.ofNat 250000000).toNat) },{ wr:=1327,body:=ABody.cells [AV.int false IntKind.i64 (Int.ofNat 65723144),AV.int false IntKind.i64 (Int.ofNat 93167628),AV.int false IntKind.i64 (Int.ofNat 154214461),AV.int false IntKind.i64 (Int.ofNat 196597746),AV.int false IntKind.i64 (Int.ofNat 47197551),AV.int false IntKind.i64 (Int.ofNat 1)] },{ wr:=(0:Nat),body:=ABody.rows IntKind.i64 [(221225472:Int),(3:Int)] },{ wr:=(0:Nat),body:=ABody.rows IntKind.i64 [(552723968:Int),(691129481:Int),(224064528:Int),(649745662:Int),(130504739:Int),(373259426:Int),(3:Int)] }],4,1419⟩
theorem abU (z:Int):(run cO3 300).call 100 (zB oA3 oB3) (zG oA3 oB3)=some ⟨.p (yq z),[⟨.tt,Vn z,Vo z⟩]⟩:=by kernel_rfl
end
end Go.Proofs.YtmnhhlnbfkfkaaaGreat.K
