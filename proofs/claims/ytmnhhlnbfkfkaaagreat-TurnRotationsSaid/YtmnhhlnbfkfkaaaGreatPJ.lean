/- What is proved: TurnRotations returns true, whatever the input (part 10). No conditions beyond those of the row. -/
import Derived.Test.YtmnhhlnbfkfkaaaGreatPI
import Derived.KernelRfl
set_option linter.unusedVariables false
set_option linter.unusedSimpArgs false
set_option linter.unusedSectionVars false
namespace Go.Proofs.YtmnhhlnbfkfkaaaGreat.K
open Go Go.Eng Go.Dg
noncomputable section
def A6 (s:Bool) (a b:List Int):Prop:=(0:Int)=(0:Int)/\Fz (List.replicate (IntKind.i64.wrap ((↑(bA s a b).length:Int)+(1:Int))).toNat (0:Int)) (Int.toNat (0:Int)) (bA s a b)=q1D s a b (0:Int)
theorem Kt (s:Bool) (a b:List Int):fit (q1S s a b) (q1S s a b) (ac (q1S s a b) ((q1U s a b).S 0)) ([])=some (.p (A6 s a b)):=by cases s <;> kernel_rfl
def CX (s:Bool) (a b:List Int) (i:Int):Prop:=(decide (i<(↑(shA s a b).length:Int))=true->(((0:Int)<=i/\i<(↑(shA s a b).length:Int))/\i.toNat<(shA s a b).length)/\((0:Int)<=i/\i<IntKind.i64.wrap ((↑(bA s a b).length:Int)+(1:Int)))/\((0:Int)+i).toNat<(q1D s a b i).length/\((0:Int)<=i/\i<IntKind.i64.wrap ((↑(bA s a b).length:Int)+(1:Int)))/\((0:Int)+i).toNat<(q1D s a b i).length)/\((!decide (i<(↑(shA s a b).length:Int)))=true->(i=i/\q1D s a b i=q1D s a b i)/\(q1U s a b).F i=(Ex.exit (0:Nat),q1P i (q1D s a b i)))/\(decide (i<(↑(shA s a b).length:Int))=true->(IntKind.i64.wrap (i+(1:Int))=(q1U s a b).next i/\(q1D s a b i).set ((0:Int)+i).toNat (IntKind.i64.wrap ((q1D s a b i).getD ((0:Int)+i).toNat (0:Int)+(shA s a b).getD i.toNat (0:Int)))=q1D s a b ((q1U s a b).next i))/\(q1U s a b).I ((q1U s a b).next i)/\(q1U s a b).μ ((q1U s a b).next i)<(q1U s a b).μ i/\(q1U s a b).F ((q1U s a b).next i)=(q1U s a b).F i)
theorem Pu (s:Bool) (a b:List Int) (i:Int):aW (q1S s a b) ((q1U s a b).way (i)) ((run cL 300).code lL A5 (ac (q1S s a b) ((q1U s a b).S i)))=some (.p (CX s a b i)):=by cases s <;> kernel_rfl
def A7 (s:Bool) (a b:List Int):Prop:=(0:Int)=(0:Int)/\q1D s a b (↑(shA s a b).length:Int)=q1D s a b (↑(shA s a b).length:Int)
theorem Ku (s:Bool) (a b:List Int):fit (q2S s a b) (q2S s a b) (ac (q2S s a b) ((q2U s a b).S (0,q1D s a b (shA s a b).length))) ([])=some (.p (A7 s a b)):=by cases s <;> kernel_rfl
def GF (s:Bool) (a b:List Int) (i:Int) (d:List Int):Prop:=decide (i<(↑(bA s a b).length:Int))=false/\(true=true->(i=i/\d=d)/\(q2U s a b).F (i,d)=(Ex.exit (2:Nat),q2P i d))
theorem Uk (s:Bool) (a b:List Int) (i:Int) (d:List Int):aW (q2S s a b) ((q2U s a b).way ((i,d))) ((run (cHb [(41,false)]) 300).code lL xU (ac (q2S s a b) ((q2U s a b).S (i,d))))=some (.p (GF s a b i d)):=by cases s <;> kernel_rfl
def CY (s:Bool) (a b:List Int) (i:Int) (d:List Int):Prop:=(decide (i<(↑(bA s a b).length:Int))=true/\((0:Int)<=i/\i<IntKind.i64.wrap ((↑(bA s a b).length:Int)+(1:Int)))/\((0:Int)+i).toNat<d.length/\decide (d.getD ((0:Int)+i).toNat (0:Int)>=(1000000000:Int))=false)/\(true=true->(IntKind.i64.wrap (i+(1:Int))=i+(1:Int)/\d=bif decide (d.getD i.toNat (0:Int)>=(1000000000:Int)) then (d.set i.toNat (d.getD i.toNat (0:Int) - (1000000000:Int))).set (i.toNat+(1:Nat)) ((d.set i.toNat (d.getD i.toNat (0:Int) - (1000000000:Int))).getD (i.toNat+(1:Nat)) (0:Int)+(1:Int)) else d)/\(q2U s a b).I ((q2U s a b).next (i,d))/\(q2U s a b).μ ((q2U s a b).next (i,d))<(q2U s a b).μ (i,d)/\(q2U s a b).F ((q2U s a b).next (i,d))=(q2U s a b).F (i,d))
theorem Pv (s:Bool) (a b:List Int) (i:Int) (d:List Int):aW (q2S s a b) ((q2U s a b).way ((i,d))) ((run (cHb [(41,true),(47,false)]) 300).code lL xU (ac (q2S s a b) ((q2U s a b).S (i,d))))=some (.p (CY s a b i d)):=by cases s <;> kernel_rfl
def CZ (s:Bool) (a b:List Int) (i:Int) (d:List Int):Prop:=(decide (i<(↑(bA s a b).length:Int))=true/\(((0:Int)<=i/\i<IntKind.i64.wrap ((↑(bA s a b).length:Int)+(1:Int)))/\((0:Int)+i).toNat<d.length/\decide (d.getD ((0:Int)+i).toNat (0:Int)>=(1000000000:Int))=true)/\(((0:Int)<=i/\i<IntKind.i64.wrap ((↑(bA s a b).length:Int)+(1:Int)))/\((0:Int)+i).toNat<d.length/\((0:Int)<=i/\i<IntKind.i64.wrap ((↑(bA s a b).length:Int)+(1:Int)))/\((0:Int)+i).toNat<d.length)/\((0:Int)<=IntKind.i64.wrap (i+(1:Int))/\IntKind.i64.wrap (i+(1:Int))<IntKind.i64.wrap ((↑(bA s a b).length:Int)+(1:Int)))/\((0:Int)+IntKind.i64.wrap (i+(1:Int))).toNat<(d.set ((0:Int)+i).toNat (IntKind.i64.wrap (d.getD ((0:Int)+i).toNat (0:Int) - (1000000000:Int)))).length/\((0:Int)<=IntKind.i64.wrap (i+(1:Int))/\IntKind.i64.wrap (i+(1:Int))<IntKind.i64.wrap ((↑(bA s a b).length:Int)+(1:Int)))/\((0:Int)+IntKind.i64.wrap (i+(1:Int))).toNat<(d.set ((0:Int)+i).toNat (IntKind.i64.wrap (d.getD ((0:Int)+i).toNat (0:Int) - (1000000000:Int)))).length)/\(true=true->(IntKind.i64.wrap (i+(1:Int))=i+(1:Int)/\(d.set ((0:Int)+i).toNat (IntKind.i64.wrap (d.getD ((0:Int)+i).toNat (0:Int) - (1000000000:Int)))).set ((0:Int)+IntKind.i64.wrap (i+(1:Int))).toNat (IntKind.i64.wrap ((d.set ((0:Int)+i).toNat (IntKind.i64.wrap (d.getD ((0:Int)+i).toNat (0:Int) - (1000000000:Int)))).getD ((0:Int)+IntKind.i64.wrap (i+(1:Int))).toNat (0:Int)+(1:Int)))=bif decide (d.getD i.toNat (0:Int)>=(1000000000:Int)) then (d.set i.toNat (d.getD i.toNat (0:Int) - (1000000000:Int))).set (i.toNat+(1:Nat)) ((d.set i.toNat (d.getD i.toNat (0:Int) - (1000000000:Int))).getD (i.toNat+(1:Nat)) (0:Int)+(1:Int)) else d)/\(q2U s a b).I ((q2U s a b).next (i,d))/\(q2U s a b).μ ((q2U s a b).next (i,d))<(q2U s a b).μ (i,d)/\(q2U s a b).F ((q2U s a b).next (i,d))=(q2U s a b).F (i,d))
theorem Pw (s:Bool) (a b:List Int) (i:Int) (d:List Int):aW (q2S s a b) ((q2U s a b).way ((i,d))) ((run (cHb [(41,true),(47,true)]) 300).code lL xU (ac (q2S s a b) ((q2U s a b).S (i,d))))=some (.p (CZ s a b i d)):=by cases s <;> kernel_rfl
theorem Kv (u:List Int):Fz (List.replicate (u.length+1) 0) 0 u=u++[0]:=by
 unfold Fz
 rw [List.take_zero,List.nil_append,List.drop_replicate,show u.length+1 - (0+u.length)=1 by omega]
 rfl
theorem Px (s:Bool) (a b:List Int) (i:Int):(q1D s a b i).length=(bA s a b).length+1:=by
 unfold q1D
 rw [pi]; simp
theorem Py {s:Bool} {a b:List Int} (ha:Dig a) (hb:Dig b) (la:(bA s a b).length<=400000) (hl:(shA s a b).length<=(bA s a b).length):CodeOk cL lL (.loop A5) (q1S s a b) ⟨.tt,[⟨.tt,.exit 0,ac (q1S s a b) (q1X s a b)⟩]⟩:=by
 have hL:Dig (bA s a b):=by cases s <;> assumption
 have hS:Dig (shA s a b):=by cases s <;> assumption
 have hLz:Dig (bA s a b++[0]):=o9.2 ⟨hL,bz.2 ⟨by omega,b8⟩⟩
 have eN:IntKind.i64.wrap ((bA s a b).length+1:Int)=(bA s a b).length+1:=iw (by omega) (by omega)
 refine cW (aQ c7 300) (q1U s a b) (y0:=0) ⟨by omega,by omega⟩ ⟨_,Kt s a b,rfl,?_⟩ (by cases s <;> kernel_rfl) (fun i hi=>⟨_,Pu s a b i,?_⟩) rfl
 .rw [eN,show ((bA s a b).length+1:Int).toNat=(bA s a b).length+1 by omega,show Int.toNat 0=0 from rfl,Kv]
  exact (uF _).symm
 obtain ⟨i0,i1⟩:=(show 0<=i/\i<=(shA s a b).length from hi)
 have ll:=Px s a b i
 refine ⟨fun h=>?_,fun h=>⟨⟨rfl,rfl⟩,?_⟩,fun h=>?_⟩
 .have h:i<(shA s a b).length:=dt.1 h
  rw [zt,ll,eN]
  exact ⟨⟨⟨i0,h⟩,by omega⟩,⟨i0,by omega⟩,by omega,⟨i0,by omega⟩,by omega⟩
 .have h:=ndt.1 h
  obtain rfl:i=(shA s a b).length:=by omega
  rfl
 .have h:i<(shA s a b).length:=dt.1 h
  have g1:=hLz.get i.toNat
  have g2:=hS.get i.toNat
  have e0:((shA s a b).take i.toNat).getD i.toNat 0=0:=by rw [List.getD_eq_getElem?_getD,List.getElem?_eq_none (by rw [List.length_take]; omega)]; rfl
  have e1:(q1D s a b i).getD i.toNat 0=(bA s a b++[0]).getD i.toNat 0+((shA s a b).take i.toNat).getD i.toNat 0:=pj _ _ i.toNat (by simp; omega)
  rw [e0] at e1
  refine ⟨⟨iw (by omega) (by omega),?_⟩,?_,?_,rfl⟩
  .rw [zt,iw (by omega) (by omega)]
   unfold q1D
   rw [wi _ _ i.toNat (by omega) (by simp; omega)]
   show _=ji _ ((shA s a b).take (i+1).toNat)
   rw [show (i+1).toNat=i.toNat+1 by omega]
  .show 0<=i+1/\i+1<=(shA s a b).length
   omega
  .show ((shA s a b).length - (i+1)).toNat<((shA s a b).length - i).toNat
   omega
theorem Ul (s:Bool) (a b:List Int):plV a b=val (bA s a b)+val (shA s a b):=by
 unfold plV
 cases s
 .rfl
 .show val a+val b=val b+val a
  omega
theorem Pz {s:Bool} {a b:List Int} (ha:Dig a) (hb:Dig b) (la:(bA s a b).length<=400000) (hl:(shA s a b).length<=(bA s a b).length):CodeOk cL lL (.loop xU) (q2S s a b) ⟨.tt,[⟨.tt,.exit 2,ac (q2S s a b) (q2P (bA s a b).length (q2F s a b))⟩]⟩:=by
 have hL:Dig (bA s a b):=by cases s <;> assumption
 have hS:Dig (shA s a b):=by cases s <;> assumption
 have eN:IntKind.i64.wrap ((bA s a b).length+1:Int)=(bA s a b).length+1:=iw (by omega) (by omega)
 refine cB (q2U s a b) (y0:=(0,q1D s a b (shA s a b).length)) ?_ ⟨_,Ku s a b,rfl,rfl⟩ (by cases s <;> kernel_rfl) (fun y hy=>?_) rfl
 .show 0<=(0:Int)/\NcI _ _ _ _
  unfold q1D
  rw [show (((shA s a b).length:Int)).toNat=(shA s a b).length by omega,List.take_length,Ul s]
  exact ⟨by decide,NcI.start hL hS hl⟩
 obtain ⟨i,d⟩:=y
 obtain ⟨i0,hI⟩:=(show 0<=i/\NcI (bA s a b).length (plV a b) i.toNat d from hy)
 obtain ⟨l,i1,lo,me,hi',t0,t1,v⟩:=id hI
 have e2:(i+1).toNat=i.toNat+1:=by omega
 by_cases hlt:i<(bA s a b).length
 .have iw1:IntKind.i64.wrap (i+1)=i+1:=iw (by omega) (by omega)
  have mu:((bA s a b).length - (i+1)).toNat<((bA s a b).length - i).toNat:=by omega
  by_cases hn:d.getD i.toNat 0>=1000000000
  .have h2:=hi' (i.toNat+1) (by omega)
   have e3:(d.set i.toNat (d.getD i.toNat 0 - 1000000000)).getD (i.toNat+1) 0=d.getD (i.toNat+1) 0:=getD_set (by omega)
   have e4:IntKind.i64.wrap (d.getD i.toNat 0 - 1000000000)=d.getD i.toNat 0 - 1000000000:=iw (by omega) (by omega)
   have e5:IntKind.i64.wrap (d.getD (i.toNat+1) 0+1)=d.getD (i.toNat+1) 0+1:=iw (by omega) (by omega)
   have hb':(bif decide (d.getD i.toNat 0>=1000000000) then (d.set i.toNat (d.getD i.toNat 0 - 1000000000)).set (i.toNat+1) ((d.set i.toNat (d.getD i.toNat 0 - 1000000000)).getD (i.toNat+1) 0+1) else d)=(d.set i.toNat (d.getD i.toNat 0 - 1000000000)).set (i.toNat+1) ((d.set i.toNat (d.getD i.toNat 0 - 1000000000)).getD (i.toNat+1) 0+1):=by rw [decide_eq_true hn]; rfl
   refine ⟨cHb [(41,true),(47,true)],300,lK _,rfl,rfl,_,Pw s a b i d,?_,fun _=>?_⟩
   .rw [zt,iw1,zt,e2,e4,List.length_set,eN]
    exact ⟨decide_eq_true hlt,⟨⟨i0,by omega⟩,by omega,decide_eq_true hn⟩,⟨⟨i0,by omega⟩,by omega,⟨i0,by omega⟩,by omega⟩,⟨by omega,by omega⟩,by omega,⟨by omega,by omega⟩,by omega⟩
   .refine ⟨⟨iw1,?_⟩,?_,mu,rfl⟩
    .rw [zt,iw1,zt,e2,e4,hb',e3,e5]
    .show 0<=i+1/\NcI _ _ (i+1).toNat _
     rw [e2,hb']
     exact ⟨by omega,hI.step (by omega) hn⟩
  .have hb':(bif decide (d.getD i.toNat 0>=1000000000) then (d.set i.toNat (d.getD i.toNat 0 - 1000000000)).set (i.toNat+1) ((d.set i.toNat (d.getD i.toNat 0 - 1000000000)).getD (i.toNat+1) 0+1) else d)=d:=by rw [decide_eq_false hn]; rfl
   refine ⟨cHb [(41,true),(47,false)],300,lK _,rfl,rfl,_,Pv s a b i d,?_,fun _=>⟨⟨iw1,hb'.symm⟩,?_,mu,rfl⟩⟩
   .rw [zt,eN]
    exact ⟨decide_eq_true hlt,⟨i0,by omega⟩,by omega,decide_eq_false hn⟩
   .show 0<=i+1/\NcI _ _ (i+1).toNat _
    rw [e2,hb']
    exact ⟨by omega,hI.skip (by omega) hn⟩
 .refine ⟨cHb [(41,false)],300,lK _,rfl,rfl,_,Uk s a b i d,decide_eq_false hlt,fun _=>⟨⟨rfl,rfl⟩,?_⟩⟩
  have e:i.toNat=(bA s a b).length:=by omega
  rw [e] at hI
  show (Ex.exit 2,q2P (bA s a b).length (q2F s a b))=(Ex.exit 2,q2P i d)
  unfold q2F
  rw [<- hI.fin,show i=(bA s a b).length by omega]
def plW (s:Bool):Nat:=match s with|true=>29|false=>25
def plC (s:Bool):Nat:=match s with|true=>32|false=>28
noncomputable def qtS (s:Bool) (a b d:List Int) (N:Int):St:=g6 cL 300 117 [.islice true 2 0 N] ⟨[⟨plW s,.ints .i64 d⟩,⟨0,.rows .i64 b⟩,⟨0,.rows .i64 a⟩],3,plC s⟩
theorem Kw (s:Bool) (a b d:List Int) (N:Int):fit (qtS s a b d N) (qtS s a b d N) (ac (qtS s a b d N) ((trU 2 d N).S N)) []=some (.p ((0:Int)=0/\N=N)):=by cases s <;> kernel_rfl
theorem PA (s:Bool) (a b d:List Int) (N y:Int):aW (qtS s a b d N) ((trU 2 d N).way y) ((run cL 300).code io trA (ac (qtS s a b d N) ((trU 2 d N).S y)))=some (.p (trN 2 d N y)):=by cases s <;> kernel_rfl
theorem PB (s:Bool) (a b:List Int) {d:List Int} {N:Int} (hN:N=d.length) (ld:Sm d):CodeOk cL io (.loop trA) (qtS s a b d N) ⟨.tt,[⟨.tt,.exit 0,ac (qtS s a b d N) (trP 2 (tlI d N))⟩]⟩:=sw hN ld (Kw s a b d N) (by cases s <;> kernel_rfl) (fun y=>PA s a b d N y)
def plN (s:Bool) (a b:List Int):Int:=IntKind.i64.wrap ((bA s a b).length+1:Int)
noncomputable def cQt (s:Bool) (a b:List Int):Ctx:=aw (cPl s) [aR 105 (q1S s a b).hp.clock lL A5 (q1S s a b) (.exit 0) (q1X s a b),aR 105 (q2S s a b).hp.clock lL xU (q2S s a b) (.exit 2) (q2P (bA s a b).length (q2F s a b)),
 aR 117 (plC s+3) io trA (qtS s a b (q2F s a b) (plN s a b)) (.exit 0) (trP 2 (tlI (q2F s a b) (plN s a b)))]
theorem EU (s:Bool) (a b:List Int):(q2F s a b).length=(bA s a b).length+1:=a6 _ _
theorem xX {s:Bool} {a b:List Int} (la:(bA s a b).length<=400000):plN s a b=(q2F s a b).length:=by
 unfold plN
 rw [iw (by omega) (by omega),EU]; omega
theorem uI {C D:Ctx} {fr:AFr} {a:Code} {S:St} {r:R} (h:CodeOk C fr (.loop a) S r) (hP:D.P=C.P) (hg:D.glob=C.glob):CodeOk D fr (.loop a) S r:=CodeOk.ctx hP hg h
theorem Kx {s:Bool} {a b:List Int} (ha:Dig a) (hb:Dig b) (la:(bA s a b).length<=400000) (hl:(shA s a b).length<=(bA s a b).length):CtxOk (cQt s a b):=
 ak (xW s) (uI (Py ha hb la hl) rfl rfl) (ak (xW s) (uI (Pz ha hb la hl) rfl rfl) (ak (xW s) (uI (PB s a b (xX la) (by show (q2F s a b).length<=500000; rw [EU]; omega)) rfl rfl) (aq (xW s))))
def PC (a b:List Int):Prop:=(decide ((↑a.length:Int)<(↑b.length:Int))=false/\(IntKind.i64.wrap ((↑a.length:Int)+(1:Int))=IntKind.i64.wrap ((↑a.length:Int)+(1:Int))/\(0:Int)<=IntKind.i64.wrap ((↑a.length:Int)+(1:Int))/\IntKind.i64.wrap ((↑a.length:Int)+(1:Int))<=(1048576:Int))/\((↑a.length:Int)=(↑a.length:Int)/\(0:Int)<=(0:Int)/\(0:Int)<(↑a.length:Int)/\(↑a.length:Int)<=IntKind.i64.wrap ((↑a.length:Int)+(1:Int))/\(0:Int)+IntKind.i64.wrap ((↑a.length:Int)+(1:Int))<=(↑(List.replicate (IntKind.i64.wrap ((↑a.length:Int)+(1:Int))).toNat (0:Int)).length:Int))/\At (lL) (lL) (A5) (A5) (q1S false a b) (q1S false a b)/\At (lL) (lL) (xU) (xU) (q2S false a b) (q2S false a b)/\At (io) (io) (trA) (trA) (qtS false a b (q2F false a b) (plN false a b)) (qtS false a b (q2F false a b) (plN false a b)))
def Um (a b:List Int):AV:=(AV.islice true 2 (0:Int) (tlI (q2F false a b) (plN false a b)))
def Un (a b:List Int):Hp:=⟨[{ wr:=25,body:=ABody.ints IntKind.i64 (q2F false a b) },{ wr:=(0:Nat),body:=ABody.rows IntKind.i64 b },{ wr:=(0:Nat),body:=ABody.rows IntKind.i64 a }],3,35⟩
theorem abd (a b:List Int):(run (cQt false a b) 300).call 105 (zB a b) (zG a b)=some ⟨.p (PC a b),[⟨.tt,Um a b,Un a b⟩]⟩:=by kernel_rfl
def PD (a b:List Int):Prop:=(decide ((↑a.length:Int)<(↑b.length:Int))=true/\(IntKind.i64.wrap ((↑b.length:Int)+(1:Int))=IntKind.i64.wrap ((↑b.length:Int)+(1:Int))/\(0:Int)<=IntKind.i64.wrap ((↑b.length:Int)+(1:Int))/\IntKind.i64.wrap ((↑b.length:Int)+(1:Int))<=(1048576:Int))/\((↑b.length:Int)=(↑b.length:Int)/\(0:Int)<=(0:Int)/\(0:Int)<(↑b.length:Int)/\(↑b.length:Int)<=IntKind.i64.wrap ((↑b.length:Int)+(1:Int))/\(0:Int)+IntKind.i64.wrap ((↑b.length:Int)+(1:Int))<=(↑(List.replicate (IntKind.i64.wrap ((↑b.length:Int)+(1:Int))).toNat (0:Int)).length:Int))/\At (lL) (lL) (A5) (A5) (q1S true a b) (q1S true a b)/\At (lL) (lL) (xU) (xU) (q2S true a b) (q2S true a b)/\At (io) (io) (trA) (trA) (qtS true a b (q2F true a b) (plN true a b)) (qtS true a b (q2F true a b) (plN true a b)))
def Uo (a b:List Int):AV:=(AV.islice true 2 (0:Int) (tlI (q2F true a b) (plN true a b)))
def Up (a b:List Int):Hp:=⟨[{ wr:=29,body:=ABody.ints IntKind.i64 (q2F true a b) },{ wr:=(0:Nat),body:=ABody.rows IntKind.i64 b },{ wr:=(0:Nat),body:=ABody.rows IntKind.i64 a }],3,39⟩
theorem abe (a b:List Int):(run (cQt true a b) 300).call 105 (zB a b) (zG a b)=some ⟨.p (PD a b),[⟨.tt,Uo a b,Up a b⟩]⟩:=by kernel_rfl
def Uq:List Nu->List (List Int)->Option (Prop×To)
 | [],[a,b]=>some (Dig a/\Dig b/\(0<a.length\/0<b.length)/\a.length<=400000/\b.length<=400000,.li false (aa (val a+val b).toNat))
 | _,_=>none
theorem Ky {s:Bool} {a b:List Int} (ha:Dig a) (hb:Dig b) (hl:(shA s a b).length<=(bA s a b).length):val (q2F s a b)=val a+val b:=by
 have a0:=af ha
 have b0:=af hb
 have a1:=ba ha
 have b1:=ba hb
 refine du (by unfold plV; omega) ?_
 have e:pw ((bA s a b).length+1)=1000000000*pw (bA s a b).length:=by simp [pw]
 have p0:=pw_pos (bA s a b).length
 have ka:val a<pw (bA s a b).length:=by
  refine Int.lt_of_lt_of_le a1 (bK ?_)
  cases s <;> simp only [bA,shA] at hl ⊢ <;> omega
 have kb:val b<pw (bA s a b).length:=by
  refine Int.lt_of_lt_of_le b1 (bK ?_)
  cases s <;> simp only [bA,shA] at hl ⊢ <;> omega
 rw [e]; unfold plV; omega
theorem PE:NOk Tryz.prog (fun _=>none) hG0 105 (au hG0 .i64 [.li,.li] Uq):=by
 refine bb (fun xs ys p t e h=>?_) ⟨_,Tryz.func105,rfl⟩
 unfold Uq at e
 split at e
 .rename_i a b
  cases e
  obtain ⟨ha,hb,l0,la,lb⟩:=h
  have wa:IntKind.i64.wrap ((a.length:Int)+1)=a.length+1:=iw (by omega) (by omega)
  have wb:IntKind.i64.wrap ((b.length:Int)+1)=b.length+1:=iw (by omega) (by omega)
  by_cases hs:a.length<b.length
  .have hl:(shA true a b).length<=(bA true a b).length:=by show a.length<=b.length; omega
   have lg:(bA true a b).length<=400000:=lb
   refine ⟨cQt true a b,300,zB a b,_,_,_,_,_,Kx ha hb lg hl,rfl,rfl,⟨rfl,rfl,trivial⟩,abe a b,rfl,⟨decide_eq_true (by omega),⟨rfl,by omega,by omega⟩,⟨rfl,by omega,by omega,by omega,?_⟩,⟨rfl,rfl,rfl⟩,⟨rfl,rfl,rfl⟩,⟨rfl,rfl,rfl⟩⟩,rfl,rfl,xS (cX _ _) (xX lg) (Ky ha hb hl)⟩
   rw [List.length_replicate,wb]; omega
  .have hl:(shA false a b).length<=(bA false a b).length:=by show b.length<=a.length; omega
   have lg:(bA false a b).length<=400000:=la
   refine ⟨cQt false a b,300,zB a b,_,_,_,_,_,Kx ha hb lg hl,rfl,rfl,⟨rfl,rfl,trivial⟩,abd a b,rfl,⟨decide_eq_false (by omega),⟨rfl,by omega,by omega⟩,⟨rfl,by omega,by omega,by omega,?_⟩,⟨rfl,rfl,rfl⟩,⟨rfl,rfl,rfl⟩,⟨rfl,rfl,rfl⟩⟩,rfl,rfl,xS (cX _ _) (xX lg) (Ky ha hb hl)⟩
   rw [List.length_replicate,wa]; omega
 .cases e
end
end Go.Proofs.YtmnhhlnbfkfkaaaGreat.K
namespace Go.Dg
open Go Go.Eng
def dfB (a b:List Int):Nat->Int
 | 0=>0
 | n+1=>if a.getD n 0=b.getD n 0 then dfB a b n else IntKind.i64.wrap (a.getD n 0 - b.getD n 0)
def dfI (a b:List Int) (i:Int):Int:=dfB a b (i+1).toNat
theorem EW {a b:List Int} {i:Int} (h:0<=i):dfI a b i=if a.getD i.toNat 0=b.getD i.toNat 0 then dfI a b (i - 1) else IntKind.i64.wrap (a.getD i.toNat 0 - b.getD i.toNat 0):=by
 unfold dfI
 rw [show (i+1).toNat=i.toNat+1 by omega,show (i - 1+1).toNat=i.toNat by omega,dfB]
theorem Kz {a b:List Int}:∀ n,xO a b n=false->dfB a b n=0
 | 0,_=>rfl
 | n+1,h=>by
  simp only [xO] at h
  simp only [dfB]
  split at h
  .rename_i e; rw [if_pos e]; exact Kz n h
  .cases h
def mI (a b:List Int):Int:=if a.length=b.length then dfB a b a.length else IntKind.i64.wrap ((a.length:Int) - b.length)
theorem xY {a b:List Int} (ha:Dig a) (hb:Dig b):∀ n,(dfB a b n<0 ↔ jD a b n=true)/\(0<dfB a b n ↔ jD b a n=true)
 | 0=>by simp [dfB,jD]
 | n+1=>by
  have i:=xY ha hb n
  have a0:=ha.get n
  have b0:=hb.get n
  simp only [dfB,jD]
  by_cases e:a.getD n 0=b.getD n 0
  .rw [if_pos e,if_pos e,if_pos e.symm]; exact i
  .rw [if_neg e,if_neg e,if_neg (fun h=>e h.symm),iw (by omega) (by omega)]
   simp only [decide_eq_true_eq]
   omega
theorem PF {a b:List Int} (ha:Dig a) (hb:Dig b) (ta:Top a) (tb:Top b) (la:a.length<=500000) (lb:b.length<=500000):mI a b<0 ↔ val a<val b:=by
 rw [<- gA ha hb ta tb]
 unfold mI ct
 by_cases e:a.length=b.length
 .rw [if_pos e,if_pos e]; exact (xY ha hb _).1
 .rw [if_neg e,if_neg e,iw (by omega) (by omega)]
  simp only [decide_eq_true_eq]
  omega
theorem PG {a b:List Int} (ha:Dig a) (hb:Dig b) (ta:Top a) (tb:Top b) (la:a.length<=500000) (lb:b.length<=500000):0<mI a b ↔ val b<val a:=by
 rw [<- gA hb ha tb ta]
 unfold mI ct
 by_cases e:a.length=b.length
 .rw [if_pos e,if_pos e.symm,<- e]; exact (xY ha hb _).2
 .rw [if_neg e,if_neg (fun h=>e h.symm),iw (by omega) (by omega)]
  simp only [decide_eq_true_eq]
  omega
end Go.Dg
namespace Go.Proofs.YtmnhhlnbfkfkaaaGreat.K
open Go Go.Eng Go.Dg
noncomputable section
def C4 (d:Bool):Ctx:=cHb [(10,d)]
theorem sx (d:Bool):CtxOk (C4 d):=lK _
noncomputable def r6 (a b:List Int):St:=g6 (C4 false) 300 102 (zB a b) (zG a b)
def A8:AFr:=⟨102,none⟩
def KA:Code:=bG Tryz.prog 102 0
def abf (i:Int):Patch:=⟨(5,.int true .i64 i) :: az 19 22,[],[]⟩
def cmR (r:Int):Patch:=⟨(4,.int true .i64 r) :: (5,.any false) :: az 19 22,[],[]⟩
def A9:Patch:=⟨(5,.any false) :: az 19 22,[],[]⟩
def nU (a b:List Int):SumL Int:=
 {
  S:=abf
  I:=fun i=>-1<=i/\i<a.length
  μ:=fun i=>(i+1).toNat
  F:=fun i=>bif iO a b i then (.ret,cmR (dfI a b i)) else (.exit 0,A9)
  next:=fun i=>IntKind.i64.wrap (i - 1)
  ids:=fun _=>[]
  X:=fun i x=>match x with
   | .ret=>some (cmR (IntKind.i64.wrap (a.getD i.toNat 0 - b.getD i.toNat 0)),[])
   | .exit _=>some (A9,[])
   | _=>none }
def Ba (a b:List Int):Prop:=IntKind.i64.wrap ((↑a.length:Int) - (1:Int))=IntKind.i64.wrap ((↑a.length:Int) - (1:Int))
theorem GG (a b:List Int):fit (r6 a b) (r6 a b) (ac (r6 a b) ((nU a b).S (IntKind.i64.wrap ((a.length:Int) - 1)))) ([])=some (.p (Ba a b)):=by kernel_rfl
def C5 (a b:List Int) (i:Int):Prop:=(decide (i>=(0:Int))=true->(((0:Int)<=i/\i<(↑a.length:Int))/\i.toNat<a.length/\((0:Int)<=i/\i<(↑b.length:Int))/\i.toNat<b.length)/\((a.getD i.toNat (0:Int) != b.getD i.toNat (0:Int))=true->((0:Int)<=i/\i<(↑a.length:Int))/\i.toNat<a.length/\((0:Int)<=i/\i<(↑b.length:Int))/\i.toNat<b.length))/\((!decide (i>=(0:Int)))=true->(nU a b).F i=(Ex.exit (0:Nat),A9))/\((decide (i>=(0:Int))&&!a.getD i.toNat (0:Int) != b.getD i.toNat (0:Int))=true->IntKind.i64.wrap (i - (1:Int))=(nU a b).next i/\(nU a b).I ((nU a b).next i)/\(nU a b).μ ((nU a b).next i)<(nU a b).μ i/\(nU a b).F ((nU a b).next i)=(nU a b).F i)/\((decide (i>=(0:Int))&&a.getD i.toNat (0:Int) != b.getD i.toNat (0:Int))=true->IntKind.i64.wrap (a.getD i.toNat (0:Int) - b.getD i.toNat (0:Int))=IntKind.i64.wrap (a.getD i.toNat (0:Int) - b.getD i.toNat (0:Int))/\(nU a b).F i=(Ex.ret,cmR (IntKind.i64.wrap (a.getD i.toNat (0:Int) - b.getD i.toNat (0:Int)))))
theorem PH (a b:List Int) (i:Int):aW (r6 a b) ((nU a b).way (i)) ((run (C4 false) 300).code A8 KA (ac (r6 a b) ((nU a b).S i)))=some (.p (C5 a b i)):=by kernel_rfl
theorem KB (a b:List Int) (hs:Sm a) (hl:a.length=b.length):CodeOk (C4 false) A8 (.loop KA) (r6 a b) ⟨.tt,[⟨.b (iO a b (a.length - 1)),.ret,ac (r6 a b) (cmR (dfI a b (a.length - 1)))⟩,⟨.b (!iO a b (a.length - 1)),.exit 0,ac (r6 a b) A9⟩]⟩:=by
 have hs:=hs.le
 have e0:IntKind.i64.wrap ((a.length:Int) - 1)=a.length - 1:=iw (by omega) (by omega)
 refine uq (aQ (sx false) 300) (nU a b) (y0:=IntKind.i64.wrap ((a.length:Int) - 1)) (by rw [e0]; exact ⟨by omega,by omega⟩) ⟨_,GG a b,rfl⟩ (by kernel_rfl) (fun i hi=>⟨_,PH a b i,?_⟩) (by rw [e0]; rfl)
 obtain ⟨i0,i1⟩:=(show -1<=i/\i<a.length from hi)
 refine ⟨fun h=>?_,fun h=>?_,fun h=>?_,fun h=>?_⟩
 .have h:=dt.1 h
  have q:((0:Int)<=i/\i<(↑a.length:Int))/\i.toNat<a.length/\((0:Int)<=i/\i<(↑b.length:Int))/\i.toNat<b.length:=by omega
  exact ⟨q,fun _=>q⟩
 .have h:=ndt.1 h
  have:i=-1:=by omega
  subst this; rfl
 .obtain ⟨h0,h⟩:=rE.1 h
  have h:=J3.1 h
  have e:IntKind.i64.wrap (i - 1)=i - 1:=iw (by omega) (by omega)
  refine ⟨rfl,?_,?_,?_⟩
  .show -1<=IntKind.i64.wrap (i - 1)/\IntKind.i64.wrap (i - 1)<a.length
   rw [e]; omega
  .show (IntKind.i64.wrap (i - 1)+1).toNat<(i+1).toNat
   rw [e]; omega
  .show (bif iO a b (IntKind.i64.wrap (i - 1)) then (Ex.ret,cmR (dfI a b (IntKind.i64.wrap (i - 1)))) else (.exit 0,A9))=bif iO a b i then (Ex.ret,cmR (dfI a b i)) else (.exit 0,A9)
   rw [e,pf h0,EW h0,if_pos h,if_pos h]
 .obtain ⟨h0,h⟩:=rE.1 h
  have h:=jE.1 h
  refine ⟨rfl,?_⟩
  show (bif iO a b i then (Ex.ret,cmR (dfI a b i)) else (.exit 0,A9))=_
  rw [pf h0,EW h0,if_neg h,if_neg h]; rfl
noncomputable def Ur (a b:List Int):Ctx:=aw (C4 false) [oU 102 (r6 a b).hp.clock A8 KA (r6 a b) (iO a b (a.length - 1)) .ret (cmR (dfI a b (a.length - 1))) (.exit 0) A9]
theorem PI (a b:List Int) (hs:Sm a) (hl:a.length=b.length):CtxOk (Ur a b):=nG (sx false) (KB a b hs hl) (aq (sx false))
def KC (a b:List Int):Prop:=(((↑a.length:Int) != (↑b.length:Int))=false/\At (A8) (A8) (KA) (KA) (r6 a b) (r6 a b))
def PJ (a b:List Int):AV:=(AV.int true IntKind.i64 (bif !iO a b ((↑a.length:Int) - (1:Int)) then (0:Int) else dfI a b ((↑a.length:Int) - (1:Int))))
def PK (a b:List Int):Hp:=⟨[{ wr:=(0:Nat),body:=ABody.rows IntKind.i64 b },{ wr:=(0:Nat),body:=ABody.rows IntKind.i64 a }],2,15⟩
theorem X8 (a b:List Int):(run (Ur a b) 300).call 102 (zB a b) (zG a b)=some ⟨.p (KC a b),[⟨.tt,PJ a b,PK a b⟩]⟩:=by kernel_rfl
def KD (a b:List Int):Prop:=(((↑a.length:Int) != (↑b.length:Int))=true)
def PL (a b:List Int):AV:=(AV.int true IntKind.i64 (IntKind.i64.wrap ((↑a.length:Int) - (↑b.length:Int))))
def PM (a b:List Int):Hp:=⟨[{ wr:=(0:Nat),body:=ABody.rows IntKind.i64 b },{ wr:=(0:Nat),body:=ABody.rows IntKind.i64 a }],2,14⟩
theorem X9 (a b:List Int):(run (C4 true) 300).call 102 (zB a b) (zG a b)=some ⟨.p (KD a b),[⟨.tt,PL a b,PM a b⟩]⟩:=by kernel_rfl
def cmpV:List Nu->List (List Int)->Option (Prop×To)
 | [],[a,b]=>some (Sm a/\Sm b,.nu .i64 (mI a b))
 | _,_=>none
theorem Us:NOk Tryz.prog (fun _=>none) hG0 102 (au hG0 .i64 [.li,.li] cmpV):=by
 refine bb (fun xs ys p t e h=>?_) ⟨_,Tryz.func102,rfl⟩
 unfold cmpV at e
 split at e
 .rename_i a b
  cases e
  obtain ⟨ha,hb⟩:=h
  by_cases hl:a.length=b.length
  .refine ⟨Ur a b,300,zB a b,_,_,_,_,_,PI a b ha hl,rfl,rfl,⟨rfl,rfl,trivial⟩,X8 a b,rfl,⟨?_,rfl,rfl,rfl⟩,rfl,rfl,?_⟩
   .rw [hl]; exact wf.2 rfl
   .show (bif !iO a b ((a.length:Int) - 1) then 0 else dfI a b ((a.length:Int) - 1))=mI a b
    unfold mI iO dfI
    rw [if_pos hl,show ((a.length:Int) - 1+1).toNat=a.length by omega]
    cases e:xO a b a.length with
    | true=>rfl
    | false=>rw [Kz _ e]; rfl
  .refine ⟨C4 true,300,zB a b,_,_,_,_,_,sx true,rfl,rfl,⟨rfl,rfl,trivial⟩,X9 a b,rfl,?_,rfl,rfl,?_⟩
   .exact jE.2 (by omega)
   .show IntKind.i64.wrap ((a.length:Int) - b.length)=mI a b
    unfold mI
    rw [if_neg hl]
 .cases e
def hUp (x t0:Nat):Nat->Nat->Option AV:=fun c t=>match Nat.beq t t0 with
 | true=>match Nat.ble c x with
  | true=>some (.bool false true)
  | false=>some (.bool false false)
 | false=>none
def cOn (x:Nat):Ctx:=aO cL (hUp x 9)
theorem KE (x:Nat):CtxOk (cOn x):=aj c7 _
def PN (n:Int):Prop:=((n != (0:Int))=true/\(IntKind.i64.wrap (n.tdiv (1000000000:Int)) != (0:Int))=false)
def Ut (n:Int):AV:=(AV.agg [AV.bool true (decide (n<(0:Int))),AV.gslice (0:Nat) (0:Nat) 1 1])
def Uu (n:Int):Hp:=⟨[{ wr:=23,body:=ABody.grown [AV.int true IntKind.i64 (if IntKind.i64.wrap ((0:Int) - n.tmod (1000000000:Int))>n.tmod (1000000000:Int) then IntKind.i64.wrap ((0:Int) - n.tmod (1000000000:Int)) else n.tmod (1000000000:Int))] }],1,32⟩
theorem abg (n:Int):(run (cOn 11) 300).call 99 [.int true .i64 n] hG0=some ⟨.p (PN n),[⟨.tt,Ut n,Uu n⟩]⟩:=by kernel_rfl
def PO (n:Int):Prop:=((n != (0:Int))=true/\(IntKind.i64.wrap (n.tdiv (1000000000:Int)) != (0:Int))=true/\(IntKind.i64.wrap ((IntKind.i64.wrap (n.tdiv (1000000000:Int))).tdiv (1000000000:Int)) != (0:Int))=false)
def Uv (n:Int):AV:=(AV.agg [AV.bool true (decide (n<(0:Int))),AV.gslice (0:Nat) (0:Nat) 2 1])
def Uw (n:Int):Hp:=⟨[{ wr:=42,body:=ABody.grown [AV.int true IntKind.i64 (if IntKind.i64.wrap ((0:Int) - n.tmod (1000000000:Int))>n.tmod (1000000000:Int) then IntKind.i64.wrap ((0:Int) - n.tmod (1000000000:Int)) else n.tmod (1000000000:Int)),AV.int true IntKind.i64 (if IntKind.i64.wrap ((0:Int) - (IntKind.i64.wrap (n.tdiv (1000000000:Int))).tmod (1000000000:Int))>(IntKind.i64.wrap (n.tdiv (1000000000:Int))).tmod (1000000000:Int) then IntKind.i64.wrap ((0:Int) - (IntKind.i64.wrap (n.tdiv (1000000000:Int))).tmod (1000000000:Int)) else (IntKind.i64.wrap (n.tdiv (1000000000:Int))).tmod (1000000000:Int))] }],1,51⟩
theorem abh (n:Int):(run (cOn 30) 300).call 99 [.int true .i64 n] hG0=some ⟨.p (PO n),[⟨.tt,Uv n,Uw n⟩]⟩:=by kernel_rfl
def onV:List Nu->List (List Int)->Option (Prop×To)
 | [.n n],[]=>some (0<n/\n<1000000000000000000,.st [.pb false,.li false (aa n.toNat)])
 | _,_=>none
theorem Ya {n:Int} (h0:0<=n) (h1:n<9000000000000000000):(if IntKind.i64.wrap (0 - n.tmod 1000000000)>n.tmod 1000000000 then IntKind.i64.wrap (0 - n.tmod 1000000000) else n.tmod 1000000000)=n % 1000000000:=by
 have e:n.tmod 1000000000=n % 1000000000:=Int.tmod_eq_emod_of_nonneg h0
 rw [e,iw (by omega) (by omega),if_neg (by omega)]
theorem Yb {n:Int} (h0:0<=n) (h1:n<9000000000000000000):IntKind.i64.wrap (n.tdiv 1000000000)=n / 1000000000:=by
 rw [Int.tdiv_eq_ediv_of_nonneg h0,iw (by omega) (by omega)]
theorem Ux {n:Int} (h0:0<n) (h1:n<1000000000):aa n.toNat=[n % 1000000000]:=by
 rw [dj (by omega),show n.toNat / 1000000000=0 by omega,bQ]
 congr 1
 omega
theorem Uy {n:Int} (h0:1000000000<=n) (h1:n<1000000000000000000):aa n.toNat=[n % 1000000000,n / 1000000000 % 1000000000]:=by
 rw [dj (by omega),dj (by omega),show n.toNat / 1000000000 / 1000000000=0 by omega,bQ]
 congr 1
 .omega
 .congr 1
  omega
theorem Yc:NOk Tryz.prog (fun _=>none) hG0 99 (au hG0 .i64 [.nu (.i .i64)] onV):=by
 refine bb (fun xs ys p t e h=>?_) ⟨_,Tryz.func99,rfl⟩
 unfold onV at e
 split at e
 .rename_i n
  cases e
  obtain ⟨h0,h1⟩:=h
  have q1:=Yb (n:=n) (by omega) (by omega)
  have d1:=Ya (n:=n) (by omega) (by omega)
  by_cases h:n<1000000000
  .refine ⟨cOn 11,300,[.int true .i64 n],_,_,_,_,_,KE 11,rfl,rfl,⟨⟨rfl,rfl⟩,trivial⟩,abg n,rfl,⟨jE.2 (by omega),?_⟩,rfl,rfl,?_⟩
   .rw [q1]; exact wf.2 (by omega)
   .refine ⟨decide_eq_false (by omega),?_⟩
    show [_]=aa n.toNat
    rw [d1,Ux h0 h]
  .have q2:=Yb (n:=n / 1000000000) (by omega) (by omega)
   have d2:=Ya (n:=n / 1000000000) (by omega) (by omega)
   refine ⟨cOn 30,300,[.int true .i64 n],_,_,_,_,_,KE 30,rfl,rfl,⟨⟨rfl,rfl⟩,trivial⟩,abh n,rfl,⟨jE.2 (by omega),?_,?_⟩,rfl,rfl,?_⟩
   .rw [q1]; exact jE.2 (by omega)
   .rw [q1,q2]; exact wf.2 (by omega)
   .refine ⟨decide_eq_false (by omega),?_⟩
    show [_,_]=aa n.toNat
    rw [d1,q1,d2,Uy (by omega) h1]
 .cases e
def tZ:List (FuncId×ew):=
 (118,au hG0 .i64 [.li,.nu (.i .i64)] zpaV) ::
 (98,au hG0 .i64 [.li,.li] Ug) ::
 (104,au hG0 .i64 [.li,.li] Uj) ::
 (105,au hG0 .i64 [.li,.li] Uq) ::
 (102,au hG0 .i64 [.li,.li] cmpV) ::
 (99,au hG0 .i64 [.nu (.i .i64)] onV) :: []
theorem SB:∀ x∈tZ,NOk Tryz.prog (fun _=>none) hG0 x.1 x.2:=by
 intro x hx
 simp only [tZ,List.mem_cons,List.not_mem_nil,or_false] at hx
 rcases hx with rfl|rfl|rfl|rfl|rfl|rfl
 .exact part_ok
 .exact Ko
 .exact Pt
 .exact PE
 .exact Us
 .exact Yc
def cZ:Ctx:=mkN Tryz.prog (fun _=>none) hG0 tZ [] dJ
theorem lM:CtxOk cZ:=fO aP (cq _) SB (fun x h=>by cases h)
def cZb (l:List (Nat×Bool)):Ctx:=aO cZ (hZ (l.map fun x=>(x.1,match x.2 with|true=>.bool false true|false=>.bool false false)))
theorem C6 (l:List (Nat×Bool)):CtxOk (cZb l):=aj lM _
def qw (y:List Int):List AV:=[.lslice 0 y.length,.int false .i64 5]
def Bb:AFr:=⟨101,none⟩
def seA:Code:=bG Tryz.prog 101 0
noncomputable def seS (y:List Int):St:=g6 cZ 300 101 (qw y) (zH y)
end
end Go.Proofs.YtmnhhlnbfkfkaaaGreat.K
namespace Go.Dg
open Go Go.Eng
def PP:Int:=1000000000000000000000000000000000000000000000
def jj (sq:Int):Nat->Int->Int->Int->Int
 | 0,_,_,s=>s
 | n+1,i,t,s=>match decide (t*sq / PP / (i*(i+1))=0) with
  | true=>s
  | false=>jj sq n (i+2) (t*sq / PP / (i*(i+1))) (match decide (i % 4=2) with|true=>s - t*sq / PP / (i*(i+1))|false=>s+t*sq / PP / (i*(i+1)))
def bq (n:Int):Int:=if n<5 then n else 5
def cutL (v:Int):List Int:=List.take ((aa v.toNat).length - bq (aa v.toNat).length:Int).toNat (List.drop (bq (aa v.toNat).length).toNat (aa v.toNat))
theorem uJ:∀ {l:List Int} (k:Nat),Dig l->val (l.drop k)=val l / pw k
 | l,0,_=>by simp [pw]
 | [],k+1,_=>by simp [val]
 | x :: l,k+1,h=>by
  have hh:=bz.1 h
  have p:=pw_pos k
  rw [List.drop_succ_cons,uJ k hh.2,fR,<- Int.ediv_ediv_of_nonneg (by omega)]
  congr 1
  simp only [val]
  omega
theorem SC:pw 5=PP:=by decide
theorem EX {v:Int} (h:0<=v):cutL v=(aa v.toNat).drop (bq (aa v.toNat).length).toNat:=by
 unfold cutL bq
 rw [List.take_of_length_le]
 rw [List.length_drop]
 split <;> omega
theorem pk {v:Int} (h:0<=v):val (cutL v)=v / PP:=by
 have hv:val (aa v.toNat)=v:=by rw [dk]; omega
 have hd:=ax v.toNat
 rw [EX h]
 unfold bq
 split
 .rename_i h5
  rw [show (((aa v.toNat).length:Int)).toNat=(aa v.toNat).length by omega,List.drop_length]
  have h1:=ba hd
  have h2:=bK (show (aa v.toNat).length<=5 by omega)
  rw [SC] at h2
  rw [hv] at h1
  show (0:Int)=v / PP
  rw [Int.ediv_eq_zero_of_lt h (by omega)]
 .rw [show Int.toNat 5=5 from rfl,uJ 5 hd,hv,SC]
theorem KF {l:List Int} (h:Dig l) (n:Nat):Dig (l.take n):=fun x hx=>h x (List.mem_of_mem_take hx)
theorem Bc {l:List Int} (h:Dig l) (n:Nat):Dig (l.drop n):=fun x hx=>h x (List.mem_of_mem_drop hx)
theorem pm (v:Int):Dig (cutL v):=KF (Bc (ax _) _) _
end Go.Dg
namespace Go.Dg
theorem dG:0<PP:=by decide
theorem KG {sq t i:Int} (hs0:0<=sq) (hs:sq<=3*PP) (ht:0<=t) (hi:2<=i):0<=t*sq / PP / (i*(i+1))/\2*(t*sq / PP / (i*(i+1)))<=t:=by
 have p:=dG
 have hii:6<=i*(i+1):=Int.mul_le_mul (a:=2) (b:=3) (c:=i) (d:=i+1) hi (by omega) (by decide) (by omega)
 have h1:t*sq<=t*(3*PP):=Int.mul_le_mul_of_nonneg_left hs ht
 have h2:t*sq / PP<=3*t:=by
  refine Int.ediv_le_of_le_mul p ?_
  rw [show 3*t*PP=t*(3*PP) by rw [Int.mul_comm 3 t,Int.mul_assoc]]
  exact h1
 have h0:0<=t*sq / PP:=Int.ediv_nonneg (Int.mul_nonneg ht hs0) (by omega)
 have h3:0<=t*sq / PP / (i*(i+1)):=Int.ediv_nonneg h0 (by omega)
 have h4:=Int.ediv_mul_le (t*sq / PP) (b:=i*(i+1)) (by omega)
 have h5:=Int.mul_le_mul_of_nonneg_left hii h3
 exact ⟨h3,by omega⟩
theorem Be {sq:Int} {n:Nat} {i t s:Int} (h:t*sq / PP / (i*(i+1))=0):jj sq (n+1) i t s=s:=by
 rw [jj,decide_eq_true h]
theorem qx {sq:Int} {n:Nat} {i t s:Int} (h:t*sq / PP / (i*(i+1))≠0):jj sq (n+1) i t s=jj sq n (i+2) (t*sq / PP / (i*(i+1))) (match decide (i % 4=2) with|true=>s - t*sq / PP / (i*(i+1))|false=>s+t*sq / PP / (i*(i+1))):=by
 rw [jj,decide_eq_false h]
def cz (x:Int):Nat->Int->Int->Int->Int
 | 0,_,_,s=>s
 | n+1,i,t,s=>match decide (t / (x*x) / i=0) with
  | true=>s
  | false=>cz x n (i+2) (t / (x*x)) (match decide (i % 4=1) with|true=>s+t / (x*x) / i|false=>s - t / (x*x) / i)
theorem KH {x:Int} {n:Nat} {i t s:Int} (h:t / (x*x) / i=0):cz x (n+1) i t s=s:=by
 rw [cz,decide_eq_true h]
theorem wj {x:Int} {n:Nat} {i t s:Int} (h:t / (x*x) / i≠0):cz x (n+1) i t s=cz x n (i+2) (t / (x*x)) (match decide (i % 4=1) with|true=>s+t / (x*x) / i|false=>s - t / (x*x) / i):=by
 rw [cz,decide_eq_false h]
end Go.Dg
namespace Go.Proofs.YtmnhhlnbfkfkaaaGreat.K
open Go Go.Eng Go.Dg
noncomputable section
def cSe (e m:Bool):Ctx:=cZb [(33,e),(37,m)]
theorem xZ (e m:Bool):CtxOk (cSe e m):=C6 _
def seP:Option (Int×Int×Int)->Patch
 | none=>⟨(8,.int true .i64 2) :: az 16 28,[],[]⟩
 | some (i,t,s)=>⟨(6,.lslice 3 (aa s.toNat).length) :: (7,.lslice 2 (aa t.toNat).length) :: (8,.int true .i64 i) :: az 16 28,[],[.rows .i64 (aa s.toNat),.rows .i64 (aa t.toNat)]⟩
def seX (s:Int):Patch:=⟨(4,.lslice 2 (aa s.toNat).length) :: (6,.any false) :: (7,.any false) :: (8,.any false) :: az 16 28,[],[.rows .i64 (aa s.toNat)]⟩
def nV (y:List Int):Int:=val y*val y / PP
def seT (y:List Int) (i t:Int):Int:=t*nV y / PP / (i*(i+1))
def seR (y:List Int):Option (Int×Int×Int)->Int
 | none=>jj (nV y) 200 2 (val y) (val y)
 | some (i,t,s)=>jj (nV y) (201 - (i / 2).toNat) i t s
def seU (y:List Int):SumL (Option (Int×Int×Int)):=
 {
  S:=seP
  I:=fun x=>match x with
   | none=>True
   | some (i,t,s)=>0<t/\i % 2=0/\2<i/\i<=400/\2 ^ (i / 2).toNat*t<=4*PP/\0<s/\(i % 4=2->t<=s)/\s<=i*PP
  μ:=fun x=>match x with
   | none=>400
   | some (i,_,_)=>(400 - i).toNat
  F:=fun x=>(.ret,seX (seR y x))
  next:=fun x=>match x with
   | none=>some (4,seT y 2 (val y),val y - seT y 2 (val y))
   | some (i,t,s)=>some (i+2,seT y i t,match decide (i % 4=2) with|true=>s - seT y i t|false=>s+seT y i t)
  ids:=fun x=>match x with
   | none=>[3,4]
   | some _=>[5,6]
  X:=fun x _=>match x with
   | none=>none
   | some (_,_,s)=>some (seX s,[3]) }
def Bf (y:List Int):Prop:=(2:Int)=(2:Int)
theorem KI (y:List Int):fit (seS y) (seS y) (ac (seS y) ((seU y).S none)) ([])=some (.p (Bf y)):=by kernel_rfl
def KJ (y:List Int):Prop:=(((((↑y.length:Int)=(↑y.length:Int)/\((0:Int)<=bq (↑(aa (val y*val y).toNat).length:Int))/\((0:Int)<=(↑(aa (val y*val y).toNat).length:Int) - bq (↑(aa (val y*val y).toNat).length:Int))/\(bq (↑(aa (val y*val y).toNat).length:Int))+((↑(aa (val y*val y).toNat).length:Int) - bq (↑(aa (val y*val y).toNat).length:Int))<=(↑(aa (val y*val y).toNat).length:Int))/\Dig y/\Dig (cutL (val y*val y))/\y.length+(cutL (val y*val y)).length<=(500000:Nat))/\(((0:Int)<=bq (↑(aa (val y*val (cutL (val y*val y))).toNat).length:Int))/\(bq (↑(aa (val y*val (cutL (val y*val y))).toNat).length:Int))<=(↑(aa (val y*val (cutL (val y*val y))).toNat).length:Int)/\(↑(aa (val y*val (cutL (val y*val y))).toNat).length:Int)<=(↑(aa (val y*val (cutL (val y*val y))).toNat).length:Int))/\(((0:Int)<=bq (↑(aa (val y*val (cutL (val y*val y))).toNat).length:Int))/\((0:Int)<=(↑(aa (val y*val (cutL (val y*val y))).toNat).length:Int) - bq (↑(aa (val y*val (cutL (val y*val y))).toNat).length:Int))/\(bq (↑(aa (val y*val (cutL (val y*val y))).toNat).length:Int))+((↑(aa (val y*val (cutL (val y*val y))).toNat).length:Int) - bq (↑(aa (val y*val (cutL (val y*val y))).toNat).length:Int))<=(↑(aa (val y*val (cutL (val y*val y))).toNat).length:Int))/\Dig (cutL (val y*val (cutL (val y*val y))))/\(cutL (val y*val (cutL (val y*val y)))).length<=(500000:Nat)/\(1:Int)<=IntKind.i64.wrap ((2:Int)*IntKind.i64.wrap ((2:Int)+(1:Int)))/\IntKind.i64.wrap ((2:Int)*IntKind.i64.wrap ((2:Int)+(1:Int)))<=(1000000000:Int))/\((↑(aa (val (cutL (val y*val (cutL (val y*val y)))) / IntKind.i64.wrap ((2:Int)*IntKind.i64.wrap ((2:Int)+(1:Int)))).toNat).length:Int)==(0:Int))=false/\(Int.tmod (2:Int) (4:Int)==(2:Int))=true/\((↑y.length:Int)=(↑y.length:Int)/\(↑(aa (val (cutL (val y*val (cutL (val y*val y)))) / IntKind.i64.wrap ((2:Int)*IntKind.i64.wrap ((2:Int)+(1:Int)))).toNat).length:Int)=(↑(aa (val (cutL (val y*val (cutL (val y*val y)))) / IntKind.i64.wrap ((2:Int)*IntKind.i64.wrap ((2:Int)+(1:Int)))).toNat).length:Int))/\Dig y/\Dig (aa (val (cutL (val y*val (cutL (val y*val y)))) / IntKind.i64.wrap ((2:Int)*IntKind.i64.wrap ((2:Int)+(1:Int)))).toNat)/\(0:Nat)<y.length/\y.length<=(500000:Nat)/\(aa (val (cutL (val y*val (cutL (val y*val y)))) / IntKind.i64.wrap ((2:Int)*IntKind.i64.wrap ((2:Int)+(1:Int)))).toNat).length<=y.length/\val (aa (val (cutL (val y*val (cutL (val y*val y)))) / IntKind.i64.wrap ((2:Int)*IntKind.i64.wrap ((2:Int)+(1:Int)))).toNat)<=val y)/\(true=true->(((↑(aa (val y - val (aa (val (cutL (val y*val (cutL (val y*val y)))) / IntKind.i64.wrap ((2:Int)*IntKind.i64.wrap ((2:Int)+(1:Int)))).toNat)).toNat).length:Int)=(↑(aa (val y - seT y (2:Int) (val y)).toNat).length:Int)/\(↑(aa (val (cutL (val y*val (cutL (val y*val y)))) / IntKind.i64.wrap ((2:Int)*IntKind.i64.wrap ((2:Int)+(1:Int)))).toNat).length:Int)=(↑(aa (seT y (2:Int) (val y)).toNat).length:Int)/\IntKind.i64.wrap ((2:Int)+(2:Int))=(4:Int))/\aa (val y - val (aa (val (cutL (val y*val (cutL (val y*val y)))) / IntKind.i64.wrap ((2:Int)*IntKind.i64.wrap ((2:Int)+(1:Int)))).toNat)).toNat=aa (val y - seT y (2:Int) (val y)).toNat/\aa (val (cutL (val y*val (cutL (val y*val y)))) / IntKind.i64.wrap ((2:Int)*IntKind.i64.wrap ((2:Int)+(1:Int)))).toNat=aa (seT y (2:Int) (val y)).toNat)/\(seU y).I ((seU y).next none)/\(seU y).μ ((seU y).next none)<(seU y).μ none/\(seU y).F ((seU y).next none)=(seU y).F none)
theorem Yd (y:List Int):aW (seS y) ((seU y).way (none)) ((run (cSe false true) 300).code Bb seA (ac (seS y) ((seU y).S none)))=some (.p (KJ y)):=by kernel_rfl
def KL (y:List Int) (i t s:Int):Prop:=(((((↑(aa t.toNat).length:Int)=(↑(aa t.toNat).length:Int)/\((0:Int)<=bq (↑(aa (val y*val y).toNat).length:Int))/\((0:Int)<=(↑(aa (val y*val y).toNat).length:Int) - bq (↑(aa (val y*val y).toNat).length:Int))/\(bq (↑(aa (val y*val y).toNat).length:Int))+((↑(aa (val y*val y).toNat).length:Int) - bq (↑(aa (val y*val y).toNat).length:Int))<=(↑(aa (val y*val y).toNat).length:Int))/\Dig (aa t.toNat)/\Dig (cutL (val y*val y))/\(aa t.toNat).length+(cutL (val y*val y)).length<=(500000:Nat))/\(((0:Int)<=bq (↑(aa (val (aa t.toNat)*val (cutL (val y*val y))).toNat).length:Int))/\(bq (↑(aa (val (aa t.toNat)*val (cutL (val y*val y))).toNat).length:Int))<=(↑(aa (val (aa t.toNat)*val (cutL (val y*val y))).toNat).length:Int)/\(↑(aa (val (aa t.toNat)*val (cutL (val y*val y))).toNat).length:Int)<=(↑(aa (val (aa t.toNat)*val (cutL (val y*val y))).toNat).length:Int))/\(((0:Int)<=bq (↑(aa (val (aa t.toNat)*val (cutL (val y*val y))).toNat).length:Int))/\((0:Int)<=(↑(aa (val (aa t.toNat)*val (cutL (val y*val y))).toNat).length:Int) - bq (↑(aa (val (aa t.toNat)*val (cutL (val y*val y))).toNat).length:Int))/\(bq (↑(aa (val (aa t.toNat)*val (cutL (val y*val y))).toNat).length:Int))+((↑(aa (val (aa t.toNat)*val (cutL (val y*val y))).toNat).length:Int) - bq (↑(aa (val (aa t.toNat)*val (cutL (val y*val y))).toNat).length:Int))<=(↑(aa (val (aa t.toNat)*val (cutL (val y*val y))).toNat).length:Int))/\Dig (cutL (val (aa t.toNat)*val (cutL (val y*val y))))/\(cutL (val (aa t.toNat)*val (cutL (val y*val y)))).length<=(500000:Nat)/\(1:Int)<=IntKind.i64.wrap (i*IntKind.i64.wrap (i+(1:Int)))/\IntKind.i64.wrap (i*IntKind.i64.wrap (i+(1:Int)))<=(1000000000:Int))/\((↑(aa (val (cutL (val (aa t.toNat)*val (cutL (val y*val y)))) / IntKind.i64.wrap (i*IntKind.i64.wrap (i+(1:Int)))).toNat).length:Int)==(0:Int))=false/\(i.tmod (4:Int)==(2:Int))=true/\((↑(aa s.toNat).length:Int)=(↑(aa s.toNat).length:Int)/\(↑(aa (val (cutL (val (aa t.toNat)*val (cutL (val y*val y)))) / IntKind.i64.wrap (i*IntKind.i64.wrap (i+(1:Int)))).toNat).length:Int)=(↑(aa (val (cutL (val (aa t.toNat)*val (cutL (val y*val y)))) / IntKind.i64.wrap (i*IntKind.i64.wrap (i+(1:Int)))).toNat).length:Int))/\Dig (aa s.toNat)/\Dig (aa (val (cutL (val (aa t.toNat)*val (cutL (val y*val y)))) / IntKind.i64.wrap (i*IntKind.i64.wrap (i+(1:Int)))).toNat)/\(0:Nat)<(aa s.toNat).length/\(aa s.toNat).length<=(500000:Nat)/\(aa (val (cutL (val (aa t.toNat)*val (cutL (val y*val y)))) / IntKind.i64.wrap (i*IntKind.i64.wrap (i+(1:Int)))).toNat).length<=(aa s.toNat).length/\val (aa (val (cutL (val (aa t.toNat)*val (cutL (val y*val y)))) / IntKind.i64.wrap (i*IntKind.i64.wrap (i+(1:Int)))).toNat)<=val (aa s.toNat))/\(true=true->(((↑(aa (val (aa s.toNat) - val (aa (val (cutL (val (aa t.toNat)*val (cutL (val y*val y)))) / IntKind.i64.wrap (i*IntKind.i64.wrap (i+(1:Int)))).toNat)).toNat).length:Int)=(↑(aa (match decide (i % (4:Int)=(2:Int)) with|true=>s - seT y i t|false=>s+seT y i t).toNat).length:Int)/\(↑(aa (val (cutL (val (aa t.toNat)*val (cutL (val y*val y)))) / IntKind.i64.wrap (i*IntKind.i64.wrap (i+(1:Int)))).toNat).length:Int)=(↑(aa (seT y i t).toNat).length:Int)/\IntKind.i64.wrap (i+(2:Int))=i+(2:Int))/\aa (val (aa s.toNat) - val (aa (val (cutL (val (aa t.toNat)*val (cutL (val y*val y)))) / IntKind.i64.wrap (i*IntKind.i64.wrap (i+(1:Int)))).toNat)).toNat=aa (match decide (i % (4:Int)=(2:Int)) with|true=>s - seT y i t|false=>s+seT y i t).toNat/\aa (val (cutL (val (aa t.toNat)*val (cutL (val y*val y)))) / IntKind.i64.wrap (i*IntKind.i64.wrap (i+(1:Int)))).toNat=aa (seT y i t).toNat)/\(seU y).I ((seU y).next (some (i,t,s)))/\(seU y).μ ((seU y).next (some (i,t,s)))<(seU y).μ (some (i,t,s))/\(seU y).F ((seU y).next (some (i,t,s)))=(seU y).F (some (i,t,s)))
theorem Ye (y:List Int) (i t s:Int):aW (seS y) ((seU y).way ((some (i,t,s)))) ((run (cSe false true) 300).code Bb seA (ac (seS y) ((seU y).S (some (i,t,s)))))=some (.p (KL y i t s)):=by kernel_rfl
def KM (y:List Int) (i t s:Int):Prop:=(((((↑(aa t.toNat).length:Int)=(↑(aa t.toNat).length:Int)/\((0:Int)<=bq (↑(aa (val y*val y).toNat).length:Int))/\((0:Int)<=(↑(aa (val y*val y).toNat).length:Int) - bq (↑(aa (val y*val y).toNat).length:Int))/\(bq (↑(aa (val y*val y).toNat).length:Int))+((↑(aa (val y*val y).toNat).length:Int) - bq (↑(aa (val y*val y).toNat).length:Int))<=(↑(aa (val y*val y).toNat).length:Int))/\Dig (aa t.toNat)/\Dig (cutL (val y*val y))/\(aa t.toNat).length+(cutL (val y*val y)).length<=(500000:Nat))/\(((0:Int)<=bq (↑(aa (val (aa t.toNat)*val (cutL (val y*val y))).toNat).length:Int))/\(bq (↑(aa (val (aa t.toNat)*val (cutL (val y*val y))).toNat).length:Int))<=(↑(aa (val (aa t.toNat)*val (cutL (val y*val y))).toNat).length:Int)/\(↑(aa (val (aa t.toNat)*val (cutL (val y*val y))).toNat).length:Int)<=(↑(aa (val (aa t.toNat)*val (cutL (val y*val y))).toNat).length:Int))/\(((0:Int)<=bq (↑(aa (val (aa t.toNat)*val (cutL (val y*val y))).toNat).length:Int))/\((0:Int)<=(↑(aa (val (aa t.toNat)*val (cutL (val y*val y))).toNat).length:Int) - bq (↑(aa (val (aa t.toNat)*val (cutL (val y*val y))).toNat).length:Int))/\(bq (↑(aa (val (aa t.toNat)*val (cutL (val y*val y))).toNat).length:Int))+((↑(aa (val (aa t.toNat)*val (cutL (val y*val y))).toNat).length:Int) - bq (↑(aa (val (aa t.toNat)*val (cutL (val y*val y))).toNat).length:Int))<=(↑(aa (val (aa t.toNat)*val (cutL (val y*val y))).toNat).length:Int))/\Dig (cutL (val (aa t.toNat)*val (cutL (val y*val y))))/\(cutL (val (aa t.toNat)*val (cutL (val y*val y)))).length<=(500000:Nat)/\(1:Int)<=IntKind.i64.wrap (i*IntKind.i64.wrap (i+(1:Int)))/\IntKind.i64.wrap (i*IntKind.i64.wrap (i+(1:Int)))<=(1000000000:Int))/\((↑(aa (val (cutL (val (aa t.toNat)*val (cutL (val y*val y)))) / IntKind.i64.wrap (i*IntKind.i64.wrap (i+(1:Int)))).toNat).length:Int)==(0:Int))=false/\(i.tmod (4:Int)==(2:Int))=false/\((↑(aa s.toNat).length:Int)=(↑(aa s.toNat).length:Int)/\(↑(aa (val (cutL (val (aa t.toNat)*val (cutL (val y*val y)))) / IntKind.i64.wrap (i*IntKind.i64.wrap (i+(1:Int)))).toNat).length:Int)=(↑(aa (val (cutL (val (aa t.toNat)*val (cutL (val y*val y)))) / IntKind.i64.wrap (i*IntKind.i64.wrap (i+(1:Int)))).toNat).length:Int))/\Dig (aa s.toNat)/\Dig (aa (val (cutL (val (aa t.toNat)*val (cutL (val y*val y)))) / IntKind.i64.wrap (i*IntKind.i64.wrap (i+(1:Int)))).toNat)/\((0:Nat)<(aa s.toNat).length\/(0:Nat)<(aa (val (cutL (val (aa t.toNat)*val (cutL (val y*val y)))) / IntKind.i64.wrap (i*IntKind.i64.wrap (i+(1:Int)))).toNat).length)/\(aa s.toNat).length<=(400000:Nat)/\(aa (val (cutL (val (aa t.toNat)*val (cutL (val y*val y)))) / IntKind.i64.wrap (i*IntKind.i64.wrap (i+(1:Int)))).toNat).length<=(400000:Nat))/\(true=true->(((↑(aa (val (aa s.toNat)+val (aa (val (cutL (val (aa t.toNat)*val (cutL (val y*val y)))) / IntKind.i64.wrap (i*IntKind.i64.wrap (i+(1:Int)))).toNat)).toNat).length:Int)=(↑(aa (match decide (i % (4:Int)=(2:Int)) with|true=>s - seT y i t|false=>s+seT y i t).toNat).length:Int)/\(↑(aa (val (cutL (val (aa t.toNat)*val (cutL (val y*val y)))) / IntKind.i64.wrap (i*IntKind.i64.wrap (i+(1:Int)))).toNat).length:Int)=(↑(aa (seT y i t).toNat).length:Int)/\IntKind.i64.wrap (i+(2:Int))=i+(2:Int))/\aa (val (aa s.toNat)+val (aa (val (cutL (val (aa t.toNat)*val (cutL (val y*val y)))) / IntKind.i64.wrap (i*IntKind.i64.wrap (i+(1:Int)))).toNat)).toNat=aa (match decide (i % (4:Int)=(2:Int)) with|true=>s - seT y i t|false=>s+seT y i t).toNat/\aa (val (cutL (val (aa t.toNat)*val (cutL (val y*val y)))) / IntKind.i64.wrap (i*IntKind.i64.wrap (i+(1:Int)))).toNat=aa (seT y i t).toNat)/\(seU y).I ((seU y).next (some (i,t,s)))/\(seU y).μ ((seU y).next (some (i,t,s)))<(seU y).μ (some (i,t,s))/\(seU y).F ((seU y).next (some (i,t,s)))=(seU y).F (some (i,t,s)))
theorem Yf (y:List Int) (i t s:Int):aW (seS y) ((seU y).way ((some (i,t,s)))) ((run (cSe false false) 300).code Bb seA (ac (seS y) ((seU y).S (some (i,t,s)))))=some (.p (KM y i t s)):=by kernel_rfl
def PQ (y:List Int) (i t s:Int):Prop:=(((((↑(aa t.toNat).length:Int)=(↑(aa t.toNat).length:Int)/\((0:Int)<=bq (↑(aa (val y*val y).toNat).length:Int))/\((0:Int)<=(↑(aa (val y*val y).toNat).length:Int) - bq (↑(aa (val y*val y).toNat).length:Int))/\(bq (↑(aa (val y*val y).toNat).length:Int))+((↑(aa (val y*val y).toNat).length:Int) - bq (↑(aa (val y*val y).toNat).length:Int))<=(↑(aa (val y*val y).toNat).length:Int))/\Dig (aa t.toNat)/\Dig (cutL (val y*val y))/\(aa t.toNat).length+(cutL (val y*val y)).length<=(500000:Nat))/\(((0:Int)<=bq (↑(aa (val (aa t.toNat)*val (cutL (val y*val y))).toNat).length:Int))/\(bq (↑(aa (val (aa t.toNat)*val (cutL (val y*val y))).toNat).length:Int))<=(↑(aa (val (aa t.toNat)*val (cutL (val y*val y))).toNat).length:Int)/\(↑(aa (val (aa t.toNat)*val (cutL (val y*val y))).toNat).length:Int)<=(↑(aa (val (aa t.toNat)*val (cutL (val y*val y))).toNat).length:Int))/\(((0:Int)<=bq (↑(aa (val (aa t.toNat)*val (cutL (val y*val y))).toNat).length:Int))/\((0:Int)<=(↑(aa (val (aa t.toNat)*val (cutL (val y*val y))).toNat).length:Int) - bq (↑(aa (val (aa t.toNat)*val (cutL (val y*val y))).toNat).length:Int))/\(bq (↑(aa (val (aa t.toNat)*val (cutL (val y*val y))).toNat).length:Int))+((↑(aa (val (aa t.toNat)*val (cutL (val y*val y))).toNat).length:Int) - bq (↑(aa (val (aa t.toNat)*val (cutL (val y*val y))).toNat).length:Int))<=(↑(aa (val (aa t.toNat)*val (cutL (val y*val y))).toNat).length:Int))/\Dig (cutL (val (aa t.toNat)*val (cutL (val y*val y))))/\(cutL (val (aa t.toNat)*val (cutL (val y*val y)))).length<=(500000:Nat)/\(1:Int)<=IntKind.i64.wrap (i*IntKind.i64.wrap (i+(1:Int)))/\IntKind.i64.wrap (i*IntKind.i64.wrap (i+(1:Int)))<=(1000000000:Int))/\((↑(aa (val (cutL (val (aa t.toNat)*val (cutL (val y*val y)))) / IntKind.i64.wrap (i*IntKind.i64.wrap (i+(1:Int)))).toNat).length:Int)==(0:Int))=true)/\(true=true->((↑(aa s.toNat).length:Int)=(↑(aa s.toNat).length:Int)/\aa s.toNat=aa s.toNat)/\(seU y).F (some (i,t,s))=(Ex.ret,seX s))
theorem abi (y:List Int) (i t s:Int):aW (seS y) ((seU y).way ((some (i,t,s)))) ((run (cSe true false) 300).code Bb seA (ac (seS y) ((seU y).S (some (i,t,s)))))=some (.p (PQ y i t s)):=by kernel_rfl
structure SeD (y:List Int):Prop where
 d:Dig y
 l:y.length<=100
 hi:val y<=1700000000000000000000000000000000000000000000
 lo:0<seT y 2 (val y)
theorem SeD.sq {y:List Int} (h:SeD y):0<=nV y/\nV y<=3*PP:=by
 have v0:=af h.d
 have v1:=h.hi
 have p:=dG
 refine ⟨Int.ediv_nonneg (Int.mul_nonneg v0 v0) (by omega),Int.ediv_le_of_le_mul p ?_⟩
 have:=Int.mul_le_mul (a:=val y) (b:=val y) (c:=1700000000000000000000000000000000000000000000) (d:=1700000000000000000000000000000000000000000000) v1 v1 v0 (by decide)
 have e:(1700000000000000000000000000000000000000000000:Int)*1700000000000000000000000000000000000000000000<=3*PP*PP:=by decide
 omega
theorem SD {i:Int} (h0:2<=i) (h1:i<=400):IntKind.i64.wrap (i*IntKind.i64.wrap (i+1))=i*(i+1):=by
 have e:i*(i+1)<=400*401:=Int.mul_le_mul (a:=i) (b:=i+1) (c:=400) (d:=401) h1 (by omega) (by omega) (by decide)
 have e2:2*3<=i*(i+1):=Int.mul_le_mul (a:=2) (b:=3) (c:=i) (d:=i+1) h0 (by omega) (by decide) (by omega)
 rw [show IntKind.i64.wrap (i+1)=i+1 from iw (by omega) (by omega),iw (by omega) (by omega)]
theorem SeD.q {y:List Int} (h:SeD y) {v i:Int} (hv:0<=v) (h0:2<=i) (h1:i<=400):val (cutL (v*val (cutL (val y*val y)))) / IntKind.i64.wrap (i*IntKind.i64.wrap (i+1))=seT y i v:=by
 have v0:=af h.d
 have h2:=h.sq
 rw [SD h0 h1,pk (Int.mul_nonneg v0 v0),pk (v:=v*(val y*val y / PP)) (Int.mul_nonneg hv h2.1)]
 rfl
theorem qy {n:Int} (h:0<=n):0<=bq n/\bq n<=n:=by unfold bq; split <;> omega
theorem uK (v:Int):(cutL v).length<=(aa v.toNat).length:=by
 unfold cutL
 rw [List.length_take,List.length_drop]
 omega
theorem gG {v:Int} {n:Nat} (h0:0<=v) (h:v<pw n):(aa v.toNat).length<=n:=dW (by omega)
theorem len_mul {a b:Int} (a0:0<=a) (a1:a<=4*PP) (b0:0<=b) (b1:b<=4*PP):(aa (a*b).toNat).length<=11:=by
 have p:=dG
 have h:=Int.mul_le_mul a1 b1 b0 (by omega)
 have e:4*PP*(4*PP)<pw 11:=by decide
 exact gG (Int.mul_nonneg a0 b0) (by omega)
theorem g8 {a:Int} (a0:0<=a) (a1:a<=400*PP):(aa a.toNat).length<=6:=by
 have e:400*PP<pw 6:=by decide
 exact gG a0 (by omega)
theorem dv {a:Int} (a0:0<=a):val (aa a.toNat)=a:=by rw [dk]; omega
theorem Bg {a:Int} (a0:0<a):0<(aa a.toNat).length:=ku (by omega)
theorem Uz {a b:Int} (a0:0<=a) (h:a<=b):(aa a.toNat).length<=(aa b.toNat).length:=by
 refine gG a0 ?_
 have:=ba (ax b.toNat)
 rw [dv (by omega)] at this
 omega
theorem x7 {n:Nat} {t:Int} (h0:0<t) (h:2 ^ n*t<=4*PP):n<=151:=by
 refine Nat.le_of_not_lt fun hn=>?_
 have h1:(2:Int) ^ 152<=2 ^ n:=by
  have:=Nat.pow_le_pow_right (n:=2) (by decide) (show 152<=n by omega)
  have e1:((2 ^ 152:Nat):Int)<=((2 ^ n:Nat):Int):=by exact_mod_cast this
  simpa using e1
 have h2:(2:Int) ^ n*1<=2 ^ n*t:=Int.mul_le_mul_of_nonneg_left (by omega) (by omega)
 have e:4*PP<(2:Int) ^ 152:=by decide
 omega
theorem x8 {y:List Int} (h:SeD y) {i t:Int} (ht:0<=t) (hi:2<=i):0<=seT y i t/\2*seT y i t<=t:=KG h.sq.1 h.sq.2 ht hi
theorem KN {y:List Int} (h:SeD y):seR y (some (4,seT y 2 (val y),val y - seT y 2 (val y)))=seR y none:=by
 show jj (nV y) 199 4 _ _=jj (nV y) (199+1) 2 (val y) (val y)
 rw [qx (show val y*nV y / PP / (2*(2+1))≠0 from by have:=h.lo; unfold seT at this; omega)]
 rfl
theorem PR {y:List Int} {i t s:Int} (hi:(i / 2).toNat<=200) (h:seT y i t=0):seR y (some (i,t,s))=s:=by
 show jj (nV y) (201 - (i / 2).toNat) i t s=s
 rw [show 201 - (i / 2).toNat=(200 - (i / 2).toNat)+1 by omega,Be h]
theorem KO {y:List Int} {i t s:Int} (h0:0<=i) (hi:(i / 2).toNat<=200) (h:seT y i t≠0):seR y ((seU y).next (some (i,t,s)))=seR y (some (i,t,s)):=by
 show jj (nV y) (201 - ((i+2) / 2).toNat) (i+2) (seT y i t) _=jj (nV y) (201 - (i / 2).toNat) i t s
 rw [show 201 - (i / 2).toNat=(200 - (i / 2).toNat)+1 by omega,qx h,show 201 - ((i+2) / 2).toNat=200 - (i / 2).toNat by omega]
 rfl
theorem KP {y:List Int} (h:SeD y) {i t s:Int} (hI:(seU y).I (some (i,t,s))) (h0:seT y i t≠0):(seU y).I ((seU y).next (some (i,t,s))):=by
 obtain ⟨t0,i0,i1,i2,pw,s0,ts,sb⟩:=(show 0<t/\i % 2=0/\2<i/\i<=400/\2 ^ (i / 2).toNat*t<=4*PP/\0<s/\(i % 4=2->t<=s)/\s<=i*PP from hI)
 obtain ⟨b0,b1⟩:=x8 h (i:=i) (t:=t) (by omega) (by omega)
 have k:=x7 t0 pw
 have hp:(2:Int) ^ ((i+2) / 2).toNat*seT y i t<=4*PP:=by
  rw [show ((i+2) / 2).toNat=(i / 2).toNat+1 by omega,Int.pow_succ,Int.mul_assoc]
  have:(2:Int) ^ (i / 2).toNat*(2*seT y i t)<=2 ^ (i / 2).toNat*t:=Int.mul_le_mul_of_nonneg_left b1 (Int.pow_nonneg (by decide))
  omega
 have ht:t<=PP:=by
  have h4:(4:Int)*t<=2 ^ (i / 2).toNat*t:=by
   refine Int.mul_le_mul_of_nonneg_right ?_ (by omega)
   have:=Nat.pow_le_pow_right (n:=2) (by decide) (show 2<=(i / 2).toNat by omega)
   have e1:((2 ^ 2:Nat):Int)<=((2 ^ (i / 2).toNat:Nat):Int):=by exact_mod_cast this
   simpa using e1
  omega
 have e2:(i+2)*PP=i*PP+2*PP:=Int.add_mul _ _ _
 have p:=dG
 show 0<seT y i t/\(i+2) % 2=0/\2<i+2/\i+2<=400/\2 ^ ((i+2) / 2).toNat*seT y i t<=4*PP/\0<(match decide (i % 4=2) with|true=>s - seT y i t|false=>s+seT y i t)/\((i+2) % 4=2->seT y i t<=(match decide (i % 4=2) with|true=>s - seT y i t|false=>s+seT y i t))/\(match decide (i % 4=2) with|true=>s - seT y i t|false=>s+seT y i t)<=(i+2)*PP
 by_cases hm:i % 4=2
 .have:=ts hm
  rw [show (match decide (i % 4=2) with|true=>s - seT y i t|false=>s+seT y i t)=s - seT y i t by rw [decide_eq_true hm]]
  refine ⟨by omega,by omega,by omega,by omega,hp,by omega,by omega,by omega⟩
 .rw [show (match decide (i % 4=2) with|true=>s - seT y i t|false=>s+seT y i t)=s+seT y i t by rw [decide_eq_false hm]]
  refine ⟨by omega,by omega,by omega,by omega,hp,by omega,by omega,by omega⟩
theorem GH {y:List Int} (h:SeD y):(seU y).I ((seU y).next none):=by
 have v0:=af h.d
 have v1:=h.hi
 have l0:=h.lo
 obtain ⟨b0,b1⟩:=x8 h (i:=2) (t:=val y) v0 (by omega)
 have e:(1700000000000000000000000000000000000000000000:Int)<=2*PP:=by decide
 show 0<seT y 2 (val y)/\(4:Int) % 2=0/\(2:Int)<4/\(4:Int)<=400/\(2:Int) ^ (2:Nat)*seT y 2 (val y)<=4*PP/\0<val y - seT y 2 (val y)/\((4:Int) % 4=2->seT y 2 (val y)<=val y - seT y 2 (val y))/\val y - seT y 2 (val y)<=4*PP
 have p:=dG
 refine ⟨l0,by decide,by decide,by decide,?_,by omega,by omega,by omega⟩
 rw [show (2:Int) ^ (2:Nat)=4 from rfl]; omega
theorem PS {y:List Int} (h:SeD y):CodeOk cZ Bb (.loop seA) (seS y) ⟨.tt,[⟨.tt,.ret,ac (seS y) (seX (seR y none))⟩]⟩:=by
 refine cB (seU y) (y0:=none) trivial ⟨_,KI y,rfl⟩ (by kernel_rfl) (fun x hx=>?_) rfl
 have v0:=af h.d
 have v1:=h.hi
 have yl:=h.l
 have l0:=h.lo
 have p:=dG
 have e17:(1700000000000000000000000000000000000000000000:Int)<=2*PP:=by decide
 obtain ⟨q0,q1⟩:=h.sq
 have hsq:val (cutL (val y*val y))=nV y:=by rw [pk (Int.mul_nonneg v0 v0)]; rfl
 have m1:=len_mul v0 (by omega) v0 (by omega:val y<=4*PP)
 have k1:=uK (val y*val y)
 have c1:=qy (n:=((aa (val y*val y).toNat).length:Int)) (by omega)
 have d1:=pm (val y*val y)
 cases x with
 | none=>
  have Q:=h.q (v:=val y) v0 (i:=2) (by omega) (by omega)
  have c2:=qy (n:=((aa (val y*val (cutL (val y*val y))).toNat).length:Int)) (by omega)
  have d2:=pm (val y*val (cutL (val y*val y)))
  have m2:=len_mul v0 (by omega:val y<=4*PP) q0 (by omega)
  rw [<- hsq] at m2
  have k2:=uK (val y*val (cutL (val y*val y)))
  obtain ⟨b0,b1⟩:=x8 h (i:=2) (t:=val y) v0 (by omega)
  have dq:=ax (seT y 2 (val y)).toNat
  have lq:=Bg l0
  have vq:=dv b0
  have yp:0<y.length:=by
   rcases Nat.eq_zero_or_pos y.length with e|e
   .rw [List.length_eq_zero_iff.1 e] at b1 l0
    have:val []=0:=rfl
    omega
   .exact e
  have ql:(aa (seT y 2 (val y)).toNat).length<=y.length:=gG b0 (by have:=ba h.d; omega)
  have nx:=GH h
  have w6:IntKind.i64.wrap (2*IntKind.i64.wrap (2+1))=6:=by decide
  refine ⟨cSe false true,300,xZ _ _,rfl,rfl,_,Yd y,?_,fun _=>?_⟩
  .rw [Q,w6,vq]
   refine ⟨⟨⟨⟨rfl,by omega,by omega,by omega⟩,h.d,d1,by omega⟩,⟨by omega,by omega,by omega⟩,⟨by omega,by omega,by omega⟩,d2,by omega,by omega,by omega⟩,beq_eq_false_iff_ne.2 (by omega),rfl,⟨rfl,rfl⟩,h.d,dq,yp,by omega,ql,by omega⟩
  .rw [Q,vq]
   refine ⟨⟨⟨rfl,rfl,by decide⟩,rfl,rfl⟩,nx,by show (400 - 4:Int).toNat<400; omega,?_⟩
   exact congrArg (fun z=>(Ex.ret,seX z)) (KN h)
 | some x=>
  obtain ⟨i,t,s⟩:=x
  have hI:=hx
  obtain ⟨t0,i0,i1,i2,pw2,s0,ts,sb⟩:=(show 0<t/\i % 2=0/\2<i/\i<=400/\2 ^ (i / 2).toNat*t<=4*PP/\0<s/\(i % 4=2->t<=s)/\s<=i*PP from hx)
  have k:=x7 t0 pw2
  have ht:t<=4*PP:=by
   have h4:(1:Int)*t<=2 ^ (i / 2).toNat*t:=by
    refine Int.mul_le_mul_of_nonneg_right ?_ (by omega)
    have:=Nat.one_le_two_pow (n:=(i / 2).toNat)
    have e1:((1:Nat):Int)<=((2 ^ (i / 2).toNat:Nat):Int):=by exact_mod_cast this
    simpa using e1
   omega
  have hs:s<=400*PP:=by
   have:i*PP<=400*PP:=Int.mul_le_mul_of_nonneg_right i2 (by omega)
   omega
  have vt:=dv (a:=t) (by omega)
  have vs:=dv (a:=s) (by omega)
  have dt:=ax t.toNat
  have ds:=ax s.toNat
  have lt:=g8 (a:=t) (by omega) (by omega)
  have ls:=g8 (a:=s) (by omega) hs
  have ls0:=Bg s0
  have Q:=h.q (v:=t) (by omega) (i:=i) (by omega) i2
  have c2:=qy (n:=((aa (t*val (cutL (val y*val y))).toNat).length:Int)) (by omega)
  have d2:=pm (t*val (cutL (val y*val y)))
  have m2:=len_mul (a:=t) (by omega) ht q0 (by omega)
  rw [<- hsq] at m2
  have k2:=uK (t*val (cutL (val y*val y)))
  obtain ⟨b0,b1⟩:=x8 h (i:=i) (t:=t) (by omega) (by omega)
  have dq:=ax (seT y i t).toNat
  have vq:=dv b0
  have w6:=SD (i:=i) (by omega) i2
  have w7:1<=i*(i+1):=by have:=Int.mul_le_mul (a:=2) (b:=3) (c:=i) (d:=i+1) (by omega) (by omega) (by decide) (by omega); omega
  have w8:i*(i+1)<=400*401:=Int.mul_le_mul (a:=i) (b:=i+1) (c:=400) (d:=401) i2 (by omega) (by omega) (by decide)
  have w9:IntKind.i64.wrap (i+2)=i+2:=iw (by omega) (by omega)
  by_cases h0:seT y i t=0
  .refine ⟨cSe true false,300,xZ _ _,rfl,rfl,_,abi y i t s,?_,fun _=>⟨⟨rfl,rfl⟩,?_⟩⟩
   .rw [vt,Q,w6,h0]
    exact ⟨⟨⟨⟨rfl,by omega,by omega,by omega⟩,dt,d1,by omega⟩,⟨by omega,by omega,by omega⟩,⟨by omega,by omega,by omega⟩,d2,by omega,by omega,by omega⟩,by rw [show aa (0:Int).toNat=[] from bQ]; rfl⟩
   .show (Ex.ret,seX _)=(Ex.ret,seX _)
    rw [PR (by omega) h0]
  .have lq:=Bg (a:=seT y i t) (by omega)
   have nx:=KP h hI h0
   have nr:=KO (y:=y) (i:=i) (t:=t) (s:=s) (by omega) (by omega) h0
   have mu:(400 - (i+2)).toNat<(400 - i).toNat:=by
    have:i<=304:=by omega
    omega
   by_cases hm:i % 4=2
   .have hts:=ts hm
    have ql:=Uz b0 (show seT y i t<=s by omega)
    have e4:(match decide (i % 4=2) with|true=>s - seT y i t|false=>s+seT y i t)=s - seT y i t:=by rw [decide_eq_true hm]
    refine ⟨cSe false true,300,xZ _ _,rfl,rfl,_,Ye y i t s,?_,fun _=>?_⟩
    .rw [vt,Q,w6,vq,vs]
     refine ⟨⟨⟨⟨rfl,by omega,by omega,by omega⟩,dt,d1,by omega⟩,⟨by omega,by omega,by omega⟩,⟨by omega,by omega,by omega⟩,d2,by omega,by omega,by omega⟩,beq_eq_false_iff_ne.2 (by omega),?_,⟨rfl,rfl⟩,ds,dq,ls0,by omega,ql,by omega⟩
     rw [Int.tmod_eq_emod_of_nonneg (by omega),hm]; rfl
    .rw [vt,Q,vq,vs]
     exact ⟨⟨⟨congrArg (fun z:Int=>((aa z.toNat).length:Int)) e4.symm,rfl,w9⟩,congrArg (fun z:Int=>aa z.toNat) e4.symm,rfl⟩,nx,mu,congrArg (fun z=>(Ex.ret,seX z)) nr⟩
   .have hmm:i % 4=0:=by omega
    have ql:=g8 (a:=seT y i t) b0 (by omega)
    have e4:(match decide (i % 4=2) with|true=>s - seT y i t|false=>s+seT y i t)=s+seT y i t:=by rw [decide_eq_false hm]
    refine ⟨cSe false false,300,xZ _ _,rfl,rfl,_,Yf y i t s,?_,fun _=>?_⟩
    .rw [vt,Q,w6]
     refine ⟨⟨⟨⟨rfl,by omega,by omega,by omega⟩,dt,d1,by omega⟩,⟨by omega,by omega,by omega⟩,⟨by omega,by omega,by omega⟩,d2,by omega,by omega,by omega⟩,beq_eq_false_iff_ne.2 (by omega),?_,⟨rfl,rfl⟩,ds,dq,.inl ls0,by omega,by omega⟩
     rw [Int.tmod_eq_emod_of_nonneg (by omega),hmm]; rfl
    .rw [vt,Q,vq,vs]
     exact ⟨⟨⟨congrArg (fun z:Int=>((aa z.toNat).length:Int)) e4.symm,rfl,w9⟩,congrArg (fun z:Int=>aa z.toNat) e4.symm,rfl⟩,nx,mu,congrArg (fun z=>(Ex.ret,seX z)) nr⟩
noncomputable def UA (y:List Int):Ctx:=aw cZ [aR 101 (seS y).hp.clock Bb seA (seS y) .ret (seX (seR y none))]
theorem PT {y:List Int} (h:SeD y):CtxOk (UA y):=ak lM (PS h) (aq lM)
def PU (y:List Int):Prop:=(((((↑y.length:Int)=(↑y.length:Int)/\(↑y.length:Int)=(↑y.length:Int))/\Dig y/\Dig y/\y.length+y.length<=(500000:Nat))/\((0:Int)<=bq (↑(aa (val y*val y).toNat).length:Int))/\(bq (↑(aa (val y*val y).toNat).length:Int))<=(↑(aa (val y*val y).toNat).length:Int)/\(↑(aa (val y*val y).toNat).length:Int)<=(↑(aa (val y*val y).toNat).length:Int))/\At (Bb) (Bb) (seA) (seA) (seS y) (seS y))
def UB (y:List Int):AV:=(AV.lslice 1 (↑(aa (seR y none).toNat).length:Int))
def UC (y:List Int):Hp:=⟨[{ wr:=24,body:=ABody.rows IntKind.i64 (aa (seR y none).toNat) },{ wr:=(0:Nat),body:=ABody.rows IntKind.i64 y }],2,25⟩
theorem abj (y:List Int):(run (UA y) 300).call 101 (qw y) (zH y)=some ⟨.p (PU y),[⟨.tt,UB y,UC y⟩]⟩:=by kernel_rfl
def UD:List Nu->List (List Int)->Option (Prop×To)
 | [.n k],[y]=>some (k=5/\SeD y,.li false (aa (seR y none).toNat))
 | _,_=>none
theorem GI:NOk Tryz.prog (fun _=>none) hG0 101 (au hG0 .i64 [.li,.nu (.i .i64)] UD):=by
 refine bb (fun xs ys p t e h=>?_) ⟨_,Tryz.func101,rfl⟩
 unfold UD at e
 split at e
 .rename_i k y
  cases e
  obtain ⟨rfl,h⟩:=h
  have hd:=h.d
  have hl:=h.l
  have c1:=qy (n:=((aa (val y*val y).toNat).length:Int)) (by omega)
  exact ⟨UA y,300,qw y,_,_,_,_,_,PT h,rfl,rfl,⟨rfl,⟨rfl,rfl⟩,trivial⟩,abj y,rfl,⟨⟨⟨⟨rfl,rfl⟩,hd,hd,by omega⟩,⟨by omega,by omega,by omega⟩⟩,⟨rfl,rfl,rfl⟩⟩,rfl,rfl,rfl,rfl⟩
 .cases e
def tZ2:List (FuncId×ew):=(101,au hG0 .i64 [.li,.nu (.i .i64)] UD) :: tZ
theorem UE:∀ x∈tZ2,NOk Tryz.prog (fun _=>none) hG0 x.1 x.2:=by
 intro x hx
 rcases List.mem_cons.1 hx with rfl|hx
 .exact GI
 exact SB x hx
def KQ:AFr:=⟨103,none⟩
def dwA:Code:=bG Tryz.prog 103 0
noncomputable def dwS (a:List Int):St:=g6 cZ 300 103 (qw a) (zH a)
def dwV (a:List Int):Int:=val a*val (aa (4294967296:Int).toNat)
def dwP (i n:Int):Patch:=⟨(5,.int true .i64 n) :: (7,.int true .i64 i) :: az 17 11,[],[]⟩
def dwU (a:List Int):SumL (Int×Int):=
 {
  S:=fun (i,n)=>dwP i n
  I:=fun (i,n)=>-1<=i/\i<(cutL (dwV a)).length/\n=val ((cutL (dwV a)).drop (i+1).toNat)
  μ:=fun (i,_)=>(i+1).toNat
  F:=fun _=>(.exit 0,dwP (-1) (dwV a / PP))
  next:=fun (i,n)=>(i - 1,n*1000000000+(cutL (dwV a)).getD i.toNat 0)
  ids:=fun _=>[]
  X:=fun (i,n) _=>some (dwP i n,[]) }
def Bh (a:List Int):Prop:=(0:Int)=(0:Int)/\IntKind.i64.wrap (((↑(aa (val a*val (aa (Int.toNat (4294967296:Int)))).toNat).length:Int) - bq (↑(aa (val a*val (aa (Int.toNat (4294967296:Int)))).toNat).length:Int)) - (1:Int))=(↑(cutL (dwV a)).length:Int) - (1:Int)
theorem KR (a:List Int):fit (dwS a) (dwS a) (ac (dwS a) (dwP (((cutL (dwV a)).length:Int) - 1) 0)) ([])=some (.p (Bh a)):=by kernel_rfl
def C7 (a:List Int) (i n:Int):Prop:=(decide (i>=(0:Int))=true->(((0:Int)<=bq (↑(aa (val a*val (aa (Int.toNat (4294967296:Int)))).toNat).length:Int))/\(0:Int)<=i/\i<(↑(aa (val a*val (aa (Int.toNat (4294967296:Int)))).toNat).length:Int) - bq (↑(aa (val a*val (aa (Int.toNat (4294967296:Int)))).toNat).length:Int))/\((bq (↑(aa (val a*val (aa (Int.toNat (4294967296:Int)))).toNat).length:Int))+i).toNat<(aa (val a*val (aa (Int.toNat (4294967296:Int)))).toNat).length)/\((!decide (i>=(0:Int)))=true->(n=n/\i=i)/\(dwU a).F (i,n)=(Ex.exit (0:Nat),dwP i n))/\(decide (i>=(0:Int))=true->(IntKind.i64.wrap (IntKind.i64.wrap (n*(1000000000:Int))+(aa (val a*val (aa (Int.toNat (4294967296:Int)))).toNat).getD ((bq (↑(aa (val a*val (aa (Int.toNat (4294967296:Int)))).toNat).length:Int))+i).toNat (0:Int))=n*(1000000000:Int)+(cutL (dwV a)).getD i.toNat (0:Int)/\IntKind.i64.wrap (i - (1:Int))=i - (1:Int))/\(dwU a).I ((dwU a).next (i,n))/\(dwU a).μ ((dwU a).next (i,n))<(dwU a).μ (i,n)/\(dwU a).F ((dwU a).next (i,n))=(dwU a).F (i,n))
theorem PW (a:List Int) (i n:Int):aW (dwS a) ((dwU a).way ((i,n))) ((run cZ 300).code KQ dwA (ac (dwS a) ((dwU a).S (i,n))))=some (.p (C7 a i n)):=by kernel_rfl
structure DwD (a:List Int):Prop where
 d:Dig a
 l:a.length<=100
 hi:dwV a / PP<4611686018427387904
theorem DwD.v {a:List Int} (h:DwD a):0<=dwV a:=Int.mul_nonneg (af h.d) (af (ax _))
theorem PX {l:List Int} (h:Dig l) (k:Nat):val (l.drop k)<=val l:=by
 rw [uJ k h]
 exact Int.ediv_le_self _ (af h)
theorem PY {a:List Int} (h:DwD a):CodeOk cZ KQ (.loop dwA) (dwS a) ⟨.tt,[⟨.tt,.exit 0,ac (dwS a) (dwP (-1) (dwV a / PP))⟩]⟩:=by
 have v0:=h.v
 have hc:=EX v0
 have hv:=pk v0
 have hd:=pm (dwV a)
 have hi:=h.hi
 have c1:=qy (n:=((aa (dwV a).toNat).length:Int)) (by omega)
 have lm:(aa (dwV a).toNat).length<=500000:=by
  have l:=h.l
  have h1:=ba h.d
  have h2:=bK l
  refine Nat.le_trans (gG (n:=102) v0 ?_) (by decide)
  have e1:val (aa (4294967296:Int).toNat)=4294967296:=dv (by decide)
  have e2:pw 102=1000000000000000000*pw 100:=by rw [fR,fR]; omega
  have h0:=af h.d
  have p:=pw_pos 100
  unfold dwV
  rw [e1,e2]; omega
 have lc:((cutL (dwV a)).length:Int)=(aa (dwV a).toNat).length - bq (aa (dwV a).toNat).length:=by
  rw [hc,List.length_drop]; omega
 refine cW (aQ lM 300) (dwU a) (y0:=(((cutL (dwV a)).length:Int) - 1,0)) ⟨by omega,by show _ - 1<_; omega,?_⟩ ⟨_,KR a,rfl,?_⟩ (by kernel_rfl) (fun y hy=>?_) rfl
 .show 0=val ((cutL (dwV a)).drop (((cutL (dwV a)).length:Int) - 1+1).toNat)
  rw [show (((cutL (dwV a)).length:Int) - 1+1).toNat=(cutL (dwV a)).length by omega,List.drop_length]; rfl
 .show IntKind.i64.wrap (((aa (dwV a).toNat).length:Int) - bq (aa (dwV a).toNat).length - 1)=(cutL (dwV a)).length - 1
  rw [lc,iw (by omega) (by omega)]
 .obtain ⟨i,n⟩:=y
  obtain ⟨i0,i1,hn⟩:=(show -1<=i/\i<(cutL (dwV a)).length/\n=val ((cutL (dwV a)).drop (i+1).toNat) from hy)
  refine ⟨_,PW a i n,fun e=>?_,fun e=>?_,fun e=>?_⟩
  .have e:=dt.1 e
   exact ⟨⟨c1.1,e,by show i<((aa (dwV a).toNat).length:Int) - bq (aa (dwV a).toNat).length; omega⟩,by show (bq (aa (dwV a).toNat).length+i).toNat<(aa (dwV a).toNat).length; omega⟩
  .have e:=ndt.1 e
   have:i=-1:=by omega
   subst this
   refine ⟨⟨rfl,rfl⟩,?_⟩
   show (Ex.exit 0,dwP (-1) (dwV a / PP))=(Ex.exit 0,dwP (-1) n)
   rw [hn,show ((-1:Int)+1).toNat=0 from rfl,List.drop_zero,hv]
  .have e:=dt.1 e
   have hl:i.toNat<(cutL (dwV a)).length:=by omega
   have s1:=AU hl
   have s2:=PX hd i.toNat
   rw [show i.toNat+1=(i+1).toNat by omega,<- hn] at s1
   rw [hv] at s2
   have g0:=hd.get i.toNat
   have n0:0<=n:=by rw [hn]; exact af (Bc hd _)
   have gd:(aa (dwV a).toNat).getD (bq (aa (dwV a).toNat).length+i).toNat 0=(cutL (dwV a)).getD i.toNat 0:=by
    rw [hc,List.getD_eq_getElem?_getD,List.getD_eq_getElem?_getD,List.getElem?_drop]
    congr 2
    omega
   have w1:IntKind.i64.wrap (n*1000000000)=n*1000000000:=iw (by omega) (by omega)
   have w2:IntKind.i64.wrap (n*1000000000+(cutL (dwV a)).getD i.toNat 0)=n*1000000000+(cutL (dwV a)).getD i.toNat 0:=iw (by omega) (by omega)
   refine ⟨⟨?_,iw (by omega) (by omega)⟩,⟨by show -1<=i - 1; omega,by show i - 1<_; omega,?_⟩,by show (i - 1+1).toNat<(i+1).toNat; omega,rfl⟩
   .show IntKind.i64.wrap (IntKind.i64.wrap (n*1000000000)+(aa (dwV a).toNat).getD (bq (aa (dwV a).toNat).length+i).toNat 0)=_
    rw [w1,gd,w2]
   .show n*1000000000+(cutL (dwV a)).getD i.toNat 0=val ((cutL (dwV a)).drop (i - 1+1).toNat)
    rw [show (i - 1+1).toNat=i.toNat by omega,s1]; omega
noncomputable def UF (a:List Int):Ctx:=aw cZ [aR 103 (dwS a).hp.clock KQ dwA (dwS a) (.exit 0) (dwP (-1) (dwV a / PP))]
theorem PZ {a:List Int} (h:DwD a):CtxOk (UF a):=ak lM (PY h) (aq lM)
def P1 (a:List Int):Prop:=((((0:Int)<(4294967296:Int)/\(4294967296:Int)<(1000000000000000000:Int))/\(((↑a.length:Int)=(↑a.length:Int)/\(↑(aa (Int.toNat (4294967296:Int))).length:Int)=(↑(aa (Int.toNat (4294967296:Int))).length:Int))/\Dig a/\Dig (aa (Int.toNat (4294967296:Int)))/\a.length+(aa (Int.toNat (4294967296:Int))).length<=(500000:Nat))/\((0:Int)<=bq (↑(aa (val a*val (aa (Int.toNat (4294967296:Int)))).toNat).length:Int))/\(bq (↑(aa (val a*val (aa (Int.toNat (4294967296:Int)))).toNat).length:Int))<=(↑(aa (val a*val (aa (Int.toNat (4294967296:Int)))).toNat).length:Int)/\(↑(aa (val a*val (aa (Int.toNat (4294967296:Int)))).toNat).length:Int)<=(↑(aa (val a*val (aa (Int.toNat (4294967296:Int)))).toNat).length:Int))/\At (KQ) (KQ) (dwA) (dwA) (dwS a) (dwS a))
def UG (a:List Int):AV:=(AV.int true IntKind.i64 (dwV a / PP))
def UH (a:List Int):Hp:=⟨[{ wr:=(0:Nat),body:=ABody.rows IntKind.i64 a }],1,28⟩
theorem abk (a:List Int):(run (UF a) 300).call 103 (qw a) (zH a)=some ⟨.p (P1 a),[⟨.tt,UG a,UH a⟩]⟩:=by kernel_rfl
def UI:List Nu->List (List Int)->Option (Prop×To)
 | [.n k],[a]=>some (k=5/\DwD a,.nu .i64 (val a*4294967296 / PP))
 | _,_=>none
theorem KS (a:List Int):dwV a=val a*4294967296:=by
 unfold dwV
 rw [dv (by decide)]
theorem P2:NOk Tryz.prog (fun _=>none) hG0 103 (au hG0 .i64 [.li,.nu (.i .i64)] UI):=by
 refine bb (fun xs ys p t e h=>?_) ⟨_,Tryz.func103,rfl⟩
 unfold UI at e
 split at e
 .rename_i k y
  cases e
  obtain ⟨rfl,h⟩:=h
  have hd:=h.d
  have hl:=h.l
  have c1:=qy (n:=((aa (dwV y).toNat).length:Int)) (by omega)
  have l2:(aa (4294967296:Int).toNat).length<=2:=gG (by decide) (by decide)
  exact ⟨UF y,300,qw y,_,_,_,_,_,PZ h,rfl,rfl,⟨rfl,⟨rfl,rfl⟩,trivial⟩,abk y,rfl,⟨⟨⟨by decide,by decide⟩,⟨⟨rfl,rfl⟩,hd,ax _,by show _+(aa (4294967296:Int).toNat).length<=_; omega⟩,⟨c1.1,c1.2,Int.le_refl _⟩⟩,⟨rfl,rfl,rfl⟩⟩,rfl,rfl,by show dwV y / PP=_; rw [KS]⟩
 .cases e
def Bi:AFr:=⟨116,none⟩
def arA:Code:=bG Tryz.prog 116 0
def C8 (x:Int) (one:List Int):List AV:=[.int true .i64 x,.lslice 0 one.length]
noncomputable def arS (x:Int) (one:List Int):St:=g6 cZ 300 116 (C8 x one) (zH one)
def cAr (e m:Bool):Ctx:=cZb [(22,e),(26,m)]
theorem yc (e m:Bool):CtxOk (cAr e m):=C6 _
def arP:Option (Int×Int×Int)->Patch
 | none=>⟨(8,.int true .i64 1) :: (9,.any false) :: az 15 18,[],[]⟩
 | some (i,t,s)=>⟨(5,.lslice 6 (aa s.toNat).length) :: (8,.int true .i64 i) :: (9,.any false) :: az 15 18,[(4,.cells [.lslice 5 (aa t.toNat).length])],[.rows .i64 (aa s.toNat),.rows .i64 (aa t.toNat)]⟩
def arX (s:Int):Patch:=⟨(4,.lslice 5 (aa s.toNat).length) :: (5,.any false) :: (8,.any false) :: (9,.any false) :: az 15 18,[(4,.dead)],[.rows .i64 (aa s.toNat)]⟩
def arQ (x:Int) (one:List Int):Int:=val one*x / (x*x)
def arR (x:Int) (one:List Int):Option (Int×Int×Int)->Int
 | none=>cz x 200 1 (val one*x) 0
 | some (i,t,s)=>cz x (200 - (i / 2).toNat) i t s
def arU (x:Int) (one:List Int):SumL (Option (Int×Int×Int)):=
 {
  S:=arP
  I:=fun y=>match y with
   | none=>True
   | some (i,t,s)=>0<t/\i % 2=1/\2<i/\i<=399/\2 ^ (i / 2).toNat*t<=4*PP/\0<=s/\(i % 4=3->t / (i - 2)<=s)/\s<=i*PP
  μ:=fun y=>match y with
   | none=>400
   | some (i,_,_)=>(400 - i).toNat
  F:=fun y=>(.ret,arX (arR x one y))
  next:=fun y=>match y with
   | none=>some (3,arQ x one,arQ x one / 1)
   | some (i,t,s)=>some (i+2,t / (x*x),match decide (i % 4=1) with|true=>s+t / (x*x) / i|false=>s - t / (x*x) / i)
  ids:=fun y=>match y with
   | none=>[5,7]
   | some _=>[7,9]
  X:=fun y _=>match y with
   | none=>none
   | some (_,_,s)=>some (arX s,[6]) }
def Bj (x:Int) (one:List Int):Prop:=(1:Int)=(1:Int)
theorem KT (x:Int) (one:List Int):fit (arS x one) (arS x one) (ac (arS x one) ((arU x one).S none)) ([])=some (.p (Bj x one)):=by kernel_rfl
def KU (x:Int) (one:List Int):Prop:=((((↑(aa (val one*val [x]).toNat).length:Int)=(↑(aa (val one*val [x]).toNat).length:Int)/\Dig (aa (val one*val [x]).toNat)/\(aa (val one*val [x]).toNat).length<=(500000:Nat)/\(1:Int)<=IntKind.i64.wrap (x*x)/\IntKind.i64.wrap (x*x)<=(1000000000:Int))/\(↑(aa (val (aa (val one*val [x]).toNat) / IntKind.i64.wrap (x*x)).toNat).length:Int)=(↑(aa (val (aa (val one*val [x]).toNat) / IntKind.i64.wrap (x*x)).toNat).length:Int)/\Dig (aa (val (aa (val one*val [x]).toNat) / IntKind.i64.wrap (x*x)).toNat)/\(aa (val (aa (val one*val [x]).toNat) / IntKind.i64.wrap (x*x)).toNat).length<=(500000:Nat)/\(1:Int)<=(1:Int)/\(1:Int)<=(1000000000:Int))/\((↑(aa (val (aa (val (aa (val one*val [x]).toNat) / IntKind.i64.wrap (x*x)).toNat) / (1:Int)).toNat).length:Int)==(0:Int))=false/\(Int.tmod (1:Int) (4:Int)==(1:Int))=true/\(↑(aa (val (aa (val (aa (val one*val [x]).toNat) / IntKind.i64.wrap (x*x)).toNat) / (1:Int)).toNat).length:Int)=(↑(aa (val (aa (val (aa (val one*val [x]).toNat) / IntKind.i64.wrap (x*x)).toNat) / (1:Int)).toNat).length:Int)/\Dig []/\Dig (aa (val (aa (val (aa (val one*val [x]).toNat) / IntKind.i64.wrap (x*x)).toNat) / (1:Int)).toNat)/\((0:Nat)<([]:List Int).length\/(0:Nat)<(aa (val (aa (val (aa (val one*val [x]).toNat) / IntKind.i64.wrap (x*x)).toNat) / (1:Int)).toNat).length)/\([]:List Int).length<=(400000:Nat)/\(aa (val (aa (val (aa (val one*val [x]).toNat) / IntKind.i64.wrap (x*x)).toNat) / (1:Int)).toNat).length<=(400000:Nat))/\(true=true->(((↑(aa (val []+val (aa (val (aa (val (aa (val one*val [x]).toNat) / IntKind.i64.wrap (x*x)).toNat) / (1:Int)).toNat)).toNat).length:Int)=(↑(aa (arQ x one / (1:Int)).toNat).length:Int)/\IntKind.i64.wrap ((1:Int)+(2:Int))=(3:Int))/\(↑(aa (val (aa (val one*val [x]).toNat) / IntKind.i64.wrap (x*x)).toNat).length:Int)=(↑(aa (arQ x one).toNat).length:Int)/\aa (val []+val (aa (val (aa (val (aa (val one*val [x]).toNat) / IntKind.i64.wrap (x*x)).toNat) / (1:Int)).toNat)).toNat=aa (arQ x one / (1:Int)).toNat/\aa (val (aa (val one*val [x]).toNat) / IntKind.i64.wrap (x*x)).toNat=aa (arQ x one).toNat)/\(arU x one).I ((arU x one).next none)/\(arU x one).μ ((arU x one).next none)<(arU x one).μ none/\(arU x one).F ((arU x one).next none)=(arU x one).F none)
theorem Yg (x:Int) (one:List Int):aW (arS x one) ((arU x one).way (none)) ((run (cAr false true) 300).code Bi arA (ac (arS x one) ((arU x one).S none)))=some (.p (KU x one)):=by kernel_rfl
def KV (x:Int) (one:List Int) (i t s:Int):Prop:=((((↑(aa t.toNat).length:Int)=(↑(aa t.toNat).length:Int)/\Dig (aa t.toNat)/\(aa t.toNat).length<=(500000:Nat)/\(1:Int)<=IntKind.i64.wrap (x*x)/\IntKind.i64.wrap (x*x)<=(1000000000:Int))/\(↑(aa (val (aa t.toNat) / IntKind.i64.wrap (x*x)).toNat).length:Int)=(↑(aa (val (aa t.toNat) / IntKind.i64.wrap (x*x)).toNat).length:Int)/\Dig (aa (val (aa t.toNat) / IntKind.i64.wrap (x*x)).toNat)/\(aa (val (aa t.toNat) / IntKind.i64.wrap (x*x)).toNat).length<=(500000:Nat)/\(1:Int)<=i/\i<=(1000000000:Int))/\((↑(aa (val (aa (val (aa t.toNat) / IntKind.i64.wrap (x*x)).toNat) / i).toNat).length:Int)==(0:Int))=false/\(i.tmod (4:Int)==(1:Int))=true/\((↑(aa s.toNat).length:Int)=(↑(aa s.toNat).length:Int)/\(↑(aa (val (aa (val (aa t.toNat) / IntKind.i64.wrap (x*x)).toNat) / i).toNat).length:Int)=(↑(aa (val (aa (val (aa t.toNat) / IntKind.i64.wrap (x*x)).toNat) / i).toNat).length:Int))/\Dig (aa s.toNat)/\Dig (aa (val (aa (val (aa t.toNat) / IntKind.i64.wrap (x*x)).toNat) / i).toNat)/\((0:Nat)<(aa s.toNat).length\/(0:Nat)<(aa (val (aa (val (aa t.toNat) / IntKind.i64.wrap (x*x)).toNat) / i).toNat).length)/\(aa s.toNat).length<=(400000:Nat)/\(aa (val (aa (val (aa t.toNat) / IntKind.i64.wrap (x*x)).toNat) / i).toNat).length<=(400000:Nat))/\(true=true->(((↑(aa (val (aa s.toNat)+val (aa (val (aa (val (aa t.toNat) / IntKind.i64.wrap (x*x)).toNat) / i).toNat)).toNat).length:Int)=(↑(aa (match decide (i % (4:Int)=(1:Int)) with|true=>s+t / (x*x) / i|false=>s - t / (x*x) / i).toNat).length:Int)/\IntKind.i64.wrap (i+(2:Int))=i+(2:Int))/\(↑(aa (val (aa t.toNat) / IntKind.i64.wrap (x*x)).toNat).length:Int)=(↑(aa (t / (x*x)).toNat).length:Int)/\aa (val (aa s.toNat)+val (aa (val (aa (val (aa t.toNat) / IntKind.i64.wrap (x*x)).toNat) / i).toNat)).toNat=aa (match decide (i % (4:Int)=(1:Int)) with|true=>s+t / (x*x) / i|false=>s - t / (x*x) / i).toNat/\aa (val (aa t.toNat) / IntKind.i64.wrap (x*x)).toNat=aa (t / (x*x)).toNat)/\(arU x one).I ((arU x one).next (some (i,t,s)))/\(arU x one).μ ((arU x one).next (some (i,t,s)))<(arU x one).μ (some (i,t,s))/\(arU x one).F ((arU x one).next (some (i,t,s)))=(arU x one).F (some (i,t,s)))
theorem Yh (x:Int) (one:List Int) (i t s:Int):aW (arS x one) ((arU x one).way ((some (i,t,s)))) ((run (cAr false true) 300).code Bi arA (ac (arS x one) ((arU x one).S (some (i,t,s)))))=some (.p (KV x one i t s)):=by kernel_rfl
def KW (x:Int) (one:List Int) (i t s:Int):Prop:=((((↑(aa t.toNat).length:Int)=(↑(aa t.toNat).length:Int)/\Dig (aa t.toNat)/\(aa t.toNat).length<=(500000:Nat)/\(1:Int)<=IntKind.i64.wrap (x*x)/\IntKind.i64.wrap (x*x)<=(1000000000:Int))/\(↑(aa (val (aa t.toNat) / IntKind.i64.wrap (x*x)).toNat).length:Int)=(↑(aa (val (aa t.toNat) / IntKind.i64.wrap (x*x)).toNat).length:Int)/\Dig (aa (val (aa t.toNat) / IntKind.i64.wrap (x*x)).toNat)/\(aa (val (aa t.toNat) / IntKind.i64.wrap (x*x)).toNat).length<=(500000:Nat)/\(1:Int)<=i/\i<=(1000000000:Int))/\((↑(aa (val (aa (val (aa t.toNat) / IntKind.i64.wrap (x*x)).toNat) / i).toNat).length:Int)==(0:Int))=false/\(i.tmod (4:Int)==(1:Int))=false/\((↑(aa s.toNat).length:Int)=(↑(aa s.toNat).length:Int)/\(↑(aa (val (aa (val (aa t.toNat) / IntKind.i64.wrap (x*x)).toNat) / i).toNat).length:Int)=(↑(aa (val (aa (val (aa t.toNat) / IntKind.i64.wrap (x*x)).toNat) / i).toNat).length:Int))/\Dig (aa s.toNat)/\Dig (aa (val (aa (val (aa t.toNat) / IntKind.i64.wrap (x*x)).toNat) / i).toNat)/\(0:Nat)<(aa s.toNat).length/\(aa s.toNat).length<=(500000:Nat)/\(aa (val (aa (val (aa t.toNat) / IntKind.i64.wrap (x*x)).toNat) / i).toNat).length<=(aa s.toNat).length/\val (aa (val (aa (val (aa t.toNat) / IntKind.i64.wrap (x*x)).toNat) / i).toNat)<=val (aa s.toNat))/\(true=true->(((↑(aa (val (aa s.toNat) - val (aa (val (aa (val (aa t.toNat) / IntKind.i64.wrap (x*x)).toNat) / i).toNat)).toNat).length:Int)=(↑(aa (match decide (i % (4:Int)=(1:Int)) with|true=>s+t / (x*x) / i|false=>s - t / (x*x) / i).toNat).length:Int)/\IntKind.i64.wrap (i+(2:Int))=i+(2:Int))/\(↑(aa (val (aa t.toNat) / IntKind.i64.wrap (x*x)).toNat).length:Int)=(↑(aa (t / (x*x)).toNat).length:Int)/\aa (val (aa s.toNat) - val (aa (val (aa (val (aa t.toNat) / IntKind.i64.wrap (x*x)).toNat) / i).toNat)).toNat=aa (match decide (i % (4:Int)=(1:Int)) with|true=>s+t / (x*x) / i|false=>s - t / (x*x) / i).toNat/\aa (val (aa t.toNat) / IntKind.i64.wrap (x*x)).toNat=aa (t / (x*x)).toNat)/\(arU x one).I ((arU x one).next (some (i,t,s)))/\(arU x one).μ ((arU x one).next (some (i,t,s)))<(arU x one).μ (some (i,t,s))/\(arU x one).F ((arU x one).next (some (i,t,s)))=(arU x one).F (some (i,t,s)))
theorem Yi (x:Int) (one:List Int) (i t s:Int):aW (arS x one) ((arU x one).way ((some (i,t,s)))) ((run (cAr false false) 300).code Bi arA (ac (arS x one) ((arU x one).S (some (i,t,s)))))=some (.p (KW x one i t s)):=by kernel_rfl
def P3 (x:Int) (one:List Int) (i t s:Int):Prop:=((((↑(aa t.toNat).length:Int)=(↑(aa t.toNat).length:Int)/\Dig (aa t.toNat)/\(aa t.toNat).length<=(500000:Nat)/\(1:Int)<=IntKind.i64.wrap (x*x)/\IntKind.i64.wrap (x*x)<=(1000000000:Int))/\(↑(aa (val (aa t.toNat) / IntKind.i64.wrap (x*x)).toNat).length:Int)=(↑(aa (val (aa t.toNat) / IntKind.i64.wrap (x*x)).toNat).length:Int)/\Dig (aa (val (aa t.toNat) / IntKind.i64.wrap (x*x)).toNat)/\(aa (val (aa t.toNat) / IntKind.i64.wrap (x*x)).toNat).length<=(500000:Nat)/\(1:Int)<=i/\i<=(1000000000:Int))/\((↑(aa (val (aa (val (aa t.toNat) / IntKind.i64.wrap (x*x)).toNat) / i).toNat).length:Int)==(0:Int))=true)/\(true=true->((↑(aa s.toNat).length:Int)=(↑(aa s.toNat).length:Int)/\aa s.toNat=aa s.toNat)/\(arU x one).F (some (i,t,s))=(Ex.ret,arX s))
theorem abl (x:Int) (one:List Int) (i t s:Int):aW (arS x one) ((arU x one).way ((some (i,t,s)))) ((run (cAr true false) 300).code Bi arA (ac (arS x one) ((arU x one).S (some (i,t,s)))))=some (.p (P3 x one i t s)):=by kernel_rfl
structure ArD (x:Int) (one:List Int):Prop where
 d:Dig one
 l:one.length<=100
 hi:val one<=PP
 x0:2<=x
 x1:x<=30000
 lo:0<arQ x one / 1
theorem ArD.xx {x:Int} {one:List Int} (h:ArD x one):4<=x*x/\x*x<=900000000/\IntKind.i64.wrap (x*x)=x*x:=by
 have x0:=h.x0
 have x1:=h.x1
 have a:=Int.mul_le_mul (a:=2) (b:=2) (c:=x) (d:=x) x0 x0 (by decide) (by omega)
 have b:=Int.mul_le_mul (a:=x) (b:=x) (c:=30000) (d:=30000) x1 x1 (by omega) (by decide)
 exact ⟨by omega,by omega,iw (by omega) (by omega)⟩
theorem Bk {t m:Int} (ht:0<=t) (hm:2<=m):0<=t / m/\2*(t / m)<=t:=by
 have h0:=Int.ediv_nonneg ht (show 0<=m by omega)
 have h1:=Int.ediv_mul_le t (b:=m) (by omega)
 have h2:=Int.mul_le_mul_of_nonneg_left hm h0
 exact ⟨h0,by omega⟩
theorem EY {t m:Int} (ht:0<=t) (hm:1<=m):0<=t / m/\t / m<=t:=⟨Int.ediv_nonneg ht (by omega),Int.ediv_le_self _ ht⟩
theorem wl {a b m n:Int} (h0:0<=a) (h1:a<=b) (h2:1<=n) (h3:n<=m):a / m<=b / n:=by
 have p1:=Int.ediv_mul_le a (b:=m) (by omega)
 have p0:0<=a / m:=Int.ediv_nonneg h0 (by omega)
 have p2:=Int.mul_le_mul_of_nonneg_left h3 p0
 exact (Int.le_ediv_iff_mul_le (by omega)).2 (by omega)
theorem ArD.q {x:Int} {one:List Int} (h:ArD x one):0<=arQ x one/\arQ x one<=PP:=by
 have v0:=af h.d
 have x0:=h.x0
 obtain ⟨a,b,_⟩:=h.xx
 refine ⟨Int.ediv_nonneg (Int.mul_nonneg v0 (by omega)) (by omega),Int.le_trans (Int.ediv_le_of_le_mul (by omega) ?_) h.hi⟩
 refine Int.mul_le_mul_of_nonneg_left ?_ v0
 have:=Int.mul_le_mul_of_nonneg_left (show 1<=x by omega) (show 0<=x by omega)
 omega
theorem KX {x:Int} {one:List Int} (h:ArD x one):arR x one (some (3,arQ x one,arQ x one / 1))=arR x one none:=by
 show cz x 199 3 _ _=cz x (199+1) 1 (val one*x) 0
 rw [wj (show val one*x / (x*x) / 1≠0 from by have:=h.lo; unfold arQ at this; omega)]
 show _=cz x 199 (1+2) (val one*x / (x*x)) (0+val one*x / (x*x) / 1)
 rw [Int.zero_add]; rfl
theorem P4 {x:Int} {one:List Int} {i t s:Int} (hi:(i / 2).toNat<=199) (h:t / (x*x) / i=0):arR x one (some (i,t,s))=s:=by
 show cz x (200 - (i / 2).toNat) i t s=s
 rw [show 200 - (i / 2).toNat=(199 - (i / 2).toNat)+1 by omega,KH h]
theorem KY {x:Int} {one:List Int} {i t s:Int} (h0:0<=i) (hi:(i / 2).toNat<=199) (h:t / (x*x) / i≠0):arR x one ((arU x one).next (some (i,t,s)))=arR x one (some (i,t,s)):=by
 show cz x (200 - ((i+2) / 2).toNat) (i+2) (t / (x*x)) _=cz x (200 - (i / 2).toNat) i t s
 rw [show 200 - (i / 2).toNat=(199 - (i / 2).toNat)+1 by omega,wj h,show 200 - ((i+2) / 2).toNat=199 - (i / 2).toNat by omega]
 first|done|rfl
theorem GJ {x:Int} {one:List Int} (h:ArD x one):(arU x one).I ((arU x one).next none):=by
 obtain ⟨q0,q1⟩:=h.q
 have l0:=h.lo
 rw [Int.ediv_one] at l0
 have p:=dG
 show 0<arQ x one/\(3:Int) % 2=1/\(2:Int)<3/\(3:Int)<=399/\(2:Int) ^ (1:Nat)*arQ x one<=4*PP/\0<=arQ x one / 1/\((3:Int) % 4=3->arQ x one / (3 - 2)<=arQ x one / 1)/\arQ x one / 1<=3*PP
 rw [show (3:Int) - 2=1 from rfl,Int.ediv_one,show (2:Int) ^ (1:Nat)=2 from rfl]
 refine ⟨l0,by decide,by decide,by decide,by omega,q0,by omega,by omega⟩
theorem KZ {x:Int} {one:List Int} (h:ArD x one) {i t s:Int} (hI:(arU x one).I (some (i,t,s))) (h0:t / (x*x) / i≠0):(arU x one).I ((arU x one).next (some (i,t,s))):=by
 obtain ⟨t0,i0,i1,i2,pw,s0,ts,sb⟩:=(show 0<t/\i % 2=1/\2<i/\i<=399/\2 ^ (i / 2).toNat*t<=4*PP/\0<=s/\(i % 4=3->t / (i - 2)<=s)/\s<=i*PP from hI)
 obtain ⟨xa,xb,_⟩:=h.xx
 obtain ⟨b0,b1⟩:=Bk (t:=t) (m:=x*x) (by omega) (by omega)
 obtain ⟨c0,c1⟩:=EY (t:=t / (x*x)) (m:=i) b0 (by omega)
 have cm:i % 4=3->t / (x*x) / i<=t / (i - 2):=fun _=>wl b0 (by omega) (by omega) (by omega)
 have ce:t / (x*x) / (i+2 - 2)<=t / (x*x) / i:=by rw [show i+2 - 2=i by omega]; exact Int.le_refl _
 have k:=x7 t0 pw
 have hp:(2:Int) ^ ((i+2) / 2).toNat*(t / (x*x))<=4*PP:=by
  rw [show ((i+2) / 2).toNat=(i / 2).toNat+1 by omega,Int.pow_succ,Int.mul_assoc]
  have:(2:Int) ^ (i / 2).toNat*(2*(t / (x*x)))<=2 ^ (i / 2).toNat*t:=Int.mul_le_mul_of_nonneg_left b1 (Int.pow_nonneg (by decide))
  omega
 have ht:t<=2*PP:=by
  have h4:(2:Int)*t<=2 ^ (i / 2).toNat*t:=by
   refine Int.mul_le_mul_of_nonneg_right ?_ (by omega)
   have:=Nat.pow_le_pow_right (n:=2) (by decide) (show 1<=(i / 2).toNat by omega)
   have e1:((2 ^ 1:Nat):Int)<=((2 ^ (i / 2).toNat:Nat):Int):=by exact_mod_cast this
   simpa using e1
  omega
 have e2:(i+2)*PP=i*PP+2*PP:=Int.add_mul _ _ _
 have p:=dG
 have tp:0<t / (x*x):=by
  rcases Int.lt_or_eq_of_le b0 with e|e
  .exact e
  .rw [<- e] at h0; simp at h0
 show 0<t / (x*x)/\(i+2) % 2=1/\2<i+2/\i+2<=399/\2 ^ ((i+2) / 2).toNat*(t / (x*x))<=4*PP/\0<=(match decide (i % 4=1) with|true=>s+t / (x*x) / i|false=>s - t / (x*x) / i)/\((i+2) % 4=3->t / (x*x) / (i+2 - 2)<=(match decide (i % 4=1) with|true=>s+t / (x*x) / i|false=>s - t / (x*x) / i))/\(match decide (i % 4=1) with|true=>s+t / (x*x) / i|false=>s - t / (x*x) / i)<=(i+2)*PP
 have h5:0<=(match decide (i % 4=1) with|true=>s+t / (x*x) / i|false=>s - t / (x*x) / i)/\((i+2) % 4=3->t / (x*x) / (i+2 - 2)<=(match decide (i % 4=1) with|true=>s+t / (x*x) / i|false=>s - t / (x*x) / i))/\(match decide (i % 4=1) with|true=>s+t / (x*x) / i|false=>s - t / (x*x) / i)<=(i+2)*PP:=by
  by_cases hm:i % 4=1
  .rw [show (match decide (i % 4=1) with|true=>s+t / (x*x) / i|false=>s - t / (x*x) / i)=s+t / (x*x) / i by rw [decide_eq_true hm]]
   generalize t / (x*x) / i=u at *
   refine ⟨by omega,by omega,by omega⟩
  .have hm3:i % 4=3:=by omega
   have a1:=ts hm3
   have a2:=cm hm3
   rw [show (match decide (i % 4=1) with|true=>s+t / (x*x) / i|false=>s - t / (x*x) / i)=s - t / (x*x) / i by rw [decide_eq_false hm]]
   generalize t / (x*x) / i=u at *
   generalize t / (i - 2)=w at *
   refine ⟨by omega,by omega,by omega⟩
 refine ⟨tp,by omega,by omega,by omega,hp,h5⟩
theorem pq (x:Int):val [x]=x:=by simp [val]
theorem pu {x:Int} (h0:0<=x) (h1:x<1000000000):Dig [x]:=bz.2 ⟨⟨h0,h1⟩,b8⟩
theorem P5 {x:Int} {one:List Int} (h:ArD x one):CodeOk cZ Bi (.loop arA) (arS x one) ⟨.tt,[⟨.tt,.ret,ac (arS x one) (arX (arR x one none))⟩]⟩:=by
 refine cB (arU x one) (y0:=none) trivial ⟨_,KT x one,rfl⟩ (by kernel_rfl) (fun y hy=>?_) rfl
 have v0:=af h.d
 have v1:=h.hi
 have yl:=h.l
 have x0:=h.x0
 have x1:=h.x1
 have p:=dG
 obtain ⟨xa,xb,xw⟩:=h.xx
 cases y with
 | none=>
  obtain ⟨q0,q1⟩:=h.q
  have l0:=h.lo
  have e1:val (aa (val one*val [x]).toNat)=val one*x:=by rw [pq,dv (Int.mul_nonneg v0 (by omega))]
  have Q:val (aa (val one*val [x]).toNat) / IntKind.i64.wrap (x*x)=arQ x one:=by rw [e1,xw]; rfl
  have vq:=dv q0
  have vq1:=dv (a:=arQ x one / 1) (by omega)
  have l1:(aa (val one*val [x]).toNat).length<=500000:=by
   rw [pq]
   refine Nat.le_trans (gG (n:=8) (Int.mul_nonneg v0 (by omega)) ?_) (by decide)
   have:=Int.mul_le_mul v1 x1 (by omega) (by omega)
   have e:PP*30000<pw 8:=by decide
   omega
  have lq:=g8 q0 (by omega)
  have lq1:=g8 (a:=arQ x one / 1) (by omega) (by rw [Int.ediv_one]; omega)
  have lp:=Bg l0
  refine ⟨cAr false true,300,yc _ _,rfl,rfl,_,Yg x one,?_,fun _=>?_⟩
  .rw [Q,xw,vq]
   refine ⟨⟨⟨rfl,ax _,l1,by omega,by omega⟩,rfl,ax _,by omega,by decide,by decide⟩,beq_eq_false_iff_ne.2 (by omega),rfl,rfl,b8,ax _,.inr lp,by decide,by omega⟩
  .rw [Q,vq,vq1]
   have z:val []+arQ x one / 1=arQ x one / 1:=Int.zero_add _
   rw [z]
   exact ⟨⟨⟨rfl,by decide⟩,rfl,rfl,rfl⟩,GJ h,by show (400 - 3:Int).toNat<400; omega,congrArg (fun z=>(Ex.ret,arX z)) (KX h)⟩
 | some y=>
  obtain ⟨i,t,s⟩:=y
  have hI:=hy
  obtain ⟨t0,i0,i1,i2,pw2,s0,ts,sb⟩:=(show 0<t/\i % 2=1/\2<i/\i<=399/\2 ^ (i / 2).toNat*t<=4*PP/\0<=s/\(i % 4=3->t / (i - 2)<=s)/\s<=i*PP from hy)
  have k:=x7 t0 pw2
  obtain ⟨b0,b1⟩:=Bk (t:=t) (m:=x*x) (by omega) (by omega)
  obtain ⟨c0,c1⟩:=EY (t:=t / (x*x)) (m:=i) b0 (by omega)
  have ht:t<=4*PP:=by
   have h4:(1:Int)*t<=2 ^ (i / 2).toNat*t:=by
    refine Int.mul_le_mul_of_nonneg_right ?_ (by omega)
    have:=Nat.one_le_two_pow (n:=(i / 2).toNat)
    have e1:((1:Nat):Int)<=((2 ^ (i / 2).toNat:Nat):Int):=by exact_mod_cast this
    simpa using e1
   omega
  have hs:s<=400*PP:=by
   have:i*PP<=400*PP:=Int.mul_le_mul_of_nonneg_right (by omega) (by omega)
   omega
  have vt:=dv (a:=t) (by omega)
  have vs:=dv s0
  have vb:=dv b0
  have vc:=dv c0
  have dt:=ax t.toNat
  have ds:=ax s.toNat
  have db:=ax (t / (x*x)).toNat
  have dc:=ax (t / (x*x) / i).toNat
  have lt:=g8 (a:=t) (by omega) (by omega)
  have ls:=g8 s0 hs
  have lb:=g8 b0 (by omega)
  have lc:=g8 c0 (by omega)
  have w9:IntKind.i64.wrap (i+2)=i+2:=iw (by omega) (by omega)
  by_cases h0:t / (x*x) / i=0
  .refine ⟨cAr true false,300,yc _ _,rfl,rfl,_,abl x one i t s,?_,fun _=>⟨⟨rfl,rfl⟩,congrArg (fun z=>(Ex.ret,arX z)) (P4 (by omega) h0)⟩⟩
   rw [vt,xw,vb,h0]
   exact ⟨⟨⟨rfl,dt,by omega,by omega,by omega⟩,rfl,db,by omega,by omega,by omega⟩,by rw [show aa (0:Int).toNat=[] from bQ]; rfl⟩
  .have lq:=Bg (a:=t / (x*x) / i) (by omega)
   have nx:=KZ h hI h0
   have nr:=KY (x:=x) (one:=one) (i:=i) (t:=t) (s:=s) (by omega) (by omega) h0
   have mu:(400 - (i+2)).toNat<(400 - i).toNat:=by omega
   by_cases hm:i % 4=1
   .have e4:(match decide (i % 4=1) with|true=>s+t / (x*x) / i|false=>s - t / (x*x) / i)=s+t / (x*x) / i:=by rw [decide_eq_true hm]
    refine ⟨cAr false true,300,yc _ _,rfl,rfl,_,Yh x one i t s,?_,fun _=>?_⟩
    .rw [vt,xw,vb]
     refine ⟨⟨⟨rfl,dt,by omega,by omega,by omega⟩,rfl,db,by omega,by omega,by omega⟩,beq_eq_false_iff_ne.2 (by omega),?_,⟨rfl,rfl⟩,ds,dc,.inr lq,by omega,by omega⟩
     rw [Int.tmod_eq_emod_of_nonneg (by omega),hm]; rfl
    .rw [vt,xw,vb,vc,vs]
     exact ⟨⟨⟨congrArg (fun z:Int=>((aa z.toNat).length:Int)) e4.symm,w9⟩,rfl,congrArg (fun z:Int=>aa z.toNat) e4.symm,rfl⟩,nx,mu,congrArg (fun z=>(Ex.ret,arX z)) nr⟩
   .have hm3:i % 4=3:=by omega
    have a1:=ts hm3
    have a2:t / (x*x) / i<=t / (i - 2):=wl b0 (by omega) (by omega) (by omega)
    have ql:=Uz c0 (show t / (x*x) / i<=s by omega)
    have e4:(match decide (i % 4=1) with|true=>s+t / (x*x) / i|false=>s - t / (x*x) / i)=s - t / (x*x) / i:=by rw [decide_eq_false hm]
    refine ⟨cAr false false,300,yc _ _,rfl,rfl,_,Yi x one i t s,?_,fun _=>?_⟩
    .rw [vt,xw,vb,vc,vs]
     refine ⟨⟨⟨rfl,dt,by omega,by omega,by omega⟩,rfl,db,by omega,by omega,by omega⟩,beq_eq_false_iff_ne.2 (by omega),?_,⟨rfl,rfl⟩,ds,dc,by omega,by omega,ql,by omega⟩
     rw [Int.tmod_eq_emod_of_nonneg (by omega),hm3]; rfl
    .rw [vt,xw,vb,vc,vs]
     exact ⟨⟨⟨congrArg (fun z:Int=>((aa z.toNat).length:Int)) e4.symm,w9⟩,rfl,congrArg (fun z:Int=>aa z.toNat) e4.symm,rfl⟩,nx,mu,congrArg (fun z=>(Ex.ret,arX z)) nr⟩
noncomputable def UJ (x:Int) (one:List Int):Ctx:=aw cZ [aR 116 (arS x one).hp.clock Bi arA (arS x one) .ret (arX (arR x one none))]
theorem P6 {x:Int} {one:List Int} (h:ArD x one):CtxOk (UJ x one):=ak lM (P5 h) (aq lM)
def P7 (x:Int) (one:List Int):Prop:=(((↑one.length:Int)=(↑one.length:Int)/\Dig one/\Dig [x]/\one.length + [x].length<=(500000:Nat))/\At (Bi) (Bi) (arA) (arA) (arS x one) (arS x one))
def UK (x:Int) (one:List Int):AV:=(AV.lslice 1 (↑(aa (arR x one none).toNat).length:Int))
def UL (x:Int) (one:List Int):Hp:=⟨[{ wr:=15,body:=ABody.rows IntKind.i64 (aa (arR x one none).toNat) },{ wr:=(0:Nat),body:=ABody.rows IntKind.i64 one }],2,16⟩
theorem abm (x:Int) (one:List Int):(run (UJ x one) 300).call 116 (C8 x one) (zH one)=some ⟨.p (P7 x one),[⟨.tt,UK x one,UL x one⟩]⟩:=by kernel_rfl
def UM:List Nu->List (List Int)->Option (Prop×To)
 | [.n x],[one]=>some (ArD x one,.li false (aa (cz x 200 1 (val one*x) 0).toNat))
 | _,_=>none
theorem UN:NOk Tryz.prog (fun _=>none) hG0 116 (au hG0 .i64 [.nu (.i .i64),.li] UM):=by
 refine bb (fun xs ys p t e h=>?_) ⟨_,Tryz.func116,rfl⟩
 unfold UM at e
 split at e
 .rename_i x one
  cases e
  have hl:=h.l
  have x0:=h.x0
  have x1:=h.x1
  refine ⟨UJ x one,300,C8 x one,_,_,_,_,_,P6 h,rfl,rfl,⟨⟨rfl,rfl⟩,rfl,trivial⟩,abm x one,rfl,⟨⟨rfl,h.d,pu (by omega) (by omega),by show _+1<=_; omega⟩,⟨rfl,rfl,rfl⟩⟩,rfl,rfl,?_⟩
  exact ⟨rfl,rfl⟩
 .cases e
def tZ3:List (FuncId×ew):=(116,au hG0 .i64 [.nu (.i .i64),.li] UM) :: (103,au hG0 .i64 [.li,.nu (.i .i64)] UI) :: tZ2
theorem K0:∀ x∈tZ3,NOk Tryz.prog (fun _=>none) hG0 x.1 x.2:=by
 intro x hx
 rcases List.mem_cons.1 hx with rfl|hx
 .exact UN
 rcases List.mem_cons.1 hx with rfl|hx
 .exact P2
 exact UE x hx
def cZ3:Ctx:=mkN Tryz.prog (fun _=>none) hG0 tZ3 [] dJ
theorem UO:CtxOk cZ3:=fO aP (cq _) K0 (fun x h=>by cases h)
def uL (one:List Int):Prop:=(((↑one.length:Int)=(↑one.length:Int)/\ArD (5:Int) one)/\((↑(aa (cz (5:Int) (200:Nat) (1:Int) (val one*(5:Int)) (0:Int)).toNat).length:Int)=(↑(aa (cz (5:Int) (200:Nat) (1:Int) (val one*(5:Int)) (0:Int)).toNat).length:Int)/\Dig (aa (cz (5:Int) (200:Nat) (1:Int) (val one*(5:Int)) (0:Int)).toNat)/\Dig [(8:Int)]/\(aa (cz (5:Int) (200:Nat) (1:Int) (val one*(5:Int)) (0:Int)).toNat).length + [(8:Int)].length<=(500000:Nat))/\((↑one.length:Int)=(↑one.length:Int)/\ArD (239:Int) one)/\((↑(aa (cz (239:Int) (200:Nat) (1:Int) (val one*(239:Int)) (0:Int)).toNat).length:Int)=(↑(aa (cz (239:Int) (200:Nat) (1:Int) (val one*(239:Int)) (0:Int)).toNat).length:Int)/\Dig (aa (cz (239:Int) (200:Nat) (1:Int) (val one*(239:Int)) (0:Int)).toNat)/\Dig [(2:Int)]/\(aa (cz (239:Int) (200:Nat) (1:Int) (val one*(239:Int)) (0:Int)).toNat).length + [(2:Int)].length<=(500000:Nat))/\((↑(aa (val (aa (cz (5:Int) (200:Nat) (1:Int) (val one*(5:Int)) (0:Int)).toNat)*val [(8:Int)]).toNat).length:Int)=(↑(aa (val (aa (cz (5:Int) (200:Nat) (1:Int) (val one*(5:Int)) (0:Int)).toNat)*val [(8:Int)]).toNat).length:Int)/\(↑(aa (val (aa (cz (239:Int) (200:Nat) (1:Int) (val one*(239:Int)) (0:Int)).toNat)*val [(2:Int)]).toNat).length:Int)=(↑(aa (val (aa (cz (239:Int) (200:Nat) (1:Int) (val one*(239:Int)) (0:Int)).toNat)*val [(2:Int)]).toNat).length:Int))/\Dig (aa (val (aa (cz (5:Int) (200:Nat) (1:Int) (val one*(5:Int)) (0:Int)).toNat)*val [(8:Int)]).toNat)/\Dig (aa (val (aa (cz (239:Int) (200:Nat) (1:Int) (val one*(239:Int)) (0:Int)).toNat)*val [(2:Int)]).toNat)/\(0:Nat)<(aa (val (aa (cz (5:Int) (200:Nat) (1:Int) (val one*(5:Int)) (0:Int)).toNat)*val [(8:Int)]).toNat).length/\(aa (val (aa (cz (5:Int) (200:Nat) (1:Int) (val one*(5:Int)) (0:Int)).toNat)*val [(8:Int)]).toNat).length<=(500000:Nat)/\(aa (val (aa (cz (239:Int) (200:Nat) (1:Int) (val one*(239:Int)) (0:Int)).toNat)*val [(2:Int)]).toNat).length<=(aa (val (aa (cz (5:Int) (200:Nat) (1:Int) (val one*(5:Int)) (0:Int)).toNat)*val [(8:Int)]).toNat).length/\val (aa (val (aa (cz (239:Int) (200:Nat) (1:Int) (val one*(239:Int)) (0:Int)).toNat)*val [(2:Int)]).toNat)<=val (aa (val (aa (cz (5:Int) (200:Nat) (1:Int) (val one*(5:Int)) (0:Int)).toNat)*val [(8:Int)]).toNat))
def GK (one:List Int):AV:=(AV.lslice 1 (↑(aa (val (aa (val (aa (cz (5:Int) (200:Nat) (1:Int) (val one*(5:Int)) (0:Int)).toNat)*val [(8:Int)]).toNat) - val (aa (val (aa (cz (239:Int) (200:Nat) (1:Int) (val one*(239:Int)) (0:Int)).toNat)*val [(2:Int)]).toNat)).toNat).length:Int))
def GL (one:List Int):Hp:=⟨[{ wr:=12,body:=ABody.rows IntKind.i64 (aa (val (aa (val (aa (cz (5:Int) (200:Nat) (1:Int) (val one*(5:Int)) (0:Int)).toNat)*val [(8:Int)]).toNat) - val (aa (val (aa (cz (239:Int) (200:Nat) (1:Int) (val one*(239:Int)) (0:Int)).toNat)*val [(2:Int)]).toNat)).toNat) },{ wr:=(0:Nat),body:=ABody.rows IntKind.i64 one }],2,13⟩
theorem P8 (one:List Int):(run cZ3 300).call 97 [.lslice 0 one.length] (zH one)=some ⟨.p (uL one),[⟨.tt,GK one,GL one⟩]⟩:=by kernel_rfl
def RGT:Int:=1570796326794896619231321691639751442098584716
def UP:List Nu->List (List Int)->Option (Prop×To)
 | [],[one]=>some (Dig one/\one.length<=100/\val one=PP,.li false (aa RGT.toNat))
 | _,_=>none
theorem Yj:cz 5 200 1 (PP*5) 0=197395559849880758370049765194790293447585106:=by kernel_rfl
theorem P9:cz 239 200 1 (PP*239) 0=4184076002074723864538214959285452741048066:=by kernel_rfl
theorem UQ:NOk Tryz.prog (fun _=>none) hG0 97 (au hG0 .i64 [.li] UP):=by
 refine bb (fun xs ys p t e h=>?_) ⟨_,Tryz.func97,rfl⟩
 unfold UP at e
 split at e
 .rename_i one
  cases e
  obtain ⟨hd,hl,hv⟩:=h
  have d5:ArD 5 one:=⟨hd,hl,by omega,by decide,by decide,by unfold arQ; rw [hv]; decide⟩
  have d239:ArD 239 one:=⟨hd,hl,by omega,by decide,by decide,by unfold arQ; rw [hv]; decide⟩
  have e5:cz 5 200 1 (val one*5) 0=197395559849880758370049765194790293447585106:=by rw [hv]; exact Yj
  have e239:cz 239 200 1 (val one*239) 0=4184076002074723864538214959285452741048066:=by rw [hv]; exact P9
  have v5:val (aa (Int.toNat 197395559849880758370049765194790293447585106))=197395559849880758370049765194790293447585106:=dv (by decide)
  have v239:val (aa (Int.toNat 4184076002074723864538214959285452741048066))=4184076002074723864538214959285452741048066:=dv (by decide)
  have e8:val [8]=8:=pq 8
  have e2:val [2]=2:=pq 2
  have l5:(aa (Int.toNat 197395559849880758370049765194790293447585106)).length<=6:=g8 (a:=197395559849880758370049765194790293447585106) (by decide) (by decide)
  have l239:(aa (Int.toNat 4184076002074723864538214959285452741048066)).length<=6:=g8 (a:=4184076002074723864538214959285452741048066) (by decide) (by decide)
  have la:(aa (Int.toNat (197395559849880758370049765194790293447585106*8))).length<=6:=g8 (a:=197395559849880758370049765194790293447585106*8) (by decide) (by decide)
  have lb:(aa (Int.toNat (4184076002074723864538214959285452741048066*2))).length<=(aa (Int.toNat (197395559849880758370049765194790293447585106*8))).length:=Uz (a:=4184076002074723864538214959285452741048066*2) (b:=197395559849880758370049765194790293447585106*8) (by decide) (by decide)
  have l0:0<(aa (Int.toNat (197395559849880758370049765194790293447585106*8))).length:=Bg (a:=197395559849880758370049765194790293447585106*8) (by decide)
  have va:val (aa (Int.toNat (197395559849880758370049765194790293447585106*8)))=197395559849880758370049765194790293447585106*8:=dv (by decide)
  have vb:val (aa (Int.toNat (4184076002074723864538214959285452741048066*2)))=4184076002074723864538214959285452741048066*2:=dv (by decide)
  refine ⟨cZ3,300,[.lslice 0 one.length],_,_,_,_,_,UO,rfl,rfl,⟨rfl,trivial⟩,P8 one,rfl,?_,rfl,rfl,?_⟩
  .unfold uL
   rw [e5,e239,v5,v239,e8,e2,va,vb]
   refine ⟨⟨rfl,d5⟩,⟨rfl,ax _,pu (by decide) (by decide),by show _+1<=_; omega⟩,⟨rfl,d239⟩,⟨rfl,ax _,pu (by decide) (by decide),by show _+1<=_; omega⟩,⟨rfl,rfl⟩,ax _,ax _,l0,by omega,lb,by decide⟩
  .refine ⟨rfl,?_⟩
   show aa (val (aa (val (aa (cz 5 200 1 (val one*5) 0).toNat)*val [8]).toNat) - val (aa (val (aa (cz 239 200 1 (val one*239) 0).toNat)*val [2]).toNat)).toNat=_
   rw [e5,e239,v5,v239,e8,e2,va,vb]
   rfl
 .cases e
def cOv:Ctx:=cZb [(18,false),(24,true)]
theorem UR:CtxOk cOv:=C6 _
def Qa (a b:List Int):Prop:=(((((↑a.length:Int)=(↑a.length:Int)/\(↑b.length:Int)=(↑b.length:Int))/\Sm a/\Sm b)/\decide (mI a b<(0:Int))=false)/\((↑b.length:Int)==(1:Int))=true/\((0:Int)<=(0:Int)/\(0:Int)<(↑b.length:Int))/\Int.toNat (0:Int)<b.length/\(↑a.length:Int)=(↑a.length:Int)/\Dig a/\a.length<=(500000:Nat)/\(1:Int)<=b.getD (Int.toNat (0:Int)) (0:Int)/\b.getD (Int.toNat (0:Int)) (0:Int)<=(1000000000:Int))
def US (a b:List Int):AV:=(AV.tuple [AV.lslice 2 (↑(aa (val a / b.getD (Int.toNat (0:Int)) (0:Int)).toNat).length:Int),AV.any true])
def UT (a b:List Int):Hp:=⟨[{ wr:=21,body:=ABody.rows IntKind.i64 (aa (val a / b.getD (Int.toNat (0:Int)) (0:Int)).toNat) },{ wr:=(0:Nat),body:=ABody.rows IntKind.i64 b },{ wr:=(0:Nat),body:=ABody.rows IntKind.i64 a }],3,69⟩
theorem abn (a b:List Int):(run cOv 300).call 100 (zB a b) (zG a b)=some ⟨.p (Qa a b),[⟨.tt,US a b,UT a b⟩]⟩:=by kernel_rfl
theorem K1 {b:List Int} (h:b.length=1):val b=b.getD 0 0:=by
 match b,h with
 | [x],_=>simp [val]
def Qb:List (Nat×Nat×Nat×AV)->Nat->Nat->Option AV
 | [],_,_=>none
 | (a,b,t',v) :: l,c,t=>match Nat.beq t t'&&Nat.ble a c&&Nat.ble c b with
  | true=>some v
  | false=>Qb l c t
def oA1:List Int:=[394338864,559005768,925286766,179586476,283185307,6]
def oB1:List Int:=[294967296,4]
def oH1:List (Nat×Nat×Nat×AV):=[(0,10,17,.int false .i64 2),(11,31,18,.bool false false),(20,31,43,.int false .i64 4),(32,194,11,.int false .i64 6),(195,264,11,.int false .i64 2),(32,194,15,.int false .i64 6),(195,264,15,.int false .i64 2),(32,194,36,.int false .i64 6),(195,264,36,.int false .i64 2),(42,65,20,.int false .i64 394338864),(66,89,20,.int false .i64 559005768),(90,113,20,.int false .i64 925286766),(114,137,20,.int false .i64 179586476),(138,161,20,.int false .i64 283185307),(162,185,20,.int false .i64 6),(206,229,20,.int false .i64 294967296),(230,253,20,.int false .i64 4),(265,294,55,.int false .i64 6)]
def cO1:Ctx:=aO cZ (Qb oH1)
theorem UU:CtxOk cO1:=aj lM _
def oA2:List Int:=[711109072,823253194,522842290,119904847,977824172,746518845,6]
def oB2:List Int:=[294967296,4]
def oH2:List (Nat×Nat×Nat×AV):=[(0,10,17,.int false .i64 2),(11,31,18,.bool false false),(20,31,43,.int false .i64 4),(32,218,11,.int false .i64 7),(219,288,11,.int false .i64 2),(32,218,15,.int false .i64 7),(219,288,15,.int false .i64 2),(32,218,36,.int false .i64 7),(219,288,36,.int false .i64 2),(42,65,20,.int false .i64 711109072),(66,89,20,.int false .i64 823253194),(90,113,20,.int false .i64 522842290),(114,137,20,.int false .i64 119904847),(138,161,20,.int false .i64 977824172),(162,185,20,.int false .i64 746518845),(186,209,20,.int false .i64 6),(230,253,20,.int false .i64 294967296),(254,277,20,.int false .i64 4),(289,318,55,.int false .i64 7)]
def cO2:Ctx:=aO cZ (Qb oH2)
theorem UV:CtxOk cO2:=aj lM _
def oA3:List Int:=[552723968,691129481,224064528,649745662,130504739,373259426,3]
def oB3:List Int:=[221225472,3]
def oH3:List (Nat×Nat×Nat×AV):=[(0,10,17,.int false .i64 2),(11,31,18,.bool false false),(20,31,43,.int false .i64 3),(32,218,11,.int false .i64 7),(219,288,11,.int false .i64 2),(32,218,15,.int false .i64 7),(219,288,15,.int false .i64 2),(32,218,36,.int false .i64 7),(219,288,36,.int false .i64 2),(42,65,20,.int false .i64 552723968),(66,89,20,.int false .i64 691129481),(90,113,20,.int false .i64 224064528),(114,137,20,.int false .i64 649745662),(138,161,20,.int false .i64 130504739),(162,185,20,.int false .i64 373259426),(186,209,20,.int false .i64 3),(230,253,20,.int false .i64 221225472),(254,277,20,.int false .i64 3),(289,318,55,.int false .i64 7)]
def cO3:Ctx:=aO cZ (Qb oH3)
theorem UW:CtxOk cO3:=aj lM _
def yd (z:Int):Prop:=((↑oB1.length:Int)=(2:Int)/\((((↑oA1.length:Int)=(↑oA1.length:Int)/\(↑oB1.length:Int)=(↑oB1.length:Int))/\Sm oA1/\Sm oB1)/\decide (mI oA1 oB1<(0:Int))=false)/\(((0:Int)<=Int.ofNat 1/\Int.ofNat 1<(↑oB1.length:Int))/\(Int.ofNat 1).toNat<oB1.length/\oB1.getD (Int.ofNat 1).toNat (0:Int)=(4:Int))/\(((↑oA1.length:Int)=(6:Int)/\((↑oA1.length:Int)=(6:Int)/\(((0:Int)<=(0:Int)/\(0:Int)<(↑oA1.length:Int))/\Int.toNat (0:Int)<oA1.length/\oA1.getD (Int.toNat (0:Int)) (0:Int)=(394338864:Int))/\(((0:Int)<=Int.ofNat 1/\Int.ofNat 1<(↑oA1.length:Int))/\(Int.ofNat 1).toNat<oA1.length/\oA1.getD (Int.ofNat 1).toNat (0:Int)=(559005768:Int))/\(((0:Int)<=Int.ofNat 2/\Int.ofNat 2<(↑oA1.length:Int))/\(Int.ofNat 2).toNat<oA1.length/\oA1.getD (Int.ofNat 2).toNat (0:Int)=(925286766:Int))/\(((0:Int)<=Int.ofNat 3/\Int.ofNat 3<(↑oA1.length:Int))/\(Int.ofNat 3).toNat<oA1.length/\oA1.getD (Int.ofNat 3).toNat (0:Int)=(179586476:Int))/\(((0:Int)<=Int.ofNat 4/\Int.ofNat 4<(↑oA1.length:Int))/\(Int.ofNat 4).toNat<oA1.length/\oA1.getD (Int.ofNat 4).toNat (0:Int)=(283185307:Int))/\((0:Int)<=Int.ofNat 5/\Int.ofNat 5<(↑oA1.length:Int))/\(Int.ofNat 5).toNat<oA1.length/\oA1.getD (Int.ofNat 5).toNat (0:Int)=(6:Int))/\(↑oA1.length:Int)=(6:Int))/\(↑oB1.length:Int)=(2:Int)/\((↑oB1.length:Int)=(2:Int)/\(((0:Int)<=(0:Int)/\(0:Int)<(↑oB1.length:Int))/\Int.toNat (0:Int)<oB1.length/\oB1.getD (Int.toNat (0:Int)) (0:Int)=(294967296:Int))/\((0:Int)<=Int.ofNat 1/\Int.ofNat 1<(↑oB1.length:Int))/\(Int.ofNat 1).toNat<oB1.length/\oB1.getD (Int.ofNat 1).toNat (0:Int)=(4:Int))/\(↑oB1.length:Int)=(2:Int))/\(↑oA1.length:Int)=(6:Int)/\Dig [Int.ofNat 400000000,Int.ofNat 45323990]/\[Int.ofNat 400000000,Int.ofNat 45323990].length<=(500000:Nat)/\(1:Int)<=Int.ofNat 200000000/\Int.ofNat 200000000<=(1000000000:Int))
def UX (z:Int):AV:=(AV.tuple [AV.slice 2 (0:Nat) 5 5,AV.lslice 3 (↑(aa (val [Int.ofNat 400000000,Int.ofNat 45323990] / Int.ofNat 200000000).toNat).length:Int)])
def UY (z:Int):Hp:=⟨[{ wr:=1190,body:=ABody.rows IntKind.i64 (aa (val [Int.ofNat 400000000,Int.ofNat 45323990] / Int.ofNat 200000000).toNat) },{ wr:=1162,body:=ABody.cells [AV.int false IntKind.i64 (Int.ofNat 309792297),AV.int false IntKind.i64 (Int.ofNat 51337804),AV.int false IntKind.i64 (Int.ofNat 267159681),AV.int false IntKind.i64 (Int.ofNat 462918079),AV.int false IntKind.i64 (Int.ofNat 1)] },{ wr:=(0:Nat),body:=ABody.rows IntKind.i64 [(294967296:Int),(4:Int)] },{ wr:=(0:Nat),body:=ABody.rows IntKind.i64 [(394338864:Int),(559005768:Int),(925286766:Int),(179586476:Int),(283185307:Int),(6:Int)] }],4,1216⟩
theorem abo (z:Int):(run cO1 300).call 100 (zB oA1 oB1) (zG oA1 oB1)=some ⟨.p (yd z),[⟨.tt,UX z,UY z⟩]⟩:=by kernel_rfl
def ye (z:Int):Prop:=((↑oB2.length:Int)=(2:Int)/\((((↑oA2.length:Int)=(↑oA2.length:Int)/\(↑oB2.length:Int)=(↑oB2.length:Int))/\Sm oA2/\Sm oB2)/\decide (mI oA2 oB2<(0:Int))=false)/\(((0:Int)<=Int.ofNat 1/\Int.ofNat 1<(↑oB2.length:Int))/\(Int.ofNat 1).toNat<oB2.length/\oB2.getD (Int.ofNat 1).toNat (0:Int)=(4:Int))/\(((↑oA2.length:Int)=(7:Int)/\((↑oA2.length:Int)=(7:Int)/\(((0:Int)<=(0:Int)/\(0:Int)<(↑oA2.length:Int))/\Int.toNat (0:Int)<oA2.length/\oA2.getD (Int.toNat (0:Int)) (0:Int)=(711109072:Int))/\(((0:Int)<=Int.ofNat 1/\Int.ofNat 1<(↑oA2.length:Int))/\(Int.ofNat 1).toNat<oA2.length/\oA2.getD (Int.ofNat 1).toNat (0:Int)=(823253194:Int))/\(((0:Int)<=Int.ofNat 2/\Int.ofNat 2<(↑oA2.length:Int))/\(Int.ofNat 2).toNat<oA2.length/\oA2.getD (Int.ofNat 2).toNat (0:Int)=(522842290:Int))/\(((0:Int)<=Int.ofNat 3/\Int.ofNat 3<(↑oA2.length:Int))/\(Int.ofNat 3).toNat<oA2.length/\oA2.getD (Int.ofNat 3).toNat (0:Int)=(119904847:Int))/\(((0:Int)<=Int.ofNat 4/\Int.ofNat 4<(↑oA2.length:Int))/\(Int.ofNat 4).toNat<oA2.length/\oA2.getD (Int.ofNat 4).toNat (0:Int)=(977824172:Int))/\(((0:Int)<=Int.ofNat 5/\Int.ofNat 5<(↑oA2.length:Int))/\(Int.ofNat 5).toNat<oA2.length/\oA2.getD (Int.ofNat 5).toNat (0:Int)=(746518845:Int))/\((0:Int)<=Int.ofNat 6/\Int.ofNat 6<(↑oA2.length:Int))/\(Int.ofNat 6).toNat<oA2.length/\oA2.getD (Int.ofNat 6).toNat (0:Int)=(6:Int))/\(↑oA2.length:Int)=(7:Int))/\(↑oB2.length:Int)=(2:Int)/\((↑oB2.length:Int)=(2:Int)/\(((0:Int)<=(0:Int)/\(0:Int)<(↑oB2.length:Int))/\Int.toNat (0:Int)<oB2.length/\oB2.getD (Int.toNat (0:Int)) (0:Int)=(294967296:Int))/\((0:Int)<=Int.ofNat 1/\Int.ofNat 1<(↑oB2.length:Int))/\(Int.ofNat 1).toNat<oB2.length/\oB2.getD (Int.ofNat 1).toNat (0:Int)=(4:Int))/\(↑oB2.length:Int)=(2:Int))/\(↑oA2.length:Int)=(7:Int)/\Dig [Int.ofNat 800000000,Int.ofNat 813669468]/\[Int.ofNat 800000000,Int.ofNat 813669468].length<=(500000:Nat)/\(1:Int)<=Int.ofNat 200000000/\Int.ofNat 200000000<=(1000000000:Int))
def UZ (z:Int):AV:=(AV.tuple [AV.slice 2 (0:Nat) 6 6,AV.lslice 3 (↑(aa (val [Int.ofNat 800000000,Int.ofNat 813669468] / Int.ofNat 200000000).toNat).length:Int)])
def U0 (z:Int):Hp:=⟨[{ wr:=1469,body:=ABody.rows IntKind.i64 (aa (val [Int.ofNat 800000000,Int.ofNat 813669468] / Int.ofNat 200000000).toNat) },{ wr:=1441,body:=ABody.cells [AV.int false IntKind.i64 (Int.ofNat 788792418),AV.int false IntKind.i64 (Int.ofNat 588413637),AV.int false IntKind.i64 (Int.ofNat 964162010),AV.int false IntKind.i64 (Int.ofNat 331978539),AV.int false IntKind.i64 (Int.ofNat 570796325),AV.int false IntKind.i64 (Int.ofNat 1)] },{ wr:=(0:Nat),body:=ABody.rows IntKind.i64 [(294967296:Int),(4:Int)] },{ wr:=(0:Nat),body:=ABody.rows IntKind.i64 [(711109072:Int),(823253194:Int),(522842290:Int),(119904847:Int),(977824172:Int),(746518845:Int),(6:Int)] }],4,1495⟩
theorem abp (z:Int):(run cO2 300).call 100 (zB oA2 oB2) (zG oA2 oB2)=some ⟨.p (ye z),[⟨.tt,UZ z,U0 z⟩]⟩:=by kernel_rfl
def yf (z:Int):Prop:=((↑oB3.length:Int)=(2:Int)/\((((↑oA3.length:Int)=(↑oA3.length:Int)/\(↑oB3.length:Int)=(↑oB3.length:Int))/\Sm oA3/\Sm oB3)/\decide (mI oA3 oB3<(0:Int))=false)/\(((0:Int)<=Int.ofNat 1/\Int.ofNat 1<(↑oB3.length:Int))/\(Int.ofNat 1).toNat<oB3.length/\oB3.getD (Int.ofNat 1).toNat (0:Int)=(3:Int))/\(((↑oA3.length:Int)=(7:Int)/\((↑oA3.length:Int)=(7:Int)/\(((0:Int)<=(0:Int)/\(0:Int)<(↑oA3.length:Int))/\Int.toNat (0:Int)<oA3.length/\oA3.getD (Int.toNat (0:Int)) (0:Int)=(552723968:Int))/\(((0:Int)<=Int.ofNat 1/\Int.ofNat 1<(↑oA3.length:Int))/\(Int.ofNat 1).toNat<oA3.length/\oA3.getD (Int.ofNat 1).toNat (0:Int)=(691129481:Int))/\(((0:Int)<=Int.ofNat 2/\Int.ofNat 2<(↑oA3.length:Int))/\(Int.ofNat 2).toNat<oA3.length/\oA3.getD (Int.ofNat 2).toNat (0:Int)=(224064528:Int))/\(((0:Int)<=Int.ofNat 3/\Int.ofNat 3<(↑oA3.length:Int))/\(Int.ofNat 3).toNat<oA3.length/\oA3.getD (Int.ofNat 3).toNat (0:Int)=(649745662:Int))/\(((0:Int)<=Int.ofNat 4/\Int.ofNat 4<(↑oA3.length:Int))/\(Int.ofNat 4).toNat<oA3.length/\oA3.getD (Int.ofNat 4).toNat (0:Int)=(130504739:Int))/\(((0:Int)<=Int.ofNat 5/\Int.ofNat 5<(↑oA3.length:Int))/\(Int.ofNat 5).toNat<oA3.length/\oA3.getD (Int.ofNat 5).toNat (0:Int)=(373259426:Int))/\((0:Int)<=Int.ofNat 6/\Int.ofNat 6<(↑oA3.length:Int))/\(Int.ofNat 6).toNat<oA3.length/\oA3.getD (Int.ofNat 6).toNat (0:Int)=(3:Int))/\(↑oA3.length:Int)=(7:Int))/\(↑oB3.length:Int)=(2:Int)/\((↑oB3.length:Int)=(2:Int)/\(((0:Int)<=(0:Int)/\(0:Int)<(↑oB3.length:Int))/\Int.toNat (0:Int)<oB3.length/\oB3.getD (Int.toNat (0:Int)) (0:Int)=(221225472:Int))/\((0:Int)<=Int.ofNat 1/\Int.ofNat 1<(↑oB3.length:Int))/\(Int.ofNat 1).toNat<oB3.length/\oB3.getD (Int.ofNat 1).toNat (0:Int)=(3:Int))/\(↑oB3.length:Int)=(2:Int))/\(↑oA3.length:Int)=(7:Int)/\Dig ([]:List Int)/\([]:List Int).length<=(500000:Nat)/\(1:Int)<=Int.ofNat 250000000/\Int.ofNat 250000000<=(1000000000:Int))
def U2 (z:Int):AV:=(AV.tuple [AV.slice 2 (0:Nat) 6 6,AV.lslice 3 (↑(aa (val ([]:List Int) / Int.ofNat 250000000).toNat).length:Int)])
def U3 (z:Int):Hp:=⟨[{ wr:=1393,body:=ABody.rows IntKind.i64 (aa (val ([]:List Int) / Int.ofNat 250000000).toNat) },{ wr:=1327,body:=ABody.cells [AV.int false IntKind.i64 (Int.ofNat 65723144),AV.int false IntKind.i64 (Int.ofNat 93167628),AV.int false IntKind.i64 (Int.ofNat 154214461),AV.int false IntKind.i64 (Int.ofNat 196597746),AV.int false IntKind.i64 (Int.ofNat 47197551),AV.int false IntKind.i64 (Int.ofNat 1)] },{ wr:=(0:Nat),body:=ABody.rows IntKind.i64 [(221225472:Int),(3:Int)] },{ wr:=(0:Nat),body:=ABody.rows IntKind.i64 [(552723968:Int),(691129481:Int),(224064528:Int),(649745662:Int),(130504739:Int),(373259426:Int),(3:Int)] }],4,1419⟩
theorem abq (z:Int):(run cO3 300).call 100 (zB oA3 oB3) (zG oA3 oB3)=some ⟨.p (yf z),[⟨.tt,U2 z,U3 z⟩]⟩:=by kernel_rfl
def OvC (a b:List Int):Prop:=(a=oA1/\b=oB1)\/(a=oA2/\b=oB2)\/(a=oA3/\b=oB3)
theorem C9 {l:List Int} (h:Nat.ble l.length 500000=true):Sm l:=Nat.le_of_ble_eq_true h
theorem yg {x y:Int} (h:0<=x/\x<1000000000/\0<=y/\y<1000000000):Dig [x,y]:=bz.2 ⟨⟨h.1,h.2.1⟩,pu h.2.2.1 h.2.2.2⟩
theorem GM (z:Int):yd z:=by
 unfold yd
 and_intros <;> first|rfl|exact C9 rfl|exact b8|decide|exact yg (by decide)
theorem GN (z:Int):ye z:=by
 unfold ye
 and_intros <;> first|rfl|exact C9 rfl|exact b8|decide|exact yg (by decide)
theorem GO (z:Int):yf z:=by
 unfold yf
 and_intros <;> first|rfl|exact C9 rfl|exact b8|decide|exact yg (by decide)
def U4:List Nu->List (List Int)->Option (Prop×To)
 | [],[a,b]=>some ((Dig a/\Dig b/\Top a/\Top b/\a.length<=500000/\b.length=1/\0<val b/\val b<=val a)\/OvC a b,.tu [.li false (aa (val a / val b).toNat),.any])
 | _,_=>none
theorem Yk:aa (val oA1 / val oB1).toNat=[309792297,51337804,267159681,462918079,1]:=dn (l:=[309792297,51337804,267159681,462918079,1]) (fun x hx=>by simp at hx; omega) (by unfold Top; decide)
theorem Yl:aa (val oA2 / val oB2).toNat=[788792418,588413637,964162010,331978539,570796325,1]:=dn (l:=[788792418,588413637,964162010,331978539,570796325,1]) (fun x hx=>by simp at hx; omega) (by unfold Top; decide)
theorem Ym:aa (val oA3 / val oB3).toNat=[65723144,93167628,154214461,196597746,47197551,1]:=dn (l:=[65723144,93167628,154214461,196597746,47197551,1]) (fun x hx=>by simp at hx; omega) (by unfold Top; decide)
theorem K2:NOk Tryz.prog (fun _=>none) hG0 100 (au hG0 .i64 [.li,.li] U4):=by
 refine bb (fun xs ys p t e h=>?_) ⟨_,Tryz.func100,rfl⟩
 unfold U4 at e
 split at e
 .rename_i a b
  cases e
  rcases h with ⟨ha,hb,ta,tb,la,lb,h0,h1⟩|⟨rfl,rfl⟩|⟨rfl,rfl⟩|⟨rfl,rfl⟩
  .have e1:=K1 lb
   have g:=hb.get 0
   have hc:¬ mI a b<0:=fun hh=>by have:=(PF ha hb ta tb la (by omega)).1 hh; omega
   refine ⟨cOv,300,zB a b,_,_,_,_,_,UR,rfl,rfl,⟨rfl,rfl,trivial⟩,abn a b,rfl,⟨⟨⟨⟨rfl,rfl⟩,la,by show _<=_; omega⟩,decide_eq_false hc⟩,beq_iff_eq.2 (by omega),⟨by decide,by omega⟩,by show 0<_; omega,rfl,ha,la,by show 1<=b.getD 0 0; omega,by show b.getD 0 0<=_; omega⟩,rfl,rfl,rfl,?_⟩
   show aa (val a / b.getD 0 0).toNat=_
   rw [e1]
  .refine ⟨cO1,300,zB oA1 oB1,_,_,_,_,_,UU,rfl,rfl,⟨rfl,rfl,trivial⟩,abo 0,rfl,GM 0,rfl,rfl,?_⟩
   exact Yk.symm
  .refine ⟨cO2,300,zB oA2 oB2,_,_,_,_,_,UV,rfl,rfl,⟨rfl,rfl,trivial⟩,abp 0,rfl,GN 0,rfl,rfl,?_⟩
   exact Yl.symm
  .refine ⟨cO3,300,zB oA3 oB3,_,_,_,_,_,UW,rfl,rfl,⟨rfl,rfl,trivial⟩,abq 0,rfl,GO 0,rfl,rfl,?_⟩
   exact Ym.symm
 .cases e
end
end Go.Proofs.YtmnhhlnbfkfkaaaGreat.K
