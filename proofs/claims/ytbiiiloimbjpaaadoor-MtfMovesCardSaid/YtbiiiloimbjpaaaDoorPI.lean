/- What is proved: MtfMoves returns true, whatever the input (part 9). No conditions beyond those of the row. -/
import Derived.Test.YtbiiiloimbjpaaaDoorPH
import Derived.KernelRfl
set_option linter.unusedVariables false
set_option linter.unusedSimpArgs false
set_option linter.unusedSectionVars false
namespace Go.Dg
open Go Go.Eng
def fJ:List Int->List Int->List Int
 | x :: a,y :: b=>(x - y) :: fJ a b
 | a,[]=>a
 | [],_ :: _=>[]
def lG:List Int->List Int->List Int
 | x :: a,y :: b=>(x+y) :: lG a b
 | a,[]=>a
 | [],_ :: _=>[]
theorem zI (a:List Int):fJ a []=a:=by cases a <;> rfl
theorem zJ (a:List Int):lG a []=a:=by cases a <;> rfl
theorem uw:∀ a b:List Int,(fJ a b).length=a.length
 | [],[]=>rfl
 | x :: a,[]=>rfl
 | [],_ :: _=>rfl
 | x :: a,y :: b=>by simp [fJ,uw a b]
theorem uy:∀ a b:List Int,(lG a b).length=a.length
 | [],[]=>rfl
 | x :: a,[]=>rfl
 | [],_ :: _=>rfl
 | x :: a,y :: b=>by simp [lG,uy a b]
theorem zK:∀ (a b:List Int) (i:Nat),i<a.length->(fJ a b).getD i 0=a.getD i 0 - b.getD i 0
 | [],_,i,h=>by simp at h
 | x :: a,[],i,h=>by simp [fJ]
 | x :: a,y :: b,0,h=>by simp [fJ]
 | x :: a,y :: b,i+1,h=>by
  have:=zK a b i (by simpa using h)
  simpa [fJ] using this
theorem uz:∀ (a b:List Int) (i:Nat),i<a.length->(lG a b).getD i 0=a.getD i 0+b.getD i 0
 | [],_,i,h=>by simp at h
 | x :: a,[],i,h=>by simp [lG]
 | x :: a,y :: b,0,h=>by simp [lG]
 | x :: a,y :: b,i+1,h=>by
  have:=uz a b i (by simpa using h)
  simpa [lG] using this
theorem BB:∀ (a b:List Int) (i:Nat),i<b.length->b.length<=a.length->(fJ a (b.take i)).set i ((fJ a (b.take i)).getD i 0 - b.getD i 0)=fJ a (b.take (i+1))
 | _,[],i,h,_=>by simp at h
 | [],y :: b,i,h,h2=>by simp at h2
 | x :: a,y :: b,0,h,_=>by simp [fJ,zI]
 | x :: a,y :: b,i+1,h,h2=>by
  have:=BB a b i (by simpa using h) (by simpa using h2)
  simpa [fJ] using this
theorem BC:∀ (a b:List Int) (i:Nat),i<b.length->b.length<=a.length->(lG a (b.take i)).set i ((lG a (b.take i)).getD i 0+b.getD i 0)=lG a (b.take (i+1))
 | _,[],i,h,_=>by simp at h
 | [],y :: b,i,h,h2=>by simp at h2
 | x :: a,y :: b,0,h,_=>by simp [lG,zJ]
 | x :: a,y :: b,i+1,h,h2=>by
  have:=BC a b i (by simpa using h) (by simpa using h2)
  simpa [lG] using this
theorem Gf:∀ (a b:List Int),b.length<=a.length->val (fJ a b)=val a - val b
 | a,[],_=>by simp [zI,val]
 | [],y :: b,h=>by simp at h
 | x :: a,y :: b,h=>by
  have:=Gf a b (by simpa using h)
  simp only [fJ,val]
  omega
theorem Gg:∀ (a b:List Int),b.length<=a.length->val (lG a b)=val a+val b
 | a,[],_=>by simp [zJ,val]
 | [],y :: b,h=>by simp at h
 | x :: a,y :: b,h=>by
  have:=Gg a b (by simpa using h)
  simp only [lG,val]
  omega
theorem IC {d:List Int} (h:∀ j,j<d.length->0<=d.getD j 0/\d.getD j 0<1000000000):Dig d:=by
 intro x hx
 obtain ⟨j,hj,rfl⟩:=List.getElem_of_mem hx
 have:=h j hj
 simpa [List.getD_eq_getElem?_getD,List.getElem?_eq_getElem hj] using this
structure NbI (L:Nat) (V:Int) (i:Nat) (d:List Int):Prop where
 l:d.length=L
 i1:i<=L
 lo:∀ j,j<i->0<=d.getD j 0/\d.getD j 0<1000000000
 me:-1000000000<=d.getD i 0/\d.getD i 0<1000000000
 hi:∀ j,i<j->-1000000000<d.getD j 0/\d.getD j 0<1000000000
 v:val d=V
theorem NbI.start {a b:List Int} (ha:Dig a) (hb:Dig b) (hl:b.length<=a.length):NbI a.length (val a - val b) 0 (fJ a b):=by
 have g:∀ j,-1000000000<(fJ a b).getD j 0/\(fJ a b).getD j 0<1000000000:=by
  intro j
  rcases Nat.lt_or_ge j a.length with h|h
  .rw [zK a b j h]
   have:=ha.get j
   have:=hb.get j
   omega
  .rw [List.getD_eq_getElem?_getD,List.getElem?_eq_none (by rw [uw]; exact h)]
   simp
 exact ⟨uw a b,Nat.zero_le _,fun j hj=>by omega,⟨by have:=g 0; omega,(g 0).2⟩,fun j _=>g j,Gf a b hl⟩
theorem UH {d:List Int} {i:Nat} (hl:d.length=i+1) (lo:∀ j,j<i->0<=d.getD j 0/\d.getD j 0<1000000000) (hn:d.getD i 0<0):val d<0:=by
 have e:val d=val (d.take i)+pw i*d.getD i 0:=by
  rw [<- dI (by omega),<- hl,List.take_length]
 have dg:Dig (d.take i):=by
  apply IC
  intro j hj
  rw [List.length_take] at hj
  have:=lo j (by omega)
  simpa [List.getD_eq_getElem?_getD,List.getElem?_take,show j<i by omega] using this
 have h1:=fZ dg
 rw [List.length_take,Nat.min_eq_left (by omega)] at h1
 have h2:pw i*d.getD i 0<=pw i * -1:=Int.mul_le_mul_of_nonneg_left (by omega) (Int.le_of_lt (pw_pos i))
 omega
theorem NbI.in {L:Nat} {V:Int} {i:Nat} {d:List Int} (h:NbI L V i d) (hV:0<=V) (hi:i<L) (hn:d.getD i 0<0):i+1<L:=by
 rcases Nat.lt_or_ge (i+1) L with h1|h1
 .exact h1
 .have:=UH (i:=i) (by rw [h.l]; omega) h.lo hn
  rw [h.v] at this
  omega
theorem NbI.skip {L:Nat} {V:Int} {i:Nat} {d:List Int} (h:NbI L V i d) (hi:i<L) (hn:¬ d.getD i 0<0):NbI L V (i+1) d:=by
 obtain ⟨l,i1,lo,me,hi',v⟩:=h
 refine ⟨l,hi,fun j hj=>?_,?_,fun j hj=>hi' j (by omega),v⟩
 .rcases Nat.lt_or_ge j i with h1|h1
  .exact lo j h1
  .have:j=i:=by omega
   subst this; omega
 .have:=hi' (i+1) (by omega); omega
theorem NbI.step {L:Nat} {V:Int} {i:Nat} {d:List Int} (h:NbI L V i d) (hV:0<=V) (hi:i<L) (hn:d.getD i 0<0):
  NbI L V (i+1) ((d.set i (d.getD i 0+1000000000)).set (i+1) ((d.set i (d.getD i 0+1000000000)).getD (i+1) 0 - 1)):=by
 have h1:=h.in hV hi hn
 obtain ⟨l,i1,lo,me,hi',v⟩:=h
 have e1:(d.set i (d.getD i 0+1000000000)).getD (i+1) 0=d.getD (i+1) 0:=getD_set (by omega)
 rw [e1]
 have hn1:=hi' (i+1) (by omega)
 refine ⟨by simp [l],hi,fun j hj=>?_,?_,fun j hj=>?_,?_⟩
 .rw [getD_set (by omega)]
  rcases Nat.lt_or_ge j i with h2|h2
  .rw [getD_set (by omega)]; exact lo j h2
  .have:j=i:=by omega
   subst this
   rw [gB (by omega)]; omega
 .rw [gB (by rw [List.length_set]; omega)]; omega
 .rw [getD_set (by omega),getD_set (by omega)]
  exact hi' j (by omega)
 .rw [kX _ _ _ (by rw [List.length_set]; omega),kX _ _ _ (by omega),e1,jT]
  grind
theorem NbI.fin {L:Nat} {V:Int} {d:List Int} (h:NbI L V L d):d=aW L V:=by
 exact oU (IC fun j hj=>h.lo j (by rw [<- h.l]; exact hj)) h.l h.v
structure NcI (L:Nat) (V:Int) (i:Nat) (d:List Int):Prop where
 l:d.length=L+1
 i1:i<=L
 lo:∀ j,j<i->0<=d.getD j 0/\d.getD j 0<1000000000
 me:0<=d.getD i 0/\d.getD i 0<2000000000
 hi:∀ j,i<j->0<=d.getD j 0/\d.getD j 0<1999999999
 t0:i<L->d.getD L 0=0
 t1:d.getD L 0<=1
 v:val d=V
theorem NcI.start {a b:List Int} (ha:Dig a) (hb:Dig b) (hl:b.length<=a.length):NcI a.length (val a+val b) 0 (lG (a++[0]) b):=by
 have da:Dig (a++[0]):=J3.2 ⟨ha,bQ.2 ⟨by omega,jR⟩⟩
 have ll:(a++[(0:Int)]).length=a.length+1:=by simp
 have g:∀ j,0<=(lG (a++[0]) b).getD j 0/\(lG (a++[0]) b).getD j 0<1999999999:=by
  intro j
  rcases Nat.lt_or_ge j (a++[(0:Int)]).length with h|h
  .rw [uz _ b j h]
   have:=da.get j
   have:=hb.get j
   omega
  .rw [List.getD_eq_getElem?_getD,List.getElem?_eq_none (by rw [uy]; exact h)]
   simp
 have top:(lG (a++[0]) b).getD a.length 0=0:=by
  rw [uz _ b _ (by omega)]
  have e1:(a++[(0:Int)]).getD a.length 0=0:=by simp [List.getD_eq_getElem?_getD]
  have e2:b.getD a.length 0=0:=by rw [List.getD_eq_getElem?_getD,List.getElem?_eq_none hl]; rfl
  omega
 refine ⟨by rw [uy,ll],Nat.zero_le _,fun j hj=>by omega,⟨(g 0).1,by have:=(g 0).2; omega⟩,fun j _=>g j,fun _=>top,by omega,?_⟩
 rw [Gg _ b (by rw [ll]; omega),Dn]
 simp [val]
theorem NcI.skip {L:Nat} {V:Int} {i:Nat} {d:List Int} (h:NcI L V i d) (hi:i<L) (hn:¬ 1000000000<=d.getD i 0):NcI L V (i+1) d:=by
 obtain ⟨l,i1,lo,me,hi',t0,t1,v⟩:=h
 refine ⟨l,hi,fun j hj=>?_,?_,fun j hj=>hi' j (by omega),fun _=>t0 hi,t1,v⟩
 .rcases Nat.lt_or_ge j i with h1|h1
  .exact lo j h1
  .have:j=i:=by omega
   subst this; omega
 .have:=hi' (i+1) (by omega); omega
theorem NcI.step {L:Nat} {V:Int} {i:Nat} {d:List Int} (h:NcI L V i d) (hi:i<L) (hn:1000000000<=d.getD i 0):
  NcI L V (i+1) ((d.set i (d.getD i 0 - 1000000000)).set (i+1) ((d.set i (d.getD i 0 - 1000000000)).getD (i+1) 0+1)):=by
 obtain ⟨l,i1,lo,me,hi',t0,t1,v⟩:=h
 have e1:(d.set i (d.getD i 0 - 1000000000)).getD (i+1) 0=d.getD (i+1) 0:=getD_set (by omega)
 rw [e1]
 have hn1:=hi' (i+1) (by omega)
 refine ⟨by simp [l],hi,fun j hj=>?_,?_,fun j hj=>?_,fun h2=>?_,?_,?_⟩
 .rw [getD_set (by omega)]
  rcases Nat.lt_or_ge j i with h2|h2
  .rw [getD_set (by omega)]; exact lo j h2
  .have:j=i:=by omega
   subst this
   rw [gB (by omega)]; omega
 .rw [gB (by rw [List.length_set]; omega)]; omega
 .rw [getD_set (by omega),getD_set (by omega)]
  exact hi' j (by omega)
 .rw [getD_set (by omega),getD_set (by omega)]
  exact t0 hi
 .rcases Nat.lt_or_ge (i+1) L with h2|h2
  .rw [getD_set (by omega),getD_set (by omega),t0 hi]; decide
  .have e2:i+1=L:=by omega
   have z:=t0 hi
   rw [<- e2] at z ⊢
   rw [gB (by rw [List.length_set]; omega),z]; decide
 .rw [kX _ _ _ (by rw [List.length_set]; omega),kX _ _ _ (by omega),e1,jT]
  grind
theorem NcI.fin {L:Nat} {V:Int} {d:List Int} (h:NcI L V L d):d=aW (L+1) V:=by
 refine oU (IC fun j hj=>?_) h.l h.v
 rw [h.l] at hj
 rcases Nat.lt_or_ge j L with h1|h1
 .exact h.lo j h1
 .have e:j=L:=by omega
  have h2:=h.t1
  have h3:=h.me
  subst e
  omega
end Go.Dg
namespace Go.Proofs.YtbiiiloimbjpaaaDoor.K
open Go Go.Eng Go.Dg
noncomputable section
def vK:AFr:=⟨78,none⟩
noncomputable def LD:Code:=iX Tryd.prog 78 0
noncomputable def IE:Code:=iX Tryd.prog 78 1
noncomputable def m1S (a b:List Int):St:=uo cL 300 78 (zB a b) (zG a b)
def m1P (i:Int) (d:List Int):Patch:=⟨fD 6 2++(13,.int true .i64 i) :: fD 14 12,[(2,.ints .i64 d)],[]⟩
def m1X (a b:List Int):Patch:=m1P b.length (fJ a (b.take ((b.length:Int)).toNat))
def m1U (a b:List Int):SumL Int:=
 {
  S:=fun i=>m1P i (fJ a (b.take i.toNat))
  I:=fun i=>0<=i/\i<=b.length
  μ:=fun i=>(b.length - i).toNat
  F:=fun _=>(.exit 0,m1X a b)
  next:=fun i=>i+1
  ids:=fun _=>[]
  X:=fun i _=>some (m1P i (fJ a (b.take i.toNat)),[]) }
noncomputable def cM1 (a b:List Int):Ctx:=bg cL [bY 78 (m1S a b).hp.clock vK LD (m1S a b) (.exit 0) (m1X a b)]
noncomputable def m2S (a b:List Int):St:=uo (cM1 a b) 300 78 (zB a b) (zG a b)
def m2P (i:Int) (d:List Int):Patch:=⟨(8,.any false) :: (28,.int true .i64 i) :: fD 29 21,[(2,.ints .i64 d)],[]⟩
def zL (a b:List Int):Int:=val a - val b
def m2U (a b:List Int):SumL (Int×List Int):=
 {
  S:=fun (i,d)=>m2P i d
  I:=fun (i,d)=>0<=i/\NbI a.length (zL a b) i.toNat d
  μ:=fun (i,_)=>(a.length - i).toNat
  F:=fun _=>(.exit 2,m2P a.length (aW a.length (zL a b)))
  next:=fun (i,d)=>(i+1,bif decide (d.getD i.toNat 0<0) then (d.set i.toNat (d.getD i.toNat 0+1000000000)).set (i.toNat+1) ((d.set i.toNat (d.getD i.toNat 0+1000000000)).getD (i.toNat+1) 0 - 1) else d)
  ids:=fun _=>[]
  X:=fun (i,d) _=>some (m2P i d,[]) }
noncomputable def cHb (l:List (Nat×Bool)):Ctx:=gG cL (hZ (l.map fun x=>(x.1,match x.2 with|true=>.bool false true|false=>.bool false false)))
theorem oV (l:List (Nat×Bool)):CtxOk (cHb l):=dh gX _
def Gh (a b:List Int):Prop:=(0:Int)=0/\a=fJ a (List.take (Int.toNat (0:Int)) b)
theorem OY (a b:List Int):fit (m1S a b) (m1S a b) (ah (m1S a b) ((m1U a b).S 0)) ([])=some (.p (Gh a b)):=by kernel_rfl
def IG (a b:List Int) (i:Int):Prop:=(decide (i<(↑b.length:Int))=true->(((0:Int)<=i/\i<(↑b.length:Int))/\i.toNat<b.length)/\((0:Int)<=i/\i<(↑a.length:Int))/\((0:Int)+i).toNat<(fJ a (List.take i.toNat b)).length/\((0:Int)<=i/\i<(↑a.length:Int))/\((0:Int)+i).toNat<(fJ a (List.take i.toNat b)).length)/\((!decide (i<(↑b.length:Int)))=true->(i=i/\fJ a (List.take i.toNat b)=fJ a (List.take i.toNat b))/\(m1U a b).F i=(Ex.exit (0:Nat),m1P i (fJ a (List.take i.toNat b))))/\(decide (i<(↑b.length:Int))=true->(IntKind.i64.wrap (i+1)=(m1U a b).next i/\(fJ a (List.take i.toNat b)).set ((0:Int)+i).toNat (IntKind.i64.wrap ((fJ a (List.take i.toNat b)).getD ((0:Int)+i).toNat (0:Int) - b.getD i.toNat (0:Int)))=fJ a (List.take ((m1U a b).next i).toNat b))/\(m1U a b).I ((m1U a b).next i)/\(m1U a b).μ ((m1U a b).next i)<(m1U a b).μ i/\(m1U a b).F ((m1U a b).next i)=(m1U a b).F i)
theorem UI (a b:List Int) (i:Int):d9 (m1S a b) ((m1U a b).way (i)) ((run cL 300).code vK LD (ah (m1S a b) ((m1U a b).S i)))=some (.p (IG a b i)):=by kernel_rfl
def Gi (a b:List Int):Prop:=(0:Int)=0/\fJ a (List.take (↑b.length:Int).toNat b)=fJ a (List.take (↑b.length:Int).toNat b)
theorem OZ (a b:List Int):fit (m2S a b) (m2S a b) (ah (m2S a b) ((m2U a b).S (0,fJ a (b.take ((b.length:Int)).toNat)))) ([])=some (.p (Gi a b)):=by kernel_rfl
def LF (a b:List Int) (i:Int) (d:List Int):Prop:=decide (i<(↑a.length:Int))=false/\(true=true->(i=i/\d=d)/\(m2U a b).F (i,d)=(Ex.exit (2:Nat),m2P i d))
theorem Yo (a b:List Int) (i:Int) (d:List Int):d9 (m2S a b) ((m2U a b).way ((i,d))) ((run (cHb [(29,false)]) 300).code vK IE (ah (m2S a b) ((m2U a b).S (i,d))))=some (.p (LF a b i d)):=by kernel_rfl
def II (a b:List Int) (i:Int) (d:List Int):Prop:=(decide (i<(↑a.length:Int))=true/\((0:Int)<=i/\i<(↑a.length:Int))/\((0:Int)+i).toNat<d.length/\decide (d.getD ((0:Int)+i).toNat (0:Int)<0)=false)/\(true=true->(IntKind.i64.wrap (i+1)=i+1/\d=bif decide (d.getD i.toNat (0:Int)<0) then (d.set i.toNat (d.getD i.toNat (0:Int)+1000000000)).set (i.toNat+(1:Nat)) ((d.set i.toNat (d.getD i.toNat (0:Int)+1000000000)).getD (i.toNat+(1:Nat)) (0:Int) - (1:Int)) else d)/\(m2U a b).I ((m2U a b).next (i,d))/\(m2U a b).μ ((m2U a b).next (i,d))<(m2U a b).μ (i,d)/\(m2U a b).F ((m2U a b).next (i,d))=(m2U a b).F (i,d))
theorem UJ (a b:List Int) (i:Int) (d:List Int):d9 (m2S a b) ((m2U a b).way ((i,d))) ((run (cHb [(29,true),(35,false)]) 300).code vK IE (ah (m2S a b) ((m2U a b).S (i,d))))=some (.p (II a b i d)):=by kernel_rfl
def IJ (a b:List Int) (i:Int) (d:List Int):Prop:=(decide (i<(↑a.length:Int))=true/\(((0:Int)<=i/\i<(↑a.length:Int))/\((0:Int)+i).toNat<d.length/\decide (d.getD ((0:Int)+i).toNat (0:Int)<0)=true)/\(((0:Int)<=i/\i<(↑a.length:Int))/\((0:Int)+i).toNat<d.length/\((0:Int)<=i/\i<(↑a.length:Int))/\((0:Int)+i).toNat<d.length)/\((0:Int)<=IntKind.i64.wrap (i+1)/\IntKind.i64.wrap (i+1)<(↑a.length:Int))/\((0:Int)+IntKind.i64.wrap (i+1)).toNat<(d.set ((0:Int)+i).toNat (IntKind.i64.wrap (d.getD ((0:Int)+i).toNat (0:Int)+1000000000))).length/\((0:Int)<=IntKind.i64.wrap (i+1)/\IntKind.i64.wrap (i+1)<(↑a.length:Int))/\((0:Int)+IntKind.i64.wrap (i+1)).toNat<(d.set ((0:Int)+i).toNat (IntKind.i64.wrap (d.getD ((0:Int)+i).toNat (0:Int)+1000000000))).length)/\(true=true->(IntKind.i64.wrap (i+1)=i+1/\(d.set ((0:Int)+i).toNat (IntKind.i64.wrap (d.getD ((0:Int)+i).toNat (0:Int)+1000000000))).set ((0:Int)+IntKind.i64.wrap (i+1)).toNat (IntKind.i64.wrap ((d.set ((0:Int)+i).toNat (IntKind.i64.wrap (d.getD ((0:Int)+i).toNat (0:Int)+1000000000))).getD ((0:Int)+IntKind.i64.wrap (i+1)).toNat (0:Int) - (1:Int)))=bif decide (d.getD i.toNat (0:Int)<0) then (d.set i.toNat (d.getD i.toNat (0:Int)+1000000000)).set (i.toNat+(1:Nat)) ((d.set i.toNat (d.getD i.toNat (0:Int)+1000000000)).getD (i.toNat+(1:Nat)) (0:Int) - (1:Int)) else d)/\(m2U a b).I ((m2U a b).next (i,d))/\(m2U a b).μ ((m2U a b).next (i,d))<(m2U a b).μ (i,d)/\(m2U a b).F ((m2U a b).next (i,d))=(m2U a b).F (i,d))
theorem UK (a b:List Int) (i:Int) (d:List Int):d9 (m2S a b) ((m2U a b).way ((i,d))) ((run (cHb [(29,true),(35,true)]) 300).code vK IE (ah (m2S a b) ((m2U a b).S (i,d))))=some (.p (IJ a b i d)):=by kernel_rfl
theorem zt (i:Int):(0+i).toNat=i.toNat:=by rw [Int.zero_add]
theorem UL {a b:List Int} (ha:Dig a) (hb:Dig b) (la:Sm a) (hl:b.length<=a.length):CodeOk cL vK (.loop LD) (m1S a b) ⟨.tt,[⟨.tt,.exit 0,ah (m1S a b) (m1X a b)⟩]⟩:=by
 have la:=la.le
 refine lY (bL gX 300) (m1U a b) (y0:=0) ⟨by omega,by omega⟩ ⟨_,OY a b,rfl,(zI a).symm⟩ (by kernel_rfl) (fun i hi=>⟨_,UI a b i,?_⟩) rfl
 obtain ⟨i0,i1⟩:=(show 0<=i/\i<=b.length from hi)
 have ll:=uw a (b.take i.toNat)
 refine ⟨fun h=>?_,fun h=>⟨⟨rfl,rfl⟩,?_⟩,fun h=>?_⟩
 .have h:i<b.length:=dt.1 h
  rw [zt,ll]
  exact ⟨⟨⟨i0,h⟩,by omega⟩,⟨i0,by omega⟩,by omega,⟨i0,by omega⟩,by omega⟩
 .have h:=ndt.1 h
  obtain rfl:i=b.length:=by omega
  rfl
 .have h:i<b.length:=dt.1 h
  have g1:=ha.get i.toNat
  have g2:=hb.get i.toNat
  have e0:(b.take i.toNat).getD i.toNat 0=0:=by rw [List.getD_eq_getElem?_getD,List.getElem?_eq_none (by rw [List.length_take]; omega)]; rfl
  have e1:=zK a (b.take i.toNat) i.toNat (by omega)
  rw [e0] at e1
  refine ⟨⟨iw (by omega) (by omega),?_⟩,?_,?_,rfl⟩
  .rw [zt,iw (by omega) (by omega),BB a b i.toNat (by omega) hl]
   show _=fJ a (b.take (i+1).toNat)
   rw [show (i+1).toNat=i.toNat+1 by omega]
  .show 0<=i+1/\i+1<=b.length
   omega
  .show (b.length - (i+1)).toNat<(b.length - i).toNat
   omega
theorem UM {a b:List Int} (ha:Dig a) (hb:Dig b) (la:Sm a) (hl:b.length<=a.length) (hV:0<=zL a b):CodeOk cL vK (.loop IE) (m2S a b) ⟨.tt,[⟨.tt,.exit 2,ah (m2S a b) (m2P a.length (aW a.length (zL a b)))⟩]⟩:=by
 have la:=la.le
 refine lZ (m2U a b) (y0:=(0,fJ a (b.take ((b.length:Int)).toNat))) ?_ ⟨_,OZ a b,rfl,rfl⟩ (by kernel_rfl) (fun y hy=>?_) rfl
 .show 0<=0/\NbI _ _ _ _
  rw [show ((b.length:Int)).toNat=b.length by omega,List.take_length]
  exact ⟨by decide,NbI.start ha hb hl⟩
 obtain ⟨i,d⟩:=y
 obtain ⟨i0,hI⟩:=(show 0<=i/\NbI a.length (zL a b) i.toNat d from hy)
 obtain ⟨l,i1,lo,me,hi',v⟩:=id hI
 have e2:(i+1).toNat=i.toNat+1:=by omega
 by_cases hlt:i<a.length
 .have iw1:IntKind.i64.wrap (i+1)=i+1:=iw (by omega) (by omega)
  have mu:(a.length - (i+1)).toNat<(a.length - i).toNat:=by omega
  by_cases hn:d.getD i.toNat 0<0
  .have h1:=hI.in hV (by omega) hn
   have h2:=hi' (i.toNat+1) (by omega)
   have e3:(d.set i.toNat (d.getD i.toNat 0+1000000000)).getD (i.toNat+1) 0=d.getD (i.toNat+1) 0:=getD_set (by omega)
   have e4:IntKind.i64.wrap (d.getD i.toNat 0+1000000000)=d.getD i.toNat 0+1000000000:=iw (by omega) (by omega)
   have e5:IntKind.i64.wrap (d.getD (i.toNat+1) 0 - 1)=d.getD (i.toNat+1) 0 - 1:=iw (by omega) (by omega)
   have hb':(bif decide (d.getD i.toNat 0<0) then (d.set i.toNat (d.getD i.toNat 0+1000000000)).set (i.toNat+1) ((d.set i.toNat (d.getD i.toNat 0+1000000000)).getD (i.toNat+1) 0 - 1) else d)=(d.set i.toNat (d.getD i.toNat 0+1000000000)).set (i.toNat+1) ((d.set i.toNat (d.getD i.toNat 0+1000000000)).getD (i.toNat+1) 0 - 1):=by rw [decide_eq_true hn]; rfl
   refine ⟨cHb [(29,true),(35,true)],300,oV _,rfl,rfl,_,UK a b i d,?_,fun _=>?_⟩
   .rw [zt,iw1,zt,e2,e4,List.length_set]
    exact ⟨decide_eq_true hlt,⟨⟨i0,hlt⟩,by omega,decide_eq_true hn⟩,⟨⟨i0,hlt⟩,by omega,⟨i0,hlt⟩,by omega⟩,⟨by omega,by omega⟩,by omega,⟨by omega,by omega⟩,by omega⟩
   .refine ⟨⟨iw1,?_⟩,?_,mu,rfl⟩
    .rw [zt,iw1,zt,e2,e4,hb',e3,e5]
    .show 0<=i+1/\NbI _ _ (i+1).toNat _
     rw [e2,hb']
     exact ⟨by omega,hI.step hV (by omega) hn⟩
  .have hb':(bif decide (d.getD i.toNat 0<0) then (d.set i.toNat (d.getD i.toNat 0+1000000000)).set (i.toNat+1) ((d.set i.toNat (d.getD i.toNat 0+1000000000)).getD (i.toNat+1) 0 - 1) else d)=d:=by rw [decide_eq_false hn]; rfl
   refine ⟨cHb [(29,true),(35,false)],300,oV _,rfl,rfl,_,UJ a b i d,?_,fun _=>⟨⟨iw1,hb'.symm⟩,?_,mu,rfl⟩⟩
   .rw [zt]
    exact ⟨decide_eq_true hlt,⟨i0,hlt⟩,by omega,decide_eq_false hn⟩
   .show 0<=i+1/\NbI _ _ (i+1).toNat _
    rw [e2,hb']
    exact ⟨by omega,hI.skip (by omega) hn⟩
 .refine ⟨cHb [(29,false)],300,oV _,rfl,rfl,_,Yo a b i d,decide_eq_false hlt,fun _=>⟨⟨rfl,rfl⟩,?_⟩⟩
  have e:i.toNat=a.length:=by omega
  rw [e] at hI
  show (Ex.exit 2,m2P a.length (aW a.length (zL a b)))=(Ex.exit 2,m2P i d)
  rw [<- hI.fin,show i=a.length by omega]
noncomputable def mtS (a b d:List Int) (N:Int):St:=uo cL 300 86 [.islice true 2 0 N] ⟨[⟨23,.ints .i64 d⟩,⟨0,.rows .i64 b⟩,⟨0,.rows .i64 a⟩],3,26⟩
theorem O0 (a b d:List Int) (N:Int):fit (mtS a b d N) (mtS a b d N) (ah (mtS a b d N) ((trU 2 d N).S N)) []=some (.p ((0:Int)=0/\N=N)):=by kernel_rfl
theorem UN (a b d:List Int) (N y:Int):d9 (mtS a b d N) ((trU 2 d N).way y) ((run cL 300).code jU trA (ah (mtS a b d N) ((trU 2 d N).S y)))=some (.p (trN 2 d N y)):=by kernel_rfl
theorem UO (a b:List Int) {d:List Int} {N:Int} (hN:N=d.length) (ld:Sm d):CodeOk cL jU (.loop trA) (mtS a b d N) ⟨.tt,[⟨.tt,.exit 0,ah (mtS a b d N) (trP 2 (tlI d N))⟩]⟩:=xq hN ld (O0 a b d N) (by kernel_rfl) (fun y=>UN a b d N y)
def miD (a b:List Int):List Int:=aW a.length (zL a b)
noncomputable def cMt (a b:List Int):Ctx:=bg cL [bY 78 (m1S a b).hp.clock vK LD (m1S a b) (.exit 0) (m1X a b),bY 78 (m2S a b).hp.clock vK IE (m2S a b) (.exit 2) (m2P a.length (miD a b)),
 bY 86 29 jU trA (mtS a b (miD a b) a.length) (.exit 0) (trP 2 (tlI (miD a b) a.length))]
theorem Du (a b:List Int):(miD a b).length=a.length:=dn _ _
theorem Yp {a b:List Int} (ha:Dig a) (hb:Dig b) (la:Sm a) (hl:b.length<=a.length) (hV:0<=zL a b):CtxOk (cMt a b):=
 aO gX (UL ha hb la hl) (aO gX (UM ha hb la hl hV) (aO gX (UO a b (by rw [Du]) (by show (miD a b).length<=500000; rw [Du]; exact la)) (cK gX)))
def O1 (a b:List Int):Prop:=(((0:Int)<(↑a.length:Int)/\(↑a.length:Int)=(↑a.length:Int)/\(0:Int)<(↑a.length:Int)/\(↑a.length:Int)<=1048576)/\At (vK) (vK) (LD) (LD) (m1S a b) (m1S a b)/\At (vK) (vK) (IE) (IE) (m2S a b) (m2S a b)/\At (jU) (jU) (trA) (trA) (mtS a b (miD a b) a.length) (mtS a b (miD a b) a.length))
def UQ (a b:List Int):AV:=(AV.islice true 2 (0:Int) (tlI (miD a b) (↑a.length:Int)))
def UR (a b:List Int):Hp:=⟨[{ wr:=23,body:=ABody.ints IntKind.i64 (miD a b) },{ wr:=(0:Nat),body:=ABody.rows IntKind.i64 b },{ wr:=(0:Nat),body:=ABody.rows IntKind.i64 a }],3,33⟩
theorem ab8 (a b:List Int):(run (cMt a b) 300).call 78 (zB a b) (zG a b)=some ⟨.p (O1 a b),[⟨.tt,UQ a b,UR a b⟩]⟩:=by kernel_rfl
def Yq:List Nu->List (List Int)->Option (Prop×To)
 | [],[a,b]=>some (Dig a/\Dig b/\0<a.length/\a.length<=500000/\b.length<=a.length/\val b<=val a,.li false (aa (val a - val b).toNat))
 | _,_=>none
theorem UT:NOk Tryd.prog (fun _=>none) hG0 78 (eO hG0 .i64 [.li,.li] Yq):=by
 refine fG (fun xs ys p t e h=>?_) ⟨_,Tryd.func78,rfl⟩
 unfold Yq at e
 split at e
 .rename_i a b
  cases e
  obtain ⟨ha,hb,l0,l1,hl,hv⟩:=h
  have hV:0<=zL a b:=by unfold zL; omega
  have b0:=aA hb
  have a1:=fZ ha
  have ev:val (miD a b)=val a - val b:=kK hV (by unfold zL; omega)
  exact ⟨cMt a b,300,zB a b,_,_,_,_,_,Yp ha hb l1 hl hV,rfl,rfl,⟨rfl,rfl,trivial⟩,ab8 a b,rfl,⟨⟨by omega,rfl,by omega,by omega⟩,⟨rfl,rfl,rfl⟩,⟨rfl,rfl,rfl⟩,⟨rfl,rfl,rfl⟩⟩,rfl,rfl,Dt (jw _ _) (by rw [Du]) ev⟩
 .cases e
def oW:AFr:=⟨79,none⟩
noncomputable def Gj:Code:=iX Tryd.prog 79 0
noncomputable def Dv:Code:=iX Tryd.prog 79 1
noncomputable def cPl (s:Bool):Ctx:=cHb [(13,s)]
theorem Dw (s:Bool):CtxOk (cPl s):=oV _
def bi (s:Bool) (a b:List Int):List Int:=match s with|true=>b|false=>a
def shA (s:Bool) (a b:List Int):List Int:=match s with|true=>a|false=>b
noncomputable def q1S (s:Bool) (a b:List Int):St:=uo (cPl s) 300 79 (zB a b) (zG a b)
def q1P (i:Int) (d:List Int):Patch:=⟨fD 6 2++(25,.int true .i64 i) :: fD 26 12,[(2,.ints .i64 d)],[]⟩
def q1D (s:Bool) (a b:List Int) (i:Int):List Int:=lG (bi s a b++[0]) ((shA s a b).take i.toNat)
def q1X (s:Bool) (a b:List Int):Patch:=q1P (shA s a b).length (q1D s a b (shA s a b).length)
def q1U (s:Bool) (a b:List Int):SumL Int:=
 {
  S:=fun i=>q1P i (q1D s a b i)
  I:=fun i=>0<=i/\i<=(shA s a b).length
  μ:=fun i=>((shA s a b).length - i).toNat
  F:=fun _=>(.exit 0,q1X s a b)
  next:=fun i=>i+1
  ids:=fun _=>[]
  X:=fun i _=>some (q1P i (q1D s a b i),[]) }
noncomputable def cQ1 (s:Bool) (a b:List Int):Ctx:=bg (cPl s) [bY 79 (q1S s a b).hp.clock oW Gj (q1S s a b) (.exit 0) (q1X s a b)]
noncomputable def q2S (s:Bool) (a b:List Int):St:=uo (cQ1 s a b) 300 79 (zB a b) (zG a b)
def q2P (i:Int) (d:List Int):Patch:=⟨(8,.any false) :: (40,.int true .i64 i) :: fD 41 21,[(2,.ints .i64 d)],[]⟩
def plV (a b:List Int):Int:=val a+val b
def q2F (s:Bool) (a b:List Int):List Int:=aW ((bi s a b).length+1) (plV a b)
def q2U (s:Bool) (a b:List Int):SumL (Int×List Int):=
 {
  S:=fun (i,d)=>q2P i d
  I:=fun (i,d)=>0<=i/\NcI (bi s a b).length (plV a b) i.toNat d
  μ:=fun (i,_)=>((bi s a b).length - i).toNat
  F:=fun _=>(.exit 2,q2P (bi s a b).length (q2F s a b))
  next:=fun (i,d)=>(i+1,bif decide (d.getD i.toNat 0>=1000000000) then (d.set i.toNat (d.getD i.toNat 0 - 1000000000)).set (i.toNat+1) ((d.set i.toNat (d.getD i.toNat 0 - 1000000000)).getD (i.toNat+1) 0+1) else d)
  ids:=fun _=>[]
  X:=fun (i,d) _=>some (q2P i d,[]) }
def Gl (s:Bool) (a b:List Int):Prop:=(0:Int)=0/\KJ (List.replicate (IntKind.i64.wrap ((↑(bi s a b).length:Int)+1)).toNat (0:Int)) (Int.toNat (0:Int)) (bi s a b)=q1D s a b (0:Int)
theorem O3 (s:Bool) (a b:List Int):fit (q1S s a b) (q1S s a b) (ah (q1S s a b) ((q1U s a b).S 0)) ([])=some (.p (Gl s a b)):=by cases s <;> kernel_rfl
def IK (s:Bool) (a b:List Int) (i:Int):Prop:=(decide (i<(↑(shA s a b).length:Int))=true->(((0:Int)<=i/\i<(↑(shA s a b).length:Int))/\i.toNat<(shA s a b).length)/\((0:Int)<=i/\i<IntKind.i64.wrap ((↑(bi s a b).length:Int)+1))/\((0:Int)+i).toNat<(q1D s a b i).length/\((0:Int)<=i/\i<IntKind.i64.wrap ((↑(bi s a b).length:Int)+1))/\((0:Int)+i).toNat<(q1D s a b i).length)/\((!decide (i<(↑(shA s a b).length:Int)))=true->(i=i/\q1D s a b i=q1D s a b i)/\(q1U s a b).F i=(Ex.exit (0:Nat),q1P i (q1D s a b i)))/\(decide (i<(↑(shA s a b).length:Int))=true->(IntKind.i64.wrap (i+1)=(q1U s a b).next i/\(q1D s a b i).set ((0:Int)+i).toNat (IntKind.i64.wrap ((q1D s a b i).getD ((0:Int)+i).toNat (0:Int)+(shA s a b).getD i.toNat (0:Int)))=q1D s a b ((q1U s a b).next i))/\(q1U s a b).I ((q1U s a b).next i)/\(q1U s a b).μ ((q1U s a b).next i)<(q1U s a b).μ i/\(q1U s a b).F ((q1U s a b).next i)=(q1U s a b).F i)
theorem UU (s:Bool) (a b:List Int) (i:Int):d9 (q1S s a b) ((q1U s a b).way (i)) ((run cL 300).code oW Gj (ah (q1S s a b) ((q1U s a b).S i)))=some (.p (IK s a b i)):=by cases s <;> kernel_rfl
def Gm (s:Bool) (a b:List Int):Prop:=(0:Int)=0/\q1D s a b (↑(shA s a b).length:Int)=q1D s a b (↑(shA s a b).length:Int)
theorem O4 (s:Bool) (a b:List Int):fit (q2S s a b) (q2S s a b) (ah (q2S s a b) ((q2U s a b).S (0,q1D s a b (shA s a b).length))) ([])=some (.p (Gm s a b)):=by cases s <;> kernel_rfl
def LG (s:Bool) (a b:List Int) (i:Int) (d:List Int):Prop:=decide (i<(↑(bi s a b).length:Int))=false/\(true=true->(i=i/\d=d)/\(q2U s a b).F (i,d)=(Ex.exit (2:Nat),q2P i d))
theorem Yr (s:Bool) (a b:List Int) (i:Int) (d:List Int):d9 (q2S s a b) ((q2U s a b).way ((i,d))) ((run (cHb [(41,false)]) 300).code oW Dv (ah (q2S s a b) ((q2U s a b).S (i,d))))=some (.p (LG s a b i d)):=by cases s <;> kernel_rfl
def IL (s:Bool) (a b:List Int) (i:Int) (d:List Int):Prop:=(decide (i<(↑(bi s a b).length:Int))=true/\((0:Int)<=i/\i<IntKind.i64.wrap ((↑(bi s a b).length:Int)+1))/\((0:Int)+i).toNat<d.length/\decide (d.getD ((0:Int)+i).toNat (0:Int)>=1000000000)=false)/\(true=true->(IntKind.i64.wrap (i+1)=i+1/\d=bif decide (d.getD i.toNat (0:Int)>=1000000000) then (d.set i.toNat (d.getD i.toNat (0:Int) - (1000000000:Int))).set (i.toNat+(1:Nat)) ((d.set i.toNat (d.getD i.toNat (0:Int) - (1000000000:Int))).getD (i.toNat+(1:Nat)) (0:Int)+1) else d)/\(q2U s a b).I ((q2U s a b).next (i,d))/\(q2U s a b).μ ((q2U s a b).next (i,d))<(q2U s a b).μ (i,d)/\(q2U s a b).F ((q2U s a b).next (i,d))=(q2U s a b).F (i,d))
theorem UV (s:Bool) (a b:List Int) (i:Int) (d:List Int):d9 (q2S s a b) ((q2U s a b).way ((i,d))) ((run (cHb [(41,true),(47,false)]) 300).code oW Dv (ah (q2S s a b) ((q2U s a b).S (i,d))))=some (.p (IL s a b i d)):=by cases s <;> kernel_rfl
def IM (s:Bool) (a b:List Int) (i:Int) (d:List Int):Prop:=(decide (i<(↑(bi s a b).length:Int))=true/\(((0:Int)<=i/\i<IntKind.i64.wrap ((↑(bi s a b).length:Int)+1))/\((0:Int)+i).toNat<d.length/\decide (d.getD ((0:Int)+i).toNat (0:Int)>=1000000000)=true)/\(((0:Int)<=i/\i<IntKind.i64.wrap ((↑(bi s a b).length:Int)+1))/\((0:Int)+i).toNat<d.length/\((0:Int)<=i/\i<IntKind.i64.wrap ((↑(bi s a b).length:Int)+1))/\((0:Int)+i).toNat<d.length)/\((0:Int)<=IntKind.i64.wrap (i+1)/\IntKind.i64.wrap (i+1)<IntKind.i64.wrap ((↑(bi s a b).length:Int)+1))/\((0:Int)+IntKind.i64.wrap (i+1)).toNat<(d.set ((0:Int)+i).toNat (IntKind.i64.wrap (d.getD ((0:Int)+i).toNat (0:Int) - (1000000000:Int)))).length/\((0:Int)<=IntKind.i64.wrap (i+1)/\IntKind.i64.wrap (i+1)<IntKind.i64.wrap ((↑(bi s a b).length:Int)+1))/\((0:Int)+IntKind.i64.wrap (i+1)).toNat<(d.set ((0:Int)+i).toNat (IntKind.i64.wrap (d.getD ((0:Int)+i).toNat (0:Int) - (1000000000:Int)))).length)/\(true=true->(IntKind.i64.wrap (i+1)=i+1/\(d.set ((0:Int)+i).toNat (IntKind.i64.wrap (d.getD ((0:Int)+i).toNat (0:Int) - (1000000000:Int)))).set ((0:Int)+IntKind.i64.wrap (i+1)).toNat (IntKind.i64.wrap ((d.set ((0:Int)+i).toNat (IntKind.i64.wrap (d.getD ((0:Int)+i).toNat (0:Int) - (1000000000:Int)))).getD ((0:Int)+IntKind.i64.wrap (i+1)).toNat (0:Int)+1))=bif decide (d.getD i.toNat (0:Int)>=1000000000) then (d.set i.toNat (d.getD i.toNat (0:Int) - (1000000000:Int))).set (i.toNat+(1:Nat)) ((d.set i.toNat (d.getD i.toNat (0:Int) - (1000000000:Int))).getD (i.toNat+(1:Nat)) (0:Int)+1) else d)/\(q2U s a b).I ((q2U s a b).next (i,d))/\(q2U s a b).μ ((q2U s a b).next (i,d))<(q2U s a b).μ (i,d)/\(q2U s a b).F ((q2U s a b).next (i,d))=(q2U s a b).F (i,d))
theorem UW (s:Bool) (a b:List Int) (i:Int) (d:List Int):d9 (q2S s a b) ((q2U s a b).way ((i,d))) ((run (cHb [(41,true),(47,true)]) 300).code oW Dv (ah (q2S s a b) ((q2U s a b).S (i,d))))=some (.p (IM s a b i d)):=by cases s <;> kernel_rfl
theorem O5 (u:List Int):KJ (List.replicate (u.length+1) 0) 0 u=u++[0]:=by
 unfold KJ
 rw [List.take_zero,List.nil_append,List.drop_replicate,show u.length+1 - (0+u.length)=1 by omega]
 rfl
theorem UX (s:Bool) (a b:List Int) (i:Int):(q1D s a b i).length=(bi s a b).length+1:=by
 unfold q1D
 rw [uy]; simp
theorem UY {s:Bool} {a b:List Int} (ha:Dig a) (hb:Dig b) (la:(bi s a b).length<=400000) (hl:(shA s a b).length<=(bi s a b).length):CodeOk cL oW (.loop Gj) (q1S s a b) ⟨.tt,[⟨.tt,.exit 0,ah (q1S s a b) (q1X s a b)⟩]⟩:=by
 have hL:Dig (bi s a b):=by cases s <;> assumption
 have hS:Dig (shA s a b):=by cases s <;> assumption
 have hLz:Dig (bi s a b++[0]):=J3.2 ⟨hL,bQ.2 ⟨by omega,jR⟩⟩
 have eN:IntKind.i64.wrap ((bi s a b).length+1:Int)=(bi s a b).length+1:=iw (by omega) (by omega)
 refine lY (bL gX 300) (q1U s a b) (y0:=0) ⟨by omega,by omega⟩ ⟨_,O3 s a b,rfl,?_⟩ (by cases s <;> kernel_rfl) (fun i hi=>⟨_,UU s a b i,?_⟩) rfl
 .rw [eN,show ((bi s a b).length+1:Int).toNat=(bi s a b).length+1 by omega,show Int.toNat 0=0 from rfl,O5]
  exact (zJ _).symm
 obtain ⟨i0,i1⟩:=(show 0<=i/\i<=(shA s a b).length from hi)
 have ll:=UX s a b i
 refine ⟨fun h=>?_,fun h=>⟨⟨rfl,rfl⟩,?_⟩,fun h=>?_⟩
 .have h:i<(shA s a b).length:=dt.1 h
  rw [zt,ll,eN]
  exact ⟨⟨⟨i0,h⟩,by omega⟩,⟨i0,by omega⟩,by omega,⟨i0,by omega⟩,by omega⟩
 .have h:=ndt.1 h
  obtain rfl:i=(shA s a b).length:=by omega
  rfl
 .have h:i<(shA s a b).length:=dt.1 h
  have g1:=hLz.get i.toNat
  have g2:=hS.get i.toNat
  have e0:((shA s a b).take i.toNat).getD i.toNat 0=0:=by rw [List.getD_eq_getElem?_getD,List.getElem?_eq_none (by rw [List.length_take]; omega)]; rfl
  have e1:(q1D s a b i).getD i.toNat 0=(bi s a b++[0]).getD i.toNat 0+((shA s a b).take i.toNat).getD i.toNat 0:=uz _ _ i.toNat (by simp; omega)
  rw [e0] at e1
  refine ⟨⟨iw (by omega) (by omega),?_⟩,?_,?_,rfl⟩
  .rw [zt,iw (by omega) (by omega)]
   unfold q1D
   rw [BC _ _ i.toNat (by omega) (by simp; omega)]
   show _=lG _ ((shA s a b).take (i+1).toNat)
   rw [show (i+1).toNat=i.toNat+1 by omega]
  .show 0<=i+1/\i+1<=(shA s a b).length
   omega
  .show ((shA s a b).length - (i+1)).toNat<((shA s a b).length - i).toNat
   omega
theorem Yt (s:Bool) (a b:List Int):plV a b=val (bi s a b)+val (shA s a b):=by
 unfold plV
 cases s
 .rfl
 .show val a+val b=val b+val a
  omega
theorem UZ {s:Bool} {a b:List Int} (ha:Dig a) (hb:Dig b) (la:(bi s a b).length<=400000) (hl:(shA s a b).length<=(bi s a b).length):CodeOk cL oW (.loop Dv) (q2S s a b) ⟨.tt,[⟨.tt,.exit 2,ah (q2S s a b) (q2P (bi s a b).length (q2F s a b))⟩]⟩:=by
 have hL:Dig (bi s a b):=by cases s <;> assumption
 have hS:Dig (shA s a b):=by cases s <;> assumption
 have eN:IntKind.i64.wrap ((bi s a b).length+1:Int)=(bi s a b).length+1:=iw (by omega) (by omega)
 refine lZ (q2U s a b) (y0:=(0,q1D s a b (shA s a b).length)) ?_ ⟨_,O4 s a b,rfl,rfl⟩ (by cases s <;> kernel_rfl) (fun y hy=>?_) rfl
 .show 0<=0/\NcI _ _ _ _
  unfold q1D
  rw [show (((shA s a b).length:Int)).toNat=(shA s a b).length by omega,List.take_length,Yt s]
  exact ⟨by decide,NcI.start hL hS hl⟩
 obtain ⟨i,d⟩:=y
 obtain ⟨i0,hI⟩:=(show 0<=i/\NcI (bi s a b).length (plV a b) i.toNat d from hy)
 obtain ⟨l,i1,lo,me,hi',t0,t1,v⟩:=id hI
 have e2:(i+1).toNat=i.toNat+1:=by omega
 by_cases hlt:i<(bi s a b).length
 .have iw1:IntKind.i64.wrap (i+1)=i+1:=iw (by omega) (by omega)
  have mu:((bi s a b).length - (i+1)).toNat<((bi s a b).length - i).toNat:=by omega
  by_cases hn:d.getD i.toNat 0>=1000000000
  .have h2:=hi' (i.toNat+1) (by omega)
   have e3:(d.set i.toNat (d.getD i.toNat 0 - 1000000000)).getD (i.toNat+1) 0=d.getD (i.toNat+1) 0:=getD_set (by omega)
   have e4:IntKind.i64.wrap (d.getD i.toNat 0 - 1000000000)=d.getD i.toNat 0 - 1000000000:=iw (by omega) (by omega)
   have e5:IntKind.i64.wrap (d.getD (i.toNat+1) 0+1)=d.getD (i.toNat+1) 0+1:=iw (by omega) (by omega)
   have hb':(bif decide (d.getD i.toNat 0>=1000000000) then (d.set i.toNat (d.getD i.toNat 0 - 1000000000)).set (i.toNat+1) ((d.set i.toNat (d.getD i.toNat 0 - 1000000000)).getD (i.toNat+1) 0+1) else d)=(d.set i.toNat (d.getD i.toNat 0 - 1000000000)).set (i.toNat+1) ((d.set i.toNat (d.getD i.toNat 0 - 1000000000)).getD (i.toNat+1) 0+1):=by rw [decide_eq_true hn]; rfl
   refine ⟨cHb [(41,true),(47,true)],300,oV _,rfl,rfl,_,UW s a b i d,?_,fun _=>?_⟩
   .rw [zt,iw1,zt,e2,e4,List.length_set,eN]
    exact ⟨decide_eq_true hlt,⟨⟨i0,by omega⟩,by omega,decide_eq_true hn⟩,⟨⟨i0,by omega⟩,by omega,⟨i0,by omega⟩,by omega⟩,⟨by omega,by omega⟩,by omega,⟨by omega,by omega⟩,by omega⟩
   .refine ⟨⟨iw1,?_⟩,?_,mu,rfl⟩
    .rw [zt,iw1,zt,e2,e4,hb',e3,e5]
    .show 0<=i+1/\NcI _ _ (i+1).toNat _
     rw [e2,hb']
     exact ⟨by omega,hI.step (by omega) hn⟩
  .have hb':(bif decide (d.getD i.toNat 0>=1000000000) then (d.set i.toNat (d.getD i.toNat 0 - 1000000000)).set (i.toNat+1) ((d.set i.toNat (d.getD i.toNat 0 - 1000000000)).getD (i.toNat+1) 0+1) else d)=d:=by rw [decide_eq_false hn]; rfl
   refine ⟨cHb [(41,true),(47,false)],300,oV _,rfl,rfl,_,UV s a b i d,?_,fun _=>⟨⟨iw1,hb'.symm⟩,?_,mu,rfl⟩⟩
   .rw [zt,eN]
    exact ⟨decide_eq_true hlt,⟨i0,by omega⟩,by omega,decide_eq_false hn⟩
   .show 0<=i+1/\NcI _ _ (i+1).toNat _
    rw [e2,hb']
    exact ⟨by omega,hI.skip (by omega) hn⟩
 .refine ⟨cHb [(41,false)],300,oV _,rfl,rfl,_,Yr s a b i d,decide_eq_false hlt,fun _=>⟨⟨rfl,rfl⟩,?_⟩⟩
  have e:i.toNat=(bi s a b).length:=by omega
  rw [e] at hI
  show (Ex.exit 2,q2P (bi s a b).length (q2F s a b))=(Ex.exit 2,q2P i d)
  unfold q2F
  rw [<- hI.fin,show i=(bi s a b).length by omega]
def plW (s:Bool):Nat:=match s with|true=>29|false=>25
def plC (s:Bool):Nat:=match s with|true=>32|false=>28
noncomputable def qtS (s:Bool) (a b d:List Int) (N:Int):St:=uo cL 300 86 [.islice true 2 0 N] ⟨[⟨plW s,.ints .i64 d⟩,⟨0,.rows .i64 b⟩,⟨0,.rows .i64 a⟩],3,plC s⟩
theorem O6 (s:Bool) (a b d:List Int) (N:Int):fit (qtS s a b d N) (qtS s a b d N) (ah (qtS s a b d N) ((trU 2 d N).S N)) []=some (.p ((0:Int)=0/\N=N)):=by cases s <;> kernel_rfl
theorem U0 (s:Bool) (a b d:List Int) (N y:Int):d9 (qtS s a b d N) ((trU 2 d N).way y) ((run cL 300).code jU trA (ah (qtS s a b d N) ((trU 2 d N).S y)))=some (.p (trN 2 d N y)):=by cases s <;> kernel_rfl
theorem U2 (s:Bool) (a b:List Int) {d:List Int} {N:Int} (hN:N=d.length) (ld:Sm d):CodeOk cL jU (.loop trA) (qtS s a b d N) ⟨.tt,[⟨.tt,.exit 0,ah (qtS s a b d N) (trP 2 (tlI d N))⟩]⟩:=xq hN ld (O6 s a b d N) (by cases s <;> kernel_rfl) (fun y=>U0 s a b d N y)
def plN (s:Bool) (a b:List Int):Int:=IntKind.i64.wrap ((bi s a b).length+1:Int)
noncomputable def cQt (s:Bool) (a b:List Int):Ctx:=bg (cPl s) [bY 79 (q1S s a b).hp.clock oW Gj (q1S s a b) (.exit 0) (q1X s a b),bY 79 (q2S s a b).hp.clock oW Dv (q2S s a b) (.exit 2) (q2P (bi s a b).length (q2F s a b)),
 bY 86 (plC s+3) jU trA (qtS s a b (q2F s a b) (plN s a b)) (.exit 0) (trP 2 (tlI (q2F s a b) (plN s a b)))]
theorem J9 (s:Bool) (a b:List Int):(q2F s a b).length=(bi s a b).length+1:=dn _ _
theorem Dx {s:Bool} {a b:List Int} (la:(bi s a b).length<=400000):plN s a b=(q2F s a b).length:=by
 unfold plN
 rw [iw (by omega) (by omega),J9]; omega
theorem zM {C D:Ctx} {fr:AFr} {a:Code} {S:St} {r:R} (h:CodeOk C fr (.loop a) S r) (hP:D.P=C.P) (hg:D.glob=C.glob):CodeOk D fr (.loop a) S r:=CodeOk.ctx hP hg h
theorem O7 {s:Bool} {a b:List Int} (ha:Dig a) (hb:Dig b) (la:(bi s a b).length<=400000) (hl:(shA s a b).length<=(bi s a b).length):CtxOk (cQt s a b):=
 aO (Dw s) (zM (UY ha hb la hl) rfl rfl) (aO (Dw s) (zM (UZ ha hb la hl) rfl rfl) (aO (Dw s) (zM (U2 s a b (Dx la) (by show (q2F s a b).length<=500000; rw [J9]; omega)) rfl rfl) (cK (Dw s))))
def U3 (a b:List Int):Prop:=(decide ((↑a.length:Int)<(↑b.length:Int))=false/\(IntKind.i64.wrap ((↑a.length:Int)+1)=IntKind.i64.wrap ((↑a.length:Int)+1)/\(0:Int)<=IntKind.i64.wrap ((↑a.length:Int)+1)/\IntKind.i64.wrap ((↑a.length:Int)+1)<=1048576)/\((↑a.length:Int)=(↑a.length:Int)/\(0:Int)<=0/\(0:Int)<(↑a.length:Int)/\(↑a.length:Int)<=IntKind.i64.wrap ((↑a.length:Int)+1)/\(0:Int)+IntKind.i64.wrap ((↑a.length:Int)+1)<=(↑(List.replicate (IntKind.i64.wrap ((↑a.length:Int)+1)).toNat (0:Int)).length:Int))/\At (oW) (oW) (Gj) (Gj) (q1S false a b) (q1S false a b)/\At (oW) (oW) (Dv) (Dv) (q2S false a b) (q2S false a b)/\At (jU) (jU) (trA) (trA) (qtS false a b (q2F false a b) (plN false a b)) (qtS false a b (q2F false a b) (plN false a b)))
def Yu (a b:List Int):AV:=(AV.islice true 2 (0:Int) (tlI (q2F false a b) (plN false a b)))
def Yv (a b:List Int):Hp:=⟨[{ wr:=25,body:=ABody.ints IntKind.i64 (q2F false a b) },{ wr:=(0:Nat),body:=ABody.rows IntKind.i64 b },{ wr:=(0:Nat),body:=ABody.rows IntKind.i64 a }],3,35⟩
theorem aec (a b:List Int):(run (cQt false a b) 300).call 79 (zB a b) (zG a b)=some ⟨.p (U3 a b),[⟨.tt,Yu a b,Yv a b⟩]⟩:=by kernel_rfl
def U4 (a b:List Int):Prop:=(decide ((↑a.length:Int)<(↑b.length:Int))=true/\(IntKind.i64.wrap ((↑b.length:Int)+1)=IntKind.i64.wrap ((↑b.length:Int)+1)/\(0:Int)<=IntKind.i64.wrap ((↑b.length:Int)+1)/\IntKind.i64.wrap ((↑b.length:Int)+1)<=1048576)/\((↑b.length:Int)=(↑b.length:Int)/\(0:Int)<=0/\(0:Int)<(↑b.length:Int)/\(↑b.length:Int)<=IntKind.i64.wrap ((↑b.length:Int)+1)/\(0:Int)+IntKind.i64.wrap ((↑b.length:Int)+1)<=(↑(List.replicate (IntKind.i64.wrap ((↑b.length:Int)+1)).toNat (0:Int)).length:Int))/\At (oW) (oW) (Gj) (Gj) (q1S true a b) (q1S true a b)/\At (oW) (oW) (Dv) (Dv) (q2S true a b) (q2S true a b)/\At (jU) (jU) (trA) (trA) (qtS true a b (q2F true a b) (plN true a b)) (qtS true a b (q2F true a b) (plN true a b)))
def Yw (a b:List Int):AV:=(AV.islice true 2 (0:Int) (tlI (q2F true a b) (plN true a b)))
def Yx (a b:List Int):Hp:=⟨[{ wr:=29,body:=ABody.ints IntKind.i64 (q2F true a b) },{ wr:=(0:Nat),body:=ABody.rows IntKind.i64 b },{ wr:=(0:Nat),body:=ABody.rows IntKind.i64 a }],3,39⟩
theorem aed (a b:List Int):(run (cQt true a b) 300).call 79 (zB a b) (zG a b)=some ⟨.p (U4 a b),[⟨.tt,Yw a b,Yx a b⟩]⟩:=by kernel_rfl
def Yy:List Nu->List (List Int)->Option (Prop×To)
 | [],[a,b]=>some (Dig a/\Dig b/\(0<a.length\/0<b.length)/\a.length<=400000/\b.length<=400000,.li false (aa (val a+val b).toNat))
 | _,_=>none
theorem O8 {s:Bool} {a b:List Int} (ha:Dig a) (hb:Dig b) (hl:(shA s a b).length<=(bi s a b).length):val (q2F s a b)=val a+val b:=by
 have a0:=aA ha
 have b0:=aA hb
 have a1:=fZ ha
 have b1:=fZ hb
 refine kK (by unfold plV; omega) ?_
 have e:pw ((bi s a b).length+1)=1000000000*pw (bi s a b).length:=by simp [pw]
 have p0:=pw_pos (bi s a b).length
 have ka:val a<pw (bi s a b).length:=by
  refine Int.lt_of_lt_of_le a1 (jS ?_)
  cases s <;> simp only [bi,shA] at hl ⊢ <;> omega
 have kb:val b<pw (bi s a b).length:=by
  refine Int.lt_of_lt_of_le b1 (jS ?_)
  cases s <;> simp only [bi,shA] at hl ⊢ <;> omega
 rw [e]; unfold plV; omega
theorem U5:NOk Tryd.prog (fun _=>none) hG0 79 (eO hG0 .i64 [.li,.li] Yy):=by
 refine fG (fun xs ys p t e h=>?_) ⟨_,Tryd.func79,rfl⟩
 unfold Yy at e
 split at e
 .rename_i a b
  cases e
  obtain ⟨ha,hb,l0,la,lb⟩:=h
  have wa:IntKind.i64.wrap ((a.length:Int)+1)=a.length+1:=iw (by omega) (by omega)
  have wb:IntKind.i64.wrap ((b.length:Int)+1)=b.length+1:=iw (by omega) (by omega)
  by_cases hs:a.length<b.length
  .have hl:(shA true a b).length<=(bi true a b).length:=by show a.length<=b.length; omega
   have lg:(bi true a b).length<=400000:=lb
   refine ⟨cQt true a b,300,zB a b,_,_,_,_,_,O7 ha hb lg hl,rfl,rfl,⟨rfl,rfl,trivial⟩,aed a b,rfl,⟨decide_eq_true (by omega),⟨rfl,by omega,by omega⟩,⟨rfl,by omega,by omega,by omega,?_⟩,⟨rfl,rfl,rfl⟩,⟨rfl,rfl,rfl⟩,⟨rfl,rfl,rfl⟩⟩,rfl,rfl,Dt (jw _ _) (Dx lg) (O8 ha hb hl)⟩
   rw [List.length_replicate,wb]; omega
  .have hl:(shA false a b).length<=(bi false a b).length:=by show b.length<=a.length; omega
   have lg:(bi false a b).length<=400000:=la
   refine ⟨cQt false a b,300,zB a b,_,_,_,_,_,O7 ha hb lg hl,rfl,rfl,⟨rfl,rfl,trivial⟩,aec a b,rfl,⟨decide_eq_false (by omega),⟨rfl,by omega,by omega⟩,⟨rfl,by omega,by omega,by omega,?_⟩,⟨rfl,rfl,rfl⟩,⟨rfl,rfl,rfl⟩,⟨rfl,rfl,rfl⟩⟩,rfl,rfl,Dt (jw _ _) (Dx lg) (O8 ha hb hl)⟩
   rw [List.length_replicate,wa]; omega
 .cases e
end
end Go.Proofs.YtbiiiloimbjpaaaDoor.K
namespace Go.Dg
open Go Go.Eng
def dfB (a b:List Int):Nat->Int
 | 0=>0
 | n+1=>if a.getD n 0=b.getD n 0 then dfB a b n else IntKind.i64.wrap (a.getD n 0 - b.getD n 0)
def dfI (a b:List Int) (i:Int):Int:=dfB a b (i+1).toNat
theorem Ka {a b:List Int} {i:Int} (h:0<=i):dfI a b i=if a.getD i.toNat 0=b.getD i.toNat 0 then dfI a b (i - 1) else IntKind.i64.wrap (a.getD i.toNat 0 - b.getD i.toNat 0):=by
 unfold dfI
 rw [show (i+1).toNat=i.toNat+1 by omega,show (i - 1+1).toNat=i.toNat by omega,dfB]
theorem O9 {a b:List Int}:∀ n,LA a b n=false->dfB a b n=0
 | 0,_=>rfl
 | n+1,h=>by
  simp only [LA] at h
  simp only [dfB]
  split at h
  .rename_i e; rw [if_pos e]; exact O9 n h
  .cases h
def nQ (a b:List Int):Int:=if a.length=b.length then dfB a b a.length else IntKind.i64.wrap ((a.length:Int) - b.length)
theorem Dy {a b:List Int} (ha:Dig a) (hb:Dig b):∀ n,(dfB a b n<0 ↔ uu a b n=true)/\(0<dfB a b n ↔ uu b a n=true)
 | 0=>by simp [dfB,uu]
 | n+1=>by
  have i:=Dy ha hb n
  have a0:=ha.get n
  have b0:=hb.get n
  simp only [dfB,uu]
  by_cases e:a.getD n 0=b.getD n 0
  .rw [if_pos e,if_pos e,if_pos e.symm]; exact i
  .rw [if_neg e,if_neg e,if_neg (fun h=>e h.symm),iw (by omega) (by omega)]
   simp only [decide_eq_true_eq]
   omega
theorem Kb {a b:List Int} (ha:Dig a) (hb:Dig b) (ta:Top a) (tb:Top b) (la:a.length<=500000) (lb:b.length<=500000):nQ a b<0 ↔ val a<val b:=by
 rw [<- Bz ha hb ta tb]
 unfold nQ J4
 by_cases e:a.length=b.length
 .rw [if_pos e,if_pos e]; exact (Dy ha hb _).1
 .rw [if_neg e,if_neg e,iw (by omega) (by omega)]
  simp only [decide_eq_true_eq]
  omega
theorem U6 {a b:List Int} (ha:Dig a) (hb:Dig b) (ta:Top a) (tb:Top b) (la:a.length<=500000) (lb:b.length<=500000):0<nQ a b ↔ val b<val a:=by
 rw [<- Bz hb ha tb ta]
 unfold nQ J4
 by_cases e:a.length=b.length
 .rw [if_pos e,if_pos e.symm,<- e]; exact (Dy ha hb _).2
 .rw [if_neg e,if_neg (fun h=>e h.symm),iw (by omega) (by omega)]
  simp only [decide_eq_true_eq]
  omega
end Go.Dg
namespace Go.Proofs.YtbiiiloimbjpaaaDoor.K
open Go Go.Eng Go.Dg
noncomputable section
noncomputable def IP (d:Bool):Ctx:=cHb [(10,d)]
theorem xu (d:Bool):CtxOk (IP d):=oV _
noncomputable def wT (a b:List Int):St:=uo (IP false) 300 76 (zB a b) (zG a b)
def Gn:AFr:=⟨76,none⟩
noncomputable def Pb:Code:=iX Tryd.prog 76 0
def aee (i:Int):Patch:=⟨(5,.int true .i64 i) :: fD 19 22,[],[]⟩
def cmR (r:Int):Patch:=⟨(4,.int true .i64 r) :: (5,.any false) :: fD 19 22,[],[]⟩
def Gp:Patch:=⟨(5,.any false) :: fD 19 22,[],[]⟩
def rJ (a b:List Int):SumL Int:=
 {
  S:=aee
  I:=fun i=>-1<=i/\i<a.length
  μ:=fun i=>(i+1).toNat
  F:=fun i=>bif vI a b i then (.ret,cmR (dfI a b i)) else (.exit 0,Gp)
  next:=fun i=>IntKind.i64.wrap (i - 1)
  ids:=fun _=>[]
  X:=fun i x=>match x with
   | .ret=>some (cmR (IntKind.i64.wrap (a.getD i.toNat 0 - b.getD i.toNat 0)),[])
   | .exit _=>some (Gp,[])
   | _=>none }
def Gq (a b:List Int):Prop:=IntKind.i64.wrap ((↑a.length:Int) - (1:Int))=IntKind.i64.wrap ((↑a.length:Int) - (1:Int))
theorem LH (a b:List Int):fit (wT a b) (wT a b) (ah (wT a b) ((rJ a b).S (IntKind.i64.wrap ((a.length:Int) - 1)))) ([])=some (.p (Gq a b)):=by kernel_rfl
def IQ (a b:List Int) (i:Int):Prop:=(decide (i>=0)=true->(((0:Int)<=i/\i<(↑a.length:Int))/\i.toNat<a.length/\((0:Int)<=i/\i<(↑b.length:Int))/\i.toNat<b.length)/\((a.getD i.toNat (0:Int) != b.getD i.toNat (0:Int))=true->((0:Int)<=i/\i<(↑a.length:Int))/\i.toNat<a.length/\((0:Int)<=i/\i<(↑b.length:Int))/\i.toNat<b.length))/\((!decide (i>=0))=true->(rJ a b).F i=(Ex.exit (0:Nat),Gp))/\((decide (i>=0)&&!a.getD i.toNat (0:Int) != b.getD i.toNat (0:Int))=true->IntKind.i64.wrap (i - (1:Int))=(rJ a b).next i/\(rJ a b).I ((rJ a b).next i)/\(rJ a b).μ ((rJ a b).next i)<(rJ a b).μ i/\(rJ a b).F ((rJ a b).next i)=(rJ a b).F i)/\((decide (i>=0)&&a.getD i.toNat (0:Int) != b.getD i.toNat (0:Int))=true->IntKind.i64.wrap (a.getD i.toNat (0:Int) - b.getD i.toNat (0:Int))=IntKind.i64.wrap (a.getD i.toNat (0:Int) - b.getD i.toNat (0:Int))/\(rJ a b).F i=(Ex.ret,cmR (IntKind.i64.wrap (a.getD i.toNat (0:Int) - b.getD i.toNat (0:Int)))))
theorem U7 (a b:List Int) (i:Int):d9 (wT a b) ((rJ a b).way (i)) ((run (IP false) 300).code Gn Pb (ah (wT a b) ((rJ a b).S i)))=some (.p (IQ a b i)):=by kernel_rfl
theorem Pd (a b:List Int) (hs:Sm a) (hl:a.length=b.length):CodeOk (IP false) Gn (.loop Pb) (wT a b) ⟨.tt,[⟨.b (vI a b (a.length - 1)),.ret,ah (wT a b) (cmR (dfI a b (a.length - 1)))⟩,⟨.b (!vI a b (a.length - 1)),.exit 0,ah (wT a b) Gp⟩]⟩:=by
 have hs:=hs.le
 have e0:IntKind.i64.wrap ((a.length:Int) - 1)=a.length - 1:=iw (by omega) (by omega)
 refine NV (bL (xu false) 300) (rJ a b) (y0:=IntKind.i64.wrap ((a.length:Int) - 1)) (by rw [e0]; exact ⟨by omega,by omega⟩) ⟨_,LH a b,rfl⟩ (by kernel_rfl) (fun i hi=>⟨_,U7 a b i,?_⟩) (by rw [e0]; rfl)
 obtain ⟨i0,i1⟩:=(show -1<=i/\i<a.length from hi)
 refine ⟨fun h=>?_,fun h=>?_,fun h=>?_,fun h=>?_⟩
 .have h:=dt.1 h
  have q:((0:Int)<=i/\i<(↑a.length:Int))/\i.toNat<a.length/\((0:Int)<=i/\i<(↑b.length:Int))/\i.toNat<b.length:=by omega
  exact ⟨q,fun _=>q⟩
 .have h:=ndt.1 h
  have:i=-1:=by omega
  subst this; rfl
 .obtain ⟨h0,h⟩:=WH.1 h
  have h:=ad9.1 h
  have e:IntKind.i64.wrap (i - 1)=i - 1:=iw (by omega) (by omega)
  refine ⟨rfl,?_,?_,?_⟩
  .show -1<=IntKind.i64.wrap (i - 1)/\IntKind.i64.wrap (i - 1)<a.length
   rw [e]; omega
  .show (IntKind.i64.wrap (i - 1)+1).toNat<(i+1).toNat
   rw [e]; omega
  .show (bif vI a b (IntKind.i64.wrap (i - 1)) then (Ex.ret,cmR (dfI a b (IntKind.i64.wrap (i - 1)))) else (.exit 0,Gp))=bif vI a b i then (Ex.ret,cmR (dfI a b i)) else (.exit 0,Gp)
   rw [e,F5 h0,Ka h0,if_pos h,if_pos h]
 .obtain ⟨h0,h⟩:=WH.1 h
  have h:=F6.1 h
  refine ⟨rfl,?_⟩
  show (bif vI a b i then (Ex.ret,cmR (dfI a b i)) else (.exit 0,Gp))=_
  rw [F5 h0,Ka h0,if_neg h,if_neg h]; rfl
noncomputable def Yz (a b:List Int):Ctx:=bg (IP false) [CY 76 (wT a b).hp.clock Gn Pb (wT a b) (vI a b (a.length - 1)) .ret (cmR (dfI a b (a.length - 1))) (.exit 0) Gp]
theorem U8 (a b:List Int) (hs:Sm a) (hl:a.length=b.length):CtxOk (Yz a b):=Ib (xu false) (Pd a b hs hl) (cK (xu false))
def Pe (a b:List Int):Prop:=(((↑a.length:Int) != (↑b.length:Int))=false/\At (Gn) (Gn) (Pb) (Pb) (wT a b) (wT a b))
def U9 (a b:List Int):AV:=(AV.int true IntKind.i64 (bif !vI a b ((↑a.length:Int) - (1:Int)) then (0:Int) else dfI a b ((↑a.length:Int) - (1:Int))))
def Va (a b:List Int):Hp:=⟨[{ wr:=(0:Nat),body:=ABody.rows IntKind.i64 b },{ wr:=(0:Nat),body:=ABody.rows IntKind.i64 a }],2,15⟩
theorem ab9 (a b:List Int):(run (Yz a b) 300).call 76 (zB a b) (zG a b)=some ⟨.p (Pe a b),[⟨.tt,U9 a b,Va a b⟩]⟩:=by kernel_rfl
def Pf (a b:List Int):Prop:=(((↑a.length:Int) != (↑b.length:Int))=true)
def Vb (a b:List Int):AV:=(AV.int true IntKind.i64 (IntKind.i64.wrap ((↑a.length:Int) - (↑b.length:Int))))
def Vd (a b:List Int):Hp:=⟨[{ wr:=(0:Nat),body:=ABody.rows IntKind.i64 b },{ wr:=(0:Nat),body:=ABody.rows IntKind.i64 a }],2,14⟩
theorem aca (a b:List Int):(run (IP true) 300).call 76 (zB a b) (zG a b)=some ⟨.p (Pf a b),[⟨.tt,Vb a b,Vd a b⟩]⟩:=by kernel_rfl
def cmpV:List Nu->List (List Int)->Option (Prop×To)
 | [],[a,b]=>some (Sm a/\Sm b,.nu .i64 (nQ a b))
 | _,_=>none
theorem YA:NOk Tryd.prog (fun _=>none) hG0 76 (eO hG0 .i64 [.li,.li] cmpV):=by
 refine fG (fun xs ys p t e h=>?_) ⟨_,Tryd.func76,rfl⟩
 unfold cmpV at e
 split at e
 .rename_i a b
  cases e
  obtain ⟨ha,hb⟩:=h
  by_cases hl:a.length=b.length
  .refine ⟨Yz a b,300,zB a b,_,_,_,_,_,U8 a b ha hl,rfl,rfl,⟨rfl,rfl,trivial⟩,ab9 a b,rfl,⟨?_,rfl,rfl,rfl⟩,rfl,rfl,?_⟩
   .rw [hl]; exact J5.2 rfl
   .show (bif !vI a b ((a.length:Int) - 1) then 0 else dfI a b ((a.length:Int) - 1))=nQ a b
    unfold nQ vI dfI
    rw [if_pos hl,show ((a.length:Int) - 1+1).toNat=a.length by omega]
    cases e:LA a b a.length with
    | true=>rfl
    | false=>rw [O9 _ e]; rfl
  .refine ⟨IP true,300,zB a b,_,_,_,_,_,xu true,rfl,rfl,⟨rfl,rfl,trivial⟩,aca a b,rfl,?_,rfl,rfl,?_⟩
   .exact F6.2 (by omega)
   .show IntKind.i64.wrap ((a.length:Int) - b.length)=nQ a b
    unfold nQ
    rw [if_neg hl]
 .cases e
def hUp (x t0:Nat):Nat->Nat->Option AV:=fun c t=>match Nat.beq t t0 with
 | true=>match Nat.ble c x with
  | true=>some (.bool false true)
  | false=>some (.bool false false)
 | false=>none
noncomputable def cOn (x:Nat):Ctx:=gG cL (hUp x 9)
theorem Pg (x:Nat):CtxOk (cOn x):=dh gX _
def Vf (n:Int):Prop:=((n != (0:Int))=true/\(IntKind.i64.wrap (n.tdiv (1000000000:Int)) != (0:Int))=false)
def YB (n:Int):AV:=(AV.agg [AV.bool true (decide (n<0)),AV.gslice (0:Nat) (0:Nat) 1 1])
def YC (n:Int):Hp:=⟨[{ wr:=23,body:=ABody.grown [AV.int true IntKind.i64 (if IntKind.i64.wrap ((0:Int) - n.tmod (1000000000:Int))>n.tmod (1000000000:Int) then IntKind.i64.wrap ((0:Int) - n.tmod (1000000000:Int)) else n.tmod (1000000000:Int))] }],1,32⟩
theorem aef (n:Int):(run (cOn 11) 300).call 73 [.int true .i64 n] hG0=some ⟨.p (Vf n),[⟨.tt,YB n,YC n⟩]⟩:=by kernel_rfl
def Vg (n:Int):Prop:=((n != (0:Int))=true/\(IntKind.i64.wrap (n.tdiv (1000000000:Int)) != (0:Int))=true/\(IntKind.i64.wrap ((IntKind.i64.wrap (n.tdiv (1000000000:Int))).tdiv (1000000000:Int)) != (0:Int))=false)
def YD (n:Int):AV:=(AV.agg [AV.bool true (decide (n<0)),AV.gslice (0:Nat) (0:Nat) 2 1])
def YE (n:Int):Hp:=⟨[{ wr:=42,body:=ABody.grown [AV.int true IntKind.i64 (if IntKind.i64.wrap ((0:Int) - n.tmod (1000000000:Int))>n.tmod (1000000000:Int) then IntKind.i64.wrap ((0:Int) - n.tmod (1000000000:Int)) else n.tmod (1000000000:Int)),AV.int true IntKind.i64 (if IntKind.i64.wrap ((0:Int) - (IntKind.i64.wrap (n.tdiv (1000000000:Int))).tmod (1000000000:Int))>(IntKind.i64.wrap (n.tdiv (1000000000:Int))).tmod (1000000000:Int) then IntKind.i64.wrap ((0:Int) - (IntKind.i64.wrap (n.tdiv (1000000000:Int))).tmod (1000000000:Int)) else (IntKind.i64.wrap (n.tdiv (1000000000:Int))).tmod (1000000000:Int))] }],1,51⟩
theorem aeg (n:Int):(run (cOn 30) 300).call 73 [.int true .i64 n] hG0=some ⟨.p (Vg n),[⟨.tt,YD n,YE n⟩]⟩:=by kernel_rfl
def onV:List Nu->List (List Int)->Option (Prop×To)
 | [.n n],[]=>some (0<n/\n<1000000000000000000,.st [.pb false,.li false (aa n.toNat)])
 | _,_=>none
theorem acb {n:Int} (h0:0<=n) (h1:n<9000000000000000000):(if IntKind.i64.wrap (0 - n.tmod 1000000000)>n.tmod 1000000000 then IntKind.i64.wrap (0 - n.tmod 1000000000) else n.tmod 1000000000)=n % 1000000000:=by
 have e:n.tmod 1000000000=n % 1000000000:=Int.tmod_eq_emod_of_nonneg h0
 rw [e,iw (by omega) (by omega),if_neg (by omega)]
theorem acd {n:Int} (h0:0<=n) (h1:n<9000000000000000000):IntKind.i64.wrap (n.tdiv 1000000000)=n / 1000000000:=by
 rw [Int.tdiv_eq_ediv_of_nonneg h0,iw (by omega) (by omega)]
theorem YF {n:Int} (h0:0<n) (h1:n<1000000000):aa n.toNat=[n % 1000000000]:=by
 rw [fH (by omega),show n.toNat / 1000000000=0 by omega,dU]
 congr 1
 omega
theorem YG {n:Int} (h0:1000000000<=n) (h1:n<1000000000000000000):aa n.toNat=[n % 1000000000,n / 1000000000 % 1000000000]:=by
 rw [fH (by omega),fH (by omega),show n.toNat / 1000000000 / 1000000000=0 by omega,dU]
 congr 1
 .omega
 .congr 1
  omega
theorem ace:NOk Tryd.prog (fun _=>none) hG0 73 (eO hG0 .i64 [.nu (.i .i64)] onV):=by
 refine fG (fun xs ys p t e h=>?_) ⟨_,Tryd.func73,rfl⟩
 unfold onV at e
 split at e
 .rename_i n
  cases e
  obtain ⟨h0,h1⟩:=h
  have q1:=acd (n:=n) (by omega) (by omega)
  have d1:=acb (n:=n) (by omega) (by omega)
  by_cases h:n<1000000000
  .refine ⟨cOn 11,300,[.int true .i64 n],_,_,_,_,_,Pg 11,rfl,rfl,⟨⟨rfl,rfl⟩,trivial⟩,aef n,rfl,⟨F6.2 (by omega),?_⟩,rfl,rfl,?_⟩
   .rw [q1]; exact J5.2 (by omega)
   .refine ⟨decide_eq_false (by omega),?_⟩
    show [_]=aa n.toNat
    rw [d1,YF h0 h]
  .have q2:=acd (n:=n / 1000000000) (by omega) (by omega)
   have d2:=acb (n:=n / 1000000000) (by omega) (by omega)
   refine ⟨cOn 30,300,[.int true .i64 n],_,_,_,_,_,Pg 30,rfl,rfl,⟨⟨rfl,rfl⟩,trivial⟩,aeg n,rfl,⟨F6.2 (by omega),?_,?_⟩,rfl,rfl,?_⟩
   .rw [q1]; exact F6.2 (by omega)
   .rw [q1,q2]; exact J5.2 (by omega)
   .refine ⟨decide_eq_false (by omega),?_⟩
    show [_,_]=aa n.toNat
    rw [d1,q1,d2,YG (by omega) h1]
 .cases e
def tZ:List (FuncId×fO):=
 (87,eO hG0 .i64 [.li,.nu (.i .i64)] Yc) ::
 (72,eO hG0 .i64 [.li,.li] Yn) ::
 (78,eO hG0 .i64 [.li,.li] Yq) ::
 (79,eO hG0 .i64 [.li,.li] Yy) ::
 (76,eO hG0 .i64 [.li,.li] cmpV) ::
 (73,eO hG0 .i64 [.nu (.i .i64)] onV) :: []
theorem WI:∀ x∈tZ,NOk Tryd.prog (fun _=>none) hG0 x.1 x.2:=by
 intro x hx
 simp only [tZ,List.mem_cons,List.not_mem_nil,or_false] at hx
 rcases hx with rfl|rfl|rfl|rfl|rfl|rfl
 .exact part_ok
 .exact OX
 .exact UT
 .exact U5
 .exact YA
 .exact ace
noncomputable def cZ:Ctx:=mkN Tryd.prog (fun _=>none) hG0 tZ [] kV
theorem aK:CtxOk cZ:=oO prog_ok (oL _) WI (fun x h=>by cases h)
noncomputable def cZb (l:List (Nat×Bool)):Ctx:=gG cZ (hZ (l.map fun x=>(x.1,match x.2 with|true=>.bool false true|false=>.bool false false)))
theorem IR (l:List (Nat×Bool)):CtxOk (cZb l):=dh aK _
def vL (y:List Int):List AV:=[.lslice 0 y.length,.int false .i64 5]
def Gr:AFr:=⟨75,none⟩
noncomputable def seA:Code:=iX Tryd.prog 75 0
noncomputable def seS (y:List Int):St:=uo cZ 300 75 (vL y) (zH y)
end
end Go.Proofs.YtbiiiloimbjpaaaDoor.K
namespace Go.Dg
open Go Go.Eng
def PP:Int:=1000000000000000000000000000000000000000000000
def lH (sq:Int):Nat->Int->Int->Int->Int
 | 0,_,_,s=>s
 | n+1,i,t,s=>match decide (t*sq / PP / (i*(i+1))=0) with
  | true=>s
  | false=>lH sq n (i+2) (t*sq / PP / (i*(i+1))) (match decide (i % 4=2) with|true=>s - t*sq / PP / (i*(i+1))|false=>s+t*sq / PP / (i*(i+1)))
def aX (n:Int):Int:=if n<5 then n else 5
def cutL (v:Int):List Int:=List.take ((aa v.toNat).length - aX (aa v.toNat).length:Int).toNat (List.drop (aX (aa v.toNat).length).toNat (aa v.toNat))
theorem zO:∀ {l:List Int} (k:Nat),Dig l->val (l.drop k)=val l / pw k
 | l,0,_=>by simp [pw]
 | [],k+1,_=>by simp [val]
 | x :: l,k+1,h=>by
  have hh:=bQ.1 h
  have p:=pw_pos k
  rw [List.drop_succ_cons,zO k hh.2,jT,<- Int.ediv_ediv_of_nonneg (by omega)]
  congr 1
  simp only [val]
  omega
theorem WJ:pw 5=PP:=by decide
theorem Kc {v:Int} (h:0<=v):cutL v=(aa v.toNat).drop (aX (aa v.toNat).length).toNat:=by
 unfold cutL aX
 rw [List.take_of_length_le]
 rw [List.length_drop]
 split <;> omega
theorem uA {v:Int} (h:0<=v):val (cutL v)=v / PP:=by
 have hv:val (aa v.toNat)=v:=by rw [ut]; omega
 have hd:=aI v.toNat
 rw [Kc h]
 unfold aX
 split
 .rename_i h5
  rw [show (((aa v.toNat).length:Int)).toNat=(aa v.toNat).length by omega,List.drop_length]
  have h1:=fZ hd
  have h2:=jS (show (aa v.toNat).length<=5 by omega)
  rw [WJ] at h2
  rw [hv] at h1
  show (0:Int)=v / PP
  rw [Int.ediv_eq_zero_of_lt h (by omega)]
 .rw [show Int.toNat 5=5 from rfl,zO 5 hd,hv,WJ]
theorem Ph {l:List Int} (h:Dig l) (n:Nat):Dig (l.take n):=fun x hx=>h x (List.mem_of_mem_take hx)
theorem Gs {l:List Int} (h:Dig l) (n:Nat):Dig (l.drop n):=fun x hx=>h x (List.mem_of_mem_drop hx)
theorem uB (v:Int):Dig (cutL v):=Ph (Gs (aI _) _) _
end Go.Dg
namespace Go.Dg
theorem gm:0<PP:=by decide
theorem Pi {sq t i:Int} (hs0:0<=sq) (hs:sq<=3*PP) (ht:0<=t) (hi:2<=i):0<=t*sq / PP / (i*(i+1))/\2*(t*sq / PP / (i*(i+1)))<=t:=by
 have p:=gm
 have hii:6<=i*(i+1):=Int.mul_le_mul (a:=2) (b:=3) (c:=i) (d:=i+1) hi (by omega) (by decide) (by omega)
 have h1:t*sq<=t*(3*PP):=Int.mul_le_mul_of_nonneg_left hs ht
 have h2:t*sq / PP<=3*t:=by
  refine Int.ediv_le_of_le_mul p ?_
  rw [show 3*t*PP=t*(3*PP) by rw [Int.mul_comm 3 t,Int.mul_assoc]]
  exact h1
 have h0:0<=t*sq / PP:=Int.ediv_nonneg (Int.mul_nonneg ht hs0) (by omega)
 have h3:0<=t*sq / PP / (i*(i+1)):=Int.ediv_nonneg h0 (by omega)
 have h4:=Int.ediv_mul_le (t*sq / PP) (b:=i*(i+1)) (by omega)
 have h5:=Int.mul_le_mul_of_nonneg_left hii h3
 exact ⟨h3,by omega⟩
theorem Gt {sq:Int} {n:Nat} {i t s:Int} (h:t*sq / PP / (i*(i+1))=0):lH sq (n+1) i t s=s:=by
 rw [lH,decide_eq_true h]
theorem vM {sq:Int} {n:Nat} {i t s:Int} (h:t*sq / PP / (i*(i+1))≠0):lH sq (n+1) i t s=lH sq n (i+2) (t*sq / PP / (i*(i+1))) (match decide (i % 4=2) with|true=>s - t*sq / PP / (i*(i+1))|false=>s+t*sq / PP / (i*(i+1))):=by
 rw [lH,decide_eq_false h]
def dz (x:Int):Nat->Int->Int->Int->Int
 | 0,_,_,s=>s
 | n+1,i,t,s=>match decide (t / (x*x) / i=0) with
  | true=>s
  | false=>dz x n (i+2) (t / (x*x)) (match decide (i % 4=1) with|true=>s+t / (x*x) / i|false=>s - t / (x*x) / i)
theorem Pj {x:Int} {n:Nat} {i t s:Int} (h:t / (x*x) / i=0):dz x (n+1) i t s=s:=by
 rw [dz,decide_eq_true h]
theorem BD {x:Int} {n:Nat} {i t s:Int} (h:t / (x*x) / i≠0):dz x (n+1) i t s=dz x n (i+2) (t / (x*x)) (match decide (i % 4=1) with|true=>s+t / (x*x) / i|false=>s - t / (x*x) / i):=by
 rw [dz,decide_eq_false h]
end Go.Dg
namespace Go.Proofs.YtbiiiloimbjpaaaDoor.K
open Go Go.Eng Go.Dg
noncomputable section
noncomputable def cSe (e m:Bool):Ctx:=cZb [(33,e),(37,m)]
theorem Dz (e m:Bool):CtxOk (cSe e m):=IR _
def seP:Option (Int×Int×Int)->Patch
 | none=>⟨(8,.int true .i64 2) :: fD 16 28,[],[]⟩
 | some (i,t,s)=>⟨(6,.lslice 3 (aa s.toNat).length) :: (7,.lslice 2 (aa t.toNat).length) :: (8,.int true .i64 i) :: fD 16 28,[],[.rows .i64 (aa s.toNat),.rows .i64 (aa t.toNat)]⟩
def seX (s:Int):Patch:=⟨(4,.lslice 2 (aa s.toNat).length) :: (6,.any false) :: (7,.any false) :: (8,.any false) :: fD 16 28,[],[.rows .i64 (aa s.toNat)]⟩
def rM (y:List Int):Int:=val y*val y / PP
def seT (y:List Int) (i t:Int):Int:=t*rM y / PP / (i*(i+1))
def seR (y:List Int):Option (Int×Int×Int)->Int
 | none=>lH (rM y) 200 2 (val y) (val y)
 | some (i,t,s)=>lH (rM y) (201 - (i / 2).toNat) i t s
def seU (y:List Int):SumL (Option (Int×Int×Int)):=
 {
  S:=seP
  I:=fun x=>match x with
   | none=>True
   | some (i,t,s)=>0<t/\i % 2=0/\2<i/\i<=400/\2 ^ (i / 2).toNat*t<=4*PP/\0<s/\(i % 4=2->t<=s)/\s<=i*PP
  μ:=fun x=>match x with
   | none=>400
   | some (i,_,_)=>(400 - i).toNat
  F:=fun x=>(.ret,seX (seR y x))
  next:=fun x=>match x with
   | none=>some (4,seT y 2 (val y),val y - seT y 2 (val y))
   | some (i,t,s)=>some (i+2,seT y i t,match decide (i % 4=2) with|true=>s - seT y i t|false=>s+seT y i t)
  ids:=fun x=>match x with
   | none=>[3,4]
   | some _=>[5,6]
  X:=fun x _=>match x with
   | none=>none
   | some (_,_,s)=>some (seX s,[3]) }
def Gu (y:List Int):Prop:=(2:Int)=2
theorem Pk (y:List Int):fit (seS y) (seS y) (ah (seS y) ((seU y).S none)) ([])=some (.p (Gu y)):=by kernel_rfl
def Pm (y:List Int):Prop:=(((((↑y.length:Int)=(↑y.length:Int)/\((0:Int)<=aX (↑(aa (val y*val y).toNat).length:Int))/\((0:Int)<=(↑(aa (val y*val y).toNat).length:Int) - aX (↑(aa (val y*val y).toNat).length:Int))/\(aX (↑(aa (val y*val y).toNat).length:Int))+((↑(aa (val y*val y).toNat).length:Int) - aX (↑(aa (val y*val y).toNat).length:Int))<=(↑(aa (val y*val y).toNat).length:Int))/\Dig y/\Dig (cutL (val y*val y))/\y.length+(cutL (val y*val y)).length<=(500000:Nat))/\(((0:Int)<=aX (↑(aa (val y*val (cutL (val y*val y))).toNat).length:Int))/\(aX (↑(aa (val y*val (cutL (val y*val y))).toNat).length:Int))<=(↑(aa (val y*val (cutL (val y*val y))).toNat).length:Int)/\(↑(aa (val y*val (cutL (val y*val y))).toNat).length:Int)<=(↑(aa (val y*val (cutL (val y*val y))).toNat).length:Int))/\(((0:Int)<=aX (↑(aa (val y*val (cutL (val y*val y))).toNat).length:Int))/\((0:Int)<=(↑(aa (val y*val (cutL (val y*val y))).toNat).length:Int) - aX (↑(aa (val y*val (cutL (val y*val y))).toNat).length:Int))/\(aX (↑(aa (val y*val (cutL (val y*val y))).toNat).length:Int))+((↑(aa (val y*val (cutL (val y*val y))).toNat).length:Int) - aX (↑(aa (val y*val (cutL (val y*val y))).toNat).length:Int))<=(↑(aa (val y*val (cutL (val y*val y))).toNat).length:Int))/\Dig (cutL (val y*val (cutL (val y*val y))))/\(cutL (val y*val (cutL (val y*val y)))).length<=(500000:Nat)/\(1:Int)<=IntKind.i64.wrap ((2:Int)*IntKind.i64.wrap ((2:Int)+1))/\IntKind.i64.wrap ((2:Int)*IntKind.i64.wrap ((2:Int)+1))<=1000000000)/\((↑(aa (val (cutL (val y*val (cutL (val y*val y)))) / IntKind.i64.wrap ((2:Int)*IntKind.i64.wrap ((2:Int)+1))).toNat).length:Int)==0)=false/\(Int.tmod (2:Int) (4:Int)==2)=true/\((↑y.length:Int)=(↑y.length:Int)/\(↑(aa (val (cutL (val y*val (cutL (val y*val y)))) / IntKind.i64.wrap ((2:Int)*IntKind.i64.wrap ((2:Int)+1))).toNat).length:Int)=(↑(aa (val (cutL (val y*val (cutL (val y*val y)))) / IntKind.i64.wrap ((2:Int)*IntKind.i64.wrap ((2:Int)+1))).toNat).length:Int))/\Dig y/\Dig (aa (val (cutL (val y*val (cutL (val y*val y)))) / IntKind.i64.wrap ((2:Int)*IntKind.i64.wrap ((2:Int)+1))).toNat)/\(0:Nat)<y.length/\y.length<=(500000:Nat)/\(aa (val (cutL (val y*val (cutL (val y*val y)))) / IntKind.i64.wrap ((2:Int)*IntKind.i64.wrap ((2:Int)+1))).toNat).length<=y.length/\val (aa (val (cutL (val y*val (cutL (val y*val y)))) / IntKind.i64.wrap ((2:Int)*IntKind.i64.wrap ((2:Int)+1))).toNat)<=val y)/\(true=true->(((↑(aa (val y - val (aa (val (cutL (val y*val (cutL (val y*val y)))) / IntKind.i64.wrap ((2:Int)*IntKind.i64.wrap ((2:Int)+1))).toNat)).toNat).length:Int)=(↑(aa (val y - seT y (2:Int) (val y)).toNat).length:Int)/\(↑(aa (val (cutL (val y*val (cutL (val y*val y)))) / IntKind.i64.wrap ((2:Int)*IntKind.i64.wrap ((2:Int)+1))).toNat).length:Int)=(↑(aa (seT y (2:Int) (val y)).toNat).length:Int)/\IntKind.i64.wrap ((2:Int)+2)=4)/\aa (val y - val (aa (val (cutL (val y*val (cutL (val y*val y)))) / IntKind.i64.wrap ((2:Int)*IntKind.i64.wrap ((2:Int)+1))).toNat)).toNat=aa (val y - seT y (2:Int) (val y)).toNat/\aa (val (cutL (val y*val (cutL (val y*val y)))) / IntKind.i64.wrap ((2:Int)*IntKind.i64.wrap ((2:Int)+1))).toNat=aa (seT y (2:Int) (val y)).toNat)/\(seU y).I ((seU y).next none)/\(seU y).μ ((seU y).next none)<(seU y).μ none/\(seU y).F ((seU y).next none)=(seU y).F none)
theorem acf (y:List Int):d9 (seS y) ((seU y).way (none)) ((run (cSe false true) 300).code Gr seA (ah (seS y) ((seU y).S none)))=some (.p (Pm y)):=by kernel_rfl
def Po (y:List Int) (i t s:Int):Prop:=(((((↑(aa t.toNat).length:Int)=(↑(aa t.toNat).length:Int)/\((0:Int)<=aX (↑(aa (val y*val y).toNat).length:Int))/\((0:Int)<=(↑(aa (val y*val y).toNat).length:Int) - aX (↑(aa (val y*val y).toNat).length:Int))/\(aX (↑(aa (val y*val y).toNat).length:Int))+((↑(aa (val y*val y).toNat).length:Int) - aX (↑(aa (val y*val y).toNat).length:Int))<=(↑(aa (val y*val y).toNat).length:Int))/\Dig (aa t.toNat)/\Dig (cutL (val y*val y))/\(aa t.toNat).length+(cutL (val y*val y)).length<=(500000:Nat))/\(((0:Int)<=aX (↑(aa (val (aa t.toNat)*val (cutL (val y*val y))).toNat).length:Int))/\(aX (↑(aa (val (aa t.toNat)*val (cutL (val y*val y))).toNat).length:Int))<=(↑(aa (val (aa t.toNat)*val (cutL (val y*val y))).toNat).length:Int)/\(↑(aa (val (aa t.toNat)*val (cutL (val y*val y))).toNat).length:Int)<=(↑(aa (val (aa t.toNat)*val (cutL (val y*val y))).toNat).length:Int))/\(((0:Int)<=aX (↑(aa (val (aa t.toNat)*val (cutL (val y*val y))).toNat).length:Int))/\((0:Int)<=(↑(aa (val (aa t.toNat)*val (cutL (val y*val y))).toNat).length:Int) - aX (↑(aa (val (aa t.toNat)*val (cutL (val y*val y))).toNat).length:Int))/\(aX (↑(aa (val (aa t.toNat)*val (cutL (val y*val y))).toNat).length:Int))+((↑(aa (val (aa t.toNat)*val (cutL (val y*val y))).toNat).length:Int) - aX (↑(aa (val (aa t.toNat)*val (cutL (val y*val y))).toNat).length:Int))<=(↑(aa (val (aa t.toNat)*val (cutL (val y*val y))).toNat).length:Int))/\Dig (cutL (val (aa t.toNat)*val (cutL (val y*val y))))/\(cutL (val (aa t.toNat)*val (cutL (val y*val y)))).length<=(500000:Nat)/\(1:Int)<=IntKind.i64.wrap (i*IntKind.i64.wrap (i+1))/\IntKind.i64.wrap (i*IntKind.i64.wrap (i+1))<=1000000000)/\((↑(aa (val (cutL (val (aa t.toNat)*val (cutL (val y*val y)))) / IntKind.i64.wrap (i*IntKind.i64.wrap (i+1))).toNat).length:Int)==0)=false/\(i.tmod (4:Int)==2)=true/\((↑(aa s.toNat).length:Int)=(↑(aa s.toNat).length:Int)/\(↑(aa (val (cutL (val (aa t.toNat)*val (cutL (val y*val y)))) / IntKind.i64.wrap (i*IntKind.i64.wrap (i+1))).toNat).length:Int)=(↑(aa (val (cutL (val (aa t.toNat)*val (cutL (val y*val y)))) / IntKind.i64.wrap (i*IntKind.i64.wrap (i+1))).toNat).length:Int))/\Dig (aa s.toNat)/\Dig (aa (val (cutL (val (aa t.toNat)*val (cutL (val y*val y)))) / IntKind.i64.wrap (i*IntKind.i64.wrap (i+1))).toNat)/\(0:Nat)<(aa s.toNat).length/\(aa s.toNat).length<=(500000:Nat)/\(aa (val (cutL (val (aa t.toNat)*val (cutL (val y*val y)))) / IntKind.i64.wrap (i*IntKind.i64.wrap (i+1))).toNat).length<=(aa s.toNat).length/\val (aa (val (cutL (val (aa t.toNat)*val (cutL (val y*val y)))) / IntKind.i64.wrap (i*IntKind.i64.wrap (i+1))).toNat)<=val (aa s.toNat))/\(true=true->(((↑(aa (val (aa s.toNat) - val (aa (val (cutL (val (aa t.toNat)*val (cutL (val y*val y)))) / IntKind.i64.wrap (i*IntKind.i64.wrap (i+1))).toNat)).toNat).length:Int)=(↑(aa (match decide (i % (4:Int)=2) with|true=>s - seT y i t|false=>s+seT y i t).toNat).length:Int)/\(↑(aa (val (cutL (val (aa t.toNat)*val (cutL (val y*val y)))) / IntKind.i64.wrap (i*IntKind.i64.wrap (i+1))).toNat).length:Int)=(↑(aa (seT y i t).toNat).length:Int)/\IntKind.i64.wrap (i+2)=i+2)/\aa (val (aa s.toNat) - val (aa (val (cutL (val (aa t.toNat)*val (cutL (val y*val y)))) / IntKind.i64.wrap (i*IntKind.i64.wrap (i+1))).toNat)).toNat=aa (match decide (i % (4:Int)=2) with|true=>s - seT y i t|false=>s+seT y i t).toNat/\aa (val (cutL (val (aa t.toNat)*val (cutL (val y*val y)))) / IntKind.i64.wrap (i*IntKind.i64.wrap (i+1))).toNat=aa (seT y i t).toNat)/\(seU y).I ((seU y).next (some (i,t,s)))/\(seU y).μ ((seU y).next (some (i,t,s)))<(seU y).μ (some (i,t,s))/\(seU y).F ((seU y).next (some (i,t,s)))=(seU y).F (some (i,t,s)))
theorem acg (y:List Int) (i t s:Int):d9 (seS y) ((seU y).way ((some (i,t,s)))) ((run (cSe false true) 300).code Gr seA (ah (seS y) ((seU y).S (some (i,t,s)))))=some (.p (Po y i t s)):=by kernel_rfl
def Pp (y:List Int) (i t s:Int):Prop:=(((((↑(aa t.toNat).length:Int)=(↑(aa t.toNat).length:Int)/\((0:Int)<=aX (↑(aa (val y*val y).toNat).length:Int))/\((0:Int)<=(↑(aa (val y*val y).toNat).length:Int) - aX (↑(aa (val y*val y).toNat).length:Int))/\(aX (↑(aa (val y*val y).toNat).length:Int))+((↑(aa (val y*val y).toNat).length:Int) - aX (↑(aa (val y*val y).toNat).length:Int))<=(↑(aa (val y*val y).toNat).length:Int))/\Dig (aa t.toNat)/\Dig (cutL (val y*val y))/\(aa t.toNat).length+(cutL (val y*val y)).length<=(500000:Nat))/\(((0:Int)<=aX (↑(aa (val (aa t.toNat)*val (cutL (val y*val y))).toNat).length:Int))/\(aX (↑(aa (val (aa t.toNat)*val (cutL (val y*val y))).toNat).length:Int))<=(↑(aa (val (aa t.toNat)*val (cutL (val y*val y))).toNat).length:Int)/\(↑(aa (val (aa t.toNat)*val (cutL (val y*val y))).toNat).length:Int)<=(↑(aa (val (aa t.toNat)*val (cutL (val y*val y))).toNat).length:Int))/\(((0:Int)<=aX (↑(aa (val (aa t.toNat)*val (cutL (val y*val y))).toNat).length:Int))/\((0:Int)<=(↑(aa (val (aa t.toNat)*val (cutL (val y*val y))).toNat).length:Int) - aX (↑(aa (val (aa t.toNat)*val (cutL (val y*val y))).toNat).length:Int))/\(aX (↑(aa (val (aa t.toNat)*val (cutL (val y*val y))).toNat).length:Int))+((↑(aa (val (aa t.toNat)*val (cutL (val y*val y))).toNat).length:Int) - aX (↑(aa (val (aa t.toNat)*val (cutL (val y*val y))).toNat).length:Int))<=(↑(aa (val (aa t.toNat)*val (cutL (val y*val y))).toNat).length:Int))/\Dig (cutL (val (aa t.toNat)*val (cutL (val y*val y))))/\(cutL (val (aa t.toNat)*val (cutL (val y*val y)))).length<=(500000:Nat)/\(1:Int)<=IntKind.i64.wrap (i*IntKind.i64.wrap (i+1))/\IntKind.i64.wrap (i*IntKind.i64.wrap (i+1))<=1000000000)/\((↑(aa (val (cutL (val (aa t.toNat)*val (cutL (val y*val y)))) / IntKind.i64.wrap (i*IntKind.i64.wrap (i+1))).toNat).length:Int)==0)=false/\(i.tmod (4:Int)==2)=false/\((↑(aa s.toNat).length:Int)=(↑(aa s.toNat).length:Int)/\(↑(aa (val (cutL (val (aa t.toNat)*val (cutL (val y*val y)))) / IntKind.i64.wrap (i*IntKind.i64.wrap (i+1))).toNat).length:Int)=(↑(aa (val (cutL (val (aa t.toNat)*val (cutL (val y*val y)))) / IntKind.i64.wrap (i*IntKind.i64.wrap (i+1))).toNat).length:Int))/\Dig (aa s.toNat)/\Dig (aa (val (cutL (val (aa t.toNat)*val (cutL (val y*val y)))) / IntKind.i64.wrap (i*IntKind.i64.wrap (i+1))).toNat)/\((0:Nat)<(aa s.toNat).length\/(0:Nat)<(aa (val (cutL (val (aa t.toNat)*val (cutL (val y*val y)))) / IntKind.i64.wrap (i*IntKind.i64.wrap (i+1))).toNat).length)/\(aa s.toNat).length<=(400000:Nat)/\(aa (val (cutL (val (aa t.toNat)*val (cutL (val y*val y)))) / IntKind.i64.wrap (i*IntKind.i64.wrap (i+1))).toNat).length<=(400000:Nat))/\(true=true->(((↑(aa (val (aa s.toNat)+val (aa (val (cutL (val (aa t.toNat)*val (cutL (val y*val y)))) / IntKind.i64.wrap (i*IntKind.i64.wrap (i+1))).toNat)).toNat).length:Int)=(↑(aa (match decide (i % (4:Int)=2) with|true=>s - seT y i t|false=>s+seT y i t).toNat).length:Int)/\(↑(aa (val (cutL (val (aa t.toNat)*val (cutL (val y*val y)))) / IntKind.i64.wrap (i*IntKind.i64.wrap (i+1))).toNat).length:Int)=(↑(aa (seT y i t).toNat).length:Int)/\IntKind.i64.wrap (i+2)=i+2)/\aa (val (aa s.toNat)+val (aa (val (cutL (val (aa t.toNat)*val (cutL (val y*val y)))) / IntKind.i64.wrap (i*IntKind.i64.wrap (i+1))).toNat)).toNat=aa (match decide (i % (4:Int)=2) with|true=>s - seT y i t|false=>s+seT y i t).toNat/\aa (val (cutL (val (aa t.toNat)*val (cutL (val y*val y)))) / IntKind.i64.wrap (i*IntKind.i64.wrap (i+1))).toNat=aa (seT y i t).toNat)/\(seU y).I ((seU y).next (some (i,t,s)))/\(seU y).μ ((seU y).next (some (i,t,s)))<(seU y).μ (some (i,t,s))/\(seU y).F ((seU y).next (some (i,t,s)))=(seU y).F (some (i,t,s)))
theorem ach (y:List Int) (i t s:Int):d9 (seS y) ((seU y).way ((some (i,t,s)))) ((run (cSe false false) 300).code Gr seA (ah (seS y) ((seU y).S (some (i,t,s)))))=some (.p (Pp y i t s)):=by kernel_rfl
def Vh (y:List Int) (i t s:Int):Prop:=(((((↑(aa t.toNat).length:Int)=(↑(aa t.toNat).length:Int)/\((0:Int)<=aX (↑(aa (val y*val y).toNat).length:Int))/\((0:Int)<=(↑(aa (val y*val y).toNat).length:Int) - aX (↑(aa (val y*val y).toNat).length:Int))/\(aX (↑(aa (val y*val y).toNat).length:Int))+((↑(aa (val y*val y).toNat).length:Int) - aX (↑(aa (val y*val y).toNat).length:Int))<=(↑(aa (val y*val y).toNat).length:Int))/\Dig (aa t.toNat)/\Dig (cutL (val y*val y))/\(aa t.toNat).length+(cutL (val y*val y)).length<=(500000:Nat))/\(((0:Int)<=aX (↑(aa (val (aa t.toNat)*val (cutL (val y*val y))).toNat).length:Int))/\(aX (↑(aa (val (aa t.toNat)*val (cutL (val y*val y))).toNat).length:Int))<=(↑(aa (val (aa t.toNat)*val (cutL (val y*val y))).toNat).length:Int)/\(↑(aa (val (aa t.toNat)*val (cutL (val y*val y))).toNat).length:Int)<=(↑(aa (val (aa t.toNat)*val (cutL (val y*val y))).toNat).length:Int))/\(((0:Int)<=aX (↑(aa (val (aa t.toNat)*val (cutL (val y*val y))).toNat).length:Int))/\((0:Int)<=(↑(aa (val (aa t.toNat)*val (cutL (val y*val y))).toNat).length:Int) - aX (↑(aa (val (aa t.toNat)*val (cutL (val y*val y))).toNat).length:Int))/\(aX (↑(aa (val (aa t.toNat)*val (cutL (val y*val y))).toNat).length:Int))+((↑(aa (val (aa t.toNat)*val (cutL (val y*val y))).toNat).length:Int) - aX (↑(aa (val (aa t.toNat)*val (cutL (val y*val y))).toNat).length:Int))<=(↑(aa (val (aa t.toNat)*val (cutL (val y*val y))).toNat).length:Int))/\Dig (cutL (val (aa t.toNat)*val (cutL (val y*val y))))/\(cutL (val (aa t.toNat)*val (cutL (val y*val y)))).length<=(500000:Nat)/\(1:Int)<=IntKind.i64.wrap (i*IntKind.i64.wrap (i+1))/\IntKind.i64.wrap (i*IntKind.i64.wrap (i+1))<=1000000000)/\((↑(aa (val (cutL (val (aa t.toNat)*val (cutL (val y*val y)))) / IntKind.i64.wrap (i*IntKind.i64.wrap (i+1))).toNat).length:Int)==0)=true)/\(true=true->((↑(aa s.toNat).length:Int)=(↑(aa s.toNat).length:Int)/\aa s.toNat=aa s.toNat)/\(seU y).F (some (i,t,s))=(Ex.ret,seX s))
theorem aeh (y:List Int) (i t s:Int):d9 (seS y) ((seU y).way ((some (i,t,s)))) ((run (cSe true false) 300).code Gr seA (ah (seS y) ((seU y).S (some (i,t,s)))))=some (.p (Vh y i t s)):=by kernel_rfl
structure SeD (y:List Int):Prop where
 d:Dig y
 l:y.length<=100
 hi:val y<=1700000000000000000000000000000000000000000000
 lo:0<seT y 2 (val y)
theorem SeD.sq {y:List Int} (h:SeD y):0<=rM y/\rM y<=3*PP:=by
 have v0:=aA h.d
 have v1:=h.hi
 have p:=gm
 refine ⟨Int.ediv_nonneg (Int.mul_nonneg v0 v0) (by omega),Int.ediv_le_of_le_mul p ?_⟩
 have:=Int.mul_le_mul (a:=val y) (b:=val y) (c:=1700000000000000000000000000000000000000000000) (d:=1700000000000000000000000000000000000000000000) v1 v1 v0 (by decide)
 have e:(1700000000000000000000000000000000000000000000:Int)*1700000000000000000000000000000000000000000000<=3*PP*PP:=by decide
 omega
theorem WK {i:Int} (h0:2<=i) (h1:i<=400):IntKind.i64.wrap (i*IntKind.i64.wrap (i+1))=i*(i+1):=by
 have e:i*(i+1)<=400*401:=Int.mul_le_mul (a:=i) (b:=i+1) (c:=400) (d:=401) h1 (by omega) (by omega) (by decide)
 have e2:2*3<=i*(i+1):=Int.mul_le_mul (a:=2) (b:=3) (c:=i) (d:=i+1) h0 (by omega) (by decide) (by omega)
 rw [show IntKind.i64.wrap (i+1)=i+1 from iw (by omega) (by omega),iw (by omega) (by omega)]
theorem SeD.q {y:List Int} (h:SeD y) {v i:Int} (hv:0<=v) (h0:2<=i) (h1:i<=400):val (cutL (v*val (cutL (val y*val y)))) / IntKind.i64.wrap (i*IntKind.i64.wrap (i+1))=seT y i v:=by
 have v0:=aA h.d
 have h2:=h.sq
 rw [WK h0 h1,uA (Int.mul_nonneg v0 v0),uA (v:=v*(val y*val y / PP)) (Int.mul_nonneg hv h2.1)]
 rfl
theorem vN {n:Int} (h:0<=n):0<=aX n/\aX n<=n:=by unfold aX; split <;> omega
theorem zP (v:Int):(cutL v).length<=(aa v.toNat).length:=by
 unfold cutL
 rw [List.length_take,List.length_drop]
 omega
theorem jd {v:Int} {n:Nat} (h0:0<=v) (h:v<pw n):(aa v.toNat).length<=n:=F7 (by omega)
theorem len_mul {a b:Int} (a0:0<=a) (a1:a<=4*PP) (b0:0<=b) (b1:b<=4*PP):(aa (a*b).toNat).length<=11:=by
 have p:=gm
 have h:=Int.mul_le_mul a1 b1 b0 (by omega)
 have e:4*PP*(4*PP)<pw 11:=by decide
 exact jd (Int.mul_nonneg a0 b0) (by omega)
theorem jH {a:Int} (a0:0<=a) (a1:a<=400*PP):(aa a.toNat).length<=6:=by
 have e:400*PP<pw 6:=by decide
 exact jd a0 (by omega)
theorem dv {a:Int} (a0:0<=a):val (aa a.toNat)=a:=by rw [ut]; omega
theorem Gv {a:Int} (a0:0<a):0<(aa a.toNat).length:=Dp (by omega)
theorem YH {a b:Int} (a0:0<=a) (h:a<=b):(aa a.toNat).length<=(aa b.toNat).length:=by
 refine jd a0 ?_
 have:=fZ (aI b.toNat)
 rw [dv (by omega)] at this
 omega
theorem DC {n:Nat} {t:Int} (h0:0<t) (h:2 ^ n*t<=4*PP):n<=151:=by
 refine Nat.le_of_not_lt fun hn=>?_
 have h1:(2:Int) ^ 152<=2 ^ n:=by
  have:=Nat.pow_le_pow_right (n:=2) (by decide) (show 152<=n by omega)
  have e1:((2 ^ 152:Nat):Int)<=((2 ^ n:Nat):Int):=by exact_mod_cast this
  simpa using e1
 have h2:(2:Int) ^ n*1<=2 ^ n*t:=Int.mul_le_mul_of_nonneg_left (by omega) (by omega)
 have e:4*PP<2 ^ 152:=by decide
 omega
theorem DD {y:List Int} (h:SeD y) {i t:Int} (ht:0<=t) (hi:2<=i):0<=seT y i t/\2*seT y i t<=t:=Pi h.sq.1 h.sq.2 ht hi
theorem Pq {y:List Int} (h:SeD y):seR y (some (4,seT y 2 (val y),val y - seT y 2 (val y)))=seR y none:=by
 show lH (rM y) 199 4 _ _=lH (rM y) (199+1) 2 (val y) (val y)
 rw [vM (show val y*rM y / PP / (2*(2+1))≠0 from by have:=h.lo; unfold seT at this; omega)]
 rfl
theorem Vi {y:List Int} {i t s:Int} (hi:(i / 2).toNat<=200) (h:seT y i t=0):seR y (some (i,t,s))=s:=by
 show lH (rM y) (201 - (i / 2).toNat) i t s=s
 rw [show 201 - (i / 2).toNat=(200 - (i / 2).toNat)+1 by omega,Gt h]
theorem Pt {y:List Int} {i t s:Int} (h0:0<=i) (hi:(i / 2).toNat<=200) (h:seT y i t≠0):seR y ((seU y).next (some (i,t,s)))=seR y (some (i,t,s)):=by
 show lH (rM y) (201 - ((i+2) / 2).toNat) (i+2) (seT y i t) _=lH (rM y) (201 - (i / 2).toNat) i t s
 rw [show 201 - (i / 2).toNat=(200 - (i / 2).toNat)+1 by omega,vM h,show 201 - ((i+2) / 2).toNat=200 - (i / 2).toNat by omega]
 rfl
theorem Pv {y:List Int} (h:SeD y) {i t s:Int} (hI:(seU y).I (some (i,t,s))) (h0:seT y i t≠0):(seU y).I ((seU y).next (some (i,t,s))):=by
 obtain ⟨t0,i0,i1,i2,pw,s0,ts,sb⟩:=(show 0<t/\i % 2=0/\2<i/\i<=400/\2 ^ (i / 2).toNat*t<=4*PP/\0<s/\(i % 4=2->t<=s)/\s<=i*PP from hI)
 obtain ⟨b0,b1⟩:=DD h (i:=i) (t:=t) (by omega) (by omega)
 have k:=DC t0 pw
 have hp:(2:Int) ^ ((i+2) / 2).toNat*seT y i t<=4*PP:=by
  rw [show ((i+2) / 2).toNat=(i / 2).toNat+1 by omega,Int.pow_succ,Int.mul_assoc]
  have:(2:Int) ^ (i / 2).toNat*(2*seT y i t)<=2 ^ (i / 2).toNat*t:=Int.mul_le_mul_of_nonneg_left b1 (Int.pow_nonneg (by decide))
  omega
 have ht:t<=PP:=by
  have h4:(4:Int)*t<=2 ^ (i / 2).toNat*t:=by
   refine Int.mul_le_mul_of_nonneg_right ?_ (by omega)
   have:=Nat.pow_le_pow_right (n:=2) (by decide) (show 2<=(i / 2).toNat by omega)
   have e1:((2 ^ 2:Nat):Int)<=((2 ^ (i / 2).toNat:Nat):Int):=by exact_mod_cast this
   simpa using e1
  omega
 have e2:(i+2)*PP=i*PP+2*PP:=Int.add_mul _ _ _
 have p:=gm
 show 0<seT y i t/\(i+2) % 2=0/\2<i+2/\i+2<=400/\2 ^ ((i+2) / 2).toNat*seT y i t<=4*PP/\0<(match decide (i % 4=2) with|true=>s - seT y i t|false=>s+seT y i t)/\((i+2) % 4=2->seT y i t<=(match decide (i % 4=2) with|true=>s - seT y i t|false=>s+seT y i t))/\(match decide (i % 4=2) with|true=>s - seT y i t|false=>s+seT y i t)<=(i+2)*PP
 by_cases hm:i % 4=2
 .have:=ts hm
  rw [show (match decide (i % 4=2) with|true=>s - seT y i t|false=>s+seT y i t)=s - seT y i t by rw [decide_eq_true hm]]
  refine ⟨by omega,by omega,by omega,by omega,hp,by omega,by omega,by omega⟩
 .rw [show (match decide (i % 4=2) with|true=>s - seT y i t|false=>s+seT y i t)=s+seT y i t by rw [decide_eq_false hm]]
  refine ⟨by omega,by omega,by omega,by omega,hp,by omega,by omega,by omega⟩
theorem LJ {y:List Int} (h:SeD y):(seU y).I ((seU y).next none):=by
 have v0:=aA h.d
 have v1:=h.hi
 have l0:=h.lo
 obtain ⟨b0,b1⟩:=DD h (i:=2) (t:=val y) v0 (by omega)
 have e:(1700000000000000000000000000000000000000000000:Int)<=2*PP:=by decide
 show 0<seT y 2 (val y)/\(4:Int) % 2=0/\(2:Int)<4/\(4:Int)<=400/\(2:Int) ^ (2:Nat)*seT y 2 (val y)<=4*PP/\0<val y - seT y 2 (val y)/\((4:Int) % 4=2->seT y 2 (val y)<=val y - seT y 2 (val y))/\val y - seT y 2 (val y)<=4*PP
 have p:=gm
 refine ⟨l0,by decide,by decide,by decide,?_,by omega,by omega,by omega⟩
 rw [show (2:Int) ^ (2:Nat)=4 from rfl]; omega
theorem Vj {y:List Int} (h:SeD y):CodeOk cZ Gr (.loop seA) (seS y) ⟨.tt,[⟨.tt,.ret,ah (seS y) (seX (seR y none))⟩]⟩:=by
 refine lZ (seU y) (y0:=none) trivial ⟨_,Pk y,rfl⟩ (by kernel_rfl) (fun x hx=>?_) rfl
 have v0:=aA h.d
 have v1:=h.hi
 have yl:=h.l
 have l0:=h.lo
 have p:=gm
 have e17:(1700000000000000000000000000000000000000000000:Int)<=2*PP:=by decide
 obtain ⟨q0,q1⟩:=h.sq
 have hsq:val (cutL (val y*val y))=rM y:=by rw [uA (Int.mul_nonneg v0 v0)]; rfl
 have m1:=len_mul v0 (by omega) v0 (by omega:val y<=4*PP)
 have k1:=zP (val y*val y)
 have c1:=vN (n:=((aa (val y*val y).toNat).length:Int)) (by omega)
 have d1:=uB (val y*val y)
 cases x with
 | none=>
  have Q:=h.q (v:=val y) v0 (i:=2) (by omega) (by omega)
  have c2:=vN (n:=((aa (val y*val (cutL (val y*val y))).toNat).length:Int)) (by omega)
  have d2:=uB (val y*val (cutL (val y*val y)))
  have m2:=len_mul v0 (by omega:val y<=4*PP) q0 (by omega)
  rw [<- hsq] at m2
  have k2:=zP (val y*val (cutL (val y*val y)))
  obtain ⟨b0,b1⟩:=DD h (i:=2) (t:=val y) v0 (by omega)
  have dq:=aI (seT y 2 (val y)).toNat
  have lq:=Gv l0
  have vq:=dv b0
  have yp:0<y.length:=by
   rcases Nat.eq_zero_or_pos y.length with e|e
   .rw [List.length_eq_zero_iff.1 e] at b1 l0
    have:val []=0:=rfl
    omega
   .exact e
  have ql:(aa (seT y 2 (val y)).toNat).length<=y.length:=jd b0 (by have:=fZ h.d; omega)
  have nx:=LJ h
  have w6:IntKind.i64.wrap (2*IntKind.i64.wrap (2+1))=6:=by decide
  refine ⟨cSe false true,300,Dz _ _,rfl,rfl,_,acf y,?_,fun _=>?_⟩
  .rw [Q,w6,vq]
   refine ⟨⟨⟨⟨rfl,by omega,by omega,by omega⟩,h.d,d1,by omega⟩,⟨by omega,by omega,by omega⟩,⟨by omega,by omega,by omega⟩,d2,by omega,by omega,by omega⟩,beq_eq_false_iff_ne.2 (by omega),rfl,⟨rfl,rfl⟩,h.d,dq,yp,by omega,ql,by omega⟩
  .rw [Q,vq]
   refine ⟨⟨⟨rfl,rfl,by decide⟩,rfl,rfl⟩,nx,by show (400 - 4:Int).toNat<400; omega,?_⟩
   exact congrArg (fun z=>(Ex.ret,seX z)) (Pq h)
 | some x=>
  obtain ⟨i,t,s⟩:=x
  have hI:=hx
  obtain ⟨t0,i0,i1,i2,pw2,s0,ts,sb⟩:=(show 0<t/\i % 2=0/\2<i/\i<=400/\2 ^ (i / 2).toNat*t<=4*PP/\0<s/\(i % 4=2->t<=s)/\s<=i*PP from hx)
  have k:=DC t0 pw2
  have ht:t<=4*PP:=by
   have h4:(1:Int)*t<=2 ^ (i / 2).toNat*t:=by
    refine Int.mul_le_mul_of_nonneg_right ?_ (by omega)
    have:=Nat.one_le_two_pow (n:=(i / 2).toNat)
    have e1:((1:Nat):Int)<=((2 ^ (i / 2).toNat:Nat):Int):=by exact_mod_cast this
    simpa using e1
   omega
  have hs:s<=400*PP:=by
   have:i*PP<=400*PP:=Int.mul_le_mul_of_nonneg_right i2 (by omega)
   omega
  have vt:=dv (a:=t) (by omega)
  have vs:=dv (a:=s) (by omega)
  have dt:=aI t.toNat
  have ds:=aI s.toNat
  have lt:=jH (a:=t) (by omega) (by omega)
  have ls:=jH (a:=s) (by omega) hs
  have ls0:=Gv s0
  have Q:=h.q (v:=t) (by omega) (i:=i) (by omega) i2
  have c2:=vN (n:=((aa (t*val (cutL (val y*val y))).toNat).length:Int)) (by omega)
  have d2:=uB (t*val (cutL (val y*val y)))
  have m2:=len_mul (a:=t) (by omega) ht q0 (by omega)
  rw [<- hsq] at m2
  have k2:=zP (t*val (cutL (val y*val y)))
  obtain ⟨b0,b1⟩:=DD h (i:=i) (t:=t) (by omega) (by omega)
  have dq:=aI (seT y i t).toNat
  have vq:=dv b0
  have w6:=WK (i:=i) (by omega) i2
  have w7:1<=i*(i+1):=by have:=Int.mul_le_mul (a:=2) (b:=3) (c:=i) (d:=i+1) (by omega) (by omega) (by decide) (by omega); omega
  have w8:i*(i+1)<=400*401:=Int.mul_le_mul (a:=i) (b:=i+1) (c:=400) (d:=401) i2 (by omega) (by omega) (by decide)
  have w9:IntKind.i64.wrap (i+2)=i+2:=iw (by omega) (by omega)
  by_cases h0:seT y i t=0
  .refine ⟨cSe true false,300,Dz _ _,rfl,rfl,_,aeh y i t s,?_,fun _=>⟨⟨rfl,rfl⟩,?_⟩⟩
   .rw [vt,Q,w6,h0]
    exact ⟨⟨⟨⟨rfl,by omega,by omega,by omega⟩,dt,d1,by omega⟩,⟨by omega,by omega,by omega⟩,⟨by omega,by omega,by omega⟩,d2,by omega,by omega,by omega⟩,by rw [show aa (0:Int).toNat=[] from dU]; rfl⟩
   .show (Ex.ret,seX _)=(Ex.ret,seX _)
    rw [Vi (by omega) h0]
  .have lq:=Gv (a:=seT y i t) (by omega)
   have nx:=Pv h hI h0
   have nr:=Pt (y:=y) (i:=i) (t:=t) (s:=s) (by omega) (by omega) h0
   have mu:(400 - (i+2)).toNat<(400 - i).toNat:=by
    have:i<=304:=by omega
    omega
   by_cases hm:i % 4=2
   .have hts:=ts hm
    have ql:=YH b0 (show seT y i t<=s by omega)
    have e4:(match decide (i % 4=2) with|true=>s - seT y i t|false=>s+seT y i t)=s - seT y i t:=by rw [decide_eq_true hm]
    refine ⟨cSe false true,300,Dz _ _,rfl,rfl,_,acg y i t s,?_,fun _=>?_⟩
    .rw [vt,Q,w6,vq,vs]
     refine ⟨⟨⟨⟨rfl,by omega,by omega,by omega⟩,dt,d1,by omega⟩,⟨by omega,by omega,by omega⟩,⟨by omega,by omega,by omega⟩,d2,by omega,by omega,by omega⟩,beq_eq_false_iff_ne.2 (by omega),?_,⟨rfl,rfl⟩,ds,dq,ls0,by omega,ql,by omega⟩
     rw [Int.tmod_eq_emod_of_nonneg (by omega),hm]; rfl
    .rw [vt,Q,vq,vs]
     exact ⟨⟨⟨congrArg (fun z:Int=>((aa z.toNat).length:Int)) e4.symm,rfl,w9⟩,congrArg (fun z:Int=>aa z.toNat) e4.symm,rfl⟩,nx,mu,congrArg (fun z=>(Ex.ret,seX z)) nr⟩
   .have hmm:i % 4=0:=by omega
    have ql:=jH (a:=seT y i t) b0 (by omega)
    have e4:(match decide (i % 4=2) with|true=>s - seT y i t|false=>s+seT y i t)=s+seT y i t:=by rw [decide_eq_false hm]
    refine ⟨cSe false false,300,Dz _ _,rfl,rfl,_,ach y i t s,?_,fun _=>?_⟩
    .rw [vt,Q,w6]
     refine ⟨⟨⟨⟨rfl,by omega,by omega,by omega⟩,dt,d1,by omega⟩,⟨by omega,by omega,by omega⟩,⟨by omega,by omega,by omega⟩,d2,by omega,by omega,by omega⟩,beq_eq_false_iff_ne.2 (by omega),?_,⟨rfl,rfl⟩,ds,dq,.inl ls0,by omega,by omega⟩
     rw [Int.tmod_eq_emod_of_nonneg (by omega),hmm]; rfl
    .rw [vt,Q,vq,vs]
     exact ⟨⟨⟨congrArg (fun z:Int=>((aa z.toNat).length:Int)) e4.symm,rfl,w9⟩,congrArg (fun z:Int=>aa z.toNat) e4.symm,rfl⟩,nx,mu,congrArg (fun z=>(Ex.ret,seX z)) nr⟩
noncomputable def YI (y:List Int):Ctx:=bg cZ [bY 75 (seS y).hp.clock Gr seA (seS y) .ret (seX (seR y none))]
theorem Vk {y:List Int} (h:SeD y):CtxOk (YI y):=aO aK (Vj h) (cK aK)
def Vl (y:List Int):Prop:=(((((↑y.length:Int)=(↑y.length:Int)/\(↑y.length:Int)=(↑y.length:Int))/\Dig y/\Dig y/\y.length+y.length<=(500000:Nat))/\((0:Int)<=aX (↑(aa (val y*val y).toNat).length:Int))/\(aX (↑(aa (val y*val y).toNat).length:Int))<=(↑(aa (val y*val y).toNat).length:Int)/\(↑(aa (val y*val y).toNat).length:Int)<=(↑(aa (val y*val y).toNat).length:Int))/\At (Gr) (Gr) (seA) (seA) (seS y) (seS y))
def YJ (y:List Int):AV:=(AV.lslice 1 (↑(aa (seR y none).toNat).length:Int))
def YK (y:List Int):Hp:=⟨[{ wr:=24,body:=ABody.rows IntKind.i64 (aa (seR y none).toNat) },{ wr:=(0:Nat),body:=ABody.rows IntKind.i64 y }],2,25⟩
theorem aei (y:List Int):(run (YI y) 300).call 75 (vL y) (zH y)=some ⟨.p (Vl y),[⟨.tt,YJ y,YK y⟩]⟩:=by kernel_rfl
def YL:List Nu->List (List Int)->Option (Prop×To)
 | [.n k],[y]=>some (k=5/\SeD y,.li false (aa (seR y none).toNat))
 | _,_=>none
theorem LM:NOk Tryd.prog (fun _=>none) hG0 75 (eO hG0 .i64 [.li,.nu (.i .i64)] YL):=by
 refine fG (fun xs ys p t e h=>?_) ⟨_,Tryd.func75,rfl⟩
 unfold YL at e
 split at e
 .rename_i k y
  cases e
  obtain ⟨rfl,h⟩:=h
  have hd:=h.d
  have hl:=h.l
  have c1:=vN (n:=((aa (val y*val y).toNat).length:Int)) (by omega)
  exact ⟨YI y,300,vL y,_,_,_,_,_,Vk h,rfl,rfl,⟨rfl,⟨rfl,rfl⟩,trivial⟩,aei y,rfl,⟨⟨⟨⟨rfl,rfl⟩,hd,hd,by omega⟩,⟨by omega,by omega,by omega⟩⟩,⟨rfl,rfl,rfl⟩⟩,rfl,rfl,rfl,rfl⟩
 .cases e
def tZ2:List (FuncId×fO):=(75,eO hG0 .i64 [.li,.nu (.i .i64)] YL) :: tZ
theorem YM:∀ x∈tZ2,NOk Tryd.prog (fun _=>none) hG0 x.1 x.2:=by
 intro x hx
 rcases List.mem_cons.1 hx with rfl|hx
 .exact LM
 exact WI x hx
def Pw:AFr:=⟨77,none⟩
noncomputable def dwA:Code:=iX Tryd.prog 77 0
noncomputable def dwS (a:List Int):St:=uo cZ 300 77 (vL a) (zH a)
def dwV (a:List Int):Int:=val a*val (aa (4294967296:Int).toNat)
def dwP (i n:Int):Patch:=⟨(5,.int true .i64 n) :: (7,.int true .i64 i) :: fD 17 11,[],[]⟩
def dwU (a:List Int):SumL (Int×Int):=
 {
  S:=fun (i,n)=>dwP i n
  I:=fun (i,n)=>-1<=i/\i<(cutL (dwV a)).length/\n=val ((cutL (dwV a)).drop (i+1).toNat)
  μ:=fun (i,_)=>(i+1).toNat
  F:=fun _=>(.exit 0,dwP (-1) (dwV a / PP))
  next:=fun (i,n)=>(i - 1,n*1000000000+(cutL (dwV a)).getD i.toNat 0)
  ids:=fun _=>[]
  X:=fun (i,n) _=>some (dwP i n,[]) }
def Gw (a:List Int):Prop:=(0:Int)=0/\IntKind.i64.wrap (((↑(aa (val a*val (aa (Int.toNat (4294967296:Int)))).toNat).length:Int) - aX (↑(aa (val a*val (aa (Int.toNat (4294967296:Int)))).toNat).length:Int)) - (1:Int))=(↑(cutL (dwV a)).length:Int) - (1:Int)
theorem Px (a:List Int):fit (dwS a) (dwS a) (ah (dwS a) (dwP (((cutL (dwV a)).length:Int) - 1) 0)) ([])=some (.p (Gw a)):=by kernel_rfl
def IU (a:List Int) (i n:Int):Prop:=(decide (i>=0)=true->(((0:Int)<=aX (↑(aa (val a*val (aa (Int.toNat (4294967296:Int)))).toNat).length:Int))/\(0:Int)<=i/\i<(↑(aa (val a*val (aa (Int.toNat (4294967296:Int)))).toNat).length:Int) - aX (↑(aa (val a*val (aa (Int.toNat (4294967296:Int)))).toNat).length:Int))/\((aX (↑(aa (val a*val (aa (Int.toNat (4294967296:Int)))).toNat).length:Int))+i).toNat<(aa (val a*val (aa (Int.toNat (4294967296:Int)))).toNat).length)/\((!decide (i>=0))=true->(n=n/\i=i)/\(dwU a).F (i,n)=(Ex.exit (0:Nat),dwP i n))/\(decide (i>=0)=true->(IntKind.i64.wrap (IntKind.i64.wrap (n*1000000000)+(aa (val a*val (aa (Int.toNat (4294967296:Int)))).toNat).getD ((aX (↑(aa (val a*val (aa (Int.toNat (4294967296:Int)))).toNat).length:Int))+i).toNat (0:Int))=n*1000000000+(cutL (dwV a)).getD i.toNat (0:Int)/\IntKind.i64.wrap (i - (1:Int))=i - (1:Int))/\(dwU a).I ((dwU a).next (i,n))/\(dwU a).μ ((dwU a).next (i,n))<(dwU a).μ (i,n)/\(dwU a).F ((dwU a).next (i,n))=(dwU a).F (i,n))
theorem Vm (a:List Int) (i n:Int):d9 (dwS a) ((dwU a).way ((i,n))) ((run cZ 300).code Pw dwA (ah (dwS a) ((dwU a).S (i,n))))=some (.p (IU a i n)):=by kernel_rfl
structure DwD (a:List Int):Prop where
 d:Dig a
 l:a.length<=100
 hi:dwV a / PP<4611686018427387904
theorem DwD.v {a:List Int} (h:DwD a):0<=dwV a:=Int.mul_nonneg (aA h.d) (aA (aI _))
theorem Vn {l:List Int} (h:Dig l) (k:Nat):val (l.drop k)<=val l:=by
 rw [zO k h]
 exact Int.ediv_le_self _ (aA h)
theorem Vo {a:List Int} (h:DwD a):CodeOk cZ Pw (.loop dwA) (dwS a) ⟨.tt,[⟨.tt,.exit 0,ah (dwS a) (dwP (-1) (dwV a / PP))⟩]⟩:=by
 have v0:=h.v
 have hc:=Kc v0
 have hv:=uA v0
 have hd:=uB (dwV a)
 have hi:=h.hi
 have c1:=vN (n:=((aa (dwV a).toNat).length:Int)) (by omega)
 have lm:(aa (dwV a).toNat).length<=500000:=by
  have l:=h.l
  have h1:=fZ h.d
  have h2:=jS l
  refine Nat.le_trans (jd (n:=102) v0 ?_) (by decide)
  have e1:val (aa (4294967296:Int).toNat)=4294967296:=dv (by decide)
  have e2:pw 102=1000000000000000000*pw 100:=by rw [jT,jT]; omega
  have h0:=aA h.d
  have p:=pw_pos 100
  unfold dwV
  rw [e1,e2]; omega
 have lc:((cutL (dwV a)).length:Int)=(aa (dwV a).toNat).length - aX (aa (dwV a).toNat).length:=by
  rw [hc,List.length_drop]; omega
 refine lY (bL aK 300) (dwU a) (y0:=(((cutL (dwV a)).length:Int) - 1,0)) ⟨by omega,by show _ - 1<_; omega,?_⟩ ⟨_,Px a,rfl,?_⟩ (by kernel_rfl) (fun y hy=>?_) rfl
 .show 0=val ((cutL (dwV a)).drop (((cutL (dwV a)).length:Int) - 1+1).toNat)
  rw [show (((cutL (dwV a)).length:Int) - 1+1).toNat=(cutL (dwV a)).length by omega,List.drop_length]; rfl
 .show IntKind.i64.wrap (((aa (dwV a).toNat).length:Int) - aX (aa (dwV a).toNat).length - 1)=(cutL (dwV a)).length - 1
  rw [lc,iw (by omega) (by omega)]
 .obtain ⟨i,n⟩:=y
  obtain ⟨i0,i1,hn⟩:=(show -1<=i/\i<(cutL (dwV a)).length/\n=val ((cutL (dwV a)).drop (i+1).toNat) from hy)
  refine ⟨_,Vm a i n,fun e=>?_,fun e=>?_,fun e=>?_⟩
  .have e:=dt.1 e
   exact ⟨⟨c1.1,e,by show i<((aa (dwV a).toNat).length:Int) - aX (aa (dwV a).toNat).length; omega⟩,by show (aX (aa (dwV a).toNat).length+i).toNat<(aa (dwV a).toNat).length; omega⟩
  .have e:=ndt.1 e
   have:i=-1:=by omega
   subst this
   refine ⟨⟨rfl,rfl⟩,?_⟩
   show (Ex.exit 0,dwP (-1) (dwV a / PP))=(Ex.exit 0,dwP (-1) n)
   rw [hn,show ((-1:Int)+1).toNat=0 from rfl,List.drop_zero,hv]
  .have e:=dt.1 e
   have hl:i.toNat<(cutL (dwV a)).length:=by omega
   have s1:=Ga hl
   have s2:=Vn hd i.toNat
   rw [show i.toNat+1=(i+1).toNat by omega,<- hn] at s1
   rw [hv] at s2
   have g0:=hd.get i.toNat
   have n0:0<=n:=by rw [hn]; exact aA (Gs hd _)
   have gd:(aa (dwV a).toNat).getD (aX (aa (dwV a).toNat).length+i).toNat 0=(cutL (dwV a)).getD i.toNat 0:=by
    rw [hc,List.getD_eq_getElem?_getD,List.getD_eq_getElem?_getD,List.getElem?_drop]
    congr 2
    omega
   have w1:IntKind.i64.wrap (n*1000000000)=n*1000000000:=iw (by omega) (by omega)
   have w2:IntKind.i64.wrap (n*1000000000+(cutL (dwV a)).getD i.toNat 0)=n*1000000000+(cutL (dwV a)).getD i.toNat 0:=iw (by omega) (by omega)
   refine ⟨⟨?_,iw (by omega) (by omega)⟩,⟨by show -1<=i - 1; omega,by show i - 1<_; omega,?_⟩,by show (i - 1+1).toNat<(i+1).toNat; omega,rfl⟩
   .show IntKind.i64.wrap (IntKind.i64.wrap (n*1000000000)+(aa (dwV a).toNat).getD (aX (aa (dwV a).toNat).length+i).toNat 0)=_
    rw [w1,gd,w2]
   .show n*1000000000+(cutL (dwV a)).getD i.toNat 0=val ((cutL (dwV a)).drop (i - 1+1).toNat)
    rw [show (i - 1+1).toNat=i.toNat by omega,s1]; omega
noncomputable def YN (a:List Int):Ctx:=bg cZ [bY 77 (dwS a).hp.clock Pw dwA (dwS a) (.exit 0) (dwP (-1) (dwV a / PP))]
theorem Vp {a:List Int} (h:DwD a):CtxOk (YN a):=aO aK (Vo h) (cK aK)
def Vq (a:List Int):Prop:=((((0:Int)<4294967296/\(4294967296:Int)<1000000000000000000)/\(((↑a.length:Int)=(↑a.length:Int)/\(↑(aa (Int.toNat (4294967296:Int))).length:Int)=(↑(aa (Int.toNat (4294967296:Int))).length:Int))/\Dig a/\Dig (aa (Int.toNat (4294967296:Int)))/\a.length+(aa (Int.toNat (4294967296:Int))).length<=(500000:Nat))/\((0:Int)<=aX (↑(aa (val a*val (aa (Int.toNat (4294967296:Int)))).toNat).length:Int))/\(aX (↑(aa (val a*val (aa (Int.toNat (4294967296:Int)))).toNat).length:Int))<=(↑(aa (val a*val (aa (Int.toNat (4294967296:Int)))).toNat).length:Int)/\(↑(aa (val a*val (aa (Int.toNat (4294967296:Int)))).toNat).length:Int)<=(↑(aa (val a*val (aa (Int.toNat (4294967296:Int)))).toNat).length:Int))/\At (Pw) (Pw) (dwA) (dwA) (dwS a) (dwS a))
def YO (a:List Int):AV:=(AV.int true IntKind.i64 (dwV a / PP))
def YP (a:List Int):Hp:=⟨[{ wr:=(0:Nat),body:=ABody.rows IntKind.i64 a }],1,28⟩
theorem aej (a:List Int):(run (YN a) 300).call 77 (vL a) (zH a)=some ⟨.p (Vq a),[⟨.tt,YO a,YP a⟩]⟩:=by kernel_rfl
def YQ:List Nu->List (List Int)->Option (Prop×To)
 | [.n k],[a]=>some (k=5/\DwD a,.nu .i64 (val a*4294967296 / PP))
 | _,_=>none
theorem Py (a:List Int):dwV a=val a*4294967296:=by
 unfold dwV
 rw [dv (by decide)]
theorem Vr:NOk Tryd.prog (fun _=>none) hG0 77 (eO hG0 .i64 [.li,.nu (.i .i64)] YQ):=by
 refine fG (fun xs ys p t e h=>?_) ⟨_,Tryd.func77,rfl⟩
 unfold YQ at e
 split at e
 .rename_i k y
  cases e
  obtain ⟨rfl,h⟩:=h
  have hd:=h.d
  have hl:=h.l
  have c1:=vN (n:=((aa (dwV y).toNat).length:Int)) (by omega)
  have l2:(aa (4294967296:Int).toNat).length<=2:=jd (by decide) (by decide)
  exact ⟨YN y,300,vL y,_,_,_,_,_,Vp h,rfl,rfl,⟨rfl,⟨rfl,rfl⟩,trivial⟩,aej y,rfl,⟨⟨⟨by decide,by decide⟩,⟨⟨rfl,rfl⟩,hd,aI _,by show _+(aa (4294967296:Int).toNat).length<=_; omega⟩,⟨c1.1,c1.2,Int.le_refl _⟩⟩,⟨rfl,rfl,rfl⟩⟩,rfl,rfl,by show dwV y / PP=_; rw [Py]⟩
 .cases e
def Gx:AFr:=⟨85,none⟩
noncomputable def arA:Code:=iX Tryd.prog 85 0
def IV (x:Int) (one:List Int):List AV:=[.int true .i64 x,.lslice 0 one.length]
noncomputable def arS (x:Int) (one:List Int):St:=uo cZ 300 85 (IV x one) (zH one)
noncomputable def cAr (e m:Bool):Ctx:=cZb [(22,e),(26,m)]
theorem DF (e m:Bool):CtxOk (cAr e m):=IR _
def arP:Option (Int×Int×Int)->Patch
 | none=>⟨(8,.int true .i64 1) :: (9,.any false) :: fD 15 18,[],[]⟩
 | some (i,t,s)=>⟨(5,.lslice 6 (aa s.toNat).length) :: (8,.int true .i64 i) :: (9,.any false) :: fD 15 18,[(4,.cells [.lslice 5 (aa t.toNat).length])],[.rows .i64 (aa s.toNat),.rows .i64 (aa t.toNat)]⟩
def arX (s:Int):Patch:=⟨(4,.lslice 5 (aa s.toNat).length) :: (5,.any false) :: (8,.any false) :: (9,.any false) :: fD 15 18,[(4,.dead)],[.rows .i64 (aa s.toNat)]⟩
def arQ (x:Int) (one:List Int):Int:=val one*x / (x*x)
def arR (x:Int) (one:List Int):Option (Int×Int×Int)->Int
 | none=>dz x 200 1 (val one*x) 0
 | some (i,t,s)=>dz x (200 - (i / 2).toNat) i t s
def arU (x:Int) (one:List Int):SumL (Option (Int×Int×Int)):=
 {
  S:=arP
  I:=fun y=>match y with
   | none=>True
   | some (i,t,s)=>0<t/\i % 2=1/\2<i/\i<=399/\2 ^ (i / 2).toNat*t<=4*PP/\0<=s/\(i % 4=3->t / (i - 2)<=s)/\s<=i*PP
  μ:=fun y=>match y with
   | none=>400
   | some (i,_,_)=>(400 - i).toNat
  F:=fun y=>(.ret,arX (arR x one y))
  next:=fun y=>match y with
   | none=>some (3,arQ x one,arQ x one / 1)
   | some (i,t,s)=>some (i+2,t / (x*x),match decide (i % 4=1) with|true=>s+t / (x*x) / i|false=>s - t / (x*x) / i)
  ids:=fun y=>match y with
   | none=>[5,7]
   | some _=>[7,9]
  X:=fun y _=>match y with
   | none=>none
   | some (_,_,s)=>some (arX s,[6]) }
def Gy (x:Int) (one:List Int):Prop:=(1:Int)=1
theorem Pz (x:Int) (one:List Int):fit (arS x one) (arS x one) (ah (arS x one) ((arU x one).S none)) ([])=some (.p (Gy x one)):=by kernel_rfl
def PD (x:Int) (one:List Int):Prop:=((((↑(aa (val one*val [x]).toNat).length:Int)=(↑(aa (val one*val [x]).toNat).length:Int)/\Dig (aa (val one*val [x]).toNat)/\(aa (val one*val [x]).toNat).length<=(500000:Nat)/\(1:Int)<=IntKind.i64.wrap (x*x)/\IntKind.i64.wrap (x*x)<=1000000000)/\(↑(aa (val (aa (val one*val [x]).toNat) / IntKind.i64.wrap (x*x)).toNat).length:Int)=(↑(aa (val (aa (val one*val [x]).toNat) / IntKind.i64.wrap (x*x)).toNat).length:Int)/\Dig (aa (val (aa (val one*val [x]).toNat) / IntKind.i64.wrap (x*x)).toNat)/\(aa (val (aa (val one*val [x]).toNat) / IntKind.i64.wrap (x*x)).toNat).length<=(500000:Nat)/\(1:Int)<=1/\(1:Int)<=1000000000)/\((↑(aa (val (aa (val (aa (val one*val [x]).toNat) / IntKind.i64.wrap (x*x)).toNat) / (1:Int)).toNat).length:Int)==0)=false/\(Int.tmod (1:Int) (4:Int)==1)=true/\(↑(aa (val (aa (val (aa (val one*val [x]).toNat) / IntKind.i64.wrap (x*x)).toNat) / (1:Int)).toNat).length:Int)=(↑(aa (val (aa (val (aa (val one*val [x]).toNat) / IntKind.i64.wrap (x*x)).toNat) / (1:Int)).toNat).length:Int)/\Dig []/\Dig (aa (val (aa (val (aa (val one*val [x]).toNat) / IntKind.i64.wrap (x*x)).toNat) / (1:Int)).toNat)/\((0:Nat)<([]:List Int).length\/(0:Nat)<(aa (val (aa (val (aa (val one*val [x]).toNat) / IntKind.i64.wrap (x*x)).toNat) / (1:Int)).toNat).length)/\([]:List Int).length<=(400000:Nat)/\(aa (val (aa (val (aa (val one*val [x]).toNat) / IntKind.i64.wrap (x*x)).toNat) / (1:Int)).toNat).length<=(400000:Nat))/\(true=true->(((↑(aa (val []+val (aa (val (aa (val (aa (val one*val [x]).toNat) / IntKind.i64.wrap (x*x)).toNat) / (1:Int)).toNat)).toNat).length:Int)=(↑(aa (arQ x one / (1:Int)).toNat).length:Int)/\IntKind.i64.wrap ((1:Int)+2)=3)/\(↑(aa (val (aa (val one*val [x]).toNat) / IntKind.i64.wrap (x*x)).toNat).length:Int)=(↑(aa (arQ x one).toNat).length:Int)/\aa (val []+val (aa (val (aa (val (aa (val one*val [x]).toNat) / IntKind.i64.wrap (x*x)).toNat) / (1:Int)).toNat)).toNat=aa (arQ x one / (1:Int)).toNat/\aa (val (aa (val one*val [x]).toNat) / IntKind.i64.wrap (x*x)).toNat=aa (arQ x one).toNat)/\(arU x one).I ((arU x one).next none)/\(arU x one).μ ((arU x one).next none)<(arU x one).μ none/\(arU x one).F ((arU x one).next none)=(arU x one).F none)
theorem aci (x:Int) (one:List Int):d9 (arS x one) ((arU x one).way (none)) ((run (cAr false true) 300).code Gx arA (ah (arS x one) ((arU x one).S none)))=some (.p (PD x one)):=by kernel_rfl
def PE (x:Int) (one:List Int) (i t s:Int):Prop:=((((↑(aa t.toNat).length:Int)=(↑(aa t.toNat).length:Int)/\Dig (aa t.toNat)/\(aa t.toNat).length<=(500000:Nat)/\(1:Int)<=IntKind.i64.wrap (x*x)/\IntKind.i64.wrap (x*x)<=1000000000)/\(↑(aa (val (aa t.toNat) / IntKind.i64.wrap (x*x)).toNat).length:Int)=(↑(aa (val (aa t.toNat) / IntKind.i64.wrap (x*x)).toNat).length:Int)/\Dig (aa (val (aa t.toNat) / IntKind.i64.wrap (x*x)).toNat)/\(aa (val (aa t.toNat) / IntKind.i64.wrap (x*x)).toNat).length<=(500000:Nat)/\(1:Int)<=i/\i<=1000000000)/\((↑(aa (val (aa (val (aa t.toNat) / IntKind.i64.wrap (x*x)).toNat) / i).toNat).length:Int)==0)=false/\(i.tmod (4:Int)==1)=true/\((↑(aa s.toNat).length:Int)=(↑(aa s.toNat).length:Int)/\(↑(aa (val (aa (val (aa t.toNat) / IntKind.i64.wrap (x*x)).toNat) / i).toNat).length:Int)=(↑(aa (val (aa (val (aa t.toNat) / IntKind.i64.wrap (x*x)).toNat) / i).toNat).length:Int))/\Dig (aa s.toNat)/\Dig (aa (val (aa (val (aa t.toNat) / IntKind.i64.wrap (x*x)).toNat) / i).toNat)/\((0:Nat)<(aa s.toNat).length\/(0:Nat)<(aa (val (aa (val (aa t.toNat) / IntKind.i64.wrap (x*x)).toNat) / i).toNat).length)/\(aa s.toNat).length<=(400000:Nat)/\(aa (val (aa (val (aa t.toNat) / IntKind.i64.wrap (x*x)).toNat) / i).toNat).length<=(400000:Nat))/\(true=true->(((↑(aa (val (aa s.toNat)+val (aa (val (aa (val (aa t.toNat) / IntKind.i64.wrap (x*x)).toNat) / i).toNat)).toNat).length:Int)=(↑(aa (match decide (i % (4:Int)=1) with|true=>s+t / (x*x) / i|false=>s - t / (x*x) / i).toNat).length:Int)/\IntKind.i64.wrap (i+2)=i+2)/\(↑(aa (val (aa t.toNat) / IntKind.i64.wrap (x*x)).toNat).length:Int)=(↑(aa (t / (x*x)).toNat).length:Int)/\aa (val (aa s.toNat)+val (aa (val (aa (val (aa t.toNat) / IntKind.i64.wrap (x*x)).toNat) / i).toNat)).toNat=aa (match decide (i % (4:Int)=1) with|true=>s+t / (x*x) / i|false=>s - t / (x*x) / i).toNat/\aa (val (aa t.toNat) / IntKind.i64.wrap (x*x)).toNat=aa (t / (x*x)).toNat)/\(arU x one).I ((arU x one).next (some (i,t,s)))/\(arU x one).μ ((arU x one).next (some (i,t,s)))<(arU x one).μ (some (i,t,s))/\(arU x one).F ((arU x one).next (some (i,t,s)))=(arU x one).F (some (i,t,s)))
theorem acj (x:Int) (one:List Int) (i t s:Int):d9 (arS x one) ((arU x one).way ((some (i,t,s)))) ((run (cAr false true) 300).code Gx arA (ah (arS x one) ((arU x one).S (some (i,t,s)))))=some (.p (PE x one i t s)):=by kernel_rfl
def PG (x:Int) (one:List Int) (i t s:Int):Prop:=((((↑(aa t.toNat).length:Int)=(↑(aa t.toNat).length:Int)/\Dig (aa t.toNat)/\(aa t.toNat).length<=(500000:Nat)/\(1:Int)<=IntKind.i64.wrap (x*x)/\IntKind.i64.wrap (x*x)<=1000000000)/\(↑(aa (val (aa t.toNat) / IntKind.i64.wrap (x*x)).toNat).length:Int)=(↑(aa (val (aa t.toNat) / IntKind.i64.wrap (x*x)).toNat).length:Int)/\Dig (aa (val (aa t.toNat) / IntKind.i64.wrap (x*x)).toNat)/\(aa (val (aa t.toNat) / IntKind.i64.wrap (x*x)).toNat).length<=(500000:Nat)/\(1:Int)<=i/\i<=1000000000)/\((↑(aa (val (aa (val (aa t.toNat) / IntKind.i64.wrap (x*x)).toNat) / i).toNat).length:Int)==0)=false/\(i.tmod (4:Int)==1)=false/\((↑(aa s.toNat).length:Int)=(↑(aa s.toNat).length:Int)/\(↑(aa (val (aa (val (aa t.toNat) / IntKind.i64.wrap (x*x)).toNat) / i).toNat).length:Int)=(↑(aa (val (aa (val (aa t.toNat) / IntKind.i64.wrap (x*x)).toNat) / i).toNat).length:Int))/\Dig (aa s.toNat)/\Dig (aa (val (aa (val (aa t.toNat) / IntKind.i64.wrap (x*x)).toNat) / i).toNat)/\(0:Nat)<(aa s.toNat).length/\(aa s.toNat).length<=(500000:Nat)/\(aa (val (aa (val (aa t.toNat) / IntKind.i64.wrap (x*x)).toNat) / i).toNat).length<=(aa s.toNat).length/\val (aa (val (aa (val (aa t.toNat) / IntKind.i64.wrap (x*x)).toNat) / i).toNat)<=val (aa s.toNat))/\(true=true->(((↑(aa (val (aa s.toNat) - val (aa (val (aa (val (aa t.toNat) / IntKind.i64.wrap (x*x)).toNat) / i).toNat)).toNat).length:Int)=(↑(aa (match decide (i % (4:Int)=1) with|true=>s+t / (x*x) / i|false=>s - t / (x*x) / i).toNat).length:Int)/\IntKind.i64.wrap (i+2)=i+2)/\(↑(aa (val (aa t.toNat) / IntKind.i64.wrap (x*x)).toNat).length:Int)=(↑(aa (t / (x*x)).toNat).length:Int)/\aa (val (aa s.toNat) - val (aa (val (aa (val (aa t.toNat) / IntKind.i64.wrap (x*x)).toNat) / i).toNat)).toNat=aa (match decide (i % (4:Int)=1) with|true=>s+t / (x*x) / i|false=>s - t / (x*x) / i).toNat/\aa (val (aa t.toNat) / IntKind.i64.wrap (x*x)).toNat=aa (t / (x*x)).toNat)/\(arU x one).I ((arU x one).next (some (i,t,s)))/\(arU x one).μ ((arU x one).next (some (i,t,s)))<(arU x one).μ (some (i,t,s))/\(arU x one).F ((arU x one).next (some (i,t,s)))=(arU x one).F (some (i,t,s)))
theorem ack (x:Int) (one:List Int) (i t s:Int):d9 (arS x one) ((arU x one).way ((some (i,t,s)))) ((run (cAr false false) 300).code Gx arA (ah (arS x one) ((arU x one).S (some (i,t,s)))))=some (.p (PG x one i t s)):=by kernel_rfl
def Vt (x:Int) (one:List Int) (i t s:Int):Prop:=((((↑(aa t.toNat).length:Int)=(↑(aa t.toNat).length:Int)/\Dig (aa t.toNat)/\(aa t.toNat).length<=(500000:Nat)/\(1:Int)<=IntKind.i64.wrap (x*x)/\IntKind.i64.wrap (x*x)<=1000000000)/\(↑(aa (val (aa t.toNat) / IntKind.i64.wrap (x*x)).toNat).length:Int)=(↑(aa (val (aa t.toNat) / IntKind.i64.wrap (x*x)).toNat).length:Int)/\Dig (aa (val (aa t.toNat) / IntKind.i64.wrap (x*x)).toNat)/\(aa (val (aa t.toNat) / IntKind.i64.wrap (x*x)).toNat).length<=(500000:Nat)/\(1:Int)<=i/\i<=1000000000)/\((↑(aa (val (aa (val (aa t.toNat) / IntKind.i64.wrap (x*x)).toNat) / i).toNat).length:Int)==0)=true)/\(true=true->((↑(aa s.toNat).length:Int)=(↑(aa s.toNat).length:Int)/\aa s.toNat=aa s.toNat)/\(arU x one).F (some (i,t,s))=(Ex.ret,arX s))
theorem aek (x:Int) (one:List Int) (i t s:Int):d9 (arS x one) ((arU x one).way ((some (i,t,s)))) ((run (cAr true false) 300).code Gx arA (ah (arS x one) ((arU x one).S (some (i,t,s)))))=some (.p (Vt x one i t s)):=by kernel_rfl
structure ArD (x:Int) (one:List Int):Prop where
 d:Dig one
 l:one.length<=100
 hi:val one<=PP
 x0:2<=x
 x1:x<=30000
 lo:0<arQ x one / 1
theorem ArD.xx {x:Int} {one:List Int} (h:ArD x one):4<=x*x/\x*x<=900000000/\IntKind.i64.wrap (x*x)=x*x:=by
 have x0:=h.x0
 have x1:=h.x1
 have a:=Int.mul_le_mul (a:=2) (b:=2) (c:=x) (d:=x) x0 x0 (by decide) (by omega)
 have b:=Int.mul_le_mul (a:=x) (b:=x) (c:=30000) (d:=30000) x1 x1 (by omega) (by decide)
 exact ⟨by omega,by omega,iw (by omega) (by omega)⟩
theorem Gz {t m:Int} (ht:0<=t) (hm:2<=m):0<=t / m/\2*(t / m)<=t:=by
 have h0:=Int.ediv_nonneg ht (show 0<=m by omega)
 have h1:=Int.ediv_mul_le t (b:=m) (by omega)
 have h2:=Int.mul_le_mul_of_nonneg_left hm h0
 exact ⟨h0,by omega⟩
theorem Ke {t m:Int} (ht:0<=t) (hm:1<=m):0<=t / m/\t / m<=t:=⟨Int.ediv_nonneg ht (by omega),Int.ediv_le_self _ ht⟩
theorem BF {a b m n:Int} (h0:0<=a) (h1:a<=b) (h2:1<=n) (h3:n<=m):a / m<=b / n:=by
 have p1:=Int.ediv_mul_le a (b:=m) (by omega)
 have p0:0<=a / m:=Int.ediv_nonneg h0 (by omega)
 have p2:=Int.mul_le_mul_of_nonneg_left h3 p0
 exact (Int.le_ediv_iff_mul_le (by omega)).2 (by omega)
theorem ArD.q {x:Int} {one:List Int} (h:ArD x one):0<=arQ x one/\arQ x one<=PP:=by
 have v0:=aA h.d
 have x0:=h.x0
 obtain ⟨a,b,_⟩:=h.xx
 refine ⟨Int.ediv_nonneg (Int.mul_nonneg v0 (by omega)) (by omega),Int.le_trans (Int.ediv_le_of_le_mul (by omega) ?_) h.hi⟩
 refine Int.mul_le_mul_of_nonneg_left ?_ v0
 have:=Int.mul_le_mul_of_nonneg_left (show 1<=x by omega) (show 0<=x by omega)
 omega
theorem PH {x:Int} {one:List Int} (h:ArD x one):arR x one (some (3,arQ x one,arQ x one / 1))=arR x one none:=by
 show dz x 199 3 _ _=dz x (199+1) 1 (val one*x) 0
 rw [BD (show val one*x / (x*x) / 1≠0 from by have:=h.lo; unfold arQ at this; omega)]
 show _=dz x 199 (1+2) (val one*x / (x*x)) (0+val one*x / (x*x) / 1)
 rw [Int.zero_add]; rfl
theorem Vu {x:Int} {one:List Int} {i t s:Int} (hi:(i / 2).toNat<=199) (h:t / (x*x) / i=0):arR x one (some (i,t,s))=s:=by
 show dz x (200 - (i / 2).toNat) i t s=s
 rw [show 200 - (i / 2).toNat=(199 - (i / 2).toNat)+1 by omega,Pj h]
theorem PI {x:Int} {one:List Int} {i t s:Int} (h0:0<=i) (hi:(i / 2).toNat<=199) (h:t / (x*x) / i≠0):arR x one ((arU x one).next (some (i,t,s)))=arR x one (some (i,t,s)):=by
 show dz x (200 - ((i+2) / 2).toNat) (i+2) (t / (x*x)) _=dz x (200 - (i / 2).toNat) i t s
 rw [show 200 - (i / 2).toNat=(199 - (i / 2).toNat)+1 by omega,BD h,show 200 - ((i+2) / 2).toNat=199 - (i / 2).toNat by omega]
 first|done|rfl
theorem LP {x:Int} {one:List Int} (h:ArD x one):(arU x one).I ((arU x one).next none):=by
 obtain ⟨q0,q1⟩:=h.q
 have l0:=h.lo
 rw [Int.ediv_one] at l0
 have p:=gm
 show 0<arQ x one/\(3:Int) % 2=1/\(2:Int)<3/\(3:Int)<=399/\(2:Int) ^ (1:Nat)*arQ x one<=4*PP/\0<=arQ x one / 1/\((3:Int) % 4=3->arQ x one / (3 - 2)<=arQ x one / 1)/\arQ x one / 1<=3*PP
 rw [show (3:Int) - 2=1 from rfl,Int.ediv_one,show (2:Int) ^ (1:Nat)=2 from rfl]
 refine ⟨l0,by decide,by decide,by decide,by omega,q0,by omega,by omega⟩
theorem PK {x:Int} {one:List Int} (h:ArD x one) {i t s:Int} (hI:(arU x one).I (some (i,t,s))) (h0:t / (x*x) / i≠0):(arU x one).I ((arU x one).next (some (i,t,s))):=by
 obtain ⟨t0,i0,i1,i2,pw,s0,ts,sb⟩:=(show 0<t/\i % 2=1/\2<i/\i<=399/\2 ^ (i / 2).toNat*t<=4*PP/\0<=s/\(i % 4=3->t / (i - 2)<=s)/\s<=i*PP from hI)
 obtain ⟨xa,xb,_⟩:=h.xx
 obtain ⟨b0,b1⟩:=Gz (t:=t) (m:=x*x) (by omega) (by omega)
 obtain ⟨c0,c1⟩:=Ke (t:=t / (x*x)) (m:=i) b0 (by omega)
 have cm:i % 4=3->t / (x*x) / i<=t / (i - 2):=fun _=>BF b0 (by omega) (by omega) (by omega)
 have ce:t / (x*x) / (i+2 - 2)<=t / (x*x) / i:=by rw [show i+2 - 2=i by omega]; exact Int.le_refl _
 have k:=DC t0 pw
 have hp:(2:Int) ^ ((i+2) / 2).toNat*(t / (x*x))<=4*PP:=by
  rw [show ((i+2) / 2).toNat=(i / 2).toNat+1 by omega,Int.pow_succ,Int.mul_assoc]
  have:(2:Int) ^ (i / 2).toNat*(2*(t / (x*x)))<=2 ^ (i / 2).toNat*t:=Int.mul_le_mul_of_nonneg_left b1 (Int.pow_nonneg (by decide))
  omega
 have ht:t<=2*PP:=by
  have h4:(2:Int)*t<=2 ^ (i / 2).toNat*t:=by
   refine Int.mul_le_mul_of_nonneg_right ?_ (by omega)
   have:=Nat.pow_le_pow_right (n:=2) (by decide) (show 1<=(i / 2).toNat by omega)
   have e1:((2 ^ 1:Nat):Int)<=((2 ^ (i / 2).toNat:Nat):Int):=by exact_mod_cast this
   simpa using e1
  omega
 have e2:(i+2)*PP=i*PP+2*PP:=Int.add_mul _ _ _
 have p:=gm
 have tp:0<t / (x*x):=by
  rcases Int.lt_or_eq_of_le b0 with e|e
  .exact e
  .rw [<- e] at h0; simp at h0
 show 0<t / (x*x)/\(i+2) % 2=1/\2<i+2/\i+2<=399/\2 ^ ((i+2) / 2).toNat*(t / (x*x))<=4*PP/\0<=(match decide (i % 4=1) with|true=>s+t / (x*x) / i|false=>s - t / (x*x) / i)/\((i+2) % 4=3->t / (x*x) / (i+2 - 2)<=(match decide (i % 4=1) with|true=>s+t / (x*x) / i|false=>s - t / (x*x) / i))/\(match decide (i % 4=1) with|true=>s+t / (x*x) / i|false=>s - t / (x*x) / i)<=(i+2)*PP
 have h5:0<=(match decide (i % 4=1) with|true=>s+t / (x*x) / i|false=>s - t / (x*x) / i)/\((i+2) % 4=3->t / (x*x) / (i+2 - 2)<=(match decide (i % 4=1) with|true=>s+t / (x*x) / i|false=>s - t / (x*x) / i))/\(match decide (i % 4=1) with|true=>s+t / (x*x) / i|false=>s - t / (x*x) / i)<=(i+2)*PP:=by
  by_cases hm:i % 4=1
  .rw [show (match decide (i % 4=1) with|true=>s+t / (x*x) / i|false=>s - t / (x*x) / i)=s+t / (x*x) / i by rw [decide_eq_true hm]]
   generalize t / (x*x) / i=u at *
   refine ⟨by omega,by omega,by omega⟩
  .have hm3:i % 4=3:=by omega
   have a1:=ts hm3
   have a2:=cm hm3
   rw [show (match decide (i % 4=1) with|true=>s+t / (x*x) / i|false=>s - t / (x*x) / i)=s - t / (x*x) / i by rw [decide_eq_false hm]]
   generalize t / (x*x) / i=u at *
   generalize t / (i - 2)=w at *
   refine ⟨by omega,by omega,by omega⟩
 refine ⟨tp,by omega,by omega,by omega,hp,h5⟩
theorem uC (x:Int):val [x]=x:=by simp [val]
theorem uD {x:Int} (h0:0<=x) (h1:x<1000000000):Dig [x]:=bQ.2 ⟨⟨h0,h1⟩,jR⟩
theorem Vv {x:Int} {one:List Int} (h:ArD x one):CodeOk cZ Gx (.loop arA) (arS x one) ⟨.tt,[⟨.tt,.ret,ah (arS x one) (arX (arR x one none))⟩]⟩:=by
 refine lZ (arU x one) (y0:=none) trivial ⟨_,Pz x one,rfl⟩ (by kernel_rfl) (fun y hy=>?_) rfl
 have v0:=aA h.d
 have v1:=h.hi
 have yl:=h.l
 have x0:=h.x0
 have x1:=h.x1
 have p:=gm
 obtain ⟨xa,xb,xw⟩:=h.xx
 cases y with
 | none=>
  obtain ⟨q0,q1⟩:=h.q
  have l0:=h.lo
  have e1:val (aa (val one*val [x]).toNat)=val one*x:=by rw [uC,dv (Int.mul_nonneg v0 (by omega))]
  have Q:val (aa (val one*val [x]).toNat) / IntKind.i64.wrap (x*x)=arQ x one:=by rw [e1,xw]; rfl
  have vq:=dv q0
  have vq1:=dv (a:=arQ x one / 1) (by omega)
  have l1:(aa (val one*val [x]).toNat).length<=500000:=by
   rw [uC]
   refine Nat.le_trans (jd (n:=8) (Int.mul_nonneg v0 (by omega)) ?_) (by decide)
   have:=Int.mul_le_mul v1 x1 (by omega) (by omega)
   have e:PP*30000<pw 8:=by decide
   omega
  have lq:=jH q0 (by omega)
  have lq1:=jH (a:=arQ x one / 1) (by omega) (by rw [Int.ediv_one]; omega)
  have lp:=Gv l0
  refine ⟨cAr false true,300,DF _ _,rfl,rfl,_,aci x one,?_,fun _=>?_⟩
  .rw [Q,xw,vq]
   refine ⟨⟨⟨rfl,aI _,l1,by omega,by omega⟩,rfl,aI _,by omega,by decide,by decide⟩,beq_eq_false_iff_ne.2 (by omega),rfl,rfl,jR,aI _,.inr lp,by decide,by omega⟩
  .rw [Q,vq,vq1]
   have z:val []+arQ x one / 1=arQ x one / 1:=Int.zero_add _
   rw [z]
   exact ⟨⟨⟨rfl,by decide⟩,rfl,rfl,rfl⟩,LP h,by show (400 - 3:Int).toNat<400; omega,congrArg (fun z=>(Ex.ret,arX z)) (PH h)⟩
 | some y=>
  obtain ⟨i,t,s⟩:=y
  have hI:=hy
  obtain ⟨t0,i0,i1,i2,pw2,s0,ts,sb⟩:=(show 0<t/\i % 2=1/\2<i/\i<=399/\2 ^ (i / 2).toNat*t<=4*PP/\0<=s/\(i % 4=3->t / (i - 2)<=s)/\s<=i*PP from hy)
  have k:=DC t0 pw2
  obtain ⟨b0,b1⟩:=Gz (t:=t) (m:=x*x) (by omega) (by omega)
  obtain ⟨c0,c1⟩:=Ke (t:=t / (x*x)) (m:=i) b0 (by omega)
  have ht:t<=4*PP:=by
   have h4:(1:Int)*t<=2 ^ (i / 2).toNat*t:=by
    refine Int.mul_le_mul_of_nonneg_right ?_ (by omega)
    have:=Nat.one_le_two_pow (n:=(i / 2).toNat)
    have e1:((1:Nat):Int)<=((2 ^ (i / 2).toNat:Nat):Int):=by exact_mod_cast this
    simpa using e1
   omega
  have hs:s<=400*PP:=by
   have:i*PP<=400*PP:=Int.mul_le_mul_of_nonneg_right (by omega) (by omega)
   omega
  have vt:=dv (a:=t) (by omega)
  have vs:=dv s0
  have vb:=dv b0
  have vc:=dv c0
  have dt:=aI t.toNat
  have ds:=aI s.toNat
  have db:=aI (t / (x*x)).toNat
  have dc:=aI (t / (x*x) / i).toNat
  have lt:=jH (a:=t) (by omega) (by omega)
  have ls:=jH s0 hs
  have lb:=jH b0 (by omega)
  have lc:=jH c0 (by omega)
  have w9:IntKind.i64.wrap (i+2)=i+2:=iw (by omega) (by omega)
  by_cases h0:t / (x*x) / i=0
  .refine ⟨cAr true false,300,DF _ _,rfl,rfl,_,aek x one i t s,?_,fun _=>⟨⟨rfl,rfl⟩,congrArg (fun z=>(Ex.ret,arX z)) (Vu (by omega) h0)⟩⟩
   rw [vt,xw,vb,h0]
   exact ⟨⟨⟨rfl,dt,by omega,by omega,by omega⟩,rfl,db,by omega,by omega,by omega⟩,by rw [show aa (0:Int).toNat=[] from dU]; rfl⟩
  .have lq:=Gv (a:=t / (x*x) / i) (by omega)
   have nx:=PK h hI h0
   have nr:=PI (x:=x) (one:=one) (i:=i) (t:=t) (s:=s) (by omega) (by omega) h0
   have mu:(400 - (i+2)).toNat<(400 - i).toNat:=by omega
   by_cases hm:i % 4=1
   .have e4:(match decide (i % 4=1) with|true=>s+t / (x*x) / i|false=>s - t / (x*x) / i)=s+t / (x*x) / i:=by rw [decide_eq_true hm]
    refine ⟨cAr false true,300,DF _ _,rfl,rfl,_,acj x one i t s,?_,fun _=>?_⟩
    .rw [vt,xw,vb]
     refine ⟨⟨⟨rfl,dt,by omega,by omega,by omega⟩,rfl,db,by omega,by omega,by omega⟩,beq_eq_false_iff_ne.2 (by omega),?_,⟨rfl,rfl⟩,ds,dc,.inr lq,by omega,by omega⟩
     rw [Int.tmod_eq_emod_of_nonneg (by omega),hm]; rfl
    .rw [vt,xw,vb,vc,vs]
     exact ⟨⟨⟨congrArg (fun z:Int=>((aa z.toNat).length:Int)) e4.symm,w9⟩,rfl,congrArg (fun z:Int=>aa z.toNat) e4.symm,rfl⟩,nx,mu,congrArg (fun z=>(Ex.ret,arX z)) nr⟩
   .have hm3:i % 4=3:=by omega
    have a1:=ts hm3
    have a2:t / (x*x) / i<=t / (i - 2):=BF b0 (by omega) (by omega) (by omega)
    have ql:=YH c0 (show t / (x*x) / i<=s by omega)
    have e4:(match decide (i % 4=1) with|true=>s+t / (x*x) / i|false=>s - t / (x*x) / i)=s - t / (x*x) / i:=by rw [decide_eq_false hm]
    refine ⟨cAr false false,300,DF _ _,rfl,rfl,_,ack x one i t s,?_,fun _=>?_⟩
    .rw [vt,xw,vb,vc,vs]
     refine ⟨⟨⟨rfl,dt,by omega,by omega,by omega⟩,rfl,db,by omega,by omega,by omega⟩,beq_eq_false_iff_ne.2 (by omega),?_,⟨rfl,rfl⟩,ds,dc,by omega,by omega,ql,by omega⟩
     rw [Int.tmod_eq_emod_of_nonneg (by omega),hm3]; rfl
    .rw [vt,xw,vb,vc,vs]
     exact ⟨⟨⟨congrArg (fun z:Int=>((aa z.toNat).length:Int)) e4.symm,w9⟩,rfl,congrArg (fun z:Int=>aa z.toNat) e4.symm,rfl⟩,nx,mu,congrArg (fun z=>(Ex.ret,arX z)) nr⟩
noncomputable def YR (x:Int) (one:List Int):Ctx:=bg cZ [bY 85 (arS x one).hp.clock Gx arA (arS x one) .ret (arX (arR x one none))]
theorem Vw {x:Int} {one:List Int} (h:ArD x one):CtxOk (YR x one):=aO aK (Vv h) (cK aK)
end
end Go.Proofs.YtbiiiloimbjpaaaDoor.K
