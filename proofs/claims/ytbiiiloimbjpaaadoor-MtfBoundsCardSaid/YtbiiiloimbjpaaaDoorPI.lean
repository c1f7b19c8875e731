/- What is proved: MtfBounds returns true, whatever the input (part 9). No conditions beyond those of the row. -/
import Derived.Test.YtbiiiloimbjpaaaDoorPH
import Derived.KernelRfl
set_option linter.unusedVariables false
set_option linter.unusedSimpArgs false
set_option linter.unusedSectionVars false
namespace Go.Dg
open Go Go.Eng
def fG:List Int->List Int->List Int
 | x :: a,y :: b=>(x - y) :: fG a b
 | a,[]=>a
 | [],_ :: _=>[]
def lD:List Int->List Int->List Int
 | x :: a,y :: b=>(x+y) :: lD a b
 | a,[]=>a
 | [],_ :: _=>[]
theorem zi (a:List Int):fG a []=a:=by cases a <;> rfl
theorem zk (a:List Int):lD a []=a:=by cases a <;> rfl
theorem uk:∀ a b:List Int,(fG a b).length=a.length
 | [],[]=>rfl
 | x :: a,[]=>rfl
 | [],_ :: _=>rfl
 | x :: a,y :: b=>by simp [fG,uk a b]
theorem ul:∀ a b:List Int,(lD a b).length=a.length
 | [],[]=>rfl
 | x :: a,[]=>rfl
 | [],_ :: _=>rfl
 | x :: a,y :: b=>by simp [lD,ul a b]
theorem zm:∀ (a b:List Int) (i:Nat),i<a.length->(fG a b).getD i 0=a.getD i 0 - b.getD i 0
 | [],_,i,h=>by simp at h
 | x :: a,[],i,h=>by simp [fG]
 | x :: a,y :: b,0,h=>by simp [fG]
 | x :: a,y :: b,i+1,h=>by
  have:=zm a b i (by simpa using h)
  simpa [fG] using this
theorem um:∀ (a b:List Int) (i:Nat),i<a.length->(lD a b).getD i 0=a.getD i 0+b.getD i 0
 | [],_,i,h=>by simp at h
 | x :: a,[],i,h=>by simp [lD]
 | x :: a,y :: b,0,h=>by simp [lD]
 | x :: a,y :: b,i+1,h=>by
  have:=um a b i (by simpa using h)
  simpa [lD] using this
theorem Bh:∀ (a b:List Int) (i:Nat),i<b.length->b.length<=a.length->(fG a (b.take i)).set i ((fG a (b.take i)).getD i 0 - b.getD i 0)=fG a (b.take (i+1))
 | _,[],i,h,_=>by simp at h
 | [],y :: b,i,h,h2=>by simp at h2
 | x :: a,y :: b,0,h,_=>by simp [fG,zi]
 | x :: a,y :: b,i+1,h,h2=>by
  have:=Bh a b i (by simpa using h) (by simpa using h2)
  simpa [fG] using this
theorem Bi:∀ (a b:List Int) (i:Nat),i<b.length->b.length<=a.length->(lD a (b.take i)).set i ((lD a (b.take i)).getD i 0+b.getD i 0)=lD a (b.take (i+1))
 | _,[],i,h,_=>by simp at h
 | [],y :: b,i,h,h2=>by simp at h2
 | x :: a,y :: b,0,h,_=>by simp [lD,zk]
 | x :: a,y :: b,i+1,h,h2=>by
  have:=Bi a b i (by simpa using h) (by simpa using h2)
  simpa [lD] using this
theorem FR:∀ (a b:List Int),b.length<=a.length->val (fG a b)=val a - val b
 | a,[],_=>by simp [zi,val]
 | [],y :: b,h=>by simp at h
 | x :: a,y :: b,h=>by
  have:=FR a b (by simpa using h)
  simp only [fG,val]
  omega
theorem FT:∀ (a b:List Int),b.length<=a.length->val (lD a b)=val a+val b
 | a,[],_=>by simp [zk,val]
 | [],y :: b,h=>by simp at h
 | x :: a,y :: b,h=>by
  have:=FT a b (by simpa using h)
  simp only [lD,val]
  omega
theorem Ic {d:List Int} (h:∀ j,j<d.length->0<=d.getD j 0/\d.getD j 0<1000000000):Dig d:=by
 intro x hx
 obtain ⟨j,hj,rfl⟩:=List.getElem_of_mem hx
 have:=h j hj
 simpa [List.getD_eq_getElem?_getD,List.getElem?_eq_getElem hj] using this
structure NbI (L:Nat) (V:Int) (i:Nat) (d:List Int):Prop where
 l:d.length=L
 i1:i<=L
 lo:∀ j,j<i->0<=d.getD j 0/\d.getD j 0<1000000000
 me:-1000000000<=d.getD i 0/\d.getD i 0<1000000000
 hi:∀ j,i<j->-1000000000<d.getD j 0/\d.getD j 0<1000000000
 v:val d=V
theorem NbI.start {a b:List Int} (ha:Dig a) (hb:Dig b) (hl:b.length<=a.length):NbI a.length (val a - val b) 0 (fG a b):=by
 have g:∀ j,-1000000000<(fG a b).getD j 0/\(fG a b).getD j 0<1000000000:=by
  intro j
  rcases Nat.lt_or_ge j a.length with h|h
  .rw [zm a b j h]
   have:=ha.get j
   have:=hb.get j
   omega
  .rw [List.getD_eq_getElem?_getD,List.getElem?_eq_none (by rw [uk]; exact h)]
   simp
 exact ⟨uk a b,Nat.zero_le _,fun j hj=>by omega,⟨by have:=g 0; omega,(g 0).2⟩,fun j _=>g j,FR a b hl⟩
theorem TZ {d:List Int} {i:Nat} (hl:d.length=i+1) (lo:∀ j,j<i->0<=d.getD j 0/\d.getD j 0<1000000000) (hn:d.getD i 0<0):val d<0:=by
 have e:val d=val (d.take i)+pw i*d.getD i 0:=by
  rw [<- dG (by omega),<- hl,List.take_length]
 have dg:Dig (d.take i):=by
  apply Ic
  intro j hj
  rw [List.length_take] at hj
  have:=lo j (by omega)
  simpa [List.getD_eq_getElem?_getD,List.getElem?_take,show j<i by omega] using this
 have h1:=fQ dg
 rw [List.length_take,Nat.min_eq_left (by omega)] at h1
 have h2:pw i*d.getD i 0<=pw i * -1:=Int.mul_le_mul_of_nonneg_left (by omega) (Int.le_of_lt (pw_pos i))
 omega
theorem NbI.in {L:Nat} {V:Int} {i:Nat} {d:List Int} (h:NbI L V i d) (hV:0<=V) (hi:i<L) (hn:d.getD i 0<0):i+1<L:=by
 rcases Nat.lt_or_ge (i+1) L with h1|h1
 .exact h1
 .have:=TZ (i:=i) (by rw [h.l]; omega) h.lo hn
  rw [h.v] at this
  omega
theorem NbI.skip {L:Nat} {V:Int} {i:Nat} {d:List Int} (h:NbI L V i d) (hi:i<L) (hn:¬ d.getD i 0<0):NbI L V (i+1) d:=by
 obtain ⟨l,i1,lo,me,hi',v⟩:=h
 refine ⟨l,hi,fun j hj=>?_,?_,fun j hj=>hi' j (by omega),v⟩
 .rcases Nat.lt_or_ge j i with h1|h1
  .exact lo j h1
  .have:j=i:=by omega
   subst this; omega
 .have:=hi' (i+1) (by omega); omega
theorem NbI.step {L:Nat} {V:Int} {i:Nat} {d:List Int} (h:NbI L V i d) (hV:0<=V) (hi:i<L) (hn:d.getD i 0<0):
  NbI L V (i+1) ((d.set i (d.getD i 0+1000000000)).set (i+1) ((d.set i (d.getD i 0+1000000000)).getD (i+1) 0 - 1)):=by
 have h1:=h.in hV hi hn
 obtain ⟨l,i1,lo,me,hi',v⟩:=h
 have e1:(d.set i (d.getD i 0+1000000000)).getD (i+1) 0=d.getD (i+1) 0:=getD_set (by omega)
 rw [e1]
 have hn1:=hi' (i+1) (by omega)
 refine ⟨by simp [l],hi,fun j hj=>?_,?_,fun j hj=>?_,?_⟩
 .rw [getD_set (by omega)]
  rcases Nat.lt_or_ge j i with h2|h2
  .rw [getD_set (by omega)]; exact lo j h2
  .have:j=i:=by omega
   subst this
   rw [gq (by omega)]; omega
 .rw [gq (by rw [List.length_set]; omega)]; omega
 .rw [getD_set (by omega),getD_set (by omega)]
  exact hi' j (by omega)
 .rw [kV _ _ _ (by rw [List.length_set]; omega),kV _ _ _ (by omega),e1,jQ]
  grind
theorem NbI.fin {L:Nat} {V:Int} {d:List Int} (h:NbI L V L d):d=aV L V:=by
 exact oQ (Ic fun j hj=>h.lo j (by rw [<- h.l]; exact hj)) h.l h.v
structure NcI (L:Nat) (V:Int) (i:Nat) (d:List Int):Prop where
 l:d.length=L+1
 i1:i<=L
 lo:∀ j,j<i->0<=d.getD j 0/\d.getD j 0<1000000000
 me:0<=d.getD i 0/\d.getD i 0<2000000000
 hi:∀ j,i<j->0<=d.getD j 0/\d.getD j 0<1999999999
 t0:i<L->d.getD L 0=0
 t1:d.getD L 0<=1
 v:val d=V
theorem NcI.start {a b:List Int} (ha:Dig a) (hb:Dig b) (hl:b.length<=a.length):NcI a.length (val a+val b) 0 (lD (a++[0]) b):=by
 have da:Dig (a++[0]):=JB.2 ⟨ha,bO.2 ⟨by omega,jO⟩⟩
 have ll:(a++[(0:Int)]).length=a.length+1:=by simp
 have g:∀ j,0<=(lD (a++[0]) b).getD j 0/\(lD (a++[0]) b).getD j 0<1999999999:=by
  intro j
  rcases Nat.lt_or_ge j (a++[(0:Int)]).length with h|h
  .rw [um _ b j h]
   have:=da.get j
   have:=hb.get j
   omega
  .rw [List.getD_eq_getElem?_getD,List.getElem?_eq_none (by rw [ul]; exact h)]
   simp
 have top:(lD (a++[0]) b).getD a.length 0=0:=by
  rw [um _ b _ (by omega)]
  have e1:(a++[(0:Int)]).getD a.length 0=0:=by simp [List.getD_eq_getElem?_getD]
  have e2:b.getD a.length 0=0:=by rw [List.getD_eq_getElem?_getD,List.getElem?_eq_none hl]; rfl
  omega
 refine ⟨by rw [ul,ll],Nat.zero_le _,fun j hj=>by omega,⟨(g 0).1,by have:=(g 0).2; omega⟩,fun j _=>g j,fun _=>top,by omega,?_⟩
 rw [FT _ b (by rw [ll]; omega),CY]
 simp [val]
theorem NcI.skip {L:Nat} {V:Int} {i:Nat} {d:List Int} (h:NcI L V i d) (hi:i<L) (hn:¬ 1000000000<=d.getD i 0):NcI L V (i+1) d:=by
 obtain ⟨l,i1,lo,me,hi',t0,t1,v⟩:=h
 refine ⟨l,hi,fun j hj=>?_,?_,fun j hj=>hi' j (by omega),fun _=>t0 hi,t1,v⟩
 .rcases Nat.lt_or_ge j i with h1|h1
  .exact lo j h1
  .have:j=i:=by omega
   subst this; omega
 .have:=hi' (i+1) (by omega); omega
theorem NcI.step {L:Nat} {V:Int} {i:Nat} {d:List Int} (h:NcI L V i d) (hi:i<L) (hn:1000000000<=d.getD i 0):
  NcI L V (i+1) ((d.set i (d.getD i 0 - 1000000000)).set (i+1) ((d.set i (d.getD i 0 - 1000000000)).getD (i+1) 0+1)):=by
 obtain ⟨l,i1,lo,me,hi',t0,t1,v⟩:=h
 have e1:(d.set i (d.getD i 0 - 1000000000)).getD (i+1) 0=d.getD (i+1) 0:=getD_set (by omega)
 rw [e1]
 have hn1:=hi' (i+1) (by omega)
 refine ⟨by simp [l],hi,fun j hj=>?_,?_,fun j hj=>?_,fun h2=>?_,?_,?_⟩
 .rw [getD_set (by omega)]
  rcases Nat.lt_or_ge j i with h2|h2
  .rw [getD_set (by omega)]; exact lo j h2
  .have:j=i:=by omega
   subst this
   rw [gq (by omega)]; omega
 .rw [gq (by rw [List.length_set]; omega)]; omega
 .rw [getD_set (by omega),getD_set (by omega)]
  exact hi' j (by omega)
 .rw [getD_set (by omega),getD_set (by omega)]
  exact t0 hi
 .rcases Nat.lt_or_ge (i+1) L with h2|h2
  .rw [getD_set (by omega),getD_set (by omega),t0 hi]; decide
  .have e2:i+1=L:=by omega
   have z:=t0 hi
   rw [<- e2] at z ⊢
   rw [gq (by rw [List.length_set]; omega),z]; decide
 .rw [kV _ _ _ (by rw [List.length_set]; omega),kV _ _ _ (by omega),e1,jQ]
  grind
theorem NcI.fin {L:Nat} {V:Int} {d:List Int} (h:NcI L V L d):d=aV (L+1) V:=by
 refine oQ (Ic fun j hj=>?_) h.l h.v
 rw [h.l] at hj
 rcases Nat.lt_or_ge j L with h1|h1
 .exact h.lo j h1
 .have e:j=L:=by omega
  have h2:=h.t1
  have h3:=h.me
  subst e
  omega
end Go.Dg
namespace Go.Proofs.YtbiiiloimbjpaaaDoor.K
open Go Go.Eng Go.Dg
noncomputable section
def vz:AFr:=⟨78,none⟩
noncomputable def K7:Code:=iW Tryd.prog 78 0
noncomputable def Ie:Code:=iW Tryd.prog 78 1
noncomputable def m1S (a b:List Int):St:=ug cL 300 78 (zB a b) (zG a b)
def m1P (i:Int) (d:List Int):Patch:=⟨fA 6 2++(13,.int true .i64 i) :: fA 14 12,[(2,.ints .i64 d)],[]⟩
def m1X (a b:List Int):Patch:=m1P b.length (fG a (b.take ((b.length:Int)).toNat))
def m1U (a b:List Int):SumL Int:=
 {
  S:=fun i=>m1P i (fG a (b.take i.toNat))
  I:=fun i=>0<=i/\i<=b.length
  μ:=fun i=>(b.length - i).toNat
  F:=fun _=>(.exit 0,m1X a b)
  next:=fun i=>i+1
  ids:=fun _=>[]
  X:=fun i _=>some (m1P i (fG a (b.take i.toNat)),[]) }
noncomputable def cM1 (a b:List Int):Ctx:=aZ cL [bW 78 (m1S a b).hp.clock vz K7 (m1S a b) (.exit 0) (m1X a b)]
noncomputable def m2S (a b:List Int):St:=ug (cM1 a b) 300 78 (zB a b) (zG a b)
def m2P (i:Int) (d:List Int):Patch:=⟨(8,.any false) :: (28,.int true .i64 i) :: fA 29 21,[(2,.ints .i64 d)],[]⟩
def zn (a b:List Int):Int:=val a - val b
def m2U (a b:List Int):SumL (Int×List Int):=
 {
  S:=fun (i,d)=>m2P i d
  I:=fun (i,d)=>0<=i/\NbI a.length (zn a b) i.toNat d
  μ:=fun (i,_)=>(a.length - i).toNat
  F:=fun _=>(.exit 2,m2P a.length (aV a.length (zn a b)))
  next:=fun (i,d)=>(i+1,bif decide (d.getD i.toNat 0<0) then (d.set i.toNat (d.getD i.toNat 0+1000000000)).set (i.toNat+1) ((d.set i.toNat (d.getD i.toNat 0+1000000000)).getD (i.toNat+1) 0 - 1) else d)
  ids:=fun _=>[]
  X:=fun (i,d) _=>some (m2P i d,[]) }
noncomputable def cHb (l:List (Nat×Bool)):Ctx:=gz cL (hZ (l.map fun x=>(x.1,match x.2 with|true=>.bool false true|false=>.bool false false)))
theorem oU (l:List (Nat×Bool)):CtxOk (cHb l):=cO gQ _
def FU (a b:List Int):Prop:=(0:Int)=0/\a=fG a (List.take (Int.toNat (0:Int)) b)
theorem Oq (a b:List Int):fit (m1S a b) (m1S a b) (ah (m1S a b) ((m1U a b).S 0)) ([])=some (.p (FU a b)):=by kernel_rfl
def Ig (a b:List Int) (i:Int):Prop:=(decide (i<(↑b.length:Int))=true->(((0:Int)<=i/\i<(↑b.length:Int))/\i.toNat<b.length)/\((0:Int)<=i/\i<(↑a.length:Int))/\((0:Int)+i).toNat<(fG a (List.take i.toNat b)).length/\((0:Int)<=i/\i<(↑a.length:Int))/\((0:Int)+i).toNat<(fG a (List.take i.toNat b)).length)/\((!decide (i<(↑b.length:Int)))=true->(i=i/\fG a (List.take i.toNat b)=fG a (List.take i.toNat b))/\(m1U a b).F i=(Ex.exit (0:Nat),m1P i (fG a (List.take i.toNat b))))/\(decide (i<(↑b.length:Int))=true->(IntKind.i64.wrap (i+1)=(m1U a b).next i/\(fG a (List.take i.toNat b)).set ((0:Int)+i).toNat (IntKind.i64.wrap ((fG a (List.take i.toNat b)).getD ((0:Int)+i).toNat (0:Int) - b.getD i.toNat (0:Int)))=fG a (List.take ((m1U a b).next i).toNat b))/\(m1U a b).I ((m1U a b).next i)/\(m1U a b).μ ((m1U a b).next i)<(m1U a b).μ i/\(m1U a b).F ((m1U a b).next i)=(m1U a b).F i)
theorem T9 (a b:List Int) (i:Int):dW (m1S a b) ((m1U a b).way (i)) ((run cL 300).code vz K7 (ah (m1S a b) ((m1U a b).S i)))=some (.p (Ig a b i)):=by kernel_rfl
def FV (a b:List Int):Prop:=(0:Int)=0/\fG a (List.take (↑b.length:Int).toNat b)=fG a (List.take (↑b.length:Int).toNat b)
theorem Ot (a b:List Int):fit (m2S a b) (m2S a b) (ah (m2S a b) ((m2U a b).S (0,fG a (b.take ((b.length:Int)).toNat)))) ([])=some (.p (FV a b)):=by kernel_rfl
def K8 (a b:List Int) (i:Int) (d:List Int):Prop:=decide (i<(↑a.length:Int))=false/\(true=true->(i=i/\d=d)/\(m2U a b).F (i,d)=(Ex.exit (2:Nat),m2P i d))
theorem XF (a b:List Int) (i:Int) (d:List Int):dW (m2S a b) ((m2U a b).way ((i,d))) ((run (cHb [(29,false)]) 300).code vz Ie (ah (m2S a b) ((m2U a b).S (i,d))))=some (.p (K8 a b i d)):=by kernel_rfl
def Ih (a b:List Int) (i:Int) (d:List Int):Prop:=(decide (i<(↑a.length:Int))=true/\((0:Int)<=i/\i<(↑a.length:Int))/\((0:Int)+i).toNat<d.length/\decide (d.getD ((0:Int)+i).toNat (0:Int)<0)=false)/\(true=true->(IntKind.i64.wrap (i+1)=i+1/\d=bif decide (d.getD i.toNat (0:Int)<0) then (d.set i.toNat (d.getD i.toNat (0:Int)+1000000000)).set (i.toNat+(1:Nat)) ((d.set i.toNat (d.getD i.toNat (0:Int)+1000000000)).getD (i.toNat+(1:Nat)) (0:Int) - (1:Int)) else d)/\(m2U a b).I ((m2U a b).next (i,d))/\(m2U a b).μ ((m2U a b).next (i,d))<(m2U a b).μ (i,d)/\(m2U a b).F ((m2U a b).next (i,d))=(m2U a b).F (i,d))
theorem Ua (a b:List Int) (i:Int) (d:List Int):dW (m2S a b) ((m2U a b).way ((i,d))) ((run (cHb [(29,true),(35,false)]) 300).code vz Ie (ah (m2S a b) ((m2U a b).S (i,d))))=some (.p (Ih a b i d)):=by kernel_rfl
def Ii (a b:List Int) (i:Int) (d:List Int):Prop:=(decide (i<(↑a.length:Int))=true/\(((0:Int)<=i/\i<(↑a.length:Int))/\((0:Int)+i).toNat<d.length/\decide (d.getD ((0:Int)+i).toNat (0:Int)<0)=true)/\(((0:Int)<=i/\i<(↑a.length:Int))/\((0:Int)+i).toNat<d.length/\((0:Int)<=i/\i<(↑a.length:Int))/\((0:Int)+i).toNat<d.length)/\((0:Int)<=IntKind.i64.wrap (i+1)/\IntKind.i64.wrap (i+1)<(↑a.length:Int))/\((0:Int)+IntKind.i64.wrap (i+1)).toNat<(d.set ((0:Int)+i).toNat (IntKind.i64.wrap (d.getD ((0:Int)+i).toNat (0:Int)+1000000000))).length/\((0:Int)<=IntKind.i64.wrap (i+1)/\IntKind.i64.wrap (i+1)<(↑a.length:Int))/\((0:Int)+IntKind.i64.wrap (i+1)).toNat<(d.set ((0:Int)+i).toNat (IntKind.i64.wrap (d.getD ((0:Int)+i).toNat (0:Int)+1000000000))).length)/\(true=true->(IntKind.i64.wrap (i+1)=i+1/\(d.set ((0:Int)+i).toNat (IntKind.i64.wrap (d.getD ((0:Int)+i).toNat (0:Int)+1000000000))).set ((0:Int)+IntKind.i64.wrap (i+1)).toNat (IntKind.i64.wrap ((d.set ((0:Int)+i).toNat (IntKind.i64.wrap (d.getD ((0:Int)+i).toNat (0:Int)+1000000000))).getD ((0:Int)+IntKind.i64.wrap (i+1)).toNat (0:Int) - (1:Int)))=bif decide (d.getD i.toNat (0:Int)<0) then (d.set i.toNat (d.getD i.toNat (0:Int)+1000000000)).set (i.toNat+(1:Nat)) ((d.set i.toNat (d.getD i.toNat (0:Int)+1000000000)).getD (i.toNat+(1:Nat)) (0:Int) - (1:Int)) else d)/\(m2U a b).I ((m2U a b).next (i,d))/\(m2U a b).μ ((m2U a b).next (i,d))<(m2U a b).μ (i,d)/\(m2U a b).F ((m2U a b).next (i,d))=(m2U a b).F (i,d))
theorem Ub (a b:List Int) (i:Int) (d:List Int):dW (m2S a b) ((m2U a b).way ((i,d))) ((run (cHb [(29,true),(35,true)]) 300).code vz Ie (ah (m2S a b) ((m2U a b).S (i,d))))=some (.p (Ii a b i d)):=by kernel_rfl
theorem zt (i:Int):(0+i).toNat=i.toNat:=by rw [Int.zero_add]
theorem Uc {a b:List Int} (ha:Dig a) (hb:Dig b) (la:Sm a) (hl:b.length<=a.length):CodeOk cL vz (.loop K7) (m1S a b) ⟨.tt,[⟨.tt,.exit 0,ah (m1S a b) (m1X a b)⟩]⟩:=by
 have la:=la.le
 refine lW (bJ gQ 300) (m1U a b) (y0:=0) ⟨by omega,by omega⟩ ⟨_,Oq a b,rfl,(zi a).symm⟩ (by kernel_rfl) (fun i hi=>⟨_,T9 a b i,?_⟩) rfl
 obtain ⟨i0,i1⟩:=(show 0<=i/\i<=b.length from hi)
 have ll:=uk a (b.take i.toNat)
 refine ⟨fun h=>?_,fun h=>⟨⟨rfl,rfl⟩,?_⟩,fun h=>?_⟩
 .have h:i<b.length:=dt.1 h
  rw [zt,ll]
  exact ⟨⟨⟨i0,h⟩,by omega⟩,⟨i0,by omega⟩,by omega,⟨i0,by omega⟩,by omega⟩
 .have h:=ndt.1 h
  obtain rfl:i=b.length:=by omega
  rfl
 .have h:i<b.length:=dt.1 h
  have g1:=ha.get i.toNat
  have g2:=hb.get i.toNat
  have e0:(b.take i.toNat).getD i.toNat 0=0:=by rw [List.getD_eq_getElem?_getD,List.getElem?_eq_none (by rw [List.length_take]; omega)]; rfl
  have e1:=zm a (b.take i.toNat) i.toNat (by omega)
  rw [e0] at e1
  refine ⟨⟨iw (by omega) (by omega),?_⟩,?_,?_,rfl⟩
  .rw [zt,iw (by omega) (by omega),Bh a b i.toNat (by omega) hl]
   show _=fG a (b.take (i+1).toNat)
   rw [show (i+1).toNat=i.toNat+1 by omega]
  .show 0<=i+1/\i+1<=b.length
   omega
  .show (b.length - (i+1)).toNat<(b.length - i).toNat
   omega
theorem Ud {a b:List Int} (ha:Dig a) (hb:Dig b) (la:Sm a) (hl:b.length<=a.length) (hV:0<=zn a b):CodeOk cL vz (.loop Ie) (m2S a b) ⟨.tt,[⟨.tt,.exit 2,ah (m2S a b) (m2P a.length (aV a.length (zn a b)))⟩]⟩:=by
 have la:=la.le
 refine lX (m2U a b) (y0:=(0,fG a (b.take ((b.length:Int)).toNat))) ?_ ⟨_,Ot a b,rfl,rfl⟩ (by kernel_rfl) (fun y hy=>?_) rfl
 .show 0<=0/\NbI _ _ _ _
  rw [show ((b.length:Int)).toNat=b.length by omega,List.take_length]
  exact ⟨by decide,NbI.start ha hb hl⟩
 obtain ⟨i,d⟩:=y
 obtain ⟨i0,hI⟩:=(show 0<=i/\NbI a.length (zn a b) i.toNat d from hy)
 obtain ⟨l,i1,lo,me,hi',v⟩:=id hI
 have e2:(i+1).toNat=i.toNat+1:=by omega
 by_cases hlt:i<a.length
 .have iw1:IntKind.i64.wrap (i+1)=i+1:=iw (by omega) (by omega)
  have mu:(a.length - (i+1)).toNat<(a.length - i).toNat:=by omega
  by_cases hn:d.getD i.toNat 0<0
  .have h1:=hI.in hV (by omega) hn
   have h2:=hi' (i.toNat+1) (by omega)
   have e3:(d.set i.toNat (d.getD i.toNat 0+1000000000)).getD (i.toNat+1) 0=d.getD (i.toNat+1) 0:=getD_set (by omega)
   have e4:IntKind.i64.wrap (d.getD i.toNat 0+1000000000)=d.getD i.toNat 0+1000000000:=iw (by omega) (by omega)
   have e5:IntKind.i64.wrap (d.getD (i.toNat+1) 0 - 1)=d.getD (i.toNat+1) 0 - 1:=iw (by omega) (by omega)
   have hb':(bif decide (d.getD i.toNat 0<0) then (d.set i.toNat (d.getD i.toNat 0+1000000000)).set (i.toNat+1) ((d.set i.toNat (d.getD i.toNat 0+1000000000)).getD (i.toNat+1) 0 - 1) else d)=(d.set i.toNat (d.getD i.toNat 0+1000000000)).set (i.toNat+1) ((d.set i.toNat (d.getD i.toNat 0+1000000000)).getD (i.toNat+1) 0 - 1):=by rw [decide_eq_true hn]; rfl
   refine ⟨cHb [(29,true),(35,true)],300,oU _,rfl,rfl,_,Ub a b i d,?_,fun _=>?_⟩
   .rw [zt,iw1,zt,e2,e4,List.length_set]
    exact ⟨decide_eq_true hlt,⟨⟨i0,hlt⟩,by omega,decide_eq_true hn⟩,⟨⟨i0,hlt⟩,by omega,⟨i0,hlt⟩,by omega⟩,⟨by omega,by omega⟩,by omega,⟨by omega,by omega⟩,by omega⟩
   .refine ⟨⟨iw1,?_⟩,?_,mu,rfl⟩
    .rw [zt,iw1,zt,e2,e4,hb',e3,e5]
    .show 0<=i+1/\NbI _ _ (i+1).toNat _
     rw [e2,hb']
     exact ⟨by omega,hI.step hV (by omega) hn⟩
  .have hb':(bif decide (d.getD i.toNat 0<0) then (d.set i.toNat (d.getD i.toNat 0+1000000000)).set (i.toNat+1) ((d.set i.toNat (d.getD i.toNat 0+1000000000)).getD (i.toNat+1) 0 - 1) else d)=d:=by rw [decide_eq_false hn]; rfl
   refine ⟨cHb [(29,true),(35,false)],300,oU _,rfl,rfl,_,Ua a b i d,?_,fun _=>⟨⟨iw1,hb'.symm⟩,?_,mu,rfl⟩⟩
   .rw [zt]
    exact ⟨decide_eq_true hlt,⟨i0,hlt⟩,by omega,decide_eq_false hn⟩
   .show 0<=i+1/\NbI _ _ (i+1).toNat _
    rw [e2,hb']
    exact ⟨by omega,hI.skip (by omega) hn⟩
 .refine ⟨cHb [(29,false)],300,oU _,rfl,rfl,_,XF a b i d,decide_eq_false hlt,fun _=>⟨⟨rfl,rfl⟩,?_⟩⟩
  have e:i.toNat=a.length:=by omega
  rw [e] at hI
  show (Ex.exit 2,m2P a.length (aV a.length (zn a b)))=(Ex.exit 2,m2P i d)
  rw [<- hI.fin,show i=a.length by omega]
noncomputable def mtS (a b d:List Int) (N:Int):St:=ug cL 300 86 [.islice true 2 0 N] ⟨[⟨23,.ints .i64 d⟩,⟨0,.rows .i64 b⟩,⟨0,.rows .i64 a⟩],3,26⟩
theorem Ou (a b d:List Int) (N:Int):fit (mtS a b d N) (mtS a b d N) (ah (mtS a b d N) ((trU 2 d N).S N)) []=some (.p ((0:Int)=0/\N=N)):=by kernel_rfl
theorem Ue (a b d:List Int) (N y:Int):dW (mtS a b d N) ((trU 2 d N).way y) ((run cL 300).code jR trA (ah (mtS a b d N) ((trU 2 d N).S y)))=some (.p (trN 2 d N y)):=by kernel_rfl
theorem Uf (a b:List Int) {d:List Int} {N:Int} (hN:N=d.length) (ld:Sm d):CodeOk cL jR (.loop trA) (mtS a b d N) ⟨.tt,[⟨.tt,.exit 0,ah (mtS a b d N) (trP 2 (tlI d N))⟩]⟩:=wX hN ld (Ou a b d N) (by kernel_rfl) (fun y=>Ue a b d N y)
def miD (a b:List Int):List Int:=aV a.length (zn a b)
noncomputable def cMt (a b:List Int):Ctx:=aZ cL [bW 78 (m1S a b).hp.clock vz K7 (m1S a b) (.exit 0) (m1X a b),bW 78 (m2S a b).hp.clock vz Ie (m2S a b) (.exit 2) (m2P a.length (miD a b)),
 bW 86 29 jR trA (mtS a b (miD a b) a.length) (.exit 0) (trP 2 (tlI (miD a b) a.length))]
theorem Db (a b:List Int):(miD a b).length=a.length:=df _ _
theorem XG {a b:List Int} (ha:Dig a) (hb:Dig b) (la:Sm a) (hl:b.length<=a.length) (hV:0<=zn a b):CtxOk (cMt a b):=
 aO gQ (Uc ha hb la hl) (aO gQ (Ud ha hb la hl hV) (aO gQ (Uf a b (by rw [Db]) (by show (miD a b).length<=500000; rw [Db]; exact la)) (cz gQ)))
def Ov (a b:List Int):Prop:=(((0:Int)<(↑a.length:Int)/\(↑a.length:Int)=(↑a.length:Int)/\(0:Int)<(↑a.length:Int)/\(↑a.length:Int)<=1048576)/\At (vz) (vz) (K7) (K7) (m1S a b) (m1S a b)/\At (vz) (vz) (Ie) (Ie) (m2S a b) (m2S a b)/\At (jR) (jR) (trA) (trA) (mtS a b (miD a b) a.length) (mtS a b (miD a b) a.length))
def Ug (a b:List Int):AV:=(AV.islice true 2 (0:Int) (tlI (miD a b) (↑a.length:Int)))
def Uh (a b:List Int):Hp:=⟨[{ wr:=23,body:=ABody.ints IntKind.i64 (miD a b) },{ wr:=(0:Nat),body:=ABody.rows IntKind.i64 b },{ wr:=(0:Nat),body:=ABody.rows IntKind.i64 a }],3,33⟩
theorem abk (a b:List Int):(run (cMt a b) 300).call 78 (zB a b) (zG a b)=some ⟨.p (Ov a b),[⟨.tt,Ug a b,Uh a b⟩]⟩:=by kernel_rfl
def XH:List Nu->List (List Int)->Option (Prop×To)
 | [],[a,b]=>some (Dig a/\Dig b/\0<a.length/\a.length<=500000/\b.length<=a.length/\val b<=val a,.li false (aa (val a - val b).toNat))
 | _,_=>none
theorem Ui:NOk Tryd.prog (fun _=>none) hG0 78 (eG hG0 .i64 [.li,.li] XH):=by
 refine fD (fun xs ys p t e h=>?_) ⟨_,Tryd.func78,rfl⟩
 unfold XH at e
 split at e
 .rename_i a b
  cases e
  obtain ⟨ha,hb,l0,l1,hl,hv⟩:=h
  have hV:0<=zn a b:=by unfold zn; omega
  have b0:=aA hb
  have a1:=fQ ha
  have ev:val (miD a b)=val a - val b:=kJ hV (by unfold zn; omega)
  exact ⟨cMt a b,300,zB a b,_,_,_,_,_,XG ha hb l1 hl hV,rfl,rfl,⟨rfl,rfl,trivial⟩,abk a b,rfl,⟨⟨by omega,rfl,by omega,by omega⟩,⟨rfl,rfl,rfl⟩,⟨rfl,rfl,rfl⟩,⟨rfl,rfl,rfl⟩⟩,rfl,rfl,Da (jv _ _) (by rw [Db]) ev⟩
 .cases e
def oV:AFr:=⟨79,none⟩
noncomputable def FW:Code:=iW Tryd.prog 79 0
noncomputable def Dc:Code:=iW Tryd.prog 79 1
noncomputable def cPl (s:Bool):Ctx:=cHb [(13,s)]
theorem De (s:Bool):CtxOk (cPl s):=oU _
def bi (s:Bool) (a b:List Int):List Int:=match s with|true=>b|false=>a
def shA (s:Bool) (a b:List Int):List Int:=match s with|true=>a|false=>b
noncomputable def q1S (s:Bool) (a b:List Int):St:=ug (cPl s) 300 79 (zB a b) (zG a b)
def q1P (i:Int) (d:List Int):Patch:=⟨fA 6 2++(25,.int true .i64 i) :: fA 26 12,[(2,.ints .i64 d)],[]⟩
def q1D (s:Bool) (a b:List Int) (i:Int):List Int:=lD (bi s a b++[0]) ((shA s a b).take i.toNat)
def q1X (s:Bool) (a b:List Int):Patch:=q1P (shA s a b).length (q1D s a b (shA s a b).length)
def q1U (s:Bool) (a b:List Int):SumL Int:=
 {
  S:=fun i=>q1P i (q1D s a b i)
  I:=fun i=>0<=i/\i<=(shA s a b).length
  μ:=fun i=>((shA s a b).length - i).toNat
  F:=fun _=>(.exit 0,q1X s a b)
  next:=fun i=>i+1
  ids:=fun _=>[]
  X:=fun i _=>some (q1P i (q1D s a b i),[]) }
noncomputable def cQ1 (s:Bool) (a b:List Int):Ctx:=aZ (cPl s) [bW 79 (q1S s a b).hp.clock oV FW (q1S s a b) (.exit 0) (q1X s a b)]
noncomputable def q2S (s:Bool) (a b:List Int):St:=ug (cQ1 s a b) 300 79 (zB a b) (zG a b)
def q2P (i:Int) (d:List Int):Patch:=⟨(8,.any false) :: (40,.int true .i64 i) :: fA 41 21,[(2,.ints .i64 d)],[]⟩
def plV (a b:List Int):Int:=val a+val b
def q2F (s:Bool) (a b:List Int):List Int:=aV ((bi s a b).length+1) (plV a b)
def q2U (s:Bool) (a b:List Int):SumL (Int×List Int):=
 {
  S:=fun (i,d)=>q2P i d
  I:=fun (i,d)=>0<=i/\NcI (bi s a b).length (plV a b) i.toNat d
  μ:=fun (i,_)=>((bi s a b).length - i).toNat
  F:=fun _=>(.exit 2,q2P (bi s a b).length (q2F s a b))
  next:=fun (i,d)=>(i+1,bif decide (d.getD i.toNat 0>=1000000000) then (d.set i.toNat (d.getD i.toNat 0 - 1000000000)).set (i.toNat+1) ((d.set i.toNat (d.getD i.toNat 0 - 1000000000)).getD (i.toNat+1) 0+1) else d)
  ids:=fun _=>[]
  X:=fun (i,d) _=>some (q2P i d,[]) }
def FX (s:Bool) (a b:List Int):Prop:=(0:Int)=0/\Kg (List.replicate (IntKind.i64.wrap ((↑(bi s a b).length:Int)+1)).toNat (0:Int)) (Int.toNat (0:Int)) (bi s a b)=q1D s a b (0:Int)
theorem Ow (s:Bool) (a b:List Int):fit (q1S s a b) (q1S s a b) (ah (q1S s a b) ((q1U s a b).S 0)) ([])=some (.p (FX s a b)):=by cases s <;> kernel_rfl
def Ij (s:Bool) (a b:List Int) (i:Int):Prop:=(decide (i<(↑(shA s a b).length:Int))=true->(((0:Int)<=i/\i<(↑(shA s a b).length:Int))/\i.toNat<(shA s a b).length)/\((0:Int)<=i/\i<IntKind.i64.wrap ((↑(bi s a b).length:Int)+1))/\((0:Int)+i).toNat<(q1D s a b i).length/\((0:Int)<=i/\i<IntKind.i64.wrap ((↑(bi s a b).length:Int)+1))/\((0:Int)+i).toNat<(q1D s a b i).length)/\((!decide (i<(↑(shA s a b).length:Int)))=true->(i=i/\q1D s a b i=q1D s a b i)/\(q1U s a b).F i=(Ex.exit (0:Nat),q1P i (q1D s a b i)))/\(decide (i<(↑(shA s a b).length:Int))=true->(IntKind.i64.wrap (i+1)=(q1U s a b).next i/\(q1D s a b i).set ((0:Int)+i).toNat (IntKind.i64.wrap ((q1D s a b i).getD ((0:Int)+i).toNat (0:Int)+(shA s a b).getD i.toNat (0:Int)))=q1D s a b ((q1U s a b).next i))/\(q1U s a b).I ((q1U s a b).next i)/\(q1U s a b).μ ((q1U s a b).next i)<(q1U s a b).μ i/\(q1U s a b).F ((q1U s a b).next i)=(q1U s a b).F i)
theorem Uj (s:Bool) (a b:List Int) (i:Int):dW (q1S s a b) ((q1U s a b).way (i)) ((run cL 300).code oV FW (ah (q1S s a b) ((q1U s a b).S i)))=some (.p (Ij s a b i)):=by cases s <;> kernel_rfl
def FY (s:Bool) (a b:List Int):Prop:=(0:Int)=0/\q1D s a b (↑(shA s a b).length:Int)=q1D s a b (↑(shA s a b).length:Int)
theorem Ox (s:Bool) (a b:List Int):fit (q2S s a b) (q2S s a b) (ah (q2S s a b) ((q2U s a b).S (0,q1D s a b (shA s a b).length))) ([])=some (.p (FY s a b)):=by cases s <;> kernel_rfl
def K9 (s:Bool) (a b:List Int) (i:Int) (d:List Int):Prop:=decide (i<(↑(bi s a b).length:Int))=false/\(true=true->(i=i/\d=d)/\(q2U s a b).F (i,d)=(Ex.exit (2:Nat),q2P i d))
theorem XI (s:Bool) (a b:List Int) (i:Int) (d:List Int):dW (q2S s a b) ((q2U s a b).way ((i,d))) ((run (cHb [(41,false)]) 300).code oV Dc (ah (q2S s a b) ((q2U s a b).S (i,d))))=some (.p (K9 s a b i d)):=by cases s <;> kernel_rfl
def Ik (s:Bool) (a b:List Int) (i:Int) (d:List Int):Prop:=(decide (i<(↑(bi s a b).length:Int))=true/\((0:Int)<=i/\i<IntKind.i64.wrap ((↑(bi s a b).length:Int)+1))/\((0:Int)+i).toNat<d.length/\decide (d.getD ((0:Int)+i).toNat (0:Int)>=1000000000)=false)/\(true=true->(IntKind.i64.wrap (i+1)=i+1/\d=bif decide (d.getD i.toNat (0:Int)>=1000000000) then (d.set i.toNat (d.getD i.toNat (0:Int) - (1000000000:Int))).set (i.toNat+(1:Nat)) ((d.set i.toNat (d.getD i.toNat (0:Int) - (1000000000:Int))).getD (i.toNat+(1:Nat)) (0:Int)+1) else d)/\(q2U s a b).I ((q2U s a b).next (i,d))/\(q2U s a b).μ ((q2U s a b).next (i,d))<(q2U s a b).μ (i,d)/\(q2U s a b).F ((q2U s a b).next (i,d))=(q2U s a b).F (i,d))
theorem Uk (s:Bool) (a b:List Int) (i:Int) (d:List Int):dW (q2S s a b) ((q2U s a b).way ((i,d))) ((run (cHb [(41,true),(47,false)]) 300).code oV Dc (ah (q2S s a b) ((q2U s a b).S (i,d))))=some (.p (Ik s a b i d)):=by cases s <;> kernel_rfl
def Il (s:Bool) (a b:List Int) (i:Int) (d:List Int):Prop:=(decide (i<(↑(bi s a b).length:Int))=true/\(((0:Int)<=i/\i<IntKind.i64.wrap ((↑(bi s a b).length:Int)+1))/\((0:Int)+i).toNat<d.length/\decide (d.getD ((0:Int)+i).toNat (0:Int)>=1000000000)=true)/\(((0:Int)<=i/\i<IntKind.i64.wrap ((↑(bi s a b).length:Int)+1))/\((0:Int)+i).toNat<d.length/\((0:Int)<=i/\i<IntKind.i64.wrap ((↑(bi s a b).length:Int)+1))/\((0:Int)+i).toNat<d.length)/\((0:Int)<=IntKind.i64.wrap (i+1)/\IntKind.i64.wrap (i+1)<IntKind.i64.wrap ((↑(bi s a b).length:Int)+1))/\((0:Int)+IntKind.i64.wrap (i+1)).toNat<(d.set ((0:Int)+i).toNat (IntKind.i64.wrap (d.getD ((0:Int)+i).toNat (0:Int) - (1000000000:Int)))).length/\((0:Int)<=IntKind.i64.wrap (i+1)/\IntKind.i64.wrap (i+1)<IntKind.i64.wrap ((↑(bi s a b).length:Int)+1))/\((0:Int)+IntKind.i64.wrap (i+1)).toNat<(d.set ((0:Int)+i).toNat (IntKind.i64.wrap (d.getD ((0:Int)+i).toNat (0:Int) - (1000000000:Int)))).length)/\(true=true->(IntKind.i64.wrap (i+1)=i+1/\(d.set ((0:Int)+i).toNat (IntKind.i64.wrap (d.getD ((0:Int)+i).toNat (0:Int) - (1000000000:Int)))).set ((0:Int)+IntKind.i64.wrap (i+1)).toNat (IntKind.i64.wrap ((d.set ((0:Int)+i).toNat (IntKind.i64.wrap (d.getD ((0:Int)+i).toNat (0:Int) - (1000000000:Int)))).getD ((0:Int)+IntKind.i64.wrap (i+1)).toNat (0:Int)+1))=bif decide (d.getD i.toNat (0:Int)>=1000000000) then (d.set i.toNat (d.getD i.toNat (0:Int) - (1000000000:Int))).set (i.toNat+(1:Nat)) ((d.set i.toNat (d.getD i.toNat (0:Int) - (1000000000:Int))).getD (i.toNat+(1:Nat)) (0:Int)+1) else d)/\(q2U s a b).I ((q2U s a b).next (i,d))/\(q2U s a b).μ ((q2U s a b).next (i,d))<(q2U s a b).μ (i,d)/\(q2U s a b).F ((q2U s a b).next (i,d))=(q2U s a b).F (i,d))
theorem Ul (s:Bool) (a b:List Int) (i:Int) (d:List Int):dW (q2S s a b) ((q2U s a b).way ((i,d))) ((run (cHb [(41,true),(47,true)]) 300).code oV Dc (ah (q2S s a b) ((q2U s a b).S (i,d))))=some (.p (Il s a b i d)):=by cases s <;> kernel_rfl
theorem Oy (u:List Int):Kg (List.replicate (u.length+1) 0) 0 u=u++[0]:=by
 unfold Kg
 rw [List.take_zero,List.nil_append,List.drop_replicate,show u.length+1 - (0+u.length)=1 by omega]
 rfl
theorem Um (s:Bool) (a b:List Int) (i:Int):(q1D s a b i).length=(bi s a b).length+1:=by
 unfold q1D
 rw [ul]; simp
theorem Un {s:Bool} {a b:List Int} (ha:Dig a) (hb:Dig b) (la:(bi s a b).length<=400000) (hl:(shA s a b).length<=(bi s a b).length):CodeOk cL oV (.loop FW) (q1S s a b) ⟨.tt,[⟨.tt,.exit 0,ah (q1S s a b) (q1X s a b)⟩]⟩:=by
 have hL:Dig (bi s a b):=by cases s <;> assumption
 have hS:Dig (shA s a b):=by cases s <;> assumption
 have hLz:Dig (bi s a b++[0]):=JB.2 ⟨hL,bO.2 ⟨by omega,jO⟩⟩
 have eN:IntKind.i64.wrap ((bi s a b).length+1:Int)=(bi s a b).length+1:=iw (by omega) (by omega)
 refine lW (bJ gQ 300) (q1U s a b) (y0:=0) ⟨by omega,by omega⟩ ⟨_,Ow s a b,rfl,?_⟩ (by cases s <;> kernel_rfl) (fun i hi=>⟨_,Uj s a b i,?_⟩) rfl
 .rw [eN,show ((bi s a b).length+1:Int).toNat=(bi s a b).length+1 by omega,show Int.toNat 0=0 from rfl,Oy]
  exact (zk _).symm
 obtain ⟨i0,i1⟩:=(show 0<=i/\i<=(shA s a b).length from hi)
 have ll:=Um s a b i
 refine ⟨fun h=>?_,fun h=>⟨⟨rfl,rfl⟩,?_⟩,fun h=>?_⟩
 .have h:i<(shA s a b).length:=dt.1 h
  rw [zt,ll,eN]
  exact ⟨⟨⟨i0,h⟩,by omega⟩,⟨i0,by omega⟩,by omega,⟨i0,by omega⟩,by omega⟩
 .have h:=ndt.1 h
  obtain rfl:i=(shA s a b).length:=by omega
  rfl
 .have h:i<(shA s a b).length:=dt.1 h
  have g1:=hLz.get i.toNat
  have g2:=hS.get i.toNat
  have e0:((shA s a b).take i.toNat).getD i.toNat 0=0:=by rw [List.getD_eq_getElem?_getD,List.getElem?_eq_none (by rw [List.length_take]; omega)]; rfl
  have e1:(q1D s a b i).getD i.toNat 0=(bi s a b++[0]).getD i.toNat 0+((shA s a b).take i.toNat).getD i.toNat 0:=um _ _ i.toNat (by simp; omega)
  rw [e0] at e1
  refine ⟨⟨iw (by omega) (by omega),?_⟩,?_,?_,rfl⟩
  .rw [zt,iw (by omega) (by omega)]
   unfold q1D
   rw [Bi _ _ i.toNat (by omega) (by simp; omega)]
   show _=lD _ ((shA s a b).take (i+1).toNat)
   rw [show (i+1).toNat=i.toNat+1 by omega]
  .show 0<=i+1/\i+1<=(shA s a b).length
   omega
  .show ((shA s a b).length - (i+1)).toNat<((shA s a b).length - i).toNat
   omega
theorem XJ (s:Bool) (a b:List Int):plV a b=val (bi s a b)+val (shA s a b):=by
 unfold plV
 cases s
 .rfl
 .show val a+val b=val b+val a
  omega
theorem Uo {s:Bool} {a b:List Int} (ha:Dig a) (hb:Dig b) (la:(bi s a b).length<=400000) (hl:(shA s a b).length<=(bi s a b).length):CodeOk cL oV (.loop Dc) (q2S s a b) ⟨.tt,[⟨.tt,.exit 2,ah (q2S s a b) (q2P (bi s a b).length (q2F s a b))⟩]⟩:=by
 have hL:Dig (bi s a b):=by cases s <;> assumption
 have hS:Dig (shA s a b):=by cases s <;> assumption
 have eN:IntKind.i64.wrap ((bi s a b).length+1:Int)=(bi s a b).length+1:=iw (by omega) (by omega)
 refine lX (q2U s a b) (y0:=(0,q1D s a b (shA s a b).length)) ?_ ⟨_,Ox s a b,rfl,rfl⟩ (by cases s <;> kernel_rfl) (fun y hy=>?_) rfl
 .show 0<=0/\NcI _ _ _ _
  unfold q1D
  rw [show (((shA s a b).length:Int)).toNat=(shA s a b).length by omega,List.take_length,XJ s]
  exact ⟨by decide,NcI.start hL hS hl⟩
 obtain ⟨i,d⟩:=y
 obtain ⟨i0,hI⟩:=(show 0<=i/\NcI (bi s a b).length (plV a b) i.toNat d from hy)
 obtain ⟨l,i1,lo,me,hi',t0,t1,v⟩:=id hI
 have e2:(i+1).toNat=i.toNat+1:=by omega
 by_cases hlt:i<(bi s a b).length
 .have iw1:IntKind.i64.wrap (i+1)=i+1:=iw (by omega) (by omega)
  have mu:((bi s a b).length - (i+1)).toNat<((bi s a b).length - i).toNat:=by omega
  by_cases hn:d.getD i.toNat 0>=1000000000
  .have h2:=hi' (i.toNat+1) (by omega)
   have e3:(d.set i.toNat (d.getD i.toNat 0 - 1000000000)).getD (i.toNat+1) 0=d.getD (i.toNat+1) 0:=getD_set (by omega)
   have e4:IntKind.i64.wrap (d.getD i.toNat 0 - 1000000000)=d.getD i.toNat 0 - 1000000000:=iw (by omega) (by omega)
   have e5:IntKind.i64.wrap (d.getD (i.toNat+1) 0+1)=d.getD (i.toNat+1) 0+1:=iw (by omega) (by omega)
   have hb':(bif decide (d.getD i.toNat 0>=1000000000) then (d.set i.toNat (d.getD i.toNat 0 - 1000000000)).set (i.toNat+1) ((d.set i.toNat (d.getD i.toNat 0 - 1000000000)).getD (i.toNat+1) 0+1) else d)=(d.set i.toNat (d.getD i.toNat 0 - 1000000000)).set (i.toNat+1) ((d.set i.toNat (d.getD i.toNat 0 - 1000000000)).getD (i.toNat+1) 0+1):=by rw [decide_eq_true hn]; rfl
   refine ⟨cHb [(41,true),(47,true)],300,oU _,rfl,rfl,_,Ul s a b i d,?_,fun _=>?_⟩
   .rw [zt,iw1,zt,e2,e4,List.length_set,eN]
    exact ⟨decide_eq_true hlt,⟨⟨i0,by omega⟩,by omega,decide_eq_true hn⟩,⟨⟨i0,by omega⟩,by omega,⟨i0,by omega⟩,by omega⟩,⟨by omega,by omega⟩,by omega,⟨by omega,by omega⟩,by omega⟩
   .refine ⟨⟨iw1,?_⟩,?_,mu,rfl⟩
    .rw [zt,iw1,zt,e2,e4,hb',e3,e5]
    .show 0<=i+1/\NcI _ _ (i+1).toNat _
     rw [e2,hb']
     exact ⟨by omega,hI.step (by omega) hn⟩
  .have hb':(bif decide (d.getD i.toNat 0>=1000000000) then (d.set i.toNat (d.getD i.toNat 0 - 1000000000)).set (i.toNat+1) ((d.set i.toNat (d.getD i.toNat 0 - 1000000000)).getD (i.toNat+1) 0+1) else d)=d:=by rw [decide_eq_false hn]; rfl
   refine ⟨cHb [(41,true),(47,false)],300,oU _,rfl,rfl,_,Uk s a b i d,?_,fun _=>⟨⟨iw1,hb'.symm⟩,?_,mu,rfl⟩⟩
   .rw [zt,eN]
    exact ⟨decide_eq_true hlt,⟨i0,by omega⟩,by omega,decide_eq_false hn⟩
   .show 0<=i+1/\NcI _ _ (i+1).toNat _
    rw [e2,hb']
    exact ⟨by omega,hI.skip (by omega) hn⟩
 .refine ⟨cHb [(41,false)],300,oU _,rfl,rfl,_,XI s a b i d,decide_eq_false hlt,fun _=>⟨⟨rfl,rfl⟩,?_⟩⟩
  have e:i.toNat=(bi s a b).length:=by omega
  rw [e] at hI
  show (Ex.exit 2,q2P (bi s a b).length (q2F s a b))=(Ex.exit 2,q2P i d)
  unfold q2F
  rw [<- hI.fin,show i=(bi s a b).length by omega]
def plW (s:Bool):Nat:=match s with|true=>29|false=>25
def plC (s:Bool):Nat:=match s with|true=>32|false=>28
noncomputable def qtS (s:Bool) (a b d:List Int) (N:Int):St:=ug cL 300 86 [.islice true 2 0 N] ⟨[⟨plW s,.ints .i64 d⟩,⟨0,.rows .i64 b⟩,⟨0,.rows .i64 a⟩],3,plC s⟩
theorem Oz (s:Bool) (a b d:List Int) (N:Int):fit (qtS s a b d N) (qtS s a b d N) (ah (qtS s a b d N) ((trU 2 d N).S N)) []=some (.p ((0:Int)=0/\N=N)):=by cases s <;> kernel_rfl
theorem Uq (s:Bool) (a b d:List Int) (N y:Int):dW (qtS s a b d N) ((trU 2 d N).way y) ((run cL 300).code jR trA (ah (qtS s a b d N) ((trU 2 d N).S y)))=some (.p (trN 2 d N y)):=by cases s <;> kernel_rfl
theorem Ur (s:Bool) (a b:List Int) {d:List Int} {N:Int} (hN:N=d.length) (ld:Sm d):CodeOk cL jR (.loop trA) (qtS s a b d N) ⟨.tt,[⟨.tt,.exit 0,ah (qtS s a b d N) (trP 2 (tlI d N))⟩]⟩:=wX hN ld (Oz s a b d N) (by cases s <;> kernel_rfl) (fun y=>Uq s a b d N y)
def plN (s:Bool) (a b:List Int):Int:=IntKind.i64.wrap ((bi s a b).length+1:Int)
noncomputable def cQt (s:Bool) (a b:List Int):Ctx:=aZ (cPl s) [bW 79 (q1S s a b).hp.clock oV FW (q1S s a b) (.exit 0) (q1X s a b),bW 79 (q2S s a b).hp.clock oV Dc (q2S s a b) (.exit 2) (q2P (bi s a b).length (q2F s a b)),
 bW 86 (plC s+3) jR trA (qtS s a b (q2F s a b) (plN s a b)) (.exit 0) (trP 2 (tlI (q2F s a b) (plN s a b)))]
theorem JH (s:Bool) (a b:List Int):(q2F s a b).length=(bi s a b).length+1:=df _ _
theorem Df {s:Bool} {a b:List Int} (la:(bi s a b).length<=400000):plN s a b=(q2F s a b).length:=by
 unfold plN
 rw [iw (by omega) (by omega),JH]; omega
theorem zo {C D:Ctx} {fr:AFr} {a:Code} {S:St} {r:R} (h:CodeOk C fr (.loop a) S r) (hP:D.P=C.P) (hg:D.glob=C.glob):CodeOk D fr (.loop a) S r:=CodeOk.ctx hP hg h
theorem OA {s:Bool} {a b:List Int} (ha:Dig a) (hb:Dig b) (la:(bi s a b).length<=400000) (hl:(shA s a b).length<=(bi s a b).length):CtxOk (cQt s a b):=
 aO (De s) (zo (Un ha hb la hl) rfl rfl) (aO (De s) (zo (Uo ha hb la hl) rfl rfl) (aO (De s) (zo (Ur s a b (Df la) (by show (q2F s a b).length<=500000; rw [JH]; omega)) rfl rfl) (cz (De s))))
def Us (a b:List Int):Prop:=(decide ((↑a.length:Int)<(↑b.length:Int))=false/\(IntKind.i64.wrap ((↑a.length:Int)+1)=IntKind.i64.wrap ((↑a.length:Int)+1)/\(0:Int)<=IntKind.i64.wrap ((↑a.length:Int)+1)/\IntKind.i64.wrap ((↑a.length:Int)+1)<=1048576)/\((↑a.length:Int)=(↑a.length:Int)/\(0:Int)<=0/\(0:Int)<(↑a.length:Int)/\(↑a.length:Int)<=IntKind.i64.wrap ((↑a.length:Int)+1)/\(0:Int)+IntKind.i64.wrap ((↑a.length:Int)+1)<=(↑(List.replicate (IntKind.i64.wrap ((↑a.length:Int)+1)).toNat (0:Int)).length:Int))/\At (oV) (oV) (FW) (FW) (q1S false a b) (q1S false a b)/\At (oV) (oV) (Dc) (Dc) (q2S false a b) (q2S false a b)/\At (jR) (jR) (trA) (trA) (qtS false a b (q2F false a b) (plN false a b)) (qtS false a b (q2F false a b) (plN false a b)))
def XK (a b:List Int):AV:=(AV.islice true 2 (0:Int) (tlI (q2F false a b) (plN false a b)))
def XL (a b:List Int):Hp:=⟨[{ wr:=25,body:=ABody.ints IntKind.i64 (q2F false a b) },{ wr:=(0:Nat),body:=ABody.rows IntKind.i64 b },{ wr:=(0:Nat),body:=ABody.rows IntKind.i64 a }],3,35⟩
theorem adq (a b:List Int):(run (cQt false a b) 300).call 79 (zB a b) (zG a b)=some ⟨.p (Us a b),[⟨.tt,XK a b,XL a b⟩]⟩:=by kernel_rfl
def Ut (a b:List Int):Prop:=(decide ((↑a.length:Int)<(↑b.length:Int))=true/\(IntKind.i64.wrap ((↑b.length:Int)+1)=IntKind.i64.wrap ((↑b.length:Int)+1)/\(0:Int)<=IntKind.i64.wrap ((↑b.length:Int)+1)/\IntKind.i64.wrap ((↑b.length:Int)+1)<=1048576)/\((↑b.length:Int)=(↑b.length:Int)/\(0:Int)<=0/\(0:Int)<(↑b.length:Int)/\(↑b.length:Int)<=IntKind.i64.wrap ((↑b.length:Int)+1)/\(0:Int)+IntKind.i64.wrap ((↑b.length:Int)+1)<=(↑(List.replicate (IntKind.i64.wrap ((↑b.length:Int)+1)).toNat (0:Int)).length:Int))/\At (oV) (oV) (FW) (FW) (q1S true a b) (q1S true a b)/\At (oV) (oV) (Dc) (Dc) (q2S true a b) (q2S true a b)/\At (jR) (jR) (trA) (trA) (qtS true a b (q2F true a b) (plN true a b)) (qtS true a b (q2F true a b) (plN true a b)))
def XM (a b:List Int):AV:=(AV.islice true 2 (0:Int) (tlI (q2F true a b) (plN true a b)))
def XN (a b:List Int):Hp:=⟨[{ wr:=29,body:=ABody.ints IntKind.i64 (q2F true a b) },{ wr:=(0:Nat),body:=ABody.rows IntKind.i64 b },{ wr:=(0:Nat),body:=ABody.rows IntKind.i64 a }],3,39⟩
theorem adr (a b:List Int):(run (cQt true a b) 300).call 79 (zB a b) (zG a b)=some ⟨.p (Ut a b),[⟨.tt,XM a b,XN a b⟩]⟩:=by kernel_rfl
def XO:List Nu->List (List Int)->Option (Prop×To)
 | [],[a,b]=>some (Dig a/\Dig b/\(0<a.length\/0<b.length)/\a.length<=400000/\b.length<=400000,.li false (aa (val a+val b).toNat))
 | _,_=>none
theorem OB {s:Bool} {a b:List Int} (ha:Dig a) (hb:Dig b) (hl:(shA s a b).length<=(bi s a b).length):val (q2F s a b)=val a+val b:=by
 have a0:=aA ha
 have b0:=aA hb
 have a1:=fQ ha
 have b1:=fQ hb
 refine kJ (by unfold plV; omega) ?_
 have e:pw ((bi s a b).length+1)=1000000000*pw (bi s a b).length:=by simp [pw]
 have p0:=pw_pos (bi s a b).length
 have ka:val a<pw (bi s a b).length:=by
  refine Int.lt_of_lt_of_le a1 (jP ?_)
  cases s <;> simp only [bi,shA] at hl ⊢ <;> omega
 have kb:val b<pw (bi s a b).length:=by
  refine Int.lt_of_lt_of_le b1 (jP ?_)
  cases s <;> simp only [bi,shA] at hl ⊢ <;> omega
 rw [e]; unfold plV; omega
theorem Uu:NOk Tryd.prog (fun _=>none) hG0 79 (eG hG0 .i64 [.li,.li] XO):=by
 refine fD (fun xs ys p t e h=>?_) ⟨_,Tryd.func79,rfl⟩
 unfold XO at e
 split at e
 .rename_i a b
  cases e
  obtain ⟨ha,hb,l0,la,lb⟩:=h
  have wa:IntKind.i64.wrap ((a.length:Int)+1)=a.length+1:=iw (by omega) (by omega)
  have wb:IntKind.i64.wrap ((b.length:Int)+1)=b.length+1:=iw (by omega) (by omega)
  by_cases hs:a.length<b.length
  .have hl:(shA true a b).length<=(bi true a b).length:=by show a.length<=b.length; omega
   have lg:(bi true a b).length<=400000:=lb
   refine ⟨cQt true a b,300,zB a b,_,_,_,_,_,OA ha hb lg hl,rfl,rfl,⟨rfl,rfl,trivial⟩,adr a b,rfl,⟨decide_eq_true (by omega),⟨rfl,by omega,by omega⟩,⟨rfl,by omega,by omega,by omega,?_⟩,⟨rfl,rfl,rfl⟩,⟨rfl,rfl,rfl⟩,⟨rfl,rfl,rfl⟩⟩,rfl,rfl,Da (jv _ _) (Df lg) (OB ha hb hl)⟩
   rw [List.length_replicate,wb]; omega
  .have hl:(shA false a b).length<=(bi false a b).length:=by show b.length<=a.length; omega
   have lg:(bi false a b).length<=400000:=la
   refine ⟨cQt false a b,300,zB a b,_,_,_,_,_,OA ha hb lg hl,rfl,rfl,⟨rfl,rfl,trivial⟩,adq a b,rfl,⟨decide_eq_false (by omega),⟨rfl,by omega,by omega⟩,⟨rfl,by omega,by omega,by omega,?_⟩,⟨rfl,rfl,rfl⟩,⟨rfl,rfl,rfl⟩,⟨rfl,rfl,rfl⟩⟩,rfl,rfl,Da (jv _ _) (Df lg) (OB ha hb hl)⟩
   rw [List.length_replicate,wa]; omega
 .cases e
end
end Go.Proofs.YtbiiiloimbjpaaaDoor.K
namespace Go.Dg
open Go Go.Eng
def dfB (a b:List Int):Nat->Int
 | 0=>0
 | n+1=>if a.getD n 0=b.getD n 0 then dfB a b n else IntKind.i64.wrap (a.getD n 0 - b.getD n 0)
def dfI (a b:List Int) (i:Int):Int:=dfB a b (i+1).toNat
theorem JI {a b:List Int} {i:Int} (h:0<=i):dfI a b i=if a.getD i.toNat 0=b.getD i.toNat 0 then dfI a b (i - 1) else IntKind.i64.wrap (a.getD i.toNat 0 - b.getD i.toNat 0):=by
 unfold dfI
 rw [show (i+1).toNat=i.toNat+1 by omega,show (i - 1+1).toNat=i.toNat by omega,dfB]
theorem OC {a b:List Int}:∀ n,K4 a b n=false->dfB a b n=0
 | 0,_=>rfl
 | n+1,h=>by
  simp only [K4] at h
  simp only [dfB]
  split at h
  .rename_i e; rw [if_pos e]; exact OC n h
  .cases h
def nP (a b:List Int):Int:=if a.length=b.length then dfB a b a.length else IntKind.i64.wrap ((a.length:Int) - b.length)
theorem Dh {a b:List Int} (ha:Dig a) (hb:Dig b):∀ n,(dfB a b n<0 ↔ uj a b n=true)/\(0<dfB a b n ↔ uj b a n=true)
 | 0=>by simp [dfB,uj]
 | n+1=>by
  have i:=Dh ha hb n
  have a0:=ha.get n
  have b0:=hb.get n
  simp only [dfB,uj]
  by_cases e:a.getD n 0=b.getD n 0
  .rw [if_pos e,if_pos e,if_pos e.symm]; exact i
  .rw [if_neg e,if_neg e,if_neg (fun h=>e h.symm),iw (by omega) (by omega)]
   simp only [decide_eq_true_eq]
   omega
theorem JJ {a b:List Int} (ha:Dig a) (hb:Dig b) (ta:Top a) (tb:Top b) (la:a.length<=500000) (lb:b.length<=500000):nP a b<0 ↔ val a<val b:=by
 rw [<- Bf ha hb ta tb]
 unfold nP JC
 by_cases e:a.length=b.length
 .rw [if_pos e,if_pos e]; exact (Dh ha hb _).1
 .rw [if_neg e,if_neg e,iw (by omega) (by omega)]
  simp only [decide_eq_true_eq]
  omega
theorem Uv {a b:List Int} (ha:Dig a) (hb:Dig b) (ta:Top a) (tb:Top b) (la:a.length<=500000) (lb:b.length<=500000):0<nP a b ↔ val b<val a:=by
 rw [<- Bf hb ha tb ta]
 unfold nP JC
 by_cases e:a.length=b.length
 .rw [if_pos e,if_pos e.symm,<- e]; exact (Dh ha hb _).2
 .rw [if_neg e,if_neg (fun h=>e h.symm),iw (by omega) (by omega)]
  simp only [decide_eq_true_eq]
  omega
end Go.Dg
namespace Go.Proofs.YtbiiiloimbjpaaaDoor.K
open Go Go.Eng Go.Dg
noncomputable section
noncomputable def Im (d:Bool):Ctx:=cHb [(10,d)]
theorem wY (d:Bool):CtxOk (Im d):=oU _
noncomputable def wK (a b:List Int):St:=ug (Im false) 300 76 (zB a b) (zG a b)
def FZ:AFr:=⟨76,none⟩
noncomputable def OD:Code:=iW Tryd.prog 76 0
def ads (i:Int):Patch:=⟨(5,.int true .i64 i) :: fA 19 22,[],[]⟩
def cmR (r:Int):Patch:=⟨(4,.int true .i64 r) :: (5,.any false) :: fA 19 22,[],[]⟩
def F3:Patch:=⟨(5,.any false) :: fA 19 22,[],[]⟩
def rE (a b:List Int):SumL Int:=
 {
  S:=ads
  I:=fun i=>-1<=i/\i<a.length
  μ:=fun i=>(i+1).toNat
  F:=fun i=>bif vv a b i then (.ret,cmR (dfI a b i)) else (.exit 0,F3)
  next:=fun i=>IntKind.i64.wrap (i - 1)
  ids:=fun _=>[]
  X:=fun i x=>match x with
   | .ret=>some (cmR (IntKind.i64.wrap (a.getD i.toNat 0 - b.getD i.toNat 0)),[])
   | .exit _=>some (F3,[])
   | _=>none }
def F4 (a b:List Int):Prop:=IntKind.i64.wrap ((↑a.length:Int) - (1:Int))=IntKind.i64.wrap ((↑a.length:Int) - (1:Int))
theorem La (a b:List Int):fit (wK a b) (wK a b) (ah (wK a b) ((rE a b).S (IntKind.i64.wrap ((a.length:Int) - 1)))) ([])=some (.p (F4 a b)):=by kernel_rfl
def Io (a b:List Int) (i:Int):Prop:=(decide (i>=0)=true->(((0:Int)<=i/\i<(↑a.length:Int))/\i.toNat<a.length/\((0:Int)<=i/\i<(↑b.length:Int))/\i.toNat<b.length)/\((a.getD i.toNat (0:Int) != b.getD i.toNat (0:Int))=true->((0:Int)<=i/\i<(↑a.length:Int))/\i.toNat<a.length/\((0:Int)<=i/\i<(↑b.length:Int))/\i.toNat<b.length))/\((!decide (i>=0))=true->(rE a b).F i=(Ex.exit (0:Nat),F3))/\((decide (i>=0)&&!a.getD i.toNat (0:Int) != b.getD i.toNat (0:Int))=true->IntKind.i64.wrap (i - (1:Int))=(rE a b).next i/\(rE a b).I ((rE a b).next i)/\(rE a b).μ ((rE a b).next i)<(rE a b).μ i/\(rE a b).F ((rE a b).next i)=(rE a b).F i)/\((decide (i>=0)&&a.getD i.toNat (0:Int) != b.getD i.toNat (0:Int))=true->IntKind.i64.wrap (a.getD i.toNat (0:Int) - b.getD i.toNat (0:Int))=IntKind.i64.wrap (a.getD i.toNat (0:Int) - b.getD i.toNat (0:Int))/\(rE a b).F i=(Ex.ret,cmR (IntKind.i64.wrap (a.getD i.toNat (0:Int) - b.getD i.toNat (0:Int)))))
theorem Uw (a b:List Int) (i:Int):dW (wK a b) ((rE a b).way (i)) ((run (Im false) 300).code FZ OD (ah (wK a b) ((rE a b).S i)))=some (.p (Io a b i)):=by kernel_rfl
theorem OE (a b:List Int) (hs:Sm a) (hl:a.length=b.length):CodeOk (Im false) FZ (.loop OD) (wK a b) ⟨.tt,[⟨.b (vv a b (a.length - 1)),.ret,ah (wK a b) (cmR (dfI a b (a.length - 1)))⟩,⟨.b (!vv a b (a.length - 1)),.exit 0,ah (wK a b) F3⟩]⟩:=by
 have hs:=hs.le
 have e0:IntKind.i64.wrap ((a.length:Int) - 1)=a.length - 1:=iw (by omega) (by omega)
 refine Nr (bJ (wY false) 300) (rE a b) (y0:=IntKind.i64.wrap ((a.length:Int) - 1)) (by rw [e0]; exact ⟨by omega,by omega⟩) ⟨_,La a b,rfl⟩ (by kernel_rfl) (fun i hi=>⟨_,Uw a b i,?_⟩) (by rw [e0]; rfl)
 obtain ⟨i0,i1⟩:=(show -1<=i/\i<a.length from hi)
 refine ⟨fun h=>?_,fun h=>?_,fun h=>?_,fun h=>?_⟩
 .have h:=dt.1 h
  have q:((0:Int)<=i/\i<(↑a.length:Int))/\i.toNat<a.length/\((0:Int)<=i/\i<(↑b.length:Int))/\i.toNat<b.length:=by omega
  exact ⟨q,fun _=>q⟩
 .have h:=ndt.1 h
  have:i=-1:=by omega
  subst this; rfl
 .obtain ⟨h0,h⟩:=VR.1 h
  have h:=adn.1 h
  have e:IntKind.i64.wrap (i - 1)=i - 1:=iw (by omega) (by omega)
  refine ⟨rfl,?_,?_,?_⟩
  .show -1<=IntKind.i64.wrap (i - 1)/\IntKind.i64.wrap (i - 1)<a.length
   rw [e]; omega
  .show (IntKind.i64.wrap (i - 1)+1).toNat<(i+1).toNat
   rw [e]; omega
  .show (bif vv a b (IntKind.i64.wrap (i - 1)) then (Ex.ret,cmR (dfI a b (IntKind.i64.wrap (i - 1)))) else (.exit 0,F3))=bif vv a b i then (Ex.ret,cmR (dfI a b i)) else (.exit 0,F3)
   rw [e,FI h0,JI h0,if_pos h,if_pos h]
 .obtain ⟨h0,h⟩:=VR.1 h
  have h:=FJ.1 h
  refine ⟨rfl,?_⟩
  show (bif vv a b i then (Ex.ret,cmR (dfI a b i)) else (.exit 0,F3))=_
  rw [FI h0,JI h0,if_neg h,if_neg h]; rfl
noncomputable def XP (a b:List Int):Ctx:=aZ (Im false) [Cz 76 (wK a b).hp.clock FZ OD (wK a b) (vv a b (a.length - 1)) .ret (cmR (dfI a b (a.length - 1))) (.exit 0) F3]
theorem Ux (a b:List Int) (hs:Sm a) (hl:a.length=b.length):CtxOk (XP a b):=Hl (wY false) (OE a b hs hl) (cz (wY false))
def OG (a b:List Int):Prop:=(((↑a.length:Int) != (↑b.length:Int))=false/\At (FZ) (FZ) (OD) (OD) (wK a b) (wK a b))
def Uy (a b:List Int):AV:=(AV.int true IntKind.i64 (bif !vv a b ((↑a.length:Int) - (1:Int)) then (0:Int) else dfI a b ((↑a.length:Int) - (1:Int))))
def Uz (a b:List Int):Hp:=⟨[{ wr:=(0:Nat),body:=ABody.rows IntKind.i64 b },{ wr:=(0:Nat),body:=ABody.rows IntKind.i64 a }],2,15⟩
theorem abl (a b:List Int):(run (XP a b) 300).call 76 (zB a b) (zG a b)=some ⟨.p (OG a b),[⟨.tt,Uy a b,Uz a b⟩]⟩:=by kernel_rfl
def OH (a b:List Int):Prop:=(((↑a.length:Int) != (↑b.length:Int))=true)
def UA (a b:List Int):AV:=(AV.int true IntKind.i64 (IntKind.i64.wrap ((↑a.length:Int) - (↑b.length:Int))))
def UB (a b:List Int):Hp:=⟨[{ wr:=(0:Nat),body:=ABody.rows IntKind.i64 b },{ wr:=(0:Nat),body:=ABody.rows IntKind.i64 a }],2,14⟩
theorem abm (a b:List Int):(run (Im true) 300).call 76 (zB a b) (zG a b)=some ⟨.p (OH a b),[⟨.tt,UA a b,UB a b⟩]⟩:=by kernel_rfl
def cmpV:List Nu->List (List Int)->Option (Prop×To)
 | [],[a,b]=>some (Sm a/\Sm b,.nu .i64 (nP a b))
 | _,_=>none
theorem XQ:NOk Tryd.prog (fun _=>none) hG0 76 (eG hG0 .i64 [.li,.li] cmpV):=by
 refine fD (fun xs ys p t e h=>?_) ⟨_,Tryd.func76,rfl⟩
 unfold cmpV at e
 split at e
 .rename_i a b
  cases e
  obtain ⟨ha,hb⟩:=h
  by_cases hl:a.length=b.length
  .refine ⟨XP a b,300,zB a b,_,_,_,_,_,Ux a b ha hl,rfl,rfl,⟨rfl,rfl,trivial⟩,abl a b,rfl,⟨?_,rfl,rfl,rfl⟩,rfl,rfl,?_⟩
   .rw [hl]; exact JD.2 rfl
   .show (bif !vv a b ((a.length:Int) - 1) then 0 else dfI a b ((a.length:Int) - 1))=nP a b
    unfold nP vv dfI
    rw [if_pos hl,show ((a.length:Int) - 1+1).toNat=a.length by omega]
    cases e:K4 a b a.length with
    | true=>rfl
    | false=>rw [OC _ e]; rfl
  .refine ⟨Im true,300,zB a b,_,_,_,_,_,wY true,rfl,rfl,⟨rfl,rfl,trivial⟩,abm a b,rfl,?_,rfl,rfl,?_⟩
   .exact FJ.2 (by omega)
   .show IntKind.i64.wrap ((a.length:Int) - b.length)=nP a b
    unfold nP
    rw [if_neg hl]
 .cases e
def hUp (x t0:Nat):Nat->Nat->Option AV:=fun c t=>match Nat.beq t t0 with
 | true=>match Nat.ble c x with
  | true=>some (.bool false true)
  | false=>some (.bool false false)
 | false=>none
noncomputable def cOn (x:Nat):Ctx:=gz cL (hUp x 9)
theorem OI (x:Nat):CtxOk (cOn x):=cO gQ _
def UC (n:Int):Prop:=((n != (0:Int))=true/\(IntKind.i64.wrap (n.tdiv (1000000000:Int)) != (0:Int))=false)
def XR (n:Int):AV:=(AV.agg [AV.bool true (decide (n<0)),AV.gslice (0:Nat) (0:Nat) 1 1])
def XT (n:Int):Hp:=⟨[{ wr:=23,body:=ABody.grown [AV.int true IntKind.i64 (if IntKind.i64.wrap ((0:Int) - n.tmod (1000000000:Int))>n.tmod (1000000000:Int) then IntKind.i64.wrap ((0:Int) - n.tmod (1000000000:Int)) else n.tmod (1000000000:Int))] }],1,32⟩
theorem adt (n:Int):(run (cOn 11) 300).call 73 [.int true .i64 n] hG0=some ⟨.p (UC n),[⟨.tt,XR n,XT n⟩]⟩:=by kernel_rfl
def UD (n:Int):Prop:=((n != (0:Int))=true/\(IntKind.i64.wrap (n.tdiv (1000000000:Int)) != (0:Int))=true/\(IntKind.i64.wrap ((IntKind.i64.wrap (n.tdiv (1000000000:Int))).tdiv (1000000000:Int)) != (0:Int))=false)
def XU (n:Int):AV:=(AV.agg [AV.bool true (decide (n<0)),AV.gslice (0:Nat) (0:Nat) 2 1])
def XV (n:Int):Hp:=⟨[{ wr:=42,body:=ABody.grown [AV.int true IntKind.i64 (if IntKind.i64.wrap ((0:Int) - n.tmod (1000000000:Int))>n.tmod (1000000000:Int) then IntKind.i64.wrap ((0:Int) - n.tmod (1000000000:Int)) else n.tmod (1000000000:Int)),AV.int true IntKind.i64 (if IntKind.i64.wrap ((0:Int) - (IntKind.i64.wrap (n.tdiv (1000000000:Int))).tmod (1000000000:Int))>(IntKind.i64.wrap (n.tdiv (1000000000:Int))).tmod (1000000000:Int) then IntKind.i64.wrap ((0:Int) - (IntKind.i64.wrap (n.tdiv (1000000000:Int))).tmod (1000000000:Int)) else (IntKind.i64.wrap (n.tdiv (1000000000:Int))).tmod (1000000000:Int))] }],1,51⟩
theorem adu (n:Int):(run (cOn 30) 300).call 73 [.int true .i64 n] hG0=some ⟨.p (UD n),[⟨.tt,XU n,XV n⟩]⟩:=by kernel_rfl
def onV:List Nu->List (List Int)->Option (Prop×To)
 | [.n n],[]=>some (0<n/\n<1000000000000000000,.st [.pb false,.li false (aa n.toNat)])
 | _,_=>none
theorem abn {n:Int} (h0:0<=n) (h1:n<9000000000000000000):(if IntKind.i64.wrap (0 - n.tmod 1000000000)>n.tmod 1000000000 then IntKind.i64.wrap (0 - n.tmod 1000000000) else n.tmod 1000000000)=n % 1000000000:=by
 have e:n.tmod 1000000000=n % 1000000000:=Int.tmod_eq_emod_of_nonneg h0
 rw [e,iw (by omega) (by omega),if_neg (by omega)]
theorem abo {n:Int} (h0:0<=n) (h1:n<9000000000000000000):IntKind.i64.wrap (n.tdiv 1000000000)=n / 1000000000:=by
 rw [Int.tdiv_eq_ediv_of_nonneg h0,iw (by omega) (by omega)]
theorem XW {n:Int} (h0:0<n) (h1:n<1000000000):aa n.toNat=[n % 1000000000]:=by
 rw [fE (by omega),show n.toNat / 1000000000=0 by omega,dQ]
 congr 1
 omega
theorem XX {n:Int} (h0:1000000000<=n) (h1:n<1000000000000000000):aa n.toNat=[n % 1000000000,n / 1000000000 % 1000000000]:=by
 rw [fE (by omega),fE (by omega),show n.toNat / 1000000000 / 1000000000=0 by omega,dQ]
 congr 1
 .omega
 .congr 1
  omega
theorem abp:NOk Tryd.prog (fun _=>none) hG0 73 (eG hG0 .i64 [.nu (.i .i64)] onV):=by
 refine fD (fun xs ys p t e h=>?_) ⟨_,Tryd.func73,rfl⟩
 unfold onV at e
 split at e
 .rename_i n
  cases e
  obtain ⟨h0,h1⟩:=h
  have q1:=abo (n:=n) (by omega) (by omega)
  have d1:=abn (n:=n) (by omega) (by omega)
  by_cases h:n<1000000000
  .refine ⟨cOn 11,300,[.int true .i64 n],_,_,_,_,_,OI 11,rfl,rfl,⟨⟨rfl,rfl⟩,trivial⟩,adt n,rfl,⟨FJ.2 (by omega),?_⟩,rfl,rfl,?_⟩
   .rw [q1]; exact JD.2 (by omega)
   .refine ⟨decide_eq_false (by omega),?_⟩
    show [_]=aa n.toNat
    rw [d1,XW h0 h]
  .have q2:=abo (n:=n / 1000000000) (by omega) (by omega)
   have d2:=abn (n:=n / 1000000000) (by omega) (by omega)
   refine ⟨cOn 30,300,[.int true .i64 n],_,_,_,_,_,OI 30,rfl,rfl,⟨⟨rfl,rfl⟩,trivial⟩,adu n,rfl,⟨FJ.2 (by omega),?_,?_⟩,rfl,rfl,?_⟩
   .rw [q1]; exact FJ.2 (by omega)
   .rw [q1,q2]; exact JD.2 (by omega)
   .refine ⟨decide_eq_false (by omega),?_⟩
    show [_,_]=aa n.toNat
    rw [d1,q1,d2,XX (by omega) h1]
 .cases e
def tZ:List (FuncId×fI):=
 (87,eG hG0 .i64 [.li,.nu (.i .i64)] Xt) ::
 (72,eG hG0 .i64 [.li,.li] XE) ::
 (78,eG hG0 .i64 [.li,.li] XH) ::
 (79,eG hG0 .i64 [.li,.li] XO) ::
 (76,eG hG0 .i64 [.li,.li] cmpV) ::
 (73,eG hG0 .i64 [.nu (.i .i64)] onV) :: []
theorem VT:∀ x∈tZ,NOk Tryd.prog (fun _=>none) hG0 x.1 x.2:=by
 intro x hx
 simp only [tZ,List.mem_cons,List.not_mem_nil,or_false] at hx
 rcases hx with rfl|rfl|rfl|rfl|rfl|rfl
 .exact part_ok
 .exact Oo
 .exact Ui
 .exact Uu
 .exact XQ
 .exact abp
noncomputable def cZ:Ctx:=mkN Tryd.prog (fun _=>none) hG0 tZ [] kT
theorem aK:CtxOk cZ:=oN prog_ok (oK _) VT (fun x h=>by cases h)
noncomputable def cZb (l:List (Nat×Bool)):Ctx:=gz cZ (hZ (l.map fun x=>(x.1,match x.2 with|true=>.bool false true|false=>.bool false false)))
theorem Ip (l:List (Nat×Bool)):CtxOk (cZb l):=cO aK _
def vB (y:List Int):List AV:=[.lslice 0 y.length,.int false .i64 5]
def F5:AFr:=⟨75,none⟩
noncomputable def seA:Code:=iW Tryd.prog 75 0
noncomputable def seS (y:List Int):St:=ug cZ 300 75 (vB y) (zH y)
end
end Go.Proofs.YtbiiiloimbjpaaaDoor.K
namespace Go.Dg
open Go Go.Eng
def PP:Int:=1000000000000000000000000000000000000000000000
def lF (sq:Int):Nat->Int->Int->Int->Int
 | 0,_,_,s=>s
 | n+1,i,t,s=>match decide (t*sq / PP / (i*(i+1))=0) with
  | true=>s
  | false=>lF sq n (i+2) (t*sq / PP / (i*(i+1))) (match decide (i % 4=2) with|true=>s - t*sq / PP / (i*(i+1))|false=>s+t*sq / PP / (i*(i+1)))
def aW (n:Int):Int:=if n<5 then n else 5
def cutL (v:Int):List Int:=List.take ((aa v.toNat).length - aW (aa v.toNat).length:Int).toNat (List.drop (aW (aa v.toNat).length).toNat (aa v.toNat))
theorem zq:∀ {l:List Int} (k:Nat),Dig l->val (l.drop k)=val l / pw k
 | l,0,_=>by simp [pw]
 | [],k+1,_=>by simp [val]
 | x :: l,k+1,h=>by
  have hh:=bO.1 h
  have p:=pw_pos k
  rw [List.drop_succ_cons,zq k hh.2,jQ,<- Int.ediv_ediv_of_nonneg (by omega)]
  congr 1
  simp only [val]
  omega
theorem VU:pw 5=PP:=by decide
theorem JK {v:Int} (h:0<=v):cutL v=(aa v.toNat).drop (aW (aa v.toNat).length).toNat:=by
 unfold cutL aW
 rw [List.take_of_length_le]
 rw [List.length_drop]
 split <;> omega
theorem uo {v:Int} (h:0<=v):val (cutL v)=v / PP:=by
 have hv:val (aa v.toNat)=v:=by rw [ui]; omega
 have hd:=aH v.toNat
 rw [JK h]
 unfold aW
 split
 .rename_i h5
  rw [show (((aa v.toNat).length:Int)).toNat=(aa v.toNat).length by omega,List.drop_length]
  have h1:=fQ hd
  have h2:=jP (show (aa v.toNat).length<=5 by omega)
  rw [VU] at h2
  rw [hv] at h1
  show (0:Int)=v / PP
  rw [Int.ediv_eq_zero_of_lt h (by omega)]
 .rw [show Int.toNat 5=5 from rfl,zq 5 hd,hv,VU]
theorem OJ {l:List Int} (h:Dig l) (n:Nat):Dig (l.take n):=fun x hx=>h x (List.mem_of_mem_take hx)
theorem F6 {l:List Int} (h:Dig l) (n:Nat):Dig (l.drop n):=fun x hx=>h x (List.mem_of_mem_drop hx)
theorem uq (v:Int):Dig (cutL v):=OJ (F6 (aH _) _) _
end Go.Dg
namespace Go.Dg
theorem fT:0<PP:=by decide
theorem OL {sq t i:Int} (hs0:0<=sq) (hs:sq<=3*PP) (ht:0<=t) (hi:2<=i):0<=t*sq / PP / (i*(i+1))/\2*(t*sq / PP / (i*(i+1)))<=t:=by
 have p:=fT
 have hii:6<=i*(i+1):=Int.mul_le_mul (a:=2) (b:=3) (c:=i) (d:=i+1) hi (by omega) (by decide) (by omega)
 have h1:t*sq<=t*(3*PP):=Int.mul_le_mul_of_nonneg_left hs ht
 have h2:t*sq / PP<=3*t:=by
  refine Int.ediv_le_of_le_mul p ?_
  rw [show 3*t*PP=t*(3*PP) by rw [Int.mul_comm 3 t,Int.mul_assoc]]
  exact h1
 have h0:0<=t*sq / PP:=Int.ediv_nonneg (Int.mul_nonneg ht hs0) (by omega)
 have h3:0<=t*sq / PP / (i*(i+1)):=Int.ediv_nonneg h0 (by omega)
 have h4:=Int.ediv_mul_le (t*sq / PP) (b:=i*(i+1)) (by omega)
 have h5:=Int.mul_le_mul_of_nonneg_left hii h3
 exact ⟨h3,by omega⟩
theorem F7 {sq:Int} {n:Nat} {i t s:Int} (h:t*sq / PP / (i*(i+1))=0):lF sq (n+1) i t s=s:=by
 rw [lF,decide_eq_true h]
theorem vD {sq:Int} {n:Nat} {i t s:Int} (h:t*sq / PP / (i*(i+1))≠0):lF sq (n+1) i t s=lF sq n (i+2) (t*sq / PP / (i*(i+1))) (match decide (i % 4=2) with|true=>s - t*sq / PP / (i*(i+1))|false=>s+t*sq / PP / (i*(i+1))):=by
 rw [lF,decide_eq_false h]
def dw (x:Int):Nat->Int->Int->Int->Int
 | 0,_,_,s=>s
 | n+1,i,t,s=>match decide (t / (x*x) / i=0) with
  | true=>s
  | false=>dw x n (i+2) (t / (x*x)) (match decide (i % 4=1) with|true=>s+t / (x*x) / i|false=>s - t / (x*x) / i)
theorem OM {x:Int} {n:Nat} {i t s:Int} (h:t / (x*x) / i=0):dw x (n+1) i t s=s:=by
 rw [dw,decide_eq_true h]
theorem Bj {x:Int} {n:Nat} {i t s:Int} (h:t / (x*x) / i≠0):dw x (n+1) i t s=dw x n (i+2) (t / (x*x)) (match decide (i % 4=1) with|true=>s+t / (x*x) / i|false=>s - t / (x*x) / i):=by
 rw [dw,decide_eq_false h]
end Go.Dg
namespace Go.Proofs.YtbiiiloimbjpaaaDoor.K
open Go Go.Eng Go.Dg
noncomputable section
noncomputable def cSe (e m:Bool):Ctx:=cZb [(33,e),(37,m)]
theorem Di (e m:Bool):CtxOk (cSe e m):=Ip _
def seP:Option (Int×Int×Int)->Patch
 | none=>⟨(8,.int true .i64 2) :: fA 16 28,[],[]⟩
 | some (i,t,s)=>⟨(6,.lslice 3 (aa s.toNat).length) :: (7,.lslice 2 (aa t.toNat).length) :: (8,.int true .i64 i) :: fA 16 28,[],[.rows .i64 (aa s.toNat),.rows .i64 (aa t.toNat)]⟩
def seX (s:Int):Patch:=⟨(4,.lslice 2 (aa s.toNat).length) :: (6,.any false) :: (7,.any false) :: (8,.any false) :: fA 16 28,[],[.rows .i64 (aa s.toNat)]⟩
def rF (y:List Int):Int:=val y*val y / PP
def seT (y:List Int) (i t:Int):Int:=t*rF y / PP / (i*(i+1))
def seR (y:List Int):Option (Int×Int×Int)->Int
 | none=>lF (rF y) 200 2 (val y) (val y)
 | some (i,t,s)=>lF (rF y) (201 - (i / 2).toNat) i t s
def seU (y:List Int):SumL (Option (Int×Int×Int)):=
 {
  S:=seP
  I:=fun x=>match x with
   | none=>True
   | some (i,t,s)=>0<t/\i % 2=0/\2<i/\i<=400/\2 ^ (i / 2).toNat*t<=4*PP/\0<s/\(i % 4=2->t<=s)/\s<=i*PP
  μ:=fun x=>match x with
   | none=>400
   | some (i,_,_)=>(400 - i).toNat
  F:=fun x=>(.ret,seX (seR y x))
  next:=fun x=>match x with
   | none=>some (4,seT y 2 (val y),val y - seT y 2 (val y))
   | some (i,t,s)=>some (i+2,seT y i t,match decide (i % 4=2) with|true=>s - seT y i t|false=>s+seT y i t)
  ids:=fun x=>match x with
   | none=>[3,4]
   | some _=>[5,6]
  X:=fun x _=>match x with
   | none=>none
   | some (_,_,s)=>some (seX s,[3]) }
def F8 (y:List Int):Prop:=(2:Int)=2
theorem OO (y:List Int):fit (seS y) (seS y) (ah (seS y) ((seU y).S none)) ([])=some (.p (F8 y)):=by kernel_rfl
def OP (y:List Int):Prop:=(((((↑y.length:Int)=(↑y.length:Int)/\((0:Int)<=aW (↑(aa (val y*val y).toNat).length:Int))/\((0:Int)<=(↑(aa (val y*val y).toNat).length:Int) - aW (↑(aa (val y*val y).toNat).length:Int))/\(aW (↑(aa (val y*val y).toNat).length:Int))+((↑(aa (val y*val y).toNat).length:Int) - aW (↑(aa (val y*val y).toNat).length:Int))<=(↑(aa (val y*val y).toNat).length:Int))/\Dig y/\Dig (cutL (val y*val y))/\y.length+(cutL (val y*val y)).length<=(500000:Nat))/\(((0:Int)<=aW (↑(aa (val y*val (cutL (val y*val y))).toNat).length:Int))/\(aW (↑(aa (val y*val (cutL (val y*val y))).toNat).length:Int))<=(↑(aa (val y*val (cutL (val y*val y))).toNat).length:Int)/\(↑(aa (val y*val (cutL (val y*val y))).toNat).length:Int)<=(↑(aa (val y*val (cutL (val y*val y))).toNat).length:Int))/\(((0:Int)<=aW (↑(aa (val y*val (cutL (val y*val y))).toNat).length:Int))/\((0:Int)<=(↑(aa (val y*val (cutL (val y*val y))).toNat).length:Int) - aW (↑(aa (val y*val (cutL (val y*val y))).toNat).length:Int))/\(aW (↑(aa (val y*val (cutL (val y*val y))).toNat).length:Int))+((↑(aa (val y*val (cutL (val y*val y))).toNat).length:Int) - aW (↑(aa (val y*val (cutL (val y*val y))).toNat).length:Int))<=(↑(aa (val y*val (cutL (val y*val y))).toNat).length:Int))/\Dig (cutL (val y*val (cutL (val y*val y))))/\(cutL (val y*val (cutL (val y*val y)))).length<=(500000:Nat)/\(1:Int)<=IntKind.i64.wrap ((2:Int)*IntKind.i64.wrap ((2:Int)+1))/\IntKind.i64.wrap ((2:Int)*IntKind.i64.wrap ((2:Int)+1))<=1000000000)/\((↑(aa (val (cutL (val y*val (cutL (val y*val y)))) / IntKind.i64.wrap ((2:Int)*IntKind.i64.wrap ((2:Int)+1))).toNat).length:Int)==0)=false/\(Int.tmod (2:Int) (4:Int)==2)=true/\((↑y.length:Int)=(↑y.length:Int)/\(↑(aa (val (cutL (val y*val (cutL (val y*val y)))) / IntKind.i64.wrap ((2:Int)*IntKind.i64.wrap ((2:Int)+1))).toNat).length:Int)=(↑(aa (val (cutL (val y*val (cutL (val y*val y)))) / IntKind.i64.wrap ((2:Int)*IntKind.i64.wrap ((2:Int)+1))).toNat).length:Int))/\Dig y/\Dig (aa (val (cutL (val y*val (cutL (val y*val y)))) / IntKind.i64.wrap ((2:Int)*IntKind.i64.wrap ((2:Int)+1))).toNat)/\(0:Nat)<y.length/\y.length<=(500000:Nat)/\(aa (val (cutL (val y*val (cutL (val y*val y)))) / IntKind.i64.wrap ((2:Int)*IntKind.i64.wrap ((2:Int)+1))).toNat).length<=y.length/\val (aa (val (cutL (val y*val (cutL (val y*val y)))) / IntKind.i64.wrap ((2:Int)*IntKind.i64.wrap ((2:Int)+1))).toNat)<=val y)/\(true=true->(((↑(aa (val y - val (aa (val (cutL (val y*val (cutL (val y*val y)))) / IntKind.i64.wrap ((2:Int)*IntKind.i64.wrap ((2:Int)+1))).toNat)).toNat).length:Int)=(↑(aa (val y - seT y (2:Int) (val y)).toNat).length:Int)/\(↑(aa (val (cutL (val y*val (cutL (val y*val y)))) / IntKind.i64.wrap ((2:Int)*IntKind.i64.wrap ((2:Int)+1))).toNat).length:Int)=(↑(aa (seT y (2:Int) (val y)).toNat).length:Int)/\IntKind.i64.wrap ((2:Int)+2)=4)/\aa (val y - val (aa (val (cutL (val y*val (cutL (val y*val y)))) / IntKind.i64.wrap ((2:Int)*IntKind.i64.wrap ((2:Int)+1))).toNat)).toNat=aa (val y - seT y (2:Int) (val y)).toNat/\aa (val (cutL (val y*val (cutL (val y*val y)))) / IntKind.i64.wrap ((2:Int)*IntKind.i64.wrap ((2:Int)+1))).toNat=aa (seT y (2:Int) (val y)).toNat)/\(seU y).I ((seU y).next none)/\(seU y).μ ((seU y).next none)<(seU y).μ none/\(seU y).F ((seU y).next none)=(seU y).F none)
theorem abq (y:List Int):dW (seS y) ((seU y).way (none)) ((run (cSe false true) 300).code F5 seA (ah (seS y) ((seU y).S none)))=some (.p (OP y)):=by kernel_rfl
def OQ (y:List Int) (i t s:Int):Prop:=(((((↑(aa t.toNat).length:Int)=(↑(aa t.toNat).length:Int)/\((0:Int)<=aW (↑(aa (val y*val y).toNat).length:Int))/\((0:Int)<=(↑(aa (val y*val y).toNat).length:Int) - aW (↑(aa (val y*val y).toNat).length:Int))/\(aW (↑(aa (val y*val y).toNat).length:Int))+((↑(aa (val y*val y).toNat).length:Int) - aW (↑(aa (val y*val y).toNat).length:Int))<=(↑(aa (val y*val y).toNat).length:Int))/\Dig (aa t.toNat)/\Dig (cutL (val y*val y))/\(aa t.toNat).length+(cutL (val y*val y)).length<=(500000:Nat))/\(((0:Int)<=aW (↑(aa (val (aa t.toNat)*val (cutL (val y*val y))).toNat).length:Int))/\(aW (↑(aa (val (aa t.toNat)*val (cutL (val y*val y))).toNat).length:Int))<=(↑(aa (val (aa t.toNat)*val (cutL (val y*val y))).toNat).length:Int)/\(↑(aa (val (aa t.toNat)*val (cutL (val y*val y))).toNat).length:Int)<=(↑(aa (val (aa t.toNat)*val (cutL (val y*val y))).toNat).length:Int))/\(((0:Int)<=aW (↑(aa (val (aa t.toNat)*val (cutL (val y*val y))).toNat).length:Int))/\((0:Int)<=(↑(aa (val (aa t.toNat)*val (cutL (val y*val y))).toNat).length:Int) - aW (↑(aa (val (aa t.toNat)*val (cutL (val y*val y))).toNat).length:Int))/\(aW (↑(aa (val (aa t.toNat)*val (cutL (val y*val y))).toNat).length:Int))+((↑(aa (val (aa t.toNat)*val (cutL (val y*val y))).toNat).length:Int) - aW (↑(aa (val (aa t.toNat)*val (cutL (val y*val y))).toNat).length:Int))<=(↑(aa (val (aa t.toNat)*val (cutL (val y*val y))).toNat).length:Int))/\Dig (cutL (val (aa t.toNat)*val (cutL (val y*val y))))/\(cutL (val (aa t.toNat)*val (cutL (val y*val y)))).length<=(500000:Nat)/\(1:Int)<=IntKind.i64.wrap (i*IntKind.i64.wrap (i+1))/\IntKind.i64.wrap (i*IntKind.i64.wrap (i+1))<=1000000000)/\((↑(aa (val (cutL (val (aa t.toNat)*val (cutL (val y*val y)))) / IntKind.i64.wrap (i*IntKind.i64.wrap (i+1))).toNat).length:Int)==0)=false/\(i.tmod (4:Int)==2)=true/\((↑(aa s.toNat).length:Int)=(↑(aa s.toNat).length:Int)/\(↑(aa (val (cutL (val (aa t.toNat)*val (cutL (val y*val y)))) / IntKind.i64.wrap (i*IntKind.i64.wrap (i+1))).toNat).length:Int)=(↑(aa (val (cutL (val (aa t.toNat)*val (cutL (val y*val y)))) / IntKind.i64.wrap (i*IntKind.i64.wrap (i+1))).toNat).length:Int))/\Dig (aa s.toNat)/\Dig (aa (val (cutL (val (aa t.toNat)*val (cutL (val y*val y)))) / IntKind.i64.wrap (i*IntKind.i64.wrap (i+1))).toNat)/\(0:Nat)<(aa s.toNat).length/\(aa s.toNat).length<=(500000:Nat)/\(aa (val (cutL (val (aa t.toNat)*val (cutL (val y*val y)))) / IntKind.i64.wrap (i*IntKind.i64.wrap (i+1))).toNat).length<=(aa s.toNat).length/\val (aa (val (cutL (val (aa t.toNat)*val (cutL (val y*val y)))) / IntKind.i64.wrap (i*IntKind.i64.wrap (i+1))).toNat)<=val (aa s.toNat))/\(true=true->(((↑(aa (val (aa s.toNat) - val (aa (val (cutL (val (aa t.toNat)*val (cutL (val y*val y)))) / IntKind.i64.wrap (i*IntKind.i64.wrap (i+1))).toNat)).toNat).length:Int)=(↑(aa (match decide (i % (4:Int)=2) with|true=>s - seT y i t|false=>s+seT y i t).toNat).length:Int)/\(↑(aa (val (cutL (val (aa t.toNat)*val (cutL (val y*val y)))) / IntKind.i64.wrap (i*IntKind.i64.wrap (i+1))).toNat).length:Int)=(↑(aa (seT y i t).toNat).length:Int)/\IntKind.i64.wrap (i+2)=i+2)/\aa (val (aa s.toNat) - val (aa (val (cutL (val (aa t.toNat)*val (cutL (val y*val y)))) / IntKind.i64.wrap (i*IntKind.i64.wrap (i+1))).toNat)).toNat=aa (match decide (i % (4:Int)=2) with|true=>s - seT y i t|false=>s+seT y i t).toNat/\aa (val (cutL (val (aa t.toNat)*val (cutL (val y*val y)))) / IntKind.i64.wrap (i*IntKind.i64.wrap (i+1))).toNat=aa (seT y i t).toNat)/\(seU y).I ((seU y).next (some (i,t,s)))/\(seU y).μ ((seU y).next (some (i,t,s)))<(seU y).μ (some (i,t,s))/\(seU y).F ((seU y).next (some (i,t,s)))=(seU y).F (some (i,t,s)))
theorem abr (y:List Int) (i t s:Int):dW (seS y) ((seU y).way ((some (i,t,s)))) ((run (cSe false true) 300).code F5 seA (ah (seS y) ((seU y).S (some (i,t,s)))))=some (.p (OQ y i t s)):=by kernel_rfl
def OT (y:List Int) (i t s:Int):Prop:=(((((↑(aa t.toNat).length:Int)=(↑(aa t.toNat).length:Int)/\((0:Int)<=aW (↑(aa (val y*val y).toNat).length:Int))/\((0:Int)<=(↑(aa (val y*val y).toNat).length:Int) - aW (↑(aa (val y*val y).toNat).length:Int))/\(aW (↑(aa (val y*val y).toNat).length:Int))+((↑(aa (val y*val y).toNat).length:Int) - aW (↑(aa (val y*val y).toNat).length:Int))<=(↑(aa (val y*val y).toNat).length:Int))/\Dig (aa t.toNat)/\Dig (cutL (val y*val y))/\(aa t.toNat).length+(cutL (val y*val y)).length<=(500000:Nat))/\(((0:Int)<=aW (↑(aa (val (aa t.toNat)*val (cutL (val y*val y))).toNat).length:Int))/\(aW (↑(aa (val (aa t.toNat)*val (cutL (val y*val y))).toNat).length:Int))<=(↑(aa (val (aa t.toNat)*val (cutL (val y*val y))).toNat).length:Int)/\(↑(aa (val (aa t.toNat)*val (cutL (val y*val y))).toNat).length:Int)<=(↑(aa (val (aa t.toNat)*val (cutL (val y*val y))).toNat).length:Int))/\(((0:Int)<=aW (↑(aa (val (aa t.toNat)*val (cutL (val y*val y))).toNat).length:Int))/\((0:Int)<=(↑(aa (val (aa t.toNat)*val (cutL (val y*val y))).toNat).length:Int) - aW (↑(aa (val (aa t.toNat)*val (cutL (val y*val y))).toNat).length:Int))/\(aW (↑(aa (val (aa t.toNat)*val (cutL (val y*val y))).toNat).length:Int))+((↑(aa (val (aa t.toNat)*val (cutL (val y*val y))).toNat).length:Int) - aW (↑(aa (val (aa t.toNat)*val (cutL (val y*val y))).toNat).length:Int))<=(↑(aa (val (aa t.toNat)*val (cutL (val y*val y))).toNat).length:Int))/\Dig (cutL (val (aa t.toNat)*val (cutL (val y*val y))))/\(cutL (val (aa t.toNat)*val (cutL (val y*val y)))).length<=(500000:Nat)/\(1:Int)<=IntKind.i64.wrap (i*IntKind.i64.wrap (i+1))/\IntKind.i64.wrap (i*IntKind.i64.wrap (i+1))<=1000000000)/\((↑(aa (val (cutL (val (aa t.toNat)*val (cutL (val y*val y)))) / IntKind.i64.wrap (i*IntKind.i64.wrap (i+1))).toNat).length:Int)==0)=false/\(i.tmod (4:Int)==2)=false/\((↑(aa s.toNat).length:Int)=(↑(aa s.toNat).length:Int)/\(↑(aa (val (cutL (val (aa t.toNat)*val (cutL (val y*val y)))) / IntKind.i64.wrap (i*IntKind.i64.wrap (i+1))).toNat).length:Int)=(↑(aa (val (cutL (val (aa t.toNat)*val (cutL (val y*val y)))) / IntKind.i64.wrap (i*IntKind.i64.wrap (i+1))).toNat).length:Int))/\Dig (aa s.toNat)/\Dig (aa (val (cutL (val (aa t.toNat)*val (cutL (val y*val y)))) / IntKind.i64.wrap (i*IntKind.i64.wrap (i+1))).toNat)/\((0:Nat)<(aa s.toNat).length\/(0:Nat)<(aa (val (cutL (val (aa t.toNat)*val (cutL (val y*val y)))) / IntKind.i64.wrap (i*IntKind.i64.wrap (i+1))).toNat).length)/\(aa s.toNat).length<=(400000:Nat)/\(aa (val (cutL (val (aa t.toNat)*val (cutL (val y*val y)))) / IntKind.i64.wrap (i*IntKind.i64.wrap (i+1))).toNat).length<=(400000:Nat))/\(true=true->(((↑(aa (val (aa s.toNat)+val (aa (val (cutL (val (aa t.toNat)*val (cutL (val y*val y)))) / IntKind.i64.wrap (i*IntKind.i64.wrap (i+1))).toNat)).toNat).length:Int)=(↑(aa (match decide (i % (4:Int)=2) with|true=>s - seT y i t|false=>s+seT y i t).toNat).length:Int)/\(↑(aa (val (cutL (val (aa t.toNat)*val (cutL (val y*val y)))) / IntKind.i64.wrap (i*IntKind.i64.wrap (i+1))).toNat).length:Int)=(↑(aa (seT y i t).toNat).length:Int)/\IntKind.i64.wrap (i+2)=i+2)/\aa (val (aa s.toNat)+val (aa (val (cutL (val (aa t.toNat)*val (cutL (val y*val y)))) / IntKind.i64.wrap (i*IntKind.i64.wrap (i+1))).toNat)).toNat=aa (match decide (i % (4:Int)=2) with|true=>s - seT y i t|false=>s+seT y i t).toNat/\aa (val (cutL (val (aa t.toNat)*val (cutL (val y*val y)))) / IntKind.i64.wrap (i*IntKind.i64.wrap (i+1))).toNat=aa (seT y i t).toNat)/\(seU y).I ((seU y).next (some (i,t,s)))/\(seU y).μ ((seU y).next (some (i,t,s)))<(seU y).μ (some (i,t,s))/\(seU y).F ((seU y).next (some (i,t,s)))=(seU y).F (some (i,t,s)))
theorem abt (y:List Int) (i t s:Int):dW (seS y) ((seU y).way ((some (i,t,s)))) ((run (cSe false false) 300).code F5 seA (ah (seS y) ((seU y).S (some (i,t,s)))))=some (.p (OT y i t s)):=by kernel_rfl
def UE (y:List Int) (i t s:Int):Prop:=(((((↑(aa t.toNat).length:Int)=(↑(aa t.toNat).length:Int)/\((0:Int)<=aW (↑(aa (val y*val y).toNat).length:Int))/\((0:Int)<=(↑(aa (val y*val y).toNat).length:Int) - aW (↑(aa (val y*val y).toNat).length:Int))/\(aW (↑(aa (val y*val y).toNat).length:Int))+((↑(aa (val y*val y).toNat).length:Int) - aW (↑(aa (val y*val y).toNat).length:Int))<=(↑(aa (val y*val y).toNat).length:Int))/\Dig (aa t.toNat)/\Dig (cutL (val y*val y))/\(aa t.toNat).length+(cutL (val y*val y)).length<=(500000:Nat))/\(((0:Int)<=aW (↑(aa (val (aa t.toNat)*val (cutL (val y*val y))).toNat).length:Int))/\(aW (↑(aa (val (aa t.toNat)*val (cutL (val y*val y))).toNat).length:Int))<=(↑(aa (val (aa t.toNat)*val (cutL (val y*val y))).toNat).length:Int)/\(↑(aa (val (aa t.toNat)*val (cutL (val y*val y))).toNat).length:Int)<=(↑(aa (val (aa t.toNat)*val (cutL (val y*val y))).toNat).length:Int))/\(((0:Int)<=aW (↑(aa (val (aa t.toNat)*val (cutL (val y*val y))).toNat).length:Int))/\((0:Int)<=(↑(aa (val (aa t.toNat)*val (cutL (val y*val y))).toNat).length:Int) - aW (↑(aa (val (aa t.toNat)*val (cutL (val y*val y))).toNat).length:Int))/\(aW (↑(aa (val (aa t.toNat)*val (cutL (val y*val y))).toNat).length:Int))+((↑(aa (val (aa t.toNat)*val (cutL (val y*val y))).toNat).length:Int) - aW (↑(aa (val (aa t.toNat)*val (cutL (val y*val y))).toNat).length:Int))<=(↑(aa (val (aa t.toNat)*val (cutL (val y*val y))).toNat).length:Int))/\Dig (cutL (val (aa t.toNat)*val (cutL (val y*val y))))/\(cutL (val (aa t.toNat)*val (cutL (val y*val y)))).length<=(500000:Nat)/\(1:Int)<=IntKind.i64.wrap (i*IntKind.i64.wrap (i+1))/\IntKind.i64.wrap (i*IntKind.i64.wrap (i+1))<=1000000000)/\((↑(aa (val (cutL (val (aa t.toNat)*val (cutL (val y*val y)))) / IntKind.i64.wrap (i*IntKind.i64.wrap (i+1))).toNat).length:Int)==0)=true)/\(true=true->((↑(aa s.toNat).length:Int)=(↑(aa s.toNat).length:Int)/\aa s.toNat=aa s.toNat)/\(seU y).F (some (i,t,s))=(Ex.ret,seX s))
theorem adv (y:List Int) (i t s:Int):dW (seS y) ((seU y).way ((some (i,t,s)))) ((run (cSe true false) 300).code F5 seA (ah (seS y) ((seU y).S (some (i,t,s)))))=some (.p (UE y i t s)):=by kernel_rfl
structure SeD (y:List Int):Prop where
 d:Dig y
 l:y.length<=100
 hi:val y<=1700000000000000000000000000000000000000000000
 lo:0<seT y 2 (val y)
theorem SeD.sq {y:List Int} (h:SeD y):0<=rF y/\rF y<=3*PP:=by
 have v0:=aA h.d
 have v1:=h.hi
 have p:=fT
 refine ⟨Int.ediv_nonneg (Int.mul_nonneg v0 v0) (by omega),Int.ediv_le_of_le_mul p ?_⟩
 have:=Int.mul_le_mul (a:=val y) (b:=val y) (c:=1700000000000000000000000000000000000000000000) (d:=1700000000000000000000000000000000000000000000) v1 v1 v0 (by decide)
 have e:(1700000000000000000000000000000000000000000000:Int)*1700000000000000000000000000000000000000000000<=3*PP*PP:=by decide
 omega
theorem VV {i:Int} (h0:2<=i) (h1:i<=400):IntKind.i64.wrap (i*IntKind.i64.wrap (i+1))=i*(i+1):=by
 have e:i*(i+1)<=400*401:=Int.mul_le_mul (a:=i) (b:=i+1) (c:=400) (d:=401) h1 (by omega) (by omega) (by decide)
 have e2:2*3<=i*(i+1):=Int.mul_le_mul (a:=2) (b:=3) (c:=i) (d:=i+1) h0 (by omega) (by decide) (by omega)
 rw [show IntKind.i64.wrap (i+1)=i+1 from iw (by omega) (by omega),iw (by omega) (by omega)]
theorem SeD.q {y:List Int} (h:SeD y) {v i:Int} (hv:0<=v) (h0:2<=i) (h1:i<=400):val (cutL (v*val (cutL (val y*val y)))) / IntKind.i64.wrap (i*IntKind.i64.wrap (i+1))=seT y i v:=by
 have v0:=aA h.d
 have h2:=h.sq
 rw [VV h0 h1,uo (Int.mul_nonneg v0 v0),uo (v:=v*(val y*val y / PP)) (Int.mul_nonneg hv h2.1)]
 rfl
theorem vE {n:Int} (h:0<=n):0<=aW n/\aW n<=n:=by unfold aW; split <;> omega
theorem zu (v:Int):(cutL v).length<=(aa v.toNat).length:=by
 unfold cutL
 rw [List.length_take,List.length_drop]
 omega
theorem jd {v:Int} {n:Nat} (h0:0<=v) (h:v<pw n):(aa v.toNat).length<=n:=FK (by omega)
theorem len_mul {a b:Int} (a0:0<=a) (a1:a<=4*PP) (b0:0<=b) (b1:b<=4*PP):(aa (a*b).toNat).length<=11:=by
 have p:=fT
 have h:=Int.mul_le_mul a1 b1 b0 (by omega)
 have e:4*PP*(4*PP)<pw 11:=by decide
 exact jd (Int.mul_nonneg a0 b0) (by omega)
theorem jE {a:Int} (a0:0<=a) (a1:a<=400*PP):(aa a.toNat).length<=6:=by
 have e:400*PP<pw 6:=by decide
 exact jd a0 (by omega)
theorem dv {a:Int} (a0:0<=a):val (aa a.toNat)=a:=by rw [ui]; omega
theorem F9 {a:Int} (a0:0<a):0<(aa a.toNat).length:=CZ (by omega)
theorem XY {a b:Int} (a0:0<=a) (h:a<=b):(aa a.toNat).length<=(aa b.toNat).length:=by
 refine jd a0 ?_
 have:=fQ (aH b.toNat)
 rw [dv (by omega)] at this
 omega
theorem Dj {n:Nat} {t:Int} (h0:0<t) (h:2 ^ n*t<=4*PP):n<=151:=by
 refine Nat.le_of_not_lt fun hn=>?_
 have h1:(2:Int) ^ 152<=2 ^ n:=by
  have:=Nat.pow_le_pow_right (n:=2) (by decide) (show 152<=n by omega)
  have e1:((2 ^ 152:Nat):Int)<=((2 ^ n:Nat):Int):=by exact_mod_cast this
  simpa using e1
 have h2:(2:Int) ^ n*1<=2 ^ n*t:=Int.mul_le_mul_of_nonneg_left (by omega) (by omega)
 have e:4*PP<2 ^ 152:=by decide
 omega
theorem Dk {y:List Int} (h:SeD y) {i t:Int} (ht:0<=t) (hi:2<=i):0<=seT y i t/\2*seT y i t<=t:=OL h.sq.1 h.sq.2 ht hi
theorem OU {y:List Int} (h:SeD y):seR y (some (4,seT y 2 (val y),val y - seT y 2 (val y)))=seR y none:=by
 show lF (rF y) 199 4 _ _=lF (rF y) (199+1) 2 (val y) (val y)
 rw [vD (show val y*rF y / PP / (2*(2+1))≠0 from by have:=h.lo; unfold seT at this; omega)]
 rfl
theorem UF {y:List Int} {i t s:Int} (hi:(i / 2).toNat<=200) (h:seT y i t=0):seR y (some (i,t,s))=s:=by
 show lF (rF y) (201 - (i / 2).toNat) i t s=s
 rw [show 201 - (i / 2).toNat=(200 - (i / 2).toNat)+1 by omega,F7 h]
theorem OV {y:List Int} {i t s:Int} (h0:0<=i) (hi:(i / 2).toNat<=200) (h:seT y i t≠0):seR y ((seU y).next (some (i,t,s)))=seR y (some (i,t,s)):=by
 show lF (rF y) (201 - ((i+2) / 2).toNat) (i+2) (seT y i t) _=lF (rF y) (201 - (i / 2).toNat) i t s
 rw [show 201 - (i / 2).toNat=(200 - (i / 2).toNat)+1 by omega,vD h,show 201 - ((i+2) / 2).toNat=200 - (i / 2).toNat by omega]
 rfl
theorem OW {y:List Int} (h:SeD y) {i t s:Int} (hI:(seU y).I (some (i,t,s))) (h0:seT y i t≠0):(seU y).I ((seU y).next (some (i,t,s))):=by
 obtain ⟨t0,i0,i1,i2,pw,s0,ts,sb⟩:=(show 0<t/\i % 2=0/\2<i/\i<=400/\2 ^ (i / 2).toNat*t<=4*PP/\0<s/\(i % 4=2->t<=s)/\s<=i*PP from hI)
 obtain ⟨b0,b1⟩:=Dk h (i:=i) (t:=t) (by omega) (by omega)
 have k:=Dj t0 pw
 have hp:(2:Int) ^ ((i+2) / 2).toNat*seT y i t<=4*PP:=by
  rw [show ((i+2) / 2).toNat=(i / 2).toNat+1 by omega,Int.pow_succ,Int.mul_assoc]
  have:(2:Int) ^ (i / 2).toNat*(2*seT y i t)<=2 ^ (i / 2).toNat*t:=Int.mul_le_mul_of_nonneg_left b1 (Int.pow_nonneg (by decide))
  omega
 have ht:t<=PP:=by
  have h4:(4:Int)*t<=2 ^ (i / 2).toNat*t:=by
   refine Int.mul_le_mul_of_nonneg_right ?_ (by omega)
   have:=Nat.pow_le_pow_right (n:=2) (by decide) (show 2<=(i / 2).toNat by omega)
   have e1:((2 ^ 2:Nat):Int)<=((2 ^ (i / 2).toNat:Nat):Int):=by exact_mod_cast this
   simpa using e1
  omega
 have e2:(i+2)*PP=i*PP+2*PP:=Int.add_mul _ _ _
 have p:=fT
 show 0<seT y i t/\(i+2) % 2=0/\2<i+2/\i+2<=400/\2 ^ ((i+2) / 2).toNat*seT y i t<=4*PP/\0<(match decide (i % 4=2) with|true=>s - seT y i t|false=>s+seT y i t)/\((i+2) % 4=2->seT y i t<=(match decide (i % 4=2) with|true=>s - seT y i t|false=>s+seT y i t))/\(match decide (i % 4=2) with|true=>s - seT y i t|false=>s+seT y i t)<=(i+2)*PP
 by_cases hm:i % 4=2
 .have:=ts hm
  rw [show (match decide (i % 4=2) with|true=>s - seT y i t|false=>s+seT y i t)=s - seT y i t by rw [decide_eq_true hm]]
  refine ⟨by omega,by omega,by omega,by omega,hp,by omega,by omega,by omega⟩
 .rw [show (match decide (i % 4=2) with|true=>s - seT y i t|false=>s+seT y i t)=s+seT y i t by rw [decide_eq_false hm]]
  refine ⟨by omega,by omega,by omega,by omega,hp,by omega,by omega,by omega⟩
theorem Lb {y:List Int} (h:SeD y):(seU y).I ((seU y).next none):=by
 have v0:=aA h.d
 have v1:=h.hi
 have l0:=h.lo
 obtain ⟨b0,b1⟩:=Dk h (i:=2) (t:=val y) v0 (by omega)
 have e:(1700000000000000000000000000000000000000000000:Int)<=2*PP:=by decide
 show 0<seT y 2 (val y)/\(4:Int) % 2=0/\(2:Int)<4/\(4:Int)<=400/\(2:Int) ^ (2:Nat)*seT y 2 (val y)<=4*PP/\0<val y - seT y 2 (val y)/\((4:Int) % 4=2->seT y 2 (val y)<=val y - seT y 2 (val y))/\val y - seT y 2 (val y)<=4*PP
 have p:=fT
 refine ⟨l0,by decide,by decide,by decide,?_,by omega,by omega,by omega⟩
 rw [show (2:Int) ^ (2:Nat)=4 from rfl]; omega
theorem UG {y:List Int} (h:SeD y):CodeOk cZ F5 (.loop seA) (seS y) ⟨.tt,[⟨.tt,.ret,ah (seS y) (seX (seR y none))⟩]⟩:=by
 refine lX (seU y) (y0:=none) trivial ⟨_,OO y,rfl⟩ (by kernel_rfl) (fun x hx=>?_) rfl
 have v0:=aA h.d
 have v1:=h.hi
 have yl:=h.l
 have l0:=h.lo
 have p:=fT
 have e17:(1700000000000000000000000000000000000000000000:Int)<=2*PP:=by decide
 obtain ⟨q0,q1⟩:=h.sq
 have hsq:val (cutL (val y*val y))=rF y:=by rw [uo (Int.mul_nonneg v0 v0)]; rfl
 have m1:=len_mul v0 (by omega) v0 (by omega:val y<=4*PP)
 have k1:=zu (val y*val y)
 have c1:=vE (n:=((aa (val y*val y).toNat).length:Int)) (by omega)
 have d1:=uq (val y*val y)
 cases x with
 | none=>
  have Q:=h.q (v:=val y) v0 (i:=2) (by omega) (by omega)
  have c2:=vE (n:=((aa (val y*val (cutL (val y*val y))).toNat).length:Int)) (by omega)
  have d2:=uq (val y*val (cutL (val y*val y)))
  have m2:=len_mul v0 (by omega:val y<=4*PP) q0 (by omega)
  rw [<- hsq] at m2
  have k2:=zu (val y*val (cutL (val y*val y)))
  obtain ⟨b0,b1⟩:=Dk h (i:=2) (t:=val y) v0 (by omega)
  have dq:=aH (seT y 2 (val y)).toNat
  have lq:=F9 l0
  have vq:=dv b0
  have yp:0<y.length:=by
   rcases Nat.eq_zero_or_pos y.length with e|e
   .rw [List.length_eq_zero_iff.1 e] at b1 l0
    have:val []=0:=rfl
    omega
   .exact e
  have ql:(aa (seT y 2 (val y)).toNat).length<=y.length:=jd b0 (by have:=fQ h.d; omega)
  have nx:=Lb h
  have w6:IntKind.i64.wrap (2*IntKind.i64.wrap (2+1))=6:=by decide
  refine ⟨cSe false true,300,Di _ _,rfl,rfl,_,abq y,?_,fun _=>?_⟩
  .rw [Q,w6,vq]
   refine ⟨⟨⟨⟨rfl,by omega,by omega,by omega⟩,h.d,d1,by omega⟩,⟨by omega,by omega,by omega⟩,⟨by omega,by omega,by omega⟩,d2,by omega,by omega,by omega⟩,beq_eq_false_iff_ne.2 (by omega),rfl,⟨rfl,rfl⟩,h.d,dq,yp,by omega,ql,by omega⟩
  .rw [Q,vq]
   refine ⟨⟨⟨rfl,rfl,by decide⟩,rfl,rfl⟩,nx,by show (400 - 4:Int).toNat<400; omega,?_⟩
   exact congrArg (fun z=>(Ex.ret,seX z)) (OU h)
 | some x=>
  obtain ⟨i,t,s⟩:=x
  have hI:=hx
  obtain ⟨t0,i0,i1,i2,pw2,s0,ts,sb⟩:=(show 0<t/\i % 2=0/\2<i/\i<=400/\2 ^ (i / 2).toNat*t<=4*PP/\0<s/\(i % 4=2->t<=s)/\s<=i*PP from hx)
  have k:=Dj t0 pw2
  have ht:t<=4*PP:=by
   have h4:(1:Int)*t<=2 ^ (i / 2).toNat*t:=by
    refine Int.mul_le_mul_of_nonneg_right ?_ (by omega)
    have:=Nat.one_le_two_pow (n:=(i / 2).toNat)
    have e1:((1:Nat):Int)<=((2 ^ (i / 2).toNat:Nat):Int):=by exact_mod_cast this
    simpa using e1
   omega
  have hs:s<=400*PP:=by
   have:i*PP<=400*PP:=Int.mul_le_mul_of_nonneg_right i2 (by omega)
   omega
  have vt:=dv (a:=t) (by omega)
  have vs:=dv (a:=s) (by omega)
  have dt:=aH t.toNat
  have ds:=aH s.toNat
  have lt:=jE (a:=t) (by omega) (by omega)
  have ls:=jE (a:=s) (by omega) hs
  have ls0:=F9 s0
  have Q:=h.q (v:=t) (by omega) (i:=i) (by omega) i2
  have c2:=vE (n:=((aa (t*val (cutL (val y*val y))).toNat).length:Int)) (by omega)
  have d2:=uq (t*val (cutL (val y*val y)))
  have m2:=len_mul (a:=t) (by omega) ht q0 (by omega)
  rw [<- hsq] at m2
  have k2:=zu (t*val (cutL (val y*val y)))
  obtain ⟨b0,b1⟩:=Dk h (i:=i) (t:=t) (by omega) (by omega)
  have dq:=aH (seT y i t).toNat
  have vq:=dv b0
  have w6:=VV (i:=i) (by omega) i2
  have w7:1<=i*(i+1):=by have:=Int.mul_le_mul (a:=2) (b:=3) (c:=i) (d:=i+1) (by omega) (by omega) (by decide) (by omega); omega
  have w8:i*(i+1)<=400*401:=Int.mul_le_mul (a:=i) (b:=i+1) (c:=400) (d:=401) i2 (by omega) (by omega) (by decide)
  have w9:IntKind.i64.wrap (i+2)=i+2:=iw (by omega) (by omega)
  by_cases h0:seT y i t=0
  .refine ⟨cSe true false,300,Di _ _,rfl,rfl,_,adv y i t s,?_,fun _=>⟨⟨rfl,rfl⟩,?_⟩⟩
   .rw [vt,Q,w6,h0]
    exact ⟨⟨⟨⟨rfl,by omega,by omega,by omega⟩,dt,d1,by omega⟩,⟨by omega,by omega,by omega⟩,⟨by omega,by omega,by omega⟩,d2,by omega,by omega,by omega⟩,by rw [show aa (0:Int).toNat=[] from dQ]; rfl⟩
   .show (Ex.ret,seX _)=(Ex.ret,seX _)
    rw [UF (by omega) h0]
  .have lq:=F9 (a:=seT y i t) (by omega)
   have nx:=OW h hI h0
   have nr:=OV (y:=y) (i:=i) (t:=t) (s:=s) (by omega) (by omega) h0
   have mu:(400 - (i+2)).toNat<(400 - i).toNat:=by
    have:i<=304:=by omega
    omega
   by_cases hm:i % 4=2
   .have hts:=ts hm
    have ql:=XY b0 (show seT y i t<=s by omega)
    have e4:(match decide (i % 4=2) with|true=>s - seT y i t|false=>s+seT y i t)=s - seT y i t:=by rw [decide_eq_true hm]
    refine ⟨cSe false true,300,Di _ _,rfl,rfl,_,abr y i t s,?_,fun _=>?_⟩
    .rw [vt,Q,w6,vq,vs]
     refine ⟨⟨⟨⟨rfl,by omega,by omega,by omega⟩,dt,d1,by omega⟩,⟨by omega,by omega,by omega⟩,⟨by omega,by omega,by omega⟩,d2,by omega,by omega,by omega⟩,beq_eq_false_iff_ne.2 (by omega),?_,⟨rfl,rfl⟩,ds,dq,ls0,by omega,ql,by omega⟩
     rw [Int.tmod_eq_emod_of_nonneg (by omega),hm]; rfl
    .rw [vt,Q,vq,vs]
     exact ⟨⟨⟨congrArg (fun z:Int=>((aa z.toNat).length:Int)) e4.symm,rfl,w9⟩,congrArg (fun z:Int=>aa z.toNat) e4.symm,rfl⟩,nx,mu,congrArg (fun z=>(Ex.ret,seX z)) nr⟩
   .have hmm:i % 4=0:=by omega
    have ql:=jE (a:=seT y i t) b0 (by omega)
    have e4:(match decide (i % 4=2) with|true=>s - seT y i t|false=>s+seT y i t)=s+seT y i t:=by rw [decide_eq_false hm]
    refine ⟨cSe false false,300,Di _ _,rfl,rfl,_,abt y i t s,?_,fun _=>?_⟩
    .rw [vt,Q,w6]
     refine ⟨⟨⟨⟨rfl,by omega,by omega,by omega⟩,dt,d1,by omega⟩,⟨by omega,by omega,by omega⟩,⟨by omega,by omega,by omega⟩,d2,by omega,by omega,by omega⟩,beq_eq_false_iff_ne.2 (by omega),?_,⟨rfl,rfl⟩,ds,dq,.inl ls0,by omega,by omega⟩
     rw [Int.tmod_eq_emod_of_nonneg (by omega),hmm]; rfl
    .rw [vt,Q,vq,vs]
     exact ⟨⟨⟨congrArg (fun z:Int=>((aa z.toNat).length:Int)) e4.symm,rfl,w9⟩,congrArg (fun z:Int=>aa z.toNat) e4.symm,rfl⟩,nx,mu,congrArg (fun z=>(Ex.ret,seX z)) nr⟩
noncomputable def XZ (y:List Int):Ctx:=aZ cZ [bW 75 (seS y).hp.clock F5 seA (seS y) .ret (seX (seR y none))]
theorem UH {y:List Int} (h:SeD y):CtxOk (XZ y):=aO aK (UG h) (cz aK)
def UI (y:List Int):Prop:=(((((↑y.length:Int)=(↑y.length:Int)/\(↑y.length:Int)=(↑y.length:Int))/\Dig y/\Dig y/\y.length+y.length<=(500000:Nat))/\((0:Int)<=aW (↑(aa (val y*val y).toNat).length:Int))/\(aW (↑(aa (val y*val y).toNat).length:Int))<=(↑(aa (val y*val y).toNat).length:Int)/\(↑(aa (val y*val y).toNat).length:Int)<=(↑(aa (val y*val y).toNat).length:Int))/\At (F5) (F5) (seA) (seA) (seS y) (seS y))
def X0 (y:List Int):AV:=(AV.lslice 1 (↑(aa (seR y none).toNat).length:Int))
def X3 (y:List Int):Hp:=⟨[{ wr:=24,body:=ABody.rows IntKind.i64 (aa (seR y none).toNat) },{ wr:=(0:Nat),body:=ABody.rows IntKind.i64 y }],2,25⟩
theorem adw (y:List Int):(run (XZ y) 300).call 75 (vB y) (zH y)=some ⟨.p (UI y),[⟨.tt,X0 y,X3 y⟩]⟩:=by kernel_rfl
def X4:List Nu->List (List Int)->Option (Prop×To)
 | [.n k],[y]=>some (k=5/\SeD y,.li false (aa (seR y none).toNat))
 | _,_=>none
theorem Lc:NOk Tryd.prog (fun _=>none) hG0 75 (eG hG0 .i64 [.li,.nu (.i .i64)] X4):=by
 refine fD (fun xs ys p t e h=>?_) ⟨_,Tryd.func75,rfl⟩
 unfold X4 at e
 split at e
 .rename_i k y
  cases e
  obtain ⟨rfl,h⟩:=h
  have hd:=h.d
  have hl:=h.l
  have c1:=vE (n:=((aa (val y*val y).toNat).length:Int)) (by omega)
  exact ⟨XZ y,300,vB y,_,_,_,_,_,UH h,rfl,rfl,⟨rfl,⟨rfl,rfl⟩,trivial⟩,adw y,rfl,⟨⟨⟨⟨rfl,rfl⟩,hd,hd,by omega⟩,⟨by omega,by omega,by omega⟩⟩,⟨rfl,rfl,rfl⟩⟩,rfl,rfl,rfl,rfl⟩
 .cases e
def tZ2:List (FuncId×fI):=(75,eG hG0 .i64 [.li,.nu (.i .i64)] X4) :: tZ
theorem X5:∀ x∈tZ2,NOk Tryd.prog (fun _=>none) hG0 x.1 x.2:=by
 intro x hx
 rcases List.mem_cons.1 hx with rfl|hx
 .exact Lc
 exact VT x hx
def OX:AFr:=⟨77,none⟩
noncomputable def dwA:Code:=iW Tryd.prog 77 0
noncomputable def dwS (a:List Int):St:=ug cZ 300 77 (vB a) (zH a)
def dwV (a:List Int):Int:=val a*val (aa (4294967296:Int).toNat)
def dwP (i n:Int):Patch:=⟨(5,.int true .i64 n) :: (7,.int true .i64 i) :: fA 17 11,[],[]⟩
def dwU (a:List Int):SumL (Int×Int):=
 {
  S:=fun (i,n)=>dwP i n
  I:=fun (i,n)=>-1<=i/\i<(cutL (dwV a)).length/\n=val ((cutL (dwV a)).drop (i+1).toNat)
  μ:=fun (i,_)=>(i+1).toNat
  F:=fun _=>(.exit 0,dwP (-1) (dwV a / PP))
  next:=fun (i,n)=>(i - 1,n*1000000000+(cutL (dwV a)).getD i.toNat 0)
  ids:=fun _=>[]
  X:=fun (i,n) _=>some (dwP i n,[]) }
def Ga (a:List Int):Prop:=(0:Int)=0/\IntKind.i64.wrap (((↑(aa (val a*val (aa (Int.toNat (4294967296:Int)))).toNat).length:Int) - aW (↑(aa (val a*val (aa (Int.toNat (4294967296:Int)))).toNat).length:Int)) - (1:Int))=(↑(cutL (dwV a)).length:Int) - (1:Int)
theorem OY (a:List Int):fit (dwS a) (dwS a) (ah (dwS a) (dwP (((cutL (dwV a)).length:Int) - 1) 0)) ([])=some (.p (Ga a)):=by kernel_rfl
def Iq (a:List Int) (i n:Int):Prop:=(decide (i>=0)=true->(((0:Int)<=aW (↑(aa (val a*val (aa (Int.toNat (4294967296:Int)))).toNat).length:Int))/\(0:Int)<=i/\i<(↑(aa (val a*val (aa (Int.toNat (4294967296:Int)))).toNat).length:Int) - aW (↑(aa (val a*val (aa (Int.toNat (4294967296:Int)))).toNat).length:Int))/\((aW (↑(aa (val a*val (aa (Int.toNat (4294967296:Int)))).toNat).length:Int))+i).toNat<(aa (val a*val (aa (Int.toNat (4294967296:Int)))).toNat).length)/\((!decide (i>=0))=true->(n=n/\i=i)/\(dwU a).F (i,n)=(Ex.exit (0:Nat),dwP i n))/\(decide (i>=0)=true->(IntKind.i64.wrap (IntKind.i64.wrap (n*1000000000)+(aa (val a*val (aa (Int.toNat (4294967296:Int)))).toNat).getD ((aW (↑(aa (val a*val (aa (Int.toNat (4294967296:Int)))).toNat).length:Int))+i).toNat (0:Int))=n*1000000000+(cutL (dwV a)).getD i.toNat (0:Int)/\IntKind.i64.wrap (i - (1:Int))=i - (1:Int))/\(dwU a).I ((dwU a).next (i,n))/\(dwU a).μ ((dwU a).next (i,n))<(dwU a).μ (i,n)/\(dwU a).F ((dwU a).next (i,n))=(dwU a).F (i,n))
theorem UJ (a:List Int) (i n:Int):dW (dwS a) ((dwU a).way ((i,n))) ((run cZ 300).code OX dwA (ah (dwS a) ((dwU a).S (i,n))))=some (.p (Iq a i n)):=by kernel_rfl
structure DwD (a:List Int):Prop where
 d:Dig a
 l:a.length<=100
 hi:dwV a / PP<4611686018427387904
theorem DwD.v {a:List Int} (h:DwD a):0<=dwV a:=Int.mul_nonneg (aA h.d) (aA (aH _))
theorem UK {l:List Int} (h:Dig l) (k:Nat):val (l.drop k)<=val l:=by
 rw [zq k h]
 exact Int.ediv_le_self _ (aA h)
theorem UL {a:List Int} (h:DwD a):CodeOk cZ OX (.loop dwA) (dwS a) ⟨.tt,[⟨.tt,.exit 0,ah (dwS a) (dwP (-1) (dwV a / PP))⟩]⟩:=by
 have v0:=h.v
 have hc:=JK v0
 have hv:=uo v0
 have hd:=uq (dwV a)
 have hi:=h.hi
 have c1:=vE (n:=((aa (dwV a).toNat).length:Int)) (by omega)
 have lm:(aa (dwV a).toNat).length<=500000:=by
  have l:=h.l
  have h1:=fQ h.d
  have h2:=jP l
  refine Nat.le_trans (jd (n:=102) v0 ?_) (by decide)
  have e1:val (aa (4294967296:Int).toNat)=4294967296:=dv (by decide)
  have e2:pw 102=1000000000000000000*pw 100:=by rw [jQ,jQ]; omega
  have h0:=aA h.d
  have p:=pw_pos 100
  unfold dwV
  rw [e1,e2]; omega
 have lc:((cutL (dwV a)).length:Int)=(aa (dwV a).toNat).length - aW (aa (dwV a).toNat).length:=by
  rw [hc,List.length_drop]; omega
 refine lW (bJ aK 300) (dwU a) (y0:=(((cutL (dwV a)).length:Int) - 1,0)) ⟨by omega,by show _ - 1<_; omega,?_⟩ ⟨_,OY a,rfl,?_⟩ (by kernel_rfl) (fun y hy=>?_) rfl
 .show 0=val ((cutL (dwV a)).drop (((cutL (dwV a)).length:Int) - 1+1).toNat)
  rw [show (((cutL (dwV a)).length:Int) - 1+1).toNat=(cutL (dwV a)).length by omega,List.drop_length]; rfl
 .show IntKind.i64.wrap (((aa (dwV a).toNat).length:Int) - aW (aa (dwV a).toNat).length - 1)=(cutL (dwV a)).length - 1
  rw [lc,iw (by omega) (by omega)]
 .obtain ⟨i,n⟩:=y
  obtain ⟨i0,i1,hn⟩:=(show -1<=i/\i<(cutL (dwV a)).length/\n=val ((cutL (dwV a)).drop (i+1).toNat) from hy)
  refine ⟨_,UJ a i n,fun e=>?_,fun e=>?_,fun e=>?_⟩
  .have e:=dt.1 e
   exact ⟨⟨c1.1,e,by show i<((aa (dwV a).toNat).length:Int) - aW (aa (dwV a).toNat).length; omega⟩,by show (aW (aa (dwV a).toNat).length+i).toNat<(aa (dwV a).toNat).length; omega⟩
  .have e:=ndt.1 e
   have:i=-1:=by omega
   subst this
   refine ⟨⟨rfl,rfl⟩,?_⟩
   show (Ex.exit 0,dwP (-1) (dwV a / PP))=(Ex.exit 0,dwP (-1) n)
   rw [hn,show ((-1:Int)+1).toNat=0 from rfl,List.drop_zero,hv]
  .have e:=dt.1 e
   have hl:i.toNat<(cutL (dwV a)).length:=by omega
   have s1:=FN hl
   have s2:=UK hd i.toNat
   rw [show i.toNat+1=(i+1).toNat by omega,<- hn] at s1
   rw [hv] at s2
   have g0:=hd.get i.toNat
   have n0:0<=n:=by rw [hn]; exact aA (F6 hd _)
   have gd:(aa (dwV a).toNat).getD (aW (aa (dwV a).toNat).length+i).toNat 0=(cutL (dwV a)).getD i.toNat 0:=by
    rw [hc,List.getD_eq_getElem?_getD,List.getD_eq_getElem?_getD,List.getElem?_drop]
    congr 2
    omega
   have w1:IntKind.i64.wrap (n*1000000000)=n*1000000000:=iw (by omega) (by omega)
   have w2:IntKind.i64.wrap (n*1000000000+(cutL (dwV a)).getD i.toNat 0)=n*1000000000+(cutL (dwV a)).getD i.toNat 0:=iw (by omega) (by omega)
   refine ⟨⟨?_,iw (by omega) (by omega)⟩,⟨by show -1<=i - 1; omega,by show i - 1<_; omega,?_⟩,by show (i - 1+1).toNat<(i+1).toNat; omega,rfl⟩
   .show IntKind.i64.wrap (IntKind.i64.wrap (n*1000000000)+(aa (dwV a).toNat).getD (aW (aa (dwV a).toNat).length+i).toNat 0)=_
    rw [w1,gd,w2]
   .show n*1000000000+(cutL (dwV a)).getD i.toNat 0=val ((cutL (dwV a)).drop (i - 1+1).toNat)
    rw [show (i - 1+1).toNat=i.toNat by omega,s1]; omega
noncomputable def X6 (a:List Int):Ctx:=aZ cZ [bW 77 (dwS a).hp.clock OX dwA (dwS a) (.exit 0) (dwP (-1) (dwV a / PP))]
theorem UM {a:List Int} (h:DwD a):CtxOk (X6 a):=aO aK (UL h) (cz aK)
def UN (a:List Int):Prop:=((((0:Int)<4294967296/\(4294967296:Int)<1000000000000000000)/\(((↑a.length:Int)=(↑a.length:Int)/\(↑(aa (Int.toNat (4294967296:Int))).length:Int)=(↑(aa (Int.toNat (4294967296:Int))).length:Int))/\Dig a/\Dig (aa (Int.toNat (4294967296:Int)))/\a.length+(aa (Int.toNat (4294967296:Int))).length<=(500000:Nat))/\((0:Int)<=aW (↑(aa (val a*val (aa (Int.toNat (4294967296:Int)))).toNat).length:Int))/\(aW (↑(aa (val a*val (aa (Int.toNat (4294967296:Int)))).toNat).length:Int))<=(↑(aa (val a*val (aa (Int.toNat (4294967296:Int)))).toNat).length:Int)/\(↑(aa (val a*val (aa (Int.toNat (4294967296:Int)))).toNat).length:Int)<=(↑(aa (val a*val (aa (Int.toNat (4294967296:Int)))).toNat).length:Int))/\At (OX) (OX) (dwA) (dwA) (dwS a) (dwS a))
def X7 (a:List Int):AV:=(AV.int true IntKind.i64 (dwV a / PP))
def X8 (a:List Int):Hp:=⟨[{ wr:=(0:Nat),body:=ABody.rows IntKind.i64 a }],1,28⟩
theorem adx (a:List Int):(run (X6 a) 300).call 77 (vB a) (zH a)=some ⟨.p (UN a),[⟨.tt,X7 a,X8 a⟩]⟩:=by kernel_rfl
def X9:List Nu->List (List Int)->Option (Prop×To)
 | [.n k],[a]=>some (k=5/\DwD a,.nu .i64 (val a*4294967296 / PP))
 | _,_=>none
theorem OZ (a:List Int):dwV a=val a*4294967296:=by
 unfold dwV
 rw [dv (by decide)]
theorem UO:NOk Tryd.prog (fun _=>none) hG0 77 (eG hG0 .i64 [.li,.nu (.i .i64)] X9):=by
 refine fD (fun xs ys p t e h=>?_) ⟨_,Tryd.func77,rfl⟩
 unfold X9 at e
 split at e
 .rename_i k y
  cases e
  obtain ⟨rfl,h⟩:=h
  have hd:=h.d
  have hl:=h.l
  have c1:=vE (n:=((aa (dwV y).toNat).length:Int)) (by omega)
  have l2:(aa (4294967296:Int).toNat).length<=2:=jd (by decide) (by decide)
  exact ⟨X6 y,300,vB y,_,_,_,_,_,UM h,rfl,rfl,⟨rfl,⟨rfl,rfl⟩,trivial⟩,adx y,rfl,⟨⟨⟨by decide,by decide⟩,⟨⟨rfl,rfl⟩,hd,aH _,by show _+(aa (4294967296:Int).toNat).length<=_; omega⟩,⟨c1.1,c1.2,Int.le_refl _⟩⟩,⟨rfl,rfl,rfl⟩⟩,rfl,rfl,by show dwV y / PP=_; rw [OZ]⟩
 .cases e
def Gb:AFr:=⟨85,none⟩
noncomputable def arA:Code:=iW Tryd.prog 85 0
def Ir (x:Int) (one:List Int):List AV:=[.int true .i64 x,.lslice 0 one.length]
noncomputable def arS (x:Int) (one:List Int):St:=ug cZ 300 85 (Ir x one) (zH one)
noncomputable def cAr (e m:Bool):Ctx:=cZb [(22,e),(26,m)]
theorem Dl (e m:Bool):CtxOk (cAr e m):=Ip _
def arP:Option (Int×Int×Int)->Patch
 | none=>⟨(8,.int true .i64 1) :: (9,.any false) :: fA 15 18,[],[]⟩
 | some (i,t,s)=>⟨(5,.lslice 6 (aa s.toNat).length) :: (8,.int true .i64 i) :: (9,.any false) :: fA 15 18,[(4,.cells [.lslice 5 (aa t.toNat).length])],[.rows .i64 (aa s.toNat),.rows .i64 (aa t.toNat)]⟩
def arX (s:Int):Patch:=⟨(4,.lslice 5 (aa s.toNat).length) :: (5,.any false) :: (8,.any false) :: (9,.any false) :: fA 15 18,[(4,.dead)],[.rows .i64 (aa s.toNat)]⟩
def arQ (x:Int) (one:List Int):Int:=val one*x / (x*x)
def arR (x:Int) (one:List Int):Option (Int×Int×Int)->Int
 | none=>dw x 200 1 (val one*x) 0
 | some (i,t,s)=>dw x (200 - (i / 2).toNat) i t s
def arU (x:Int) (one:List Int):SumL (Option (Int×Int×Int)):=
 {
  S:=arP
  I:=fun y=>match y with
   | none=>True
   | some (i,t,s)=>0<t/\i % 2=1/\2<i/\i<=399/\2 ^ (i / 2).toNat*t<=4*PP/\0<=s/\(i % 4=3->t / (i - 2)<=s)/\s<=i*PP
  μ:=fun y=>match y with
   | none=>400
   | some (i,_,_)=>(400 - i).toNat
  F:=fun y=>(.ret,arX (arR x one y))
  next:=fun y=>match y with
   | none=>some (3,arQ x one,arQ x one / 1)
   | some (i,t,s)=>some (i+2,t / (x*x),match decide (i % 4=1) with|true=>s+t / (x*x) / i|false=>s - t / (x*x) / i)
  ids:=fun y=>match y with
   | none=>[5,7]
   | some _=>[7,9]
  X:=fun y _=>match y with
   | none=>none
   | some (_,_,s)=>some (arX s,[6]) }
def Gc (x:Int) (one:List Int):Prop:=(1:Int)=1
theorem O0 (x:Int) (one:List Int):fit (arS x one) (arS x one) (ah (arS x one) ((arU x one).S none)) ([])=some (.p (Gc x one)):=by kernel_rfl
def O1 (x:Int) (one:List Int):Prop:=((((↑(aa (val one*val [x]).toNat).length:Int)=(↑(aa (val one*val [x]).toNat).length:Int)/\Dig (aa (val one*val [x]).toNat)/\(aa (val one*val [x]).toNat).length<=(500000:Nat)/\(1:Int)<=IntKind.i64.wrap (x*x)/\IntKind.i64.wrap (x*x)<=1000000000)/\(↑(aa (val (aa (val one*val [x]).toNat) / IntKind.i64.wrap (x*x)).toNat).length:Int)=(↑(aa (val (aa (val one*val [x]).toNat) / IntKind.i64.wrap (x*x)).toNat).length:Int)/\Dig (aa (val (aa (val one*val [x]).toNat) / IntKind.i64.wrap (x*x)).toNat)/\(aa (val (aa (val one*val [x]).toNat) / IntKind.i64.wrap (x*x)).toNat).length<=(500000:Nat)/\(1:Int)<=1/\(1:Int)<=1000000000)/\((↑(aa (val (aa (val (aa (val one*val [x]).toNat) / IntKind.i64.wrap (x*x)).toNat) / (1:Int)).toNat).length:Int)==0)=false/\(Int.tmod (1:Int) (4:Int)==1)=true/\(↑(aa (val (aa (val (aa (val one*val [x]).toNat) / IntKind.i64.wrap (x*x)).toNat) / (1:Int)).toNat).length:Int)=(↑(aa (val (aa (val (aa (val one*val [x]).toNat) / IntKind.i64.wrap (x*x)).toNat) / (1:Int)).toNat).length:Int)/\Dig []/\Dig (aa (val (aa (val (aa (val one*val [x]).toNat) / IntKind.i64.wrap (x*x)).toNat) / (1:Int)).toNat)/\((0:Nat)<([]:List Int).length\/(0:Nat)<(aa (val (aa (val (aa (val one*val [x]).toNat) / IntKind.i64.wrap (x*x)).toNat) / (1:Int)).toNat).length)/\([]:List Int).length<=(400000:Nat)/\(aa (val (aa (val (aa (val one*val [x]).toNat) / IntKind.i64.wrap (x*x)).toNat) / (1:Int)).toNat).length<=(400000:Nat))/\(true=true->(((↑(aa (val []+val (aa (val (aa (val (aa (val one*val [x]).toNat) / IntKind.i64.wrap (x*x)).toNat) / (1:Int)).toNat)).toNat).length:Int)=(↑(aa (arQ x one / (1:Int)).toNat).length:Int)/\IntKind.i64.wrap ((1:Int)+2)=3)/\(↑(aa (val (aa (val one*val [x]).toNat) / IntKind.i64.wrap (x*x)).toNat).length:Int)=(↑(aa (arQ x one).toNat).length:Int)/\aa (val []+val (aa (val (aa (val (aa (val one*val [x]).toNat) / IntKind.i64.wrap (x*x)).toNat) / (1:Int)).toNat)).toNat=aa (arQ x one / (1:Int)).toNat/\aa (val (aa (val one*val [x]).toNat) / IntKind.i64.wrap (x*x)).toNat=aa (arQ x one).toNat)/\(arU x one).I ((arU x one).next none)/\(arU x one).μ ((arU x one).next none)<(arU x one).μ none/\(arU x one).F ((arU x one).next none)=(arU x one).F none)
theorem abu (x:Int) (one:List Int):dW (arS x one) ((arU x one).way (none)) ((run (cAr false true) 300).code Gb arA (ah (arS x one) ((arU x one).S none)))=some (.p (O1 x one)):=by kernel_rfl
def O3 (x:Int) (one:List Int) (i t s:Int):Prop:=((((↑(aa t.toNat).length:Int)=(↑(aa t.toNat).length:Int)/\Dig (aa t.toNat)/\(aa t.toNat).length<=(500000:Nat)/\(1:Int)<=IntKind.i64.wrap (x*x)/\IntKind.i64.wrap (x*x)<=1000000000)/\(↑(aa (val (aa t.toNat) / IntKind.i64.wrap (x*x)).toNat).length:Int)=(↑(aa (val (aa t.toNat) / IntKind.i64.wrap (x*x)).toNat).length:Int)/\Dig (aa (val (aa t.toNat) / IntKind.i64.wrap (x*x)).toNat)/\(aa (val (aa t.toNat) / IntKind.i64.wrap (x*x)).toNat).length<=(500000:Nat)/\(1:Int)<=i/\i<=1000000000)/\((↑(aa (val (aa (val (aa t.toNat) / IntKind.i64.wrap (x*x)).toNat) / i).toNat).length:Int)==0)=false/\(i.tmod (4:Int)==1)=true/\((↑(aa s.toNat).length:Int)=(↑(aa s.toNat).length:Int)/\(↑(aa (val (aa (val (aa t.toNat) / IntKind.i64.wrap (x*x)).toNat) / i).toNat).length:Int)=(↑(aa (val (aa (val (aa t.toNat) / IntKind.i64.wrap (x*x)).toNat) / i).toNat).length:Int))/\Dig (aa s.toNat)/\Dig (aa (val (aa (val (aa t.toNat) / IntKind.i64.wrap (x*x)).toNat) / i).toNat)/\((0:Nat)<(aa s.toNat).length\/(0:Nat)<(aa (val (aa (val (aa t.toNat) / IntKind.i64.wrap (x*x)).toNat) / i).toNat).length)/\(aa s.toNat).length<=(400000:Nat)/\(aa (val (aa (val (aa t.toNat) / IntKind.i64.wrap (x*x)).toNat) / i).toNat).length<=(400000:Nat))/\(true=true->(((↑(aa (val (aa s.toNat)+val (aa (val (aa (val (aa t.toNat) / IntKind.i64.wrap (x*x)).toNat) / i).toNat)).toNat).length:Int)=(↑(aa (match decide (i % (4:Int)=1) with|true=>s+t / (x*x) / i|false=>s - t / (x*x) / i).toNat).length:Int)/\IntKind.i64.wrap (i+2)=i+2)/\(↑(aa (val (aa t.toNat) / IntKind.i64.wrap (x*x)).toNat).length:Int)=(↑(aa (t / (x*x)).toNat).length:Int)/\aa (val (aa s.toNat)+val (aa (val (aa (val (aa t.toNat) / IntKind.i64.wrap (x*x)).toNat) / i).toNat)).toNat=aa (match decide (i % (4:Int)=1) with|true=>s+t / (x*x) / i|false=>s - t / (x*x) / i).toNat/\aa (val (aa t.toNat) / IntKind.i64.wrap (x*x)).toNat=aa (t / (x*x)).toNat)/\(arU x one).I ((arU x one).next (some (i,t,s)))/\(arU x one).μ ((arU x one).next (some (i,t,s)))<(arU x one).μ (some (i,t,s))/\(arU x one).F ((arU x one).next (some (i,t,s)))=(arU x one).F (some (i,t,s)))
theorem abv (x:Int) (one:List Int) (i t s:Int):dW (arS x one) ((arU x one).way ((some (i,t,s)))) ((run (cAr false true) 300).code Gb arA (ah (arS x one) ((arU x one).S (some (i,t,s)))))=some (.p (O3 x one i t s)):=by kernel_rfl
def O4 (x:Int) (one:List Int) (i t s:Int):Prop:=((((↑(aa t.toNat).length:Int)=(↑(aa t.toNat).length:Int)/\Dig (aa t.toNat)/\(aa t.toNat).length<=(500000:Nat)/\(1:Int)<=IntKind.i64.wrap (x*x)/\IntKind.i64.wrap (x*x)<=1000000000)/\(↑(aa (val (aa t.toNat) / IntKind.i64.wrap (x*x)).toNat).length:Int)=(↑(aa (val (aa t.toNat) / IntKind.i64.wrap (x*x)).toNat).length:Int)/\Dig (aa (val (aa t.toNat) / IntKind.i64.wrap (x*x)).toNat)/\(aa (val (aa t.toNat) / IntKind.i64.wrap (x*x)).toNat).length<=(500000:Nat)/\(1:Int)<=i/\i<=1000000000)/\((↑(aa (val (aa (val (aa t.toNat) / IntKind.i64.wrap (x*x)).toNat) / i).toNat).length:Int)==0)=false/\(i.tmod (4:Int)==1)=false/\((↑(aa s.toNat).length:Int)=(↑(aa s.toNat).length:Int)/\(↑(aa (val (aa (val (aa t.toNat) / IntKind.i64.wrap (x*x)).toNat) / i).toNat).length:Int)=(↑(aa (val (aa (val (aa t.toNat) / IntKind.i64.wrap (x*x)).toNat) / i).toNat).length:Int))/\Dig (aa s.toNat)/\Dig (aa (val (aa (val (aa t.toNat) / IntKind.i64.wrap (x*x)).toNat) / i).toNat)/\(0:Nat)<(aa s.toNat).length/\(aa s.toNat).length<=(500000:Nat)/\(aa (val (aa (val (aa t.toNat) / IntKind.i64.wrap (x*x)).toNat) / i).toNat).length<=(aa s.toNat).length/\val (aa (val (aa (val (aa t.toNat) / IntKind.i64.wrap (x*x)).toNat) / i).toNat)<=val (aa s.toNat))/\(true=true->(((↑(aa (val (aa s.toNat) - val (aa (val (aa (val (aa t.toNat) / IntKind.i64.wrap (x*x)).toNat) / i).toNat)).toNat).length:Int)=(↑(aa (match decide (i % (4:Int)=1) with|true=>s+t / (x*x) / i|false=>s - t / (x*x) / i).toNat).length:Int)/\IntKind.i64.wrap (i+2)=i+2)/\(↑(aa (val (aa t.toNat) / IntKind.i64.wrap (x*x)).toNat).length:Int)=(↑(aa (t / (x*x)).toNat).length:Int)/\aa (val (aa s.toNat) - val (aa (val (aa (val (aa t.toNat) / IntKind.i64.wrap (x*x)).toNat) / i).toNat)).toNat=aa (match decide (i % (4:Int)=1) with|true=>s+t / (x*x) / i|false=>s - t / (x*x) / i).toNat/\aa (val (aa t.toNat) / IntKind.i64.wrap (x*x)).toNat=aa (t / (x*x)).toNat)/\(arU x one).I ((arU x one).next (some (i,t,s)))/\(arU x one).μ ((arU x one).next (some (i,t,s)))<(arU x one).μ (some (i,t,s))/\(arU x one).F ((arU x one).next (some (i,t,s)))=(arU x one).F (some (i,t,s)))
theorem abw (x:Int) (one:List Int) (i t s:Int):dW (arS x one) ((arU x one).way ((some (i,t,s)))) ((run (cAr false false) 300).code Gb arA (ah (arS x one) ((arU x one).S (some (i,t,s)))))=some (.p (O4 x one i t s)):=by kernel_rfl
def UQ (x:Int) (one:List Int) (i t s:Int):Prop:=((((↑(aa t.toNat).length:Int)=(↑(aa t.toNat).length:Int)/\Dig (aa t.toNat)/\(aa t.toNat).length<=(500000:Nat)/\(1:Int)<=IntKind.i64.wrap (x*x)/\IntKind.i64.wrap (x*x)<=1000000000)/\(↑(aa (val (aa t.toNat) / IntKind.i64.wrap (x*x)).toNat).length:Int)=(↑(aa (val (aa t.toNat) / IntKind.i64.wrap (x*x)).toNat).length:Int)/\Dig (aa (val (aa t.toNat) / IntKind.i64.wrap (x*x)).toNat)/\(aa (val (aa t.toNat) / IntKind.i64.wrap (x*x)).toNat).length<=(500000:Nat)/\(1:Int)<=i/\i<=1000000000)/\((↑(aa (val (aa (val (aa t.toNat) / IntKind.i64.wrap (x*x)).toNat) / i).toNat).length:Int)==0)=true)/\(true=true->((↑(aa s.toNat).length:Int)=(↑(aa s.toNat).length:Int)/\aa s.toNat=aa s.toNat)/\(arU x one).F (some (i,t,s))=(Ex.ret,arX s))
theorem ady (x:Int) (one:List Int) (i t s:Int):dW (arS x one) ((arU x one).way ((some (i,t,s)))) ((run (cAr true false) 300).code Gb arA (ah (arS x one) ((arU x one).S (some (i,t,s)))))=some (.p (UQ x one i t s)):=by kernel_rfl
structure ArD (x:Int) (one:List Int):Prop where
 d:Dig one
 l:one.length<=100
 hi:val one<=PP
 x0:2<=x
 x1:x<=30000
 lo:0<arQ x one / 1
theorem ArD.xx {x:Int} {one:List Int} (h:ArD x one):4<=x*x/\x*x<=900000000/\IntKind.i64.wrap (x*x)=x*x:=by
 have x0:=h.x0
 have x1:=h.x1
 have a:=Int.mul_le_mul (a:=2) (b:=2) (c:=x) (d:=x) x0 x0 (by decide) (by omega)
 have b:=Int.mul_le_mul (a:=x) (b:=x) (c:=30000) (d:=30000) x1 x1 (by omega) (by decide)
 exact ⟨by omega,by omega,iw (by omega) (by omega)⟩
theorem Gd {t m:Int} (ht:0<=t) (hm:2<=m):0<=t / m/\2*(t / m)<=t:=by
 have h0:=Int.ediv_nonneg ht (show 0<=m by omega)
 have h1:=Int.ediv_mul_le t (b:=m) (by omega)
 have h2:=Int.mul_le_mul_of_nonneg_left hm h0
 exact ⟨h0,by omega⟩
theorem JL {t m:Int} (ht:0<=t) (hm:1<=m):0<=t / m/\t / m<=t:=⟨Int.ediv_nonneg ht (by omega),Int.ediv_le_self _ ht⟩
theorem Bn {a b m n:Int} (h0:0<=a) (h1:a<=b) (h2:1<=n) (h3:n<=m):a / m<=b / n:=by
 have p1:=Int.ediv_mul_le a (b:=m) (by omega)
 have p0:0<=a / m:=Int.ediv_nonneg h0 (by omega)
 have p2:=Int.mul_le_mul_of_nonneg_left h3 p0
 exact (Int.le_ediv_iff_mul_le (by omega)).2 (by omega)
theorem ArD.q {x:Int} {one:List Int} (h:ArD x one):0<=arQ x one/\arQ x one<=PP:=by
 have v0:=aA h.d
 have x0:=h.x0
 obtain ⟨a,b,_⟩:=h.xx
 refine ⟨Int.ediv_nonneg (Int.mul_nonneg v0 (by omega)) (by omega),Int.le_trans (Int.ediv_le_of_le_mul (by omega) ?_) h.hi⟩
 refine Int.mul_le_mul_of_nonneg_left ?_ v0
 have:=Int.mul_le_mul_of_nonneg_left (show 1<=x by omega) (show 0<=x by omega)
 omega
theorem O5 {x:Int} {one:List Int} (h:ArD x one):arR x one (some (3,arQ x one,arQ x one / 1))=arR x one none:=by
 show dw x 199 3 _ _=dw x (199+1) 1 (val one*x) 0
 rw [Bj (show val one*x / (x*x) / 1≠0 from by have:=h.lo; unfold arQ at this; omega)]
 show _=dw x 199 (1+2) (val one*x / (x*x)) (0+val one*x / (x*x) / 1)
 rw [Int.zero_add]; rfl
theorem UR {x:Int} {one:List Int} {i t s:Int} (hi:(i / 2).toNat<=199) (h:t / (x*x) / i=0):arR x one (some (i,t,s))=s:=by
 show dw x (200 - (i / 2).toNat) i t s=s
 rw [show 200 - (i / 2).toNat=(199 - (i / 2).toNat)+1 by omega,OM h]
theorem O6 {x:Int} {one:List Int} {i t s:Int} (h0:0<=i) (hi:(i / 2).toNat<=199) (h:t / (x*x) / i≠0):arR x one ((arU x one).next (some (i,t,s)))=arR x one (some (i,t,s)):=by
 show dw x (200 - ((i+2) / 2).toNat) (i+2) (t / (x*x)) _=dw x (200 - (i / 2).toNat) i t s
 rw [show 200 - (i / 2).toNat=(199 - (i / 2).toNat)+1 by omega,Bj h,show 200 - ((i+2) / 2).toNat=199 - (i / 2).toNat by omega]
 first|done|rfl
theorem Ld {x:Int} {one:List Int} (h:ArD x one):(arU x one).I ((arU x one).next none):=by
 obtain ⟨q0,q1⟩:=h.q
 have l0:=h.lo
 rw [Int.ediv_one] at l0
 have p:=fT
 show 0<arQ x one/\(3:Int) % 2=1/\(2:Int)<3/\(3:Int)<=399/\(2:Int) ^ (1:Nat)*arQ x one<=4*PP/\0<=arQ x one / 1/\((3:Int) % 4=3->arQ x one / (3 - 2)<=arQ x one / 1)/\arQ x one / 1<=3*PP
 rw [show (3:Int) - 2=1 from rfl,Int.ediv_one,show (2:Int) ^ (1:Nat)=2 from rfl]
 refine ⟨l0,by decide,by decide,by decide,by omega,q0,by omega,by omega⟩
theorem O7 {x:Int} {one:List Int} (h:ArD x one) {i t s:Int} (hI:(arU x one).I (some (i,t,s))) (h0:t / (x*x) / i≠0):(arU x one).I ((arU x one).next (some (i,t,s))):=by
 obtain ⟨t0,i0,i1,i2,pw,s0,ts,sb⟩:=(show 0<t/\i % 2=1/\2<i/\i<=399/\2 ^ (i / 2).toNat*t<=4*PP/\0<=s/\(i % 4=3->t / (i - 2)<=s)/\s<=i*PP from hI)
 obtain ⟨xa,xb,_⟩:=h.xx
 obtain ⟨b0,b1⟩:=Gd (t:=t) (m:=x*x) (by omega) (by omega)
 obtain ⟨c0,c1⟩:=JL (t:=t / (x*x)) (m:=i) b0 (by omega)
 have cm:i % 4=3->t / (x*x) / i<=t / (i - 2):=fun _=>Bn b0 (by omega) (by omega) (by omega)
 have ce:t / (x*x) / (i+2 - 2)<=t / (x*x) / i:=by rw [show i+2 - 2=i by omega]; exact Int.le_refl _
 have k:=Dj t0 pw
 have hp:(2:Int) ^ ((i+2) / 2).toNat*(t / (x*x))<=4*PP:=by
  rw [show ((i+2) / 2).toNat=(i / 2).toNat+1 by omega,Int.pow_succ,Int.mul_assoc]
  have:(2:Int) ^ (i / 2).toNat*(2*(t / (x*x)))<=2 ^ (i / 2).toNat*t:=Int.mul_le_mul_of_nonneg_left b1 (Int.pow_nonneg (by decide))
  omega
 have ht:t<=2*PP:=by
  have h4:(2:Int)*t<=2 ^ (i / 2).toNat*t:=by
   refine Int.mul_le_mul_of_nonneg_right ?_ (by omega)
   have:=Nat.pow_le_pow_right (n:=2) (by decide) (show 1<=(i / 2).toNat by omega)
   have e1:((2 ^ 1:Nat):Int)<=((2 ^ (i / 2).toNat:Nat):Int):=by exact_mod_cast this
   simpa using e1
  omega
 have e2:(i+2)*PP=i*PP+2*PP:=Int.add_mul _ _ _
 have p:=fT
 have tp:0<t / (x*x):=by
  rcases Int.lt_or_eq_of_le b0 with e|e
  .exact e
  .rw [<- e] at h0; simp at h0
 show 0<t / (x*x)/\(i+2) % 2=1/\2<i+2/\i+2<=399/\2 ^ ((i+2) / 2).toNat*(t / (x*x))<=4*PP/\0<=(match decide (i % 4=1) with|true=>s+t / (x*x) / i|false=>s - t / (x*x) / i)/\((i+2) % 4=3->t / (x*x) / (i+2 - 2)<=(match decide (i % 4=1) with|true=>s+t / (x*x) / i|false=>s - t / (x*x) / i))/\(match decide (i % 4=1) with|true=>s+t / (x*x) / i|false=>s - t / (x*x) / i)<=(i+2)*PP
 have h5:0<=(match decide (i % 4=1) with|true=>s+t / (x*x) / i|false=>s - t / (x*x) / i)/\((i+2) % 4=3->t / (x*x) / (i+2 - 2)<=(match decide (i % 4=1) with|true=>s+t / (x*x) / i|false=>s - t / (x*x) / i))/\(match decide (i % 4=1) with|true=>s+t / (x*x) / i|false=>s - t / (x*x) / i)<=(i+2)*PP:=by
  by_cases hm:i % 4=1
  .rw [show (match decide (i % 4=1) with|true=>s+t / (x*x) / i|false=>s - t / (x*x) / i)=s+t / (x*x) / i by rw [decide_eq_true hm]]
   generalize t / (x*x) / i=u at *
   refine ⟨by omega,by omega,by omega⟩
  .have hm3:i % 4=3:=by omega
   have a1:=ts hm3
   have a2:=cm hm3
   rw [show (match decide (i % 4=1) with|true=>s+t / (x*x) / i|false=>s - t / (x*x) / i)=s - t / (x*x) / i by rw [decide_eq_false hm]]
   generalize t / (x*x) / i=u at *
   generalize t / (i - 2)=w at *
   refine ⟨by omega,by omega,by omega⟩
 refine ⟨tp,by omega,by omega,by omega,hp,h5⟩
theorem ut (x:Int):val [x]=x:=by simp [val]
theorem uu {x:Int} (h0:0<=x) (h1:x<1000000000):Dig [x]:=bO.2 ⟨⟨h0,h1⟩,jO⟩
theorem UT {x:Int} {one:List Int} (h:ArD x one):CodeOk cZ Gb (.loop arA) (arS x one) ⟨.tt,[⟨.tt,.ret,ah (arS x one) (arX (arR x one none))⟩]⟩:=by
 refine lX (arU x one) (y0:=none) trivial ⟨_,O0 x one,rfl⟩ (by kernel_rfl) (fun y hy=>?_) rfl
 have v0:=aA h.d
 have v1:=h.hi
 have yl:=h.l
 have x0:=h.x0
 have x1:=h.x1
 have p:=fT
 obtain ⟨xa,xb,xw⟩:=h.xx
 cases y with
 | none=>
  obtain ⟨q0,q1⟩:=h.q
  have l0:=h.lo
  have e1:val (aa (val one*val [x]).toNat)=val one*x:=by rw [ut,dv (Int.mul_nonneg v0 (by omega))]
  have Q:val (aa (val one*val [x]).toNat) / IntKind.i64.wrap (x*x)=arQ x one:=by rw [e1,xw]; rfl
  have vq:=dv q0
  have vq1:=dv (a:=arQ x one / 1) (by omega)
  have l1:(aa (val one*val [x]).toNat).length<=500000:=by
   rw [ut]
   refine Nat.le_trans (jd (n:=8) (Int.mul_nonneg v0 (by omega)) ?_) (by decide)
   have:=Int.mul_le_mul v1 x1 (by omega) (by omega)
   have e:PP*30000<pw 8:=by decide
   omega
  have lq:=jE q0 (by omega)
  have lq1:=jE (a:=arQ x one / 1) (by omega) (by rw [Int.ediv_one]; omega)
  have lp:=F9 l0
  refine ⟨cAr false true,300,Dl _ _,rfl,rfl,_,abu x one,?_,fun _=>?_⟩
  .rw [Q,xw,vq]
   refine ⟨⟨⟨rfl,aH _,l1,by omega,by omega⟩,rfl,aH _,by omega,by decide,by decide⟩,beq_eq_false_iff_ne.2 (by omega),rfl,rfl,jO,aH _,.inr lp,by decide,by omega⟩
  .rw [Q,vq,vq1]
   have z:val []+arQ x one / 1=arQ x one / 1:=Int.zero_add _
   rw [z]
   exact ⟨⟨⟨rfl,by decide⟩,rfl,rfl,rfl⟩,Ld h,by show (400 - 3:Int).toNat<400; omega,congrArg (fun z=>(Ex.ret,arX z)) (O5 h)⟩
 | some y=>
  obtain ⟨i,t,s⟩:=y
  have hI:=hy
  obtain ⟨t0,i0,i1,i2,pw2,s0,ts,sb⟩:=(show 0<t/\i % 2=1/\2<i/\i<=399/\2 ^ (i / 2).toNat*t<=4*PP/\0<=s/\(i % 4=3->t / (i - 2)<=s)/\s<=i*PP from hy)
  have k:=Dj t0 pw2
  obtain ⟨b0,b1⟩:=Gd (t:=t) (m:=x*x) (by omega) (by omega)
  obtain ⟨c0,c1⟩:=JL (t:=t / (x*x)) (m:=i) b0 (by omega)
  have ht:t<=4*PP:=by
   have h4:(1:Int)*t<=2 ^ (i / 2).toNat*t:=by
    refine Int.mul_le_mul_of_nonneg_right ?_ (by omega)
    have:=Nat.one_le_two_pow (n:=(i / 2).toNat)
    have e1:((1:Nat):Int)<=((2 ^ (i / 2).toNat:Nat):Int):=by exact_mod_cast this
    simpa using e1
   omega
  have hs:s<=400*PP:=by
   have:i*PP<=400*PP:=Int.mul_le_mul_of_nonneg_right (by omega) (by omega)
   omega
  have vt:=dv (a:=t) (by omega)
  have vs:=dv s0
  have vb:=dv b0
  have vc:=dv c0
  have dt:=aH t.toNat
  have ds:=aH s.toNat
  have db:=aH (t / (x*x)).toNat
  have dc:=aH (t / (x*x) / i).toNat
  have lt:=jE (a:=t) (by omega) (by omega)
  have ls:=jE s0 hs
  have lb:=jE b0 (by omega)
  have lc:=jE c0 (by omega)
  have w9:IntKind.i64.wrap (i+2)=i+2:=iw (by omega) (by omega)
  by_cases h0:t / (x*x) / i=0
  .refine ⟨cAr true false,300,Dl _ _,rfl,rfl,_,ady x one i t s,?_,fun _=>⟨⟨rfl,rfl⟩,congrArg (fun z=>(Ex.ret,arX z)) (UR (by omega) h0)⟩⟩
   rw [vt,xw,vb,h0]
   exact ⟨⟨⟨rfl,dt,by omega,by omega,by omega⟩,rfl,db,by omega,by omega,by omega⟩,by rw [show aa (0:Int).toNat=[] from dQ]; rfl⟩
  .have lq:=F9 (a:=t / (x*x) / i) (by omega)
   have nx:=O7 h hI h0
   have nr:=O6 (x:=x) (one:=one) (i:=i) (t:=t) (s:=s) (by omega) (by omega) h0
   have mu:(400 - (i+2)).toNat<(400 - i).toNat:=by omega
   by_cases hm:i % 4=1
   .have e4:(match decide (i % 4=1) with|true=>s+t / (x*x) / i|false=>s - t / (x*x) / i)=s+t / (x*x) / i:=by rw [decide_eq_true hm]
    refine ⟨cAr false true,300,Dl _ _,rfl,rfl,_,abv x one i t s,?_,fun _=>?_⟩
    .rw [vt,xw,vb]
     refine ⟨⟨⟨rfl,dt,by omega,by omega,by omega⟩,rfl,db,by omega,by omega,by omega⟩,beq_eq_false_iff_ne.2 (by omega),?_,⟨rfl,rfl⟩,ds,dc,.inr lq,by omega,by omega⟩
     rw [Int.tmod_eq_emod_of_nonneg (by omega),hm]; rfl
    .rw [vt,xw,vb,vc,vs]
     exact ⟨⟨⟨congrArg (fun z:Int=>((aa z.toNat).length:Int)) e4.symm,w9⟩,rfl,congrArg (fun z:Int=>aa z.toNat) e4.symm,rfl⟩,nx,mu,congrArg (fun z=>(Ex.ret,arX z)) nr⟩
   .have hm3:i % 4=3:=by omega
    have a1:=ts hm3
    have a2:t / (x*x) / i<=t / (i - 2):=Bn b0 (by omega) (by omega) (by omega)
    have ql:=XY c0 (show t / (x*x) / i<=s by omega)
    have e4:(match decide (i % 4=1) with|true=>s+t / (x*x) / i|false=>s - t / (x*x) / i)=s - t / (x*x) / i:=by rw [decide_eq_false hm]
    refine ⟨cAr false false,300,Dl _ _,rfl,rfl,_,abw x one i t s,?_,fun _=>?_⟩
    .rw [vt,xw,vb,vc,vs]
     refine ⟨⟨⟨rfl,dt,by omega,by omega,by omega⟩,rfl,db,by omega,by omega,by omega⟩,beq_eq_false_iff_ne.2 (by omega),?_,⟨rfl,rfl⟩,ds,dc,by omega,by omega,ql,by omega⟩
     rw [Int.tmod_eq_emod_of_nonneg (by omega),hm3]; rfl
    .rw [vt,xw,vb,vc,vs]
     exact ⟨⟨⟨congrArg (fun z:Int=>((aa z.toNat).length:Int)) e4.symm,w9⟩,rfl,congrArg (fun z:Int=>aa z.toNat) e4.symm,rfl⟩,nx,mu,congrArg (fun z=>(Ex.ret,arX z)) nr⟩
noncomputable def Ya (x:Int) (one:List Int):Ctx:=aZ cZ [bW 85 (arS x one).hp.clock Gb arA (arS x one) .ret (arX (arR x one none))]
theorem UU {x:Int} {one:List Int} (h:ArD x one):CtxOk (Ya x one):=aO aK (UT h) (cz aK)
end
end Go.Proofs.YtbiiiloimbjpaaaDoor.K
