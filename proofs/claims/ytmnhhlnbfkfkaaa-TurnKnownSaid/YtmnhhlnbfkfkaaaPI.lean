/- What is proved: TurnKnown returns true, whatever the input (part 9). No conditions beyond those of the row. -/
import Derived.Test.YtmnhhlnbfkfkaaaPH
import Derived.KernelRfl
set_option linter.unusedVariables false
set_option linter.unusedSimpArgs false
set_option linter.unusedSectionVars false
namespace Go.Dg
open Go Go.Eng
def subZ:List Int->List Int->List Int
 | x :: a,y :: b=>(x - y) :: subZ a b
 | a,[]=>a
 | [],_ :: _=>[]
def addZ:List Int->List Int->List Int
 | x :: a,y :: b=>(x+y) :: addZ a b
 | a,[]=>a
 | [],_ :: _=>[]
theorem subZ_nil (a:List Int):subZ a []=a:=by cases a <;> rfl
theorem addZ_nil (a:List Int):addZ a []=a:=by cases a <;> rfl
theorem subZ_len:∀ a b:List Int,(subZ a b).length=a.length
 | [],[]=>rfl
 | x :: a,[]=>rfl
 | [],_ :: _=>rfl
 | x :: a,y :: b=>by simp [subZ,subZ_len a b]
theorem addZ_len:∀ a b:List Int,(addZ a b).length=a.length
 | [],[]=>rfl
 | x :: a,[]=>rfl
 | [],_ :: _=>rfl
 | x :: a,y :: b=>by simp [addZ,addZ_len a b]
theorem subZ_get:∀ (a b:List Int) (i:Nat),i<a.length->(subZ a b).getD i 0=a.getD i 0 - b.getD i 0
 | [],_,i,h=>by simp at h
 | x :: a,[],i,h=>by simp [subZ]
 | x :: a,y :: b,0,h=>by simp [subZ]
 | x :: a,y :: b,i+1,h=>by
  have:=subZ_get a b i (by simpa using h)
  simpa [subZ] using this
theorem addZ_get:∀ (a b:List Int) (i:Nat),i<a.length->(addZ a b).getD i 0=a.getD i 0+b.getD i 0
 | [],_,i,h=>by simp at h
 | x :: a,[],i,h=>by simp [addZ]
 | x :: a,y :: b,0,h=>by simp [addZ]
 | x :: a,y :: b,i+1,h=>by
  have:=addZ_get a b i (by simpa using h)
  simpa [addZ] using this
theorem subZ_step:∀ (a b:List Int) (i:Nat),i<b.length->b.length<=a.length->(subZ a (b.take i)).set i ((subZ a (b.take i)).getD i 0 - b.getD i 0)=subZ a (b.take (i+1))
 | _,[],i,h,_=>by simp at h
 | [],y :: b,i,h,h2=>by simp at h2
 | x :: a,y :: b,0,h,_=>by simp [subZ,subZ_nil]
 | x :: a,y :: b,i+1,h,h2=>by
  have:=subZ_step a b i (by simpa using h) (by simpa using h2)
  simpa [subZ] using this
theorem addZ_step:∀ (a b:List Int) (i:Nat),i<b.length->b.length<=a.length->(addZ a (b.take i)).set i ((addZ a (b.take i)).getD i 0+b.getD i 0)=addZ a (b.take (i+1))
 | _,[],i,h,_=>by simp at h
 | [],y :: b,i,h,h2=>by simp at h2
 | x :: a,y :: b,0,h,_=>by simp [addZ,addZ_nil]
 | x :: a,y :: b,i+1,h,h2=>by
  have:=addZ_step a b i (by simpa using h) (by simpa using h2)
  simpa [addZ] using this
theorem subZ_val:∀ (a b:List Int),b.length<=a.length->val (subZ a b)=val a - val b
 | a,[],_=>by simp [subZ_nil,val]
 | [],y :: b,h=>by simp at h
 | x :: a,y :: b,h=>by
  have:=subZ_val a b (by simpa using h)
  simp only [subZ,val]
  omega
theorem addZ_val:∀ (a b:List Int),b.length<=a.length->val (addZ a b)=val a+val b
 | a,[],_=>by simp [addZ_nil,val]
 | [],y :: b,h=>by simp at h
 | x :: a,y :: b,h=>by
  have:=addZ_val a b (by simpa using h)
  simp only [addZ,val]
  omega
theorem dig_of {d:List Int} (h:∀ j,j<d.length->0<=d.getD j 0/\d.getD j 0<1000000000):Dig d:=by
 intro x hx
 obtain ⟨j,hj,rfl⟩:=List.getElem_of_mem hx
 have:=h j hj
 simpa [List.getD_eq_getElem?_getD,List.getElem?_eq_getElem hj] using this
structure NbI (L:Nat) (V:Int) (i:Nat) (d:List Int):Prop where
 l:d.length=L
 i1:i<=L
 lo:∀ j,j<i->0<=d.getD j 0/\d.getD j 0<1000000000
 me:-1000000000<=d.getD i 0/\d.getD i 0<1000000000
 hi:∀ j,i<j->-1000000000<d.getD j 0/\d.getD j 0<1000000000
 v:val d=V
theorem NbI.start {a b:List Int} (ha:Dig a) (hb:Dig b) (hl:b.length<=a.length):NbI a.length (val a - val b) 0 (subZ a b):=by
 have g:∀ j,-1000000000<(subZ a b).getD j 0/\(subZ a b).getD j 0<1000000000:=by
  intro j
  rcases Nat.lt_or_ge j a.length with h|h
  .rw [subZ_get a b j h]
   have:=ha.get j
   have:=hb.get j
   omega
  .rw [List.getD_eq_getElem?_getD,List.getElem?_eq_none (by rw [subZ_len]; exact h)]
   simp
 exact ⟨subZ_len a b,Nat.zero_le _,fun j hj=>by omega,⟨by have:=g 0; omega,(g 0).2⟩,fun j _=>g j,subZ_val a b hl⟩
theorem neg_top {d:List Int} {i:Nat} (hl:d.length=i+1) (lo:∀ j,j<i->0<=d.getD j 0/\d.getD j 0<1000000000) (hn:d.getD i 0<0):val d<0:=by
 have e:val d=val (d.take i)+pw i*d.getD i 0:=by
  rw [<- val_take_succ (by omega),<- hl,List.take_length]
 have dg:Dig (d.take i):=by
  apply dig_of
  intro j hj
  rw [List.length_take] at hj
  have:=lo j (by omega)
  simpa [List.getD_eq_getElem?_getD,List.getElem?_take,show j<i by omega] using this
 have h1:=val_lt dg
 rw [List.length_take,Nat.min_eq_left (by omega)] at h1
 have h2:pw i*d.getD i 0<=pw i * -1:=Int.mul_le_mul_of_nonneg_left (by omega) (Int.le_of_lt (pw_pos i))
 omega
theorem NbI.in {L:Nat} {V:Int} {i:Nat} {d:List Int} (h:NbI L V i d) (hV:0<=V) (hi:i<L) (hn:d.getD i 0<0):i+1<L:=by
 rcases Nat.lt_or_ge (i+1) L with h1|h1
 .exact h1
 .have:=neg_top (i:=i) (by rw [h.l]; omega) h.lo hn
  rw [h.v] at this
  omega
theorem NbI.skip {L:Nat} {V:Int} {i:Nat} {d:List Int} (h:NbI L V i d) (hi:i<L) (hn:¬ d.getD i 0<0):NbI L V (i+1) d:=by
 obtain ⟨l,i1,lo,me,hi',v⟩:=h
 refine ⟨l,hi,fun j hj=>?_,?_,fun j hj=>hi' j (by omega),v⟩
 .rcases Nat.lt_or_ge j i with h1|h1
  .exact lo j h1
  .have:j=i:=by omega
   subst this; omega
 .have:=hi' (i+1) (by omega); omega
theorem NbI.step {L:Nat} {V:Int} {i:Nat} {d:List Int} (h:NbI L V i d) (hV:0<=V) (hi:i<L) (hn:d.getD i 0<0):
  NbI L V (i+1) ((d.set i (d.getD i 0+1000000000)).set (i+1) ((d.set i (d.getD i 0+1000000000)).getD (i+1) 0 - 1)):=by
 have h1:=h.in hV hi hn
 obtain ⟨l,i1,lo,me,hi',v⟩:=h
 have e1:(d.set i (d.getD i 0+1000000000)).getD (i+1) 0=d.getD (i+1) 0:=getD_set (by omega)
 rw [e1]
 have hn1:=hi' (i+1) (by omega)
 refine ⟨by simp [l],hi,fun j hj=>?_,?_,fun j hj=>?_,?_⟩
 .rw [getD_set (by omega)]
  rcases Nat.lt_or_ge j i with h2|h2
  .rw [getD_set (by omega)]; exact lo j h2
  .have:j=i:=by omega
   subst this
   rw [getD_set_self (by omega)]; omega
 .rw [getD_set_self (by rw [List.length_set]; omega)]; omega
 .rw [getD_set (by omega),getD_set (by omega)]
  exact hi' j (by omega)
 .rw [val_set _ _ _ (by rw [List.length_set]; omega),val_set _ _ _ (by omega),e1,pw_succ]
  grind
theorem NbI.fin {L:Nat} {V:Int} {d:List Int} (h:NbI L V L d):d=padL L V:=by
 exact padL_uni (dig_of fun j hj=>h.lo j (by rw [<- h.l]; exact hj)) h.l h.v
structure NcI (L:Nat) (V:Int) (i:Nat) (d:List Int):Prop where
 l:d.length=L+1
 i1:i<=L
 lo:∀ j,j<i->0<=d.getD j 0/\d.getD j 0<1000000000
 me:0<=d.getD i 0/\d.getD i 0<2000000000
 hi:∀ j,i<j->0<=d.getD j 0/\d.getD j 0<1999999999
 t0:i<L->d.getD L 0=0
 t1:d.getD L 0<=1
 v:val d=V
theorem NcI.start {a b:List Int} (ha:Dig a) (hb:Dig b) (hl:b.length<=a.length):NcI a.length (val a+val b) 0 (addZ (a++[0]) b):=by
 have da:Dig (a++[0]):=dig_app.2 ⟨ha,dig_cons.2 ⟨by omega,dig_nil⟩⟩
 have ll:(a++[(0:Int)]).length=a.length+1:=by simp
 have g:∀ j,0<=(addZ (a++[0]) b).getD j 0/\(addZ (a++[0]) b).getD j 0<1999999999:=by
  intro j
  rcases Nat.lt_or_ge j (a++[(0:Int)]).length with h|h
  .rw [addZ_get _ b j h]
   have:=da.get j
   have:=hb.get j
   omega
  .rw [List.getD_eq_getElem?_getD,List.getElem?_eq_none (by rw [addZ_len]; exact h)]
   simp
 have top:(addZ (a++[0]) b).getD a.length 0=0:=by
  rw [addZ_get _ b _ (by omega)]
  have e1:(a++[(0:Int)]).getD a.length 0=0:=by simp [List.getD_eq_getElem?_getD]
  have e2:b.getD a.length 0=0:=by rw [List.getD_eq_getElem?_getD,List.getElem?_eq_none hl]; rfl
  omega
 refine ⟨by rw [addZ_len,ll],Nat.zero_le _,fun j hj=>by omega,⟨(g 0).1,by have:=(g 0).2; omega⟩,fun j _=>g j,fun _=>top,by omega,?_⟩
 rw [addZ_val _ b (by rw [ll]; omega),val_app]
 simp [val]
theorem NcI.skip {L:Nat} {V:Int} {i:Nat} {d:List Int} (h:NcI L V i d) (hi:i<L) (hn:¬ 1000000000<=d.getD i 0):NcI L V (i+1) d:=by
 obtain ⟨l,i1,lo,me,hi',t0,t1,v⟩:=h
 refine ⟨l,hi,fun j hj=>?_,?_,fun j hj=>hi' j (by omega),fun _=>t0 hi,t1,v⟩
 .rcases Nat.lt_or_ge j i with h1|h1
  .exact lo j h1
  .have:j=i:=by omega
   subst this; omega
 .have:=hi' (i+1) (by omega); omega
theorem NcI.step {L:Nat} {V:Int} {i:Nat} {d:List Int} (h:NcI L V i d) (hi:i<L) (hn:1000000000<=d.getD i 0):
  NcI L V (i+1) ((d.set i (d.getD i 0 - 1000000000)).set (i+1) ((d.set i (d.getD i 0 - 1000000000)).getD (i+1) 0+1)):=by
 obtain ⟨l,i1,lo,me,hi',t0,t1,v⟩:=h
 have e1:(d.set i (d.getD i 0 - 1000000000)).getD (i+1) 0=d.getD (i+1) 0:=getD_set (by omega)
 rw [e1]
 have hn1:=hi' (i+1) (by omega)
 refine ⟨by simp [l],hi,fun j hj=>?_,?_,fun j hj=>?_,fun h2=>?_,?_,?_⟩
 .rw [getD_set (by omega)]
  rcases Nat.lt_or_ge j i with h2|h2
  .rw [getD_set (by omega)]; exact lo j h2
  .have:j=i:=by omega
   subst this
   rw [getD_set_self (by omega)]; omega
 .rw [getD_set_self (by rw [List.length_set]; omega)]; omega
 .rw [getD_set (by omega),getD_set (by omega)]
  exact hi' j (by omega)
 .rw [getD_set (by omega),getD_set (by omega)]
  exact t0 hi
 .rcases Nat.lt_or_ge (i+1) L with h2|h2
  .rw [getD_set (by omega),getD_set (by omega),t0 hi]; decide
  .have e2:i+1=L:=by omega
   have z:=t0 hi
   rw [<- e2] at z ⊢
   rw [getD_set_self (by rw [List.length_set]; omega),z]; decide
 .rw [val_set _ _ _ (by rw [List.length_set]; omega),val_set _ _ _ (by omega),e1,pw_succ]
  grind
theorem NcI.fin {L:Nat} {V:Int} {d:List Int} (h:NcI L V L d):d=padL (L+1) V:=by
 refine padL_uni (dig_of fun j hj=>?_) h.l h.v
 rw [h.l] at hj
 rcases Nat.lt_or_ge j L with h1|h1
 .exact h.lo j h1
 .have e:j=L:=by omega
  have h2:=h.t1
  have h3:=h.me
  subst e
  omega
end Go.Dg
namespace Go.Proofs.Ytmnhhlnbfkfkaaa.K
open Go Go.Eng Go.Dg
noncomputable section
def miFr:AFr:=⟨69,none⟩
def miA1:Code:=loopOf Try.prog 69 0
def miA2:Code:=loopOf Try.prog 69 1
noncomputable def m1S (a b:List Int):St:=stAt cL 300 69 (zB a b) (zG a b)
def m1P (i:Int) (d:List Int):Patch:=⟨deadT 6 2++(13,.int true .i64 i) :: deadT 14 12,[(2,.ints .i64 d)],[]⟩
def m1X (a b:List Int):Patch:=m1P b.length (subZ a (b.take ((b.length:Int)).toNat))
def m1U (a b:List Int):SumL Int:=
 {
  S:=fun i=>m1P i (subZ a (b.take i.toNat))
  I:=fun i=>0<=i/\i<=b.length
  μ:=fun i=>(b.length - i).toNat
  F:=fun _=>(.exit 0,m1X a b)
  next:=fun i=>i+1
  ids:=fun _=>[]
  X:=fun i _=>some (m1P i (subZ a (b.take i.toNat)),[]) }
noncomputable def cM1 (a b:List Int):Ctx:=withLoops cL [oneLoop 69 (m1S a b).hp.clock miFr miA1 (m1S a b) (.exit 0) (m1X a b)]
noncomputable def m2S (a b:List Int):St:=stAt (cM1 a b) 300 69 (zB a b) (zG a b)
def m2P (i:Int) (d:List Int):Patch:=⟨(8,.any false) :: (28,.int true .i64 i) :: deadT 29 21,[(2,.ints .i64 d)],[]⟩
def miV (a b:List Int):Int:=val a - val b
def m2U (a b:List Int):SumL (Int×List Int):=
 {
  S:=fun (i,d)=>m2P i d
  I:=fun (i,d)=>0<=i/\NbI a.length (miV a b) i.toNat d
  μ:=fun (i,_)=>(a.length - i).toNat
  F:=fun _=>(.exit 2,m2P a.length (padL a.length (miV a b)))
  next:=fun (i,d)=>(i+1,bif decide (d.getD i.toNat 0<0) then (d.set i.toNat (d.getD i.toNat 0+1000000000)).set (i.toNat+1) ((d.set i.toNat (d.getD i.toNat 0+1000000000)).getD (i.toNat+1) 0 - 1) else d)
  ids:=fun _=>[]
  X:=fun (i,d) _=>some (m2P i d,[]) }
def cHb (l:List (Nat×Bool)):Ctx:=hinting cL (hZ (l.map fun x=>(x.1,match x.2 with|true=>.bool false true|false=>.bool false false)))
theorem cHb_ok (l:List (Nat×Bool)):CtxOk (cHb l):=hinting_ok cL_ok _
end
end Go.Proofs.Ytmnhhlnbfkfkaaa.K
namespace Go.Proofs.Ytmnhhlnbfkfkaaa.K
open Go Go.Eng Go.Dg
noncomputable section
def m1_start_nd (a b:List Int):Prop:=(0:Int)=(0:Int)/\a=subZ a (List.take (Int.toNat (0:Int)) b)
theorem m1_start (a b:List Int):fit (m1S a b) (m1S a b) (patch (m1S a b) ((m1U a b).S 0)) ([])=some (.p (m1_start_nd a b)):=by kernel_rfl
def m1_body_nd (a b:List Int) (i:Int):Prop:=(decide (i<(↑b.length:Int))=true->(((0:Int)<=i/\i<(↑b.length:Int))/\i.toNat<b.length)/\((0:Int)<=i/\i<(↑a.length:Int))/\((0:Int)+i).toNat<(subZ a (List.take i.toNat b)).length/\((0:Int)<=i/\i<(↑a.length:Int))/\((0:Int)+i).toNat<(subZ a (List.take i.toNat b)).length)/\((!decide (i<(↑b.length:Int)))=true->(i=i/\subZ a (List.take i.toNat b)=subZ a (List.take i.toNat b))/\(m1U a b).F i=(Ex.exit (0:Nat),m1P i (subZ a (List.take i.toNat b))))/\(decide (i<(↑b.length:Int))=true->(IntKind.i64.wrap (i+(1:Int))=(m1U a b).next i/\(subZ a (List.take i.toNat b)).set ((0:Int)+i).toNat (IntKind.i64.wrap ((subZ a (List.take i.toNat b)).getD ((0:Int)+i).toNat (0:Int) - b.getD i.toNat (0:Int)))=subZ a (List.take ((m1U a b).next i).toNat b))/\(m1U a b).I ((m1U a b).next i)/\(m1U a b).μ ((m1U a b).next i)<(m1U a b).μ i/\(m1U a b).F ((m1U a b).next i)=(m1U a b).F i)
theorem m1_body (a b:List Int) (i:Int):chkR (m1S a b) ((m1U a b).way (i)) ((run cL 300).code miFr miA1 (patch (m1S a b) ((m1U a b).S i)))=some (.p (m1_body_nd a b i)):=by kernel_rfl
def m2_start_nd (a b:List Int):Prop:=(0:Int)=(0:Int)/\subZ a (List.take (↑b.length:Int).toNat b)=subZ a (List.take (↑b.length:Int).toNat b)
theorem m2_start (a b:List Int):fit (m2S a b) (m2S a b) (patch (m2S a b) ((m2U a b).S (0,subZ a (b.take ((b.length:Int)).toNat)))) ([])=some (.p (m2_start_nd a b)):=by kernel_rfl
def m2_end_nd (a b:List Int) (i:Int) (d:List Int):Prop:=decide (i<(↑a.length:Int))=false/\(true=true->(i=i/\d=d)/\(m2U a b).F (i,d)=(Ex.exit (2:Nat),m2P i d))
theorem m2_end (a b:List Int) (i:Int) (d:List Int):chkR (m2S a b) ((m2U a b).way ((i,d))) ((run (cHb [(29,false)]) 300).code miFr miA2 (patch (m2S a b) ((m2U a b).S (i,d))))=some (.p (m2_end_nd a b i d)):=by kernel_rfl
def m2_skip_nd (a b:List Int) (i:Int) (d:List Int):Prop:=(decide (i<(↑a.length:Int))=true/\((0:Int)<=i/\i<(↑a.length:Int))/\((0:Int)+i).toNat<d.length/\decide (d.getD ((0:Int)+i).toNat (0:Int)<(0:Int))=false)/\(true=true->(IntKind.i64.wrap (i+(1:Int))=i+(1:Int)/\d=bif decide (d.getD i.toNat (0:Int)<(0:Int)) then (d.set i.toNat (d.getD i.toNat (0:Int)+(1000000000:Int))).set (i.toNat+(1:Nat)) ((d.set i.toNat (d.getD i.toNat (0:Int)+(1000000000:Int))).getD (i.toNat+(1:Nat)) (0:Int) - (1:Int)) else d)/\(m2U a b).I ((m2U a b).next (i,d))/\(m2U a b).μ ((m2U a b).next (i,d))<(m2U a b).μ (i,d)/\(m2U a b).F ((m2U a b).next (i,d))=(m2U a b).F (i,d))
theorem m2_skip (a b:List Int) (i:Int) (d:List Int):chkR (m2S a b) ((m2U a b).way ((i,d))) ((run (cHb [(29,true),(35,false)]) 300).code miFr miA2 (patch (m2S a b) ((m2U a b).S (i,d))))=some (.p (m2_skip_nd a b i d)):=by kernel_rfl
def m2_step_nd (a b:List Int) (i:Int) (d:List Int):Prop:=(decide (i<(↑a.length:Int))=true/\(((0:Int)<=i/\i<(↑a.length:Int))/\((0:Int)+i).toNat<d.length/\decide (d.getD ((0:Int)+i).toNat (0:Int)<(0:Int))=true)/\(((0:Int)<=i/\i<(↑a.length:Int))/\((0:Int)+i).toNat<d.length/\((0:Int)<=i/\i<(↑a.length:Int))/\((0:Int)+i).toNat<d.length)/\((0:Int)<=IntKind.i64.wrap (i+(1:Int))/\IntKind.i64.wrap (i+(1:Int))<(↑a.length:Int))/\((0:Int)+IntKind.i64.wrap (i+(1:Int))).toNat<(d.set ((0:Int)+i).toNat (IntKind.i64.wrap (d.getD ((0:Int)+i).toNat (0:Int)+(1000000000:Int)))).length/\((0:Int)<=IntKind.i64.wrap (i+(1:Int))/\IntKind.i64.wrap (i+(1:Int))<(↑a.length:Int))/\((0:Int)+IntKind.i64.wrap (i+(1:Int))).toNat<(d.set ((0:Int)+i).toNat (IntKind.i64.wrap (d.getD ((0:Int)+i).toNat (0:Int)+(1000000000:Int)))).length)/\(true=true->(IntKind.i64.wrap (i+(1:Int))=i+(1:Int)/\(d.set ((0:Int)+i).toNat (IntKind.i64.wrap (d.getD ((0:Int)+i).toNat (0:Int)+(1000000000:Int)))).set ((0:Int)+IntKind.i64.wrap (i+(1:Int))).toNat (IntKind.i64.wrap ((d.set ((0:Int)+i).toNat (IntKind.i64.wrap (d.getD ((0:Int)+i).toNat (0:Int)+(1000000000:Int)))).getD ((0:Int)+IntKind.i64.wrap (i+(1:Int))).toNat (0:Int) - (1:Int)))=bif decide (d.getD i.toNat (0:Int)<(0:Int)) then (d.set i.toNat (d.getD i.toNat (0:Int)+(1000000000:Int))).set (i.toNat+(1:Nat)) ((d.set i.toNat (d.getD i.toNat (0:Int)+(1000000000:Int))).getD (i.toNat+(1:Nat)) (0:Int) - (1:Int)) else d)/\(m2U a b).I ((m2U a b).next (i,d))/\(m2U a b).μ ((m2U a b).next (i,d))<(m2U a b).μ (i,d)/\(m2U a b).F ((m2U a b).next (i,d))=(m2U a b).F (i,d))
theorem m2_step (a b:List Int) (i:Int) (d:List Int):chkR (m2S a b) ((m2U a b).way ((i,d))) ((run (cHb [(29,true),(35,true)]) 300).code miFr miA2 (patch (m2S a b) ((m2U a b).S (i,d))))=some (.p (m2_step_nd a b i d)):=by kernel_rfl
end
end Go.Proofs.Ytmnhhlnbfkfkaaa.K
namespace Go.Proofs.Ytmnhhlnbfkfkaaa.K
open Go Go.Eng Go.Dg
noncomputable section
theorem zt (i:Int):(0+i).toNat=i.toNat:=by rw [Int.zero_add]
theorem m1_loop {a b:List Int} (ha:Dig a) (hb:Dig b) (la:Sm a) (hl:b.length<=a.length):CodeOk cL miFr (.loop miA1) (m1S a b) ⟨.tt,[⟨.tt,.exit 0,patch (m1S a b) (m1X a b)⟩]⟩:=by
 have la:=la.le
 refine sumL_one (run_sound cL_ok 300) (m1U a b) (y0:=0) ⟨by omega,by omega⟩ ⟨_,m1_start a b,rfl,(subZ_nil a).symm⟩ (by kernel_rfl) (fun i hi=>⟨_,m1_body a b i,?_⟩) rfl
 obtain ⟨i0,i1⟩:=(show 0<=i/\i<=b.length from hi)
 have ll:=subZ_len a (b.take i.toNat)
 refine ⟨fun h=>?_,fun h=>⟨⟨rfl,rfl⟩,?_⟩,fun h=>?_⟩
 .have h:i<b.length:=dt.1 h
  rw [zt,ll]
  exact ⟨⟨⟨i0,h⟩,by omega⟩,⟨i0,by omega⟩,by omega,⟨i0,by omega⟩,by omega⟩
 .have h:=ndt.1 h
  obtain rfl:i=b.length:=by omega
  rfl
 .have h:i<b.length:=dt.1 h
  have g1:=ha.get i.toNat
  have g2:=hb.get i.toNat
  have e0:(b.take i.toNat).getD i.toNat 0=0:=by rw [List.getD_eq_getElem?_getD,List.getElem?_eq_none (by rw [List.length_take]; omega)]; rfl
  have e1:=subZ_get a (b.take i.toNat) i.toNat (by omega)
  rw [e0] at e1
  refine ⟨⟨iw (by omega) (by omega),?_⟩,?_,?_,rfl⟩
  .rw [zt,iw (by omega) (by omega),subZ_step a b i.toNat (by omega) hl]
   show _=subZ a (b.take (i+1).toNat)
   rw [show (i+1).toNat=i.toNat+1 by omega]
  .show 0<=i+1/\i+1<=b.length
   omega
  .show (b.length - (i+1)).toNat<(b.length - i).toNat
   omega
theorem m2_loop {a b:List Int} (ha:Dig a) (hb:Dig b) (la:Sm a) (hl:b.length<=a.length) (hV:0<=miV a b):CodeOk cL miFr (.loop miA2) (m2S a b) ⟨.tt,[⟨.tt,.exit 2,patch (m2S a b) (m2P a.length (padL a.length (miV a b)))⟩]⟩:=by
 have la:=la.le
 refine sumL_oneC (m2U a b) (y0:=(0,subZ a (b.take ((b.length:Int)).toNat))) ?_ ⟨_,m2_start a b,rfl,rfl⟩ (by kernel_rfl) (fun y hy=>?_) rfl
 .show 0<=(0:Int)/\NbI _ _ _ _
  rw [show ((b.length:Int)).toNat=b.length by omega,List.take_length]
  exact ⟨by decide,NbI.start ha hb hl⟩
 obtain ⟨i,d⟩:=y
 obtain ⟨i0,hI⟩:=(show 0<=i/\NbI a.length (miV a b) i.toNat d from hy)
 obtain ⟨l,i1,lo,me,hi',v⟩:=id hI
 have e2:(i+1).toNat=i.toNat+1:=by omega
 by_cases hlt:i<a.length
 .have iw1:IntKind.i64.wrap (i+1)=i+1:=iw (by omega) (by omega)
  have mu:(a.length - (i+1)).toNat<(a.length - i).toNat:=by omega
  by_cases hn:d.getD i.toNat 0<0
  .have h1:=hI.in hV (by omega) hn
   have h2:=hi' (i.toNat+1) (by omega)
   have e3:(d.set i.toNat (d.getD i.toNat 0+1000000000)).getD (i.toNat+1) 0=d.getD (i.toNat+1) 0:=getD_set (by omega)
   have e4:IntKind.i64.wrap (d.getD i.toNat 0+1000000000)=d.getD i.toNat 0+1000000000:=iw (by omega) (by omega)
   have e5:IntKind.i64.wrap (d.getD (i.toNat+1) 0 - 1)=d.getD (i.toNat+1) 0 - 1:=iw (by omega) (by omega)
   have hb':(bif decide (d.getD i.toNat 0<0) then (d.set i.toNat (d.getD i.toNat 0+1000000000)).set (i.toNat+1) ((d.set i.toNat (d.getD i.toNat 0+1000000000)).getD (i.toNat+1) 0 - 1) else d)=(d.set i.toNat (d.getD i.toNat 0+1000000000)).set (i.toNat+1) ((d.set i.toNat (d.getD i.toNat 0+1000000000)).getD (i.toNat+1) 0 - 1):=by rw [decide_eq_true hn]; rfl
   refine ⟨cHb [(29,true),(35,true)],300,cHb_ok _,rfl,rfl,_,m2_step a b i d,?_,fun _=>?_⟩
   .rw [zt,iw1,zt,e2,e4,List.length_set]
    exact ⟨decide_eq_true hlt,⟨⟨i0,hlt⟩,by omega,decide_eq_true hn⟩,⟨⟨i0,hlt⟩,by omega,⟨i0,hlt⟩,by omega⟩,⟨by omega,by omega⟩,by omega,⟨by omega,by omega⟩,by omega⟩
   .refine ⟨⟨iw1,?_⟩,?_,mu,rfl⟩
    .rw [zt,iw1,zt,e2,e4,hb',e3,e5]
    .show 0<=i+1/\NbI _ _ (i+1).toNat _
     rw [e2,hb']
     exact ⟨by omega,hI.step hV (by omega) hn⟩
  .have hb':(bif decide (d.getD i.toNat 0<0) then (d.set i.toNat (d.getD i.toNat 0+1000000000)).set (i.toNat+1) ((d.set i.toNat (d.getD i.toNat 0+1000000000)).getD (i.toNat+1) 0 - 1) else d)=d:=by rw [decide_eq_false hn]; rfl
   refine ⟨cHb [(29,true),(35,false)],300,cHb_ok _,rfl,rfl,_,m2_skip a b i d,?_,fun _=>⟨⟨iw1,hb'.symm⟩,?_,mu,rfl⟩⟩
   .rw [zt]
    exact ⟨decide_eq_true hlt,⟨i0,hlt⟩,by omega,decide_eq_false hn⟩
   .show 0<=i+1/\NbI _ _ (i+1).toNat _
    rw [e2,hb']
    exact ⟨by omega,hI.skip (by omega) hn⟩
 .refine ⟨cHb [(29,false)],300,cHb_ok _,rfl,rfl,_,m2_end a b i d,decide_eq_false hlt,fun _=>⟨⟨rfl,rfl⟩,?_⟩⟩
  have e:i.toNat=a.length:=by omega
  rw [e] at hI
  show (Ex.exit 2,m2P a.length (padL a.length (miV a b)))=(Ex.exit 2,m2P i d)
  rw [<- hI.fin,show i=a.length by omega]
end
end Go.Proofs.Ytmnhhlnbfkfkaaa.K
namespace Go.Proofs.Ytmnhhlnbfkfkaaa.K
open Go Go.Eng Go.Dg
noncomputable section
noncomputable def mtS (a b d:List Int) (N:Int):St:=stAt cL 300 75 [.islice true 2 0 N] ⟨[⟨23,.ints .i64 d⟩,⟨0,.rows .i64 b⟩,⟨0,.rows .i64 a⟩],3,26⟩
theorem mt_start (a b d:List Int) (N:Int):fit (mtS a b d N) (mtS a b d N) (patch (mtS a b d N) ((trU 2 d N).S N)) []=some (.p ((0:Int)=0/\N=N)):=by kernel_rfl
theorem mt_body (a b d:List Int) (N y:Int):chkR (mtS a b d N) ((trU 2 d N).way y) ((run cL 300).code trFr trA (patch (mtS a b d N) ((trU 2 d N).S y)))=some (.p (trN 2 d N y)):=by kernel_rfl
theorem mt_loop (a b:List Int) {d:List Int} {N:Int} (hN:N=d.length) (ld:Sm d):CodeOk cL trFr (.loop trA) (mtS a b d N) ⟨.tt,[⟨.tt,.exit 0,patch (mtS a b d N) (trP 2 (tlI d N))⟩]⟩:=tr_loop hN ld (mt_start a b d N) (by kernel_rfl) (fun y=>mt_body a b d N y)
def miD (a b:List Int):List Int:=padL a.length (miV a b)
noncomputable def cMt (a b:List Int):Ctx:=withLoops cL [oneLoop 69 (m1S a b).hp.clock miFr miA1 (m1S a b) (.exit 0) (m1X a b),oneLoop 69 (m2S a b).hp.clock miFr miA2 (m2S a b) (.exit 2) (m2P a.length (miD a b)),
 oneLoop 75 29 trFr trA (mtS a b (miD a b) a.length) (.exit 0) (trP 2 (tlI (miD a b) a.length))]
theorem miD_len (a b:List Int):(miD a b).length=a.length:=padL_len _ _
theorem cMt_ok {a b:List Int} (ha:Dig a) (hb:Dig b) (la:Sm a) (hl:b.length<=a.length) (hV:0<=miV a b):CtxOk (cMt a b):=
 withLoop_ok cL_ok (m1_loop ha hb la hl) (withLoop_ok cL_ok (m2_loop ha hb la hl hV) (withLoop_ok cL_ok (mt_loop a b (by rw [miD_len]) (by show (miD a b).length<=500000; rw [miD_len]; exact la)) (withNone_ok cL_ok)))
end
end Go.Proofs.Ytmnhhlnbfkfkaaa.K
namespace Go.Proofs.Ytmnhhlnbfkfkaaa.K
open Go Go.Eng Go.Dg
noncomputable section
def mi_t_nd (a b:List Int):Prop:=(((0:Int)<(↑a.length:Int)/\(↑a.length:Int)=(↑a.length:Int)/\(0:Int)<(↑a.length:Int)/\(↑a.length:Int)<=(1048576:Int))/\At (miFr) (miFr) (miA1) (miA1) (m1S a b) (m1S a b)/\At (miFr) (miFr) (miA2) (miA2) (m2S a b) (m2S a b)/\At (trFr) (trFr) (trA) (trA) (mtS a b (miD a b) a.length) (mtS a b (miD a b) a.length))
def mi_t_v (a b:List Int):AV:=(AV.islice true 2 (0:Int) (tlI (miD a b) (↑a.length:Int)))
def mi_t_h (a b:List Int):Hp:=⟨[{ wr:=23,body:=ABody.ints IntKind.i64 (miD a b) },{ wr:=(0:Nat),body:=ABody.rows IntKind.i64 b },{ wr:=(0:Nat),body:=ABody.rows IntKind.i64 a }],3,33⟩
theorem mi_t (a b:List Int):(run (cMt a b) 300).call 69 (zB a b) (zG a b)=some ⟨.p (mi_t_nd a b),[⟨.tt,mi_t_v a b,mi_t_h a b⟩]⟩:=by kernel_rfl
end
end Go.Proofs.Ytmnhhlnbfkfkaaa.K
namespace Go.Proofs.Ytmnhhlnbfkfkaaa.K
open Go Go.Eng Go.Dg
noncomputable section
def minV:List Nu->List (List Int)->Option (Prop×To)
 | [],[a,b]=>some (Dig a/\Dig b/\0<a.length/\a.length<=500000/\b.length<=a.length/\val b<=val a,.li false (digs (val a - val b).toNat))
 | _,_=>none
theorem minus_z:NOk Try.prog (fun _=>none) hG0 69 (mSpec hG0 .i64 [.li,.li] minV):=by
 refine msp_runs (fun xs ys p t e h=>?_) ⟨_,Try.func69,rfl⟩
 unfold minV at e
 split at e
 .rename_i a b
  cases e
  obtain ⟨ha,hb,l0,l1,hl,hv⟩:=h
  have hV:0<=miV a b:=by unfold miV; omega
  have b0:=val_nonneg hb
  have a1:=val_lt ha
  have ev:val (miD a b)=val a - val b:=padL_val hV (by unfold miV; omega)
  exact ⟨cMt a b,300,zB a b,_,_,_,_,_,cMt_ok ha hb l1 hl hV,rfl,rfl,⟨rfl,rfl,trivial⟩,mi_t a b,rfl,⟨⟨by omega,rfl,by omega,by omega⟩,⟨rfl,rfl,rfl⟩,⟨rfl,rfl,rfl⟩,⟨rfl,rfl,rfl⟩⟩,rfl,rfl,fit_tr (padL_dig _ _) (by rw [miD_len]) ev⟩
 .cases e
end
end Go.Proofs.Ytmnhhlnbfkfkaaa.K
namespace Go.Proofs.Ytmnhhlnbfkfkaaa.K
open Go Go.Eng Go.Dg
noncomputable section
def plFr:AFr:=⟨70,none⟩
def plA1:Code:=loopOf Try.prog 70 0
def plA2:Code:=loopOf Try.prog 70 1
def cPl (s:Bool):Ctx:=cHb [(13,s)]
theorem cPl_ok (s:Bool):CtxOk (cPl s):=cHb_ok _
def lgA (s:Bool) (a b:List Int):List Int:=match s with|true=>b|false=>a
def shA (s:Bool) (a b:List Int):List Int:=match s with|true=>a|false=>b
noncomputable def q1S (s:Bool) (a b:List Int):St:=stAt (cPl s) 300 70 (zB a b) (zG a b)
def q1P (i:Int) (d:List Int):Patch:=⟨deadT 6 2++(25,.int true .i64 i) :: deadT 26 12,[(2,.ints .i64 d)],[]⟩
def q1D (s:Bool) (a b:List Int) (i:Int):List Int:=addZ (lgA s a b++[0]) ((shA s a b).take i.toNat)
def q1X (s:Bool) (a b:List Int):Patch:=q1P (shA s a b).length (q1D s a b (shA s a b).length)
def q1U (s:Bool) (a b:List Int):SumL Int:=
 {
  S:=fun i=>q1P i (q1D s a b i)
  I:=fun i=>0<=i/\i<=(shA s a b).length
  μ:=fun i=>((shA s a b).length - i).toNat
  F:=fun _=>(.exit 0,q1X s a b)
  next:=fun i=>i+1
  ids:=fun _=>[]
  X:=fun i _=>some (q1P i (q1D s a b i),[]) }
noncomputable def cQ1 (s:Bool) (a b:List Int):Ctx:=withLoops (cPl s) [oneLoop 70 (q1S s a b).hp.clock plFr plA1 (q1S s a b) (.exit 0) (q1X s a b)]
noncomputable def q2S (s:Bool) (a b:List Int):St:=stAt (cQ1 s a b) 300 70 (zB a b) (zG a b)
def q2P (i:Int) (d:List Int):Patch:=⟨(8,.any false) :: (40,.int true .i64 i) :: deadT 41 21,[(2,.ints .i64 d)],[]⟩
def plV (a b:List Int):Int:=val a+val b
def q2F (s:Bool) (a b:List Int):List Int:=padL ((lgA s a b).length+1) (plV a b)
def q2U (s:Bool) (a b:List Int):SumL (Int×List Int):=
 {
  S:=fun (i,d)=>q2P i d
  I:=fun (i,d)=>0<=i/\NcI (lgA s a b).length (plV a b) i.toNat d
  μ:=fun (i,_)=>((lgA s a b).length - i).toNat
  F:=fun _=>(.exit 2,q2P (lgA s a b).length (q2F s a b))
  next:=fun (i,d)=>(i+1,bif decide (d.getD i.toNat 0>=1000000000) then (d.set i.toNat (d.getD i.toNat 0 - 1000000000)).set (i.toNat+1) ((d.set i.toNat (d.getD i.toNat 0 - 1000000000)).getD (i.toNat+1) 0+1) else d)
  ids:=fun _=>[]
  X:=fun (i,d) _=>some (q2P i d,[]) }
end
end Go.Proofs.Ytmnhhlnbfkfkaaa.K
namespace Go.Proofs.Ytmnhhlnbfkfkaaa.K
open Go Go.Eng Go.Dg
noncomputable section
def q1_start_nd (s:Bool) (a b:List Int):Prop:=(0:Int)=(0:Int)/\putI (List.replicate (IntKind.i64.wrap ((↑(lgA s a b).length:Int)+(1:Int))).toNat (0:Int)) (Int.toNat (0:Int)) (lgA s a b)=q1D s a b (0:Int)
theorem q1_start (s:Bool) (a b:List Int):fit (q1S s a b) (q1S s a b) (patch (q1S s a b) ((q1U s a b).S 0)) ([])=some (.p (q1_start_nd s a b)):=by cases s <;> kernel_rfl
def q1_body_nd (s:Bool) (a b:List Int) (i:Int):Prop:=(decide (i<(↑(shA s a b).length:Int))=true->(((0:Int)<=i/\i<(↑(shA s a b).length:Int))/\i.toNat<(shA s a b).length)/\((0:Int)<=i/\i<IntKind.i64.wrap ((↑(lgA s a b).length:Int)+(1:Int)))/\((0:Int)+i).toNat<(q1D s a b i).length/\((0:Int)<=i/\i<IntKind.i64.wrap ((↑(lgA s a b).length:Int)+(1:Int)))/\((0:Int)+i).toNat<(q1D s a b i).length)/\((!decide (i<(↑(shA s a b).length:Int)))=true->(i=i/\q1D s a b i=q1D s a b i)/\(q1U s a b).F i=(Ex.exit (0:Nat),q1P i (q1D s a b i)))/\(decide (i<(↑(shA s a b).length:Int))=true->(IntKind.i64.wrap (i+(1:Int))=(q1U s a b).next i/\(q1D s a b i).set ((0:Int)+i).toNat (IntKind.i64.wrap ((q1D s a b i).getD ((0:Int)+i).toNat (0:Int)+(shA s a b).getD i.toNat (0:Int)))=q1D s a b ((q1U s a b).next i))/\(q1U s a b).I ((q1U s a b).next i)/\(q1U s a b).μ ((q1U s a b).next i)<(q1U s a b).μ i/\(q1U s a b).F ((q1U s a b).next i)=(q1U s a b).F i)
theorem q1_body (s:Bool) (a b:List Int) (i:Int):chkR (q1S s a b) ((q1U s a b).way (i)) ((run cL 300).code plFr plA1 (patch (q1S s a b) ((q1U s a b).S i)))=some (.p (q1_body_nd s a b i)):=by cases s <;> kernel_rfl
def q2_start_nd (s:Bool) (a b:List Int):Prop:=(0:Int)=(0:Int)/\q1D s a b (↑(shA s a b).length:Int)=q1D s a b (↑(shA s a b).length:Int)
theorem q2_start (s:Bool) (a b:List Int):fit (q2S s a b) (q2S s a b) (patch (q2S s a b) ((q2U s a b).S (0,q1D s a b (shA s a b).length))) ([])=some (.p (q2_start_nd s a b)):=by cases s <;> kernel_rfl
def q2_end_nd (s:Bool) (a b:List Int) (i:Int) (d:List Int):Prop:=decide (i<(↑(lgA s a b).length:Int))=false/\(true=true->(i=i/\d=d)/\(q2U s a b).F (i,d)=(Ex.exit (2:Nat),q2P i d))
theorem q2_end (s:Bool) (a b:List Int) (i:Int) (d:List Int):chkR (q2S s a b) ((q2U s a b).way ((i,d))) ((run (cHb [(41,false)]) 300).code plFr plA2 (patch (q2S s a b) ((q2U s a b).S (i,d))))=some (.p (q2_end_nd s a b i d)):=by cases s <;> kernel_rfl
def q2_skip_nd (s:Bool) (a b:List Int) (i:Int) (d:List Int):Prop:=(decide (i<(↑(lgA s a b).length:Int))=true/\((0:Int)<=i/\i<IntKind.i64.wrap ((↑(lgA s a b).length:Int)+(1:Int)))/\((0:Int)+i).toNat<d.length/\decide (d.getD ((0:Int)+i).toNat (0:Int)>=(1000000000:Int))=false)/\(true=true->(IntKind.i64.wrap (i+(1:Int))=i+(1:Int)/\d=bif decide (d.getD i.toNat (0:Int)>=(1000000000:Int)) then (d.set i.toNat (d.getD i.toNat (0:Int) - (1000000000:Int))).set (i.toNat+(1:Nat)) ((d.set i.toNat (d.getD i.toNat (0:Int) - (1000000000:Int))).getD (i.toNat+(1:Nat)) (0:Int)+(1:Int)) else d)/\(q2U s a b).I ((q2U s a b).next (i,d))/\(q2U s a b).μ ((q2U s a b).next (i,d))<(q2U s a b).μ (i,d)/\(q2U s a b).F ((q2U s a b).next (i,d))=(q2U s a b).F (i,d))
theorem q2_skip (s:Bool) (a b:List Int) (i:Int) (d:List Int):chkR (q2S s a b) ((q2U s a b).way ((i,d))) ((run (cHb [(41,true),(47,false)]) 300).code plFr plA2 (patch (q2S s a b) ((q2U s a b).S (i,d))))=some (.p (q2_skip_nd s a b i d)):=by cases s <;> kernel_rfl
def q2_step_nd (s:Bool) (a b:List Int) (i:Int) (d:List Int):Prop:=(decide (i<(↑(lgA s a b).length:Int))=true/\(((0:Int)<=i/\i<IntKind.i64.wrap ((↑(lgA s a b).length:Int)+(1:Int)))/\((0:Int)+i).toNat<d.length/\decide (d.getD ((0:Int)+i).toNat (0:Int)>=(1000000000:Int))=true)/\(((0:Int)<=i/\i<IntKind.i64.wrap ((↑(lgA s a b).length:Int)+(1:Int)))/\((0:Int)+i).toNat<d.length/\((0:Int)<=i/\i<IntKind.i64.wrap ((↑(lgA s a b).length:Int)+(1:Int)))/\((0:Int)+i).toNat<d.length)/\((0:Int)<=IntKind.i64.wrap (i+(1:Int))/\IntKind.i64.wrap (i+(1:Int))<IntKind.i64.wrap ((↑(lgA s a b).length:Int)+(1:Int)))/\((0:Int)+IntKind.i64.wrap (i+(1:Int))).toNat<(d.set ((0:Int)+i).toNat (IntKind.i64.wrap (d.getD ((0:Int)+i).toNat (0:Int) - (1000000000:Int)))).length/\((0:Int)<=IntKind.i64.wrap (i+(1:Int))/\IntKind.i64.wrap (i+(1:Int))<IntKind.i64.wrap ((↑(lgA s a b).length:Int)+(1:Int)))/\((0:Int)+IntKind.i64.wrap (i+(1:Int))).toNat<(d.set ((0:Int)+i).toNat (IntKind.i64.wrap (d.getD ((0:Int)+i).toNat (0:Int) - (1000000000:Int)))).length)/\(true=true->(IntKind.i64.wrap (i+(1:Int))=i+(1:Int)/\(d.set ((0:Int)+i).toNat (IntKind.i64.wrap (d.getD ((0:Int)+i).toNat (0:Int) - (1000000000:Int)))).set ((0:Int)+IntKind.i64.wrap (i+(1:Int))).toNat (IntKind.i64.wrap ((d.set ((0:Int)+i).toNat (IntKind.i64.wrap (d.getD ((0:Int)+i).toNat (0:Int) - (1000000000:Int)))).getD ((0:Int)+IntKind.i64.wrap (i+(1:Int))).toNat (0:Int)+(1:Int)))=bif decide (d.getD i.toNat (0:Int)>=(1000000000:Int)) then (d.set i.toNat (d.getD i.toNat (0:Int) - (1000000000:Int))).set (i.toNat+(1:Nat)) ((d.set i.toNat (d.getD i.toNat (0:Int) - (1000000000:Int))).getD (i.toNat+(1:Nat)) (0:Int)+(1:Int)) else d)/\(q2U s a b).I ((q2U s a b).next (i,d))/\(q2U s a b).μ ((q2U s a b).next (i,d))<(q2U s a b).μ (i,d)/\(q2U s a b).F ((q2U s a b).next (i,d))=(q2U s a b).F (i,d))
theorem q2_step (s:Bool) (a b:List Int) (i:Int) (d:List Int):chkR (q2S s a b) ((q2U s a b).way ((i,d))) ((run (cHb [(41,true),(47,true)]) 300).code plFr plA2 (patch (q2S s a b) ((q2U s a b).S (i,d))))=some (.p (q2_step_nd s a b i d)):=by cases s <;> kernel_rfl
end
end Go.Proofs.Ytmnhhlnbfkfkaaa.K
namespace Go.Proofs.Ytmnhhlnbfkfkaaa.K
open Go Go.Eng Go.Dg
noncomputable section
theorem putI_app (u:List Int):putI (List.replicate (u.length+1) 0) 0 u=u++[0]:=by
 unfold putI
 rw [List.take_zero,List.nil_append,List.drop_replicate,show u.length+1 - (0+u.length)=1 by omega]
 rfl
theorem q1D_len (s:Bool) (a b:List Int) (i:Int):(q1D s a b i).length=(lgA s a b).length+1:=by
 unfold q1D
 rw [addZ_len]; simp
theorem q1_loop {s:Bool} {a b:List Int} (ha:Dig a) (hb:Dig b) (la:(lgA s a b).length<=400000) (hl:(shA s a b).length<=(lgA s a b).length):CodeOk cL plFr (.loop plA1) (q1S s a b) ⟨.tt,[⟨.tt,.exit 0,patch (q1S s a b) (q1X s a b)⟩]⟩:=by
 have hL:Dig (lgA s a b):=by cases s <;> assumption
 have hS:Dig (shA s a b):=by cases s <;> assumption
 have hLz:Dig (lgA s a b++[0]):=dig_app.2 ⟨hL,dig_cons.2 ⟨by omega,dig_nil⟩⟩
 have eN:IntKind.i64.wrap ((lgA s a b).length+1:Int)=(lgA s a b).length+1:=iw (by omega) (by omega)
 refine sumL_one (run_sound cL_ok 300) (q1U s a b) (y0:=0) ⟨by omega,by omega⟩ ⟨_,q1_start s a b,rfl,?_⟩ (by cases s <;> kernel_rfl) (fun i hi=>⟨_,q1_body s a b i,?_⟩) rfl
 .rw [eN,show ((lgA s a b).length+1:Int).toNat=(lgA s a b).length+1 by omega,show Int.toNat 0=0 from rfl,putI_app]
  exact (addZ_nil _).symm
 obtain ⟨i0,i1⟩:=(show 0<=i/\i<=(shA s a b).length from hi)
 have ll:=q1D_len s a b i
 refine ⟨fun h=>?_,fun h=>⟨⟨rfl,rfl⟩,?_⟩,fun h=>?_⟩
 .have h:i<(shA s a b).length:=dt.1 h
  rw [zt,ll,eN]
  exact ⟨⟨⟨i0,h⟩,by omega⟩,⟨i0,by omega⟩,by omega,⟨i0,by omega⟩,by omega⟩
 .have h:=ndt.1 h
  obtain rfl:i=(shA s a b).length:=by omega
  rfl
 .have h:i<(shA s a b).length:=dt.1 h
  have g1:=hLz.get i.toNat
  have g2:=hS.get i.toNat
  have e0:((shA s a b).take i.toNat).getD i.toNat 0=0:=by rw [List.getD_eq_getElem?_getD,List.getElem?_eq_none (by rw [List.length_take]; omega)]; rfl
  have e1:(q1D s a b i).getD i.toNat 0=(lgA s a b++[0]).getD i.toNat 0+((shA s a b).take i.toNat).getD i.toNat 0:=addZ_get _ _ i.toNat (by simp; omega)
  rw [e0] at e1
  refine ⟨⟨iw (by omega) (by omega),?_⟩,?_,?_,rfl⟩
  .rw [zt,iw (by omega) (by omega)]
   unfold q1D
   rw [addZ_step _ _ i.toNat (by omega) (by simp; omega)]
   show _=addZ _ ((shA s a b).take (i+1).toNat)
   rw [show (i+1).toNat=i.toNat+1 by omega]
  .show 0<=i+1/\i+1<=(shA s a b).length
   omega
  .show ((shA s a b).length - (i+1)).toNat<((shA s a b).length - i).toNat
   omega
theorem plV_eq (s:Bool) (a b:List Int):plV a b=val (lgA s a b)+val (shA s a b):=by
 unfold plV
 cases s
 .rfl
 .show val a+val b=val b+val a
  omega
theorem q2_loop {s:Bool} {a b:List Int} (ha:Dig a) (hb:Dig b) (la:(lgA s a b).length<=400000) (hl:(shA s a b).length<=(lgA s a b).length):CodeOk cL plFr (.loop plA2) (q2S s a b) ⟨.tt,[⟨.tt,.exit 2,patch (q2S s a b) (q2P (lgA s a b).length (q2F s a b))⟩]⟩:=by
 have hL:Dig (lgA s a b):=by cases s <;> assumption
 have hS:Dig (shA s a b):=by cases s <;> assumption
 have eN:IntKind.i64.wrap ((lgA s a b).length+1:Int)=(lgA s a b).length+1:=iw (by omega) (by omega)
 refine sumL_oneC (q2U s a b) (y0:=(0,q1D s a b (shA s a b).length)) ?_ ⟨_,q2_start s a b,rfl,rfl⟩ (by cases s <;> kernel_rfl) (fun y hy=>?_) rfl
 .show 0<=(0:Int)/\NcI _ _ _ _
  unfold q1D
  rw [show (((shA s a b).length:Int)).toNat=(shA s a b).length by omega,List.take_length,plV_eq s]
  exact ⟨by decide,NcI.start hL hS hl⟩
 obtain ⟨i,d⟩:=y
 obtain ⟨i0,hI⟩:=(show 0<=i/\NcI (lgA s a b).length (plV a b) i.toNat d from hy)
 obtain ⟨l,i1,lo,me,hi',t0,t1,v⟩:=id hI
 have e2:(i+1).toNat=i.toNat+1:=by omega
 by_cases hlt:i<(lgA s a b).length
 .have iw1:IntKind.i64.wrap (i+1)=i+1:=iw (by omega) (by omega)
  have mu:((lgA s a b).length - (i+1)).toNat<((lgA s a b).length - i).toNat:=by omega
  by_cases hn:d.getD i.toNat 0>=1000000000
  .have h2:=hi' (i.toNat+1) (by omega)
   have e3:(d.set i.toNat (d.getD i.toNat 0 - 1000000000)).getD (i.toNat+1) 0=d.getD (i.toNat+1) 0:=getD_set (by omega)
   have e4:IntKind.i64.wrap (d.getD i.toNat 0 - 1000000000)=d.getD i.toNat 0 - 1000000000:=iw (by omega) (by omega)
   have e5:IntKind.i64.wrap (d.getD (i.toNat+1) 0+1)=d.getD (i.toNat+1) 0+1:=iw (by omega) (by omega)
   have hb':(bif decide (d.getD i.toNat 0>=1000000000) then (d.set i.toNat (d.getD i.toNat 0 - 1000000000)).set (i.toNat+1) ((d.set i.toNat (d.getD i.toNat 0 - 1000000000)).getD (i.toNat+1) 0+1) else d)=(d.set i.toNat (d.getD i.toNat 0 - 1000000000)).set (i.toNat+1) ((d.set i.toNat (d.getD i.toNat 0 - 1000000000)).getD (i.toNat+1) 0+1):=by rw [decide_eq_true hn]; rfl
   refine ⟨cHb [(41,true),(47,true)],300,cHb_ok _,rfl,rfl,_,q2_step s a b i d,?_,fun _=>?_⟩
   .rw [zt,iw1,zt,e2,e4,List.length_set,eN]
    exact ⟨decide_eq_true hlt,⟨⟨i0,by omega⟩,by omega,decide_eq_true hn⟩,⟨⟨i0,by omega⟩,by omega,⟨i0,by omega⟩,by omega⟩,⟨by omega,by omega⟩,by omega,⟨by omega,by omega⟩,by omega⟩
   .refine ⟨⟨iw1,?_⟩,?_,mu,rfl⟩
    .rw [zt,iw1,zt,e2,e4,hb',e3,e5]
    .show 0<=i+1/\NcI _ _ (i+1).toNat _
     rw [e2,hb']
     exact ⟨by omega,hI.step (by omega) hn⟩
  .have hb':(bif decide (d.getD i.toNat 0>=1000000000) then (d.set i.toNat (d.getD i.toNat 0 - 1000000000)).set (i.toNat+1) ((d.set i.toNat (d.getD i.toNat 0 - 1000000000)).getD (i.toNat+1) 0+1) else d)=d:=by rw [decide_eq_false hn]; rfl
   refine ⟨cHb [(41,true),(47,false)],300,cHb_ok _,rfl,rfl,_,q2_skip s a b i d,?_,fun _=>⟨⟨iw1,hb'.symm⟩,?_,mu,rfl⟩⟩
   .rw [zt,eN]
    exact ⟨decide_eq_true hlt,⟨i0,by omega⟩,by omega,decide_eq_false hn⟩
   .show 0<=i+1/\NcI _ _ (i+1).toNat _
    rw [e2,hb']
    exact ⟨by omega,hI.skip (by omega) hn⟩
 .refine ⟨cHb [(41,false)],300,cHb_ok _,rfl,rfl,_,q2_end s a b i d,decide_eq_false hlt,fun _=>⟨⟨rfl,rfl⟩,?_⟩⟩
  have e:i.toNat=(lgA s a b).length:=by omega
  rw [e] at hI
  show (Ex.exit 2,q2P (lgA s a b).length (q2F s a b))=(Ex.exit 2,q2P i d)
  unfold q2F
  rw [<- hI.fin,show i=(lgA s a b).length by omega]
end
end Go.Proofs.Ytmnhhlnbfkfkaaa.K
namespace Go.Proofs.Ytmnhhlnbfkfkaaa.K
open Go Go.Eng Go.Dg
noncomputable section
def plW (s:Bool):Nat:=match s with|true=>29|false=>25
def plC (s:Bool):Nat:=match s with|true=>32|false=>28
noncomputable def qtS (s:Bool) (a b d:List Int) (N:Int):St:=stAt cL 300 75 [.islice true 2 0 N] ⟨[⟨plW s,.ints .i64 d⟩,⟨0,.rows .i64 b⟩,⟨0,.rows .i64 a⟩],3,plC s⟩
theorem qt_start (s:Bool) (a b d:List Int) (N:Int):fit (qtS s a b d N) (qtS s a b d N) (patch (qtS s a b d N) ((trU 2 d N).S N)) []=some (.p ((0:Int)=0/\N=N)):=by cases s <;> kernel_rfl
theorem qt_body (s:Bool) (a b d:List Int) (N y:Int):chkR (qtS s a b d N) ((trU 2 d N).way y) ((run cL 300).code trFr trA (patch (qtS s a b d N) ((trU 2 d N).S y)))=some (.p (trN 2 d N y)):=by cases s <;> kernel_rfl
theorem qt_loop (s:Bool) (a b:List Int) {d:List Int} {N:Int} (hN:N=d.length) (ld:Sm d):CodeOk cL trFr (.loop trA) (qtS s a b d N) ⟨.tt,[⟨.tt,.exit 0,patch (qtS s a b d N) (trP 2 (tlI d N))⟩]⟩:=tr_loop hN ld (qt_start s a b d N) (by cases s <;> kernel_rfl) (fun y=>qt_body s a b d N y)
def plN (s:Bool) (a b:List Int):Int:=IntKind.i64.wrap ((lgA s a b).length+1:Int)
noncomputable def cQt (s:Bool) (a b:List Int):Ctx:=withLoops (cPl s) [oneLoop 70 (q1S s a b).hp.clock plFr plA1 (q1S s a b) (.exit 0) (q1X s a b),oneLoop 70 (q2S s a b).hp.clock plFr plA2 (q2S s a b) (.exit 2) (q2P (lgA s a b).length (q2F s a b)),
 oneLoop 75 (plC s+3) trFr trA (qtS s a b (q2F s a b) (plN s a b)) (.exit 0) (trP 2 (tlI (q2F s a b) (plN s a b)))]
theorem q2F_len (s:Bool) (a b:List Int):(q2F s a b).length=(lgA s a b).length+1:=padL_len _ _
theorem plN_len {s:Bool} {a b:List Int} (la:(lgA s a b).length<=400000):plN s a b=(q2F s a b).length:=by
 unfold plN
 rw [iw (by omega) (by omega),q2F_len]; omega
theorem code_ctx {C D:Ctx} {fr:AFr} {a:Code} {S:St} {r:R} (h:CodeOk C fr (.loop a) S r) (hP:D.P=C.P) (hg:D.glob=C.glob):CodeOk D fr (.loop a) S r:=CodeOk.ctx hP hg h
theorem cQt_ok {s:Bool} {a b:List Int} (ha:Dig a) (hb:Dig b) (la:(lgA s a b).length<=400000) (hl:(shA s a b).length<=(lgA s a b).length):CtxOk (cQt s a b):=
 withLoop_ok (cPl_ok s) (code_ctx (q1_loop ha hb la hl) rfl rfl) (withLoop_ok (cPl_ok s) (code_ctx (q2_loop ha hb la hl) rfl rfl) (withLoop_ok (cPl_ok s) (code_ctx (qt_loop s a b (plN_len la) (by show (q2F s a b).length<=500000; rw [q2F_len]; omega)) rfl rfl) (withNone_ok (cPl_ok s))))
end
end Go.Proofs.Ytmnhhlnbfkfkaaa.K
namespace Go.Proofs.Ytmnhhlnbfkfkaaa.K
open Go Go.Eng Go.Dg
noncomputable section
def pl_f_nd (a b:List Int):Prop:=(decide ((↑a.length:Int)<(↑b.length:Int))=false/\(IntKind.i64.wrap ((↑a.length:Int)+(1:Int))=IntKind.i64.wrap ((↑a.length:Int)+(1:Int))/\(0:Int)<=IntKind.i64.wrap ((↑a.length:Int)+(1:Int))/\IntKind.i64.wrap ((↑a.length:Int)+(1:Int))<=(1048576:Int))/\((↑a.length:Int)=(↑a.length:Int)/\(0:Int)<=(0:Int)/\(0:Int)<(↑a.length:Int)/\(↑a.length:Int)<=IntKind.i64.wrap ((↑a.length:Int)+(1:Int))/\(0:Int)+IntKind.i64.wrap ((↑a.length:Int)+(1:Int))<=(↑(List.replicate (IntKind.i64.wrap ((↑a.length:Int)+(1:Int))).toNat (0:Int)).length:Int))/\At (plFr) (plFr) (plA1) (plA1) (q1S false a b) (q1S false a b)/\At (plFr) (plFr) (plA2) (plA2) (q2S false a b) (q2S false a b)/\At (trFr) (trFr) (trA) (trA) (qtS false a b (q2F false a b) (plN false a b)) (qtS false a b (q2F false a b) (plN false a b)))
def pl_f_v (a b:List Int):AV:=(AV.islice true 2 (0:Int) (tlI (q2F false a b) (plN false a b)))
def pl_f_h (a b:List Int):Hp:=⟨[{ wr:=25,body:=ABody.ints IntKind.i64 (q2F false a b) },{ wr:=(0:Nat),body:=ABody.rows IntKind.i64 b },{ wr:=(0:Nat),body:=ABody.rows IntKind.i64 a }],3,35⟩
theorem pl_f (a b:List Int):(run (cQt false a b) 300).call 70 (zB a b) (zG a b)=some ⟨.p (pl_f_nd a b),[⟨.tt,pl_f_v a b,pl_f_h a b⟩]⟩:=by kernel_rfl
def pl_t_nd (a b:List Int):Prop:=(decide ((↑a.length:Int)<(↑b.length:Int))=true/\(IntKind.i64.wrap ((↑b.length:Int)+(1:Int))=IntKind.i64.wrap ((↑b.length:Int)+(1:Int))/\(0:Int)<=IntKind.i64.wrap ((↑b.length:Int)+(1:Int))/\IntKind.i64.wrap ((↑b.length:Int)+(1:Int))<=(1048576:Int))/\((↑b.length:Int)=(↑b.length:Int)/\(0:Int)<=(0:Int)/\(0:Int)<(↑b.length:Int)/\(↑b.length:Int)<=IntKind.i64.wrap ((↑b.length:Int)+(1:Int))/\(0:Int)+IntKind.i64.wrap ((↑b.length:Int)+(1:Int))<=(↑(List.replicate (IntKind.i64.wrap ((↑b.length:Int)+(1:Int))).toNat (0:Int)).length:Int))/\At (plFr) (plFr) (plA1) (plA1) (q1S true a b) (q1S true a b)/\At (plFr) (plFr) (plA2) (plA2) (q2S true a b) (q2S true a b)/\At (trFr) (trFr) (trA) (trA) (qtS true a b (q2F true a b) (plN true a b)) (qtS true a b (q2F true a b) (plN true a b)))
def pl_t_v (a b:List Int):AV:=(AV.islice true 2 (0:Int) (tlI (q2F true a b) (plN true a b)))
def pl_t_h (a b:List Int):Hp:=⟨[{ wr:=29,body:=ABody.ints IntKind.i64 (q2F true a b) },{ wr:=(0:Nat),body:=ABody.rows IntKind.i64 b },{ wr:=(0:Nat),body:=ABody.rows IntKind.i64 a }],3,39⟩
theorem pl_t (a b:List Int):(run (cQt true a b) 300).call 70 (zB a b) (zG a b)=some ⟨.p (pl_t_nd a b),[⟨.tt,pl_t_v a b,pl_t_h a b⟩]⟩:=by kernel_rfl
end
end Go.Proofs.Ytmnhhlnbfkfkaaa.K
namespace Go.Proofs.Ytmnhhlnbfkfkaaa.K
open Go Go.Eng Go.Dg
noncomputable section
def pluV:List Nu->List (List Int)->Option (Prop×To)
 | [],[a,b]=>some (Dig a/\Dig b/\(0<a.length\/0<b.length)/\a.length<=400000/\b.length<=400000,.li false (digs (val a+val b).toNat))
 | _,_=>none
theorem pl_val {s:Bool} {a b:List Int} (ha:Dig a) (hb:Dig b) (hl:(shA s a b).length<=(lgA s a b).length):val (q2F s a b)=val a+val b:=by
 have a0:=val_nonneg ha
 have b0:=val_nonneg hb
 have a1:=val_lt ha
 have b1:=val_lt hb
 refine padL_val (by unfold plV; omega) ?_
 have e:pw ((lgA s a b).length+1)=1000000000*pw (lgA s a b).length:=by simp [pw]
 have p0:=pw_pos (lgA s a b).length
 have ka:val a<pw (lgA s a b).length:=by
  refine Int.lt_of_lt_of_le a1 (pw_mono ?_)
  cases s <;> simp only [lgA,shA] at hl ⊢ <;> omega
 have kb:val b<pw (lgA s a b).length:=by
  refine Int.lt_of_lt_of_le b1 (pw_mono ?_)
  cases s <;> simp only [lgA,shA] at hl ⊢ <;> omega
 rw [e]; unfold plV; omega
theorem plus_ok:NOk Try.prog (fun _=>none) hG0 70 (mSpec hG0 .i64 [.li,.li] pluV):=by
 refine msp_runs (fun xs ys p t e h=>?_) ⟨_,Try.func70,rfl⟩
 unfold pluV at e
 split at e
 .rename_i a b
  cases e
  obtain ⟨ha,hb,l0,la,lb⟩:=h
  have wa:IntKind.i64.wrap ((a.length:Int)+1)=a.length+1:=iw (by omega) (by omega)
  have wb:IntKind.i64.wrap ((b.length:Int)+1)=b.length+1:=iw (by omega) (by omega)
  by_cases hs:a.length<b.length
  .have hl:(shA true a b).length<=(lgA true a b).length:=by show a.length<=b.length; omega
   have lg:(lgA true a b).length<=400000:=lb
   refine ⟨cQt true a b,300,zB a b,_,_,_,_,_,cQt_ok ha hb lg hl,rfl,rfl,⟨rfl,rfl,trivial⟩,pl_t a b,rfl,⟨decide_eq_true (by omega),⟨rfl,by omega,by omega⟩,⟨rfl,by omega,by omega,by omega,?_⟩,⟨rfl,rfl,rfl⟩,⟨rfl,rfl,rfl⟩,⟨rfl,rfl,rfl⟩⟩,rfl,rfl,fit_tr (padL_dig _ _) (plN_len lg) (pl_val ha hb hl)⟩
   rw [List.length_replicate,wb]; omega
  .have hl:(shA false a b).length<=(lgA false a b).length:=by show b.length<=a.length; omega
   have lg:(lgA false a b).length<=400000:=la
   refine ⟨cQt false a b,300,zB a b,_,_,_,_,_,cQt_ok ha hb lg hl,rfl,rfl,⟨rfl,rfl,trivial⟩,pl_f a b,rfl,⟨decide_eq_false (by omega),⟨rfl,by omega,by omega⟩,⟨rfl,by omega,by omega,by omega,?_⟩,⟨rfl,rfl,rfl⟩,⟨rfl,rfl,rfl⟩,⟨rfl,rfl,rfl⟩⟩,rfl,rfl,fit_tr (padL_dig _ _) (plN_len lg) (pl_val ha hb hl)⟩
   rw [List.length_replicate,wa]; omega
 .cases e
end
end Go.Proofs.Ytmnhhlnbfkfkaaa.K
namespace Go.Dg
open Go Go.Eng
def dfB (a b:List Int):Nat->Int
 | 0=>0
 | n+1=>if a.getD n 0=b.getD n 0 then dfB a b n else IntKind.i64.wrap (a.getD n 0 - b.getD n 0)
def dfI (a b:List Int) (i:Int):Int:=dfB a b (i+1).toNat
theorem df_step {a b:List Int} {i:Int} (h:0<=i):dfI a b i=if a.getD i.toNat 0=b.getD i.toNat 0 then dfI a b (i - 1) else IntKind.i64.wrap (a.getD i.toNat 0 - b.getD i.toNat 0):=by
 unfold dfI
 rw [show (i+1).toNat=i.toNat+1 by omega,show (i - 1+1).toNat=i.toNat by omega,dfB]
theorem fnd_df {a b:List Int}:∀ n,fndB a b n=false->dfB a b n=0
 | 0,_=>rfl
 | n+1,h=>by
  simp only [fndB] at h
  simp only [dfB]
  split at h
  .rename_i e; rw [if_pos e]; exact fnd_df n h
  .cases h
def cmpI (a b:List Int):Int:=if a.length=b.length then dfB a b a.length else IntKind.i64.wrap ((a.length:Int) - b.length)
theorem df_less {a b:List Int} (ha:Dig a) (hb:Dig b):∀ n,(dfB a b n<0 ↔ lessB a b n=true)/\(0<dfB a b n ↔ lessB b a n=true)
 | 0=>by simp [dfB,lessB]
 | n+1=>by
  have i:=df_less ha hb n
  have a0:=ha.get n
  have b0:=hb.get n
  simp only [dfB,lessB]
  by_cases e:a.getD n 0=b.getD n 0
  .rw [if_pos e,if_pos e,if_pos e.symm]; exact i
  .rw [if_neg e,if_neg e,if_neg (fun h=>e h.symm),iw (by omega) (by omega)]
   simp only [decide_eq_true_eq]
   omega
theorem cmpI_lt {a b:List Int} (ha:Dig a) (hb:Dig b) (ta:Top a) (tb:Top b) (la:a.length<=500000) (lb:b.length<=500000):cmpI a b<0 ↔ val a<val b:=by
 rw [<- lessL_iff ha hb ta tb]
 unfold cmpI lessL
 by_cases e:a.length=b.length
 .rw [if_pos e,if_pos e]; exact (df_less ha hb _).1
 .rw [if_neg e,if_neg e,iw (by omega) (by omega)]
  simp only [decide_eq_true_eq]
  omega
theorem cmpI_gt {a b:List Int} (ha:Dig a) (hb:Dig b) (ta:Top a) (tb:Top b) (la:a.length<=500000) (lb:b.length<=500000):0<cmpI a b ↔ val b<val a:=by
 rw [<- lessL_iff hb ha tb ta]
 unfold cmpI lessL
 by_cases e:a.length=b.length
 .rw [if_pos e,if_pos e.symm,<- e]; exact (df_less ha hb _).2
 .rw [if_neg e,if_neg (fun h=>e h.symm),iw (by omega) (by omega)]
  simp only [decide_eq_true_eq]
  omega
end Go.Dg
namespace Go.Proofs.Ytmnhhlnbfkfkaaa.K
open Go Go.Eng Go.Dg
noncomputable section
def cCm (d:Bool):Ctx:=cHb [(10,d)]
theorem cCm_ok (d:Bool):CtxOk (cCm d):=cHb_ok _
noncomputable def cmS (a b:List Int):St:=stAt (cCm false) 300 67 (zB a b) (zG a b)
def cmFr:AFr:=⟨67,none⟩
def cmA:Code:=loopOf Try.prog 67 0
def cmP (i:Int):Patch:=⟨(5,.int true .i64 i) :: deadT 19 22,[],[]⟩
def cmR (r:Int):Patch:=⟨(4,.int true .i64 r) :: (5,.any false) :: deadT 19 22,[],[]⟩
def cmX:Patch:=⟨(5,.any false) :: deadT 19 22,[],[]⟩
def cmU (a b:List Int):SumL Int:=
 {
  S:=cmP
  I:=fun i=>-1<=i/\i<a.length
  μ:=fun i=>(i+1).toNat
  F:=fun i=>bif fndI a b i then (.ret,cmR (dfI a b i)) else (.exit 0,cmX)
  next:=fun i=>IntKind.i64.wrap (i - 1)
  ids:=fun _=>[]
  X:=fun i x=>match x with
   | .ret=>some (cmR (IntKind.i64.wrap (a.getD i.toNat 0 - b.getD i.toNat 0)),[])
   | .exit _=>some (cmX,[])
   | _=>none }
end
end Go.Proofs.Ytmnhhlnbfkfkaaa.K
namespace Go.Proofs.Ytmnhhlnbfkfkaaa.K
open Go Go.Eng Go.Dg
noncomputable section
def cm_start_nd (a b:List Int):Prop:=IntKind.i64.wrap ((↑a.length:Int) - (1:Int))=IntKind.i64.wrap ((↑a.length:Int) - (1:Int))
theorem cm_start (a b:List Int):fit (cmS a b) (cmS a b) (patch (cmS a b) ((cmU a b).S (IntKind.i64.wrap ((a.length:Int) - 1)))) ([])=some (.p (cm_start_nd a b)):=by kernel_rfl
def cm_body_nd (a b:List Int) (i:Int):Prop:=(decide (i>=(0:Int))=true->(((0:Int)<=i/\i<(↑a.length:Int))/\i.toNat<a.length/\((0:Int)<=i/\i<(↑b.length:Int))/\i.toNat<b.length)/\((a.getD i.toNat (0:Int) != b.getD i.toNat (0:Int))=true->((0:Int)<=i/\i<(↑a.length:Int))/\i.toNat<a.length/\((0:Int)<=i/\i<(↑b.length:Int))/\i.toNat<b.length))/\((!decide (i>=(0:Int)))=true->(cmU a b).F i=(Ex.exit (0:Nat),cmX))/\((decide (i>=(0:Int))&&!a.getD i.toNat (0:Int) != b.getD i.toNat (0:Int))=true->IntKind.i64.wrap (i - (1:Int))=(cmU a b).next i/\(cmU a b).I ((cmU a b).next i)/\(cmU a b).μ ((cmU a b).next i)<(cmU a b).μ i/\(cmU a b).F ((cmU a b).next i)=(cmU a b).F i)/\((decide (i>=(0:Int))&&a.getD i.toNat (0:Int) != b.getD i.toNat (0:Int))=true->IntKind.i64.wrap (a.getD i.toNat (0:Int) - b.getD i.toNat (0:Int))=IntKind.i64.wrap (a.getD i.toNat (0:Int) - b.getD i.toNat (0:Int))/\(cmU a b).F i=(Ex.ret,cmR (IntKind.i64.wrap (a.getD i.toNat (0:Int) - b.getD i.toNat (0:Int)))))
theorem cm_body (a b:List Int) (i:Int):chkR (cmS a b) ((cmU a b).way (i)) ((run (cCm false) 300).code cmFr cmA (patch (cmS a b) ((cmU a b).S i)))=some (.p (cm_body_nd a b i)):=by kernel_rfl
end
end Go.Proofs.Ytmnhhlnbfkfkaaa.K
namespace Go.Proofs.Ytmnhhlnbfkfkaaa.K
open Go Go.Eng Go.Dg
noncomputable section
theorem cm_loop (a b:List Int) (hs:Sm a) (hl:a.length=b.length):CodeOk (cCm false) cmFr (.loop cmA) (cmS a b) ⟨.tt,[⟨.b (fndI a b (a.length - 1)),.ret,patch (cmS a b) (cmR (dfI a b (a.length - 1)))⟩,⟨.b (!fndI a b (a.length - 1)),.exit 0,patch (cmS a b) cmX⟩]⟩:=by
 have hs:=hs.le
 have e0:IntKind.i64.wrap ((a.length:Int) - 1)=a.length - 1:=iw (by omega) (by omega)
 refine sumL_two (run_sound (cCm_ok false) 300) (cmU a b) (y0:=IntKind.i64.wrap ((a.length:Int) - 1)) (by rw [e0]; exact ⟨by omega,by omega⟩) ⟨_,cm_start a b,rfl⟩ (by kernel_rfl) (fun i hi=>⟨_,cm_body a b i,?_⟩) (by rw [e0]; rfl)
 obtain ⟨i0,i1⟩:=(show -1<=i/\i<a.length from hi)
 refine ⟨fun h=>?_,fun h=>?_,fun h=>?_,fun h=>?_⟩
 .have h:=dt.1 h
  have q:((0:Int)<=i/\i<(↑a.length:Int))/\i.toNat<a.length/\((0:Int)<=i/\i<(↑b.length:Int))/\i.toNat<b.length:=by omega
  exact ⟨q,fun _=>q⟩
 .have h:=ndt.1 h
  have:i=-1:=by omega
  subst this; rfl
 .obtain ⟨h0,h⟩:=and_t.1 h
  have h:=nbne.1 h
  have e:IntKind.i64.wrap (i - 1)=i - 1:=iw (by omega) (by omega)
  refine ⟨rfl,?_,?_,?_⟩
  .show -1<=IntKind.i64.wrap (i - 1)/\IntKind.i64.wrap (i - 1)<a.length
   rw [e]; omega
  .show (IntKind.i64.wrap (i - 1)+1).toNat<(i+1).toNat
   rw [e]; omega
  .show (bif fndI a b (IntKind.i64.wrap (i - 1)) then (Ex.ret,cmR (dfI a b (IntKind.i64.wrap (i - 1)))) else (.exit 0,cmX))=bif fndI a b i then (Ex.ret,cmR (dfI a b i)) else (.exit 0,cmX)
   rw [e,fnd_step h0,df_step h0,if_pos h,if_pos h]
 .obtain ⟨h0,h⟩:=and_t.1 h
  have h:=bne_t.1 h
  refine ⟨rfl,?_⟩
  show (bif fndI a b i then (Ex.ret,cmR (dfI a b i)) else (.exit 0,cmX))=_
  rw [fnd_step h0,df_step h0,if_neg h,if_neg h]; rfl
noncomputable def cCmL (a b:List Int):Ctx:=withLoops (cCm false) [twoLoop 67 (cmS a b).hp.clock cmFr cmA (cmS a b) (fndI a b (a.length - 1)) .ret (cmR (dfI a b (a.length - 1))) (.exit 0) cmX]
theorem cCmL_ok (a b:List Int) (hs:Sm a) (hl:a.length=b.length):CtxOk (cCmL a b):=withTwo_ok (cCm_ok false) (cm_loop a b hs hl) (withNone_ok (cCm_ok false))
end
end Go.Proofs.Ytmnhhlnbfkfkaaa.K
namespace Go.Proofs.Ytmnhhlnbfkfkaaa.K
open Go Go.Eng Go.Dg
noncomputable section
def cm_eq_nd (a b:List Int):Prop:=(((↑a.length:Int) != (↑b.length:Int))=false/\At (cmFr) (cmFr) (cmA) (cmA) (cmS a b) (cmS a b))
def cm_eq_v (a b:List Int):AV:=(AV.int true IntKind.i64 (bif !fndI a b ((↑a.length:Int) - (1:Int)) then (0:Int) else dfI a b ((↑a.length:Int) - (1:Int))))
def cm_eq_h (a b:List Int):Hp:=⟨[{ wr:=(0:Nat),body:=ABody.rows IntKind.i64 b },{ wr:=(0:Nat),body:=ABody.rows IntKind.i64 a }],2,15⟩
theorem cm_eq (a b:List Int):(run (cCmL a b) 300).call 67 (zB a b) (zG a b)=some ⟨.p (cm_eq_nd a b),[⟨.tt,cm_eq_v a b,cm_eq_h a b⟩]⟩:=by kernel_rfl
def cm_ne_nd (a b:List Int):Prop:=(((↑a.length:Int) != (↑b.length:Int))=true)
def cm_ne_v (a b:List Int):AV:=(AV.int true IntKind.i64 (IntKind.i64.wrap ((↑a.length:Int) - (↑b.length:Int))))
def cm_ne_h (a b:List Int):Hp:=⟨[{ wr:=(0:Nat),body:=ABody.rows IntKind.i64 b },{ wr:=(0:Nat),body:=ABody.rows IntKind.i64 a }],2,14⟩
theorem cm_ne (a b:List Int):(run (cCm true) 300).call 67 (zB a b) (zG a b)=some ⟨.p (cm_ne_nd a b),[⟨.tt,cm_ne_v a b,cm_ne_h a b⟩]⟩:=by kernel_rfl
end
end Go.Proofs.Ytmnhhlnbfkfkaaa.K
namespace Go.Proofs.Ytmnhhlnbfkfkaaa.K
open Go Go.Eng Go.Dg
noncomputable section
def cmpV:List Nu->List (List Int)->Option (Prop×To)
 | [],[a,b]=>some (Sm a/\Sm b,.nu .i64 (cmpI a b))
 | _,_=>none
theorem cmp_ok:NOk Try.prog (fun _=>none) hG0 67 (mSpec hG0 .i64 [.li,.li] cmpV):=by
 refine msp_runs (fun xs ys p t e h=>?_) ⟨_,Try.func67,rfl⟩
 unfold cmpV at e
 split at e
 .rename_i a b
  cases e
  obtain ⟨ha,hb⟩:=h
  by_cases hl:a.length=b.length
  .refine ⟨cCmL a b,300,zB a b,_,_,_,_,_,cCmL_ok a b ha hl,rfl,rfl,⟨rfl,rfl,trivial⟩,cm_eq a b,rfl,⟨?_,rfl,rfl,rfl⟩,rfl,rfl,?_⟩
   .rw [hl]; exact bne_f.2 rfl
   .show (bif !fndI a b ((a.length:Int) - 1) then 0 else dfI a b ((a.length:Int) - 1))=cmpI a b
    unfold cmpI fndI dfI
    rw [if_pos hl,show ((a.length:Int) - 1+1).toNat=a.length by omega]
    cases e:fndB a b a.length with
    | true=>rfl
    | false=>rw [fnd_df _ e]; rfl
  .refine ⟨cCm true,300,zB a b,_,_,_,_,_,cCm_ok true,rfl,rfl,⟨rfl,rfl,trivial⟩,cm_ne a b,rfl,?_,rfl,rfl,?_⟩
   .exact bne_t.2 (by omega)
   .show IntKind.i64.wrap ((a.length:Int) - b.length)=cmpI a b
    unfold cmpI
    rw [if_neg hl]
 .cases e
end
end Go.Proofs.Ytmnhhlnbfkfkaaa.K
namespace Go.Proofs.Ytmnhhlnbfkfkaaa.K
open Go Go.Eng Go.Dg
noncomputable section
def hUp (x t0:Nat):Nat->Nat->Option AV:=fun c t=>match Nat.beq t t0 with
 | true=>match Nat.ble c x with
  | true=>some (.bool false true)
  | false=>some (.bool false false)
 | false=>none
def cOn (x:Nat):Ctx:=hinting cL (hUp x 9)
theorem cOn_ok (x:Nat):CtxOk (cOn x):=hinting_ok cL_ok _
end
end Go.Proofs.Ytmnhhlnbfkfkaaa.K
namespace Go.Proofs.Ytmnhhlnbfkfkaaa.K
open Go Go.Eng Go.Dg
noncomputable section
def of_1_nd (n:Int):Prop:=((n != (0:Int))=true/\(IntKind.i64.wrap (n.tdiv (1000000000:Int)) != (0:Int))=false)
def of_1_v (n:Int):AV:=(AV.agg [AV.bool true (decide (n<(0:Int))),AV.gslice (0:Nat) (0:Nat) 1 1])
def of_1_h (n:Int):Hp:=⟨[{ wr:=23,body:=ABody.grown [AV.int true IntKind.i64 (if IntKind.i64.wrap ((0:Int) - n.tmod (1000000000:Int))>n.tmod (1000000000:Int) then IntKind.i64.wrap ((0:Int) - n.tmod (1000000000:Int)) else n.tmod (1000000000:Int))] }],1,32⟩
theorem of_1 (n:Int):(run (cOn 11) 300).call 64 [.int true .i64 n] hG0=some ⟨.p (of_1_nd n),[⟨.tt,of_1_v n,of_1_h n⟩]⟩:=by kernel_rfl
def of_2_nd (n:Int):Prop:=((n != (0:Int))=true/\(IntKind.i64.wrap (n.tdiv (1000000000:Int)) != (0:Int))=true/\(IntKind.i64.wrap ((IntKind.i64.wrap (n.tdiv (1000000000:Int))).tdiv (1000000000:Int)) != (0:Int))=false)
def of_2_v (n:Int):AV:=(AV.agg [AV.bool true (decide (n<(0:Int))),AV.gslice (0:Nat) (0:Nat) 2 1])
def of_2_h (n:Int):Hp:=⟨[{ wr:=42,body:=ABody.grown [AV.int true IntKind.i64 (if IntKind.i64.wrap ((0:Int) - n.tmod (1000000000:Int))>n.tmod (1000000000:Int) then IntKind.i64.wrap ((0:Int) - n.tmod (1000000000:Int)) else n.tmod (1000000000:Int)),AV.int true IntKind.i64 (if IntKind.i64.wrap ((0:Int) - (IntKind.i64.wrap (n.tdiv (1000000000:Int))).tmod (1000000000:Int))>(IntKind.i64.wrap (n.tdiv (1000000000:Int))).tmod (1000000000:Int) then IntKind.i64.wrap ((0:Int) - (IntKind.i64.wrap (n.tdiv (1000000000:Int))).tmod (1000000000:Int)) else (IntKind.i64.wrap (n.tdiv (1000000000:Int))).tmod (1000000000:Int))] }],1,51⟩
theorem of_2 (n:Int):(run (cOn 30) 300).call 64 [.int true .i64 n] hG0=some ⟨.p (of_2_nd n),[⟨.tt,of_2_v n,of_2_h n⟩]⟩:=by kernel_rfl
end
end Go.Proofs.Ytmnhhlnbfkfkaaa.K
namespace Go.Proofs.Ytmnhhlnbfkfkaaa.K
open Go Go.Eng Go.Dg
noncomputable section
def onV:List Nu->List (List Int)->Option (Prop×To)
 | [.n n],[]=>some (0<n/\n<1000000000000000000,.st [.pb false,.li false (digs n.toNat)])
 | _,_=>none
theorem on_d {n:Int} (h0:0<=n) (h1:n<9000000000000000000):(if IntKind.i64.wrap (0 - n.tmod 1000000000)>n.tmod 1000000000 then IntKind.i64.wrap (0 - n.tmod 1000000000) else n.tmod 1000000000)=n % 1000000000:=by
 have e:n.tmod 1000000000=n % 1000000000:=Int.tmod_eq_emod_of_nonneg h0
 rw [e,iw (by omega) (by omega),if_neg (by omega)]
theorem on_q {n:Int} (h0:0<=n) (h1:n<9000000000000000000):IntKind.i64.wrap (n.tdiv 1000000000)=n / 1000000000:=by
 rw [Int.tdiv_eq_ediv_of_nonneg h0,iw (by omega) (by omega)]
theorem digs_1 {n:Int} (h0:0<n) (h1:n<1000000000):digs n.toNat=[n % 1000000000]:=by
 rw [digs_pos (by omega),show n.toNat / 1000000000=0 by omega,digs_zero]
 congr 1
 omega
theorem digs_2 {n:Int} (h0:1000000000<=n) (h1:n<1000000000000000000):digs n.toNat=[n % 1000000000,n / 1000000000 % 1000000000]:=by
 rw [digs_pos (by omega),digs_pos (by omega),show n.toNat / 1000000000 / 1000000000=0 by omega,digs_zero]
 congr 1
 .omega
 .congr 1
  omega
theorem on_ok:NOk Try.prog (fun _=>none) hG0 64 (mSpec hG0 .i64 [.nu (.i .i64)] onV):=by
 refine msp_runs (fun xs ys p t e h=>?_) ⟨_,Try.func64,rfl⟩
 unfold onV at e
 split at e
 .rename_i n
  cases e
  obtain ⟨h0,h1⟩:=h
  have q1:=on_q (n:=n) (by omega) (by omega)
  have d1:=on_d (n:=n) (by omega) (by omega)
  by_cases h:n<1000000000
  .refine ⟨cOn 11,300,[.int true .i64 n],_,_,_,_,_,cOn_ok 11,rfl,rfl,⟨⟨rfl,rfl⟩,trivial⟩,of_1 n,rfl,⟨bne_t.2 (by omega),?_⟩,rfl,rfl,?_⟩
   .rw [q1]; exact bne_f.2 (by omega)
   .refine ⟨decide_eq_false (by omega),?_⟩
    show [_]=digs n.toNat
    rw [d1,digs_1 h0 h]
  .have q2:=on_q (n:=n / 1000000000) (by omega) (by omega)
   have d2:=on_d (n:=n / 1000000000) (by omega) (by omega)
   refine ⟨cOn 30,300,[.int true .i64 n],_,_,_,_,_,cOn_ok 30,rfl,rfl,⟨⟨rfl,rfl⟩,trivial⟩,of_2 n,rfl,⟨bne_t.2 (by omega),?_,?_⟩,rfl,rfl,?_⟩
   .rw [q1]; exact bne_t.2 (by omega)
   .rw [q1,q2]; exact bne_f.2 (by omega)
   .refine ⟨decide_eq_false (by omega),?_⟩
    show [_,_]=digs n.toNat
    rw [d1,q1,d2,digs_2 (by omega) h1]
 .cases e
end
end Go.Proofs.Ytmnhhlnbfkfkaaa.K
namespace Go.Proofs.Ytmnhhlnbfkfkaaa.K
open Go Go.Eng Go.Dg
noncomputable section
def tZ:List (FuncId×NSpec):=
 (76,mSpec hG0 .i64 [.li,.nu (.i .i64)] paV) ::
 (63,mSpec hG0 .i64 [.li,.li] timV) ::
 (69,mSpec hG0 .i64 [.li,.li] minV) ::
 (70,mSpec hG0 .i64 [.li,.li] pluV) ::
 (67,mSpec hG0 .i64 [.li,.li] cmpV) ::
 (64,mSpec hG0 .i64 [.nu (.i .i64)] onV) :: []
theorem tZ_ok:∀ x∈tZ,NOk Try.prog (fun _=>none) hG0 x.1 x.2:=by
 intro x hx
 simp only [tZ,List.mem_cons,List.not_mem_nil,or_false] at hx
 rcases hx with rfl|rfl|rfl|rfl|rfl|rfl
 .exact part_ok
 .exact times_ok
 .exact minus_z
 .exact plus_ok
 .exact cmp_ok
 .exact on_ok
def cZ:Ctx:=mkN Try.prog (fun _=>none) hG0 tZ [] noExt
theorem cZ_ok:CtxOk cZ:=mkN_ok prog_ok (noExt_ok _) tZ_ok (fun x h=>by cases h)
def cZb (l:List (Nat×Bool)):Ctx:=hinting cZ (hZ (l.map fun x=>(x.1,match x.2 with|true=>.bool false true|false=>.bool false false)))
theorem cZb_ok (l:List (Nat×Bool)):CtxOk (cZb l):=hinting_ok cZ_ok _
def seArgs (y:List Int):List AV:=[.lslice 0 y.length,.int false .i64 5]
def seFr:AFr:=⟨66,none⟩
def seA:Code:=loopOf Try.prog 66 0
noncomputable def seS (y:List Int):St:=stAt cZ 300 66 (seArgs y) (zH y)
end
end Go.Proofs.Ytmnhhlnbfkfkaaa.K
namespace Go.Dg
open Go Go.Eng
def PP:Int:=1000000000000000000000000000000000000000000000
def serN (sq:Int):Nat->Int->Int->Int->Int
 | 0,_,_,s=>s
 | n+1,i,t,s=>match decide (t*sq / PP / (i*(i+1))=0) with
  | true=>s
  | false=>serN sq n (i+2) (t*sq / PP / (i*(i+1))) (match decide (i % 4=2) with|true=>s - t*sq / PP / (i*(i+1))|false=>s+t*sq / PP / (i*(i+1)))
def cutI (n:Int):Int:=if n<5 then n else 5
def cutL (v:Int):List Int:=List.take ((digs v.toNat).length - cutI (digs v.toNat).length:Int).toNat (List.drop (cutI (digs v.toNat).length).toNat (digs v.toNat))
theorem val_drop:∀ {l:List Int} (k:Nat),Dig l->val (l.drop k)=val l / pw k
 | l,0,_=>by simp [pw]
 | [],k+1,_=>by simp [val]
 | x :: l,k+1,h=>by
  have hh:=dig_cons.1 h
  have p:=pw_pos k
  rw [List.drop_succ_cons,val_drop k hh.2,pw_succ,<- Int.ediv_ediv_of_nonneg (by omega)]
  congr 1
  simp only [val]
  omega
theorem PP_pw:pw 5=PP:=by decide
theorem cutL_eq {v:Int} (h:0<=v):cutL v=(digs v.toNat).drop (cutI (digs v.toNat).length).toNat:=by
 unfold cutL cutI
 rw [List.take_of_length_le]
 rw [List.length_drop]
 split <;> omega
theorem cutL_val {v:Int} (h:0<=v):val (cutL v)=v / PP:=by
 have hv:val (digs v.toNat)=v:=by rw [val_digs]; omega
 have hd:=dig_digs v.toNat
 rw [cutL_eq h]
 unfold cutI
 split
 .rename_i h5
  rw [show (((digs v.toNat).length:Int)).toNat=(digs v.toNat).length by omega,List.drop_length]
  have h1:=val_lt hd
  have h2:=pw_mono (show (digs v.toNat).length<=5 by omega)
  rw [PP_pw] at h2
  rw [hv] at h1
  show (0:Int)=v / PP
  rw [Int.ediv_eq_zero_of_lt h (by omega)]
 .rw [show Int.toNat 5=5 from rfl,val_drop 5 hd,hv,PP_pw]
theorem dig_take {l:List Int} (h:Dig l) (n:Nat):Dig (l.take n):=fun x hx=>h x (List.mem_of_mem_take hx)
theorem dig_drop {l:List Int} (h:Dig l) (n:Nat):Dig (l.drop n):=fun x hx=>h x (List.mem_of_mem_drop hx)
theorem cutL_dig (v:Int):Dig (cutL v):=dig_take (dig_drop (dig_digs _) _) _
end Go.Dg
namespace Go.Dg
theorem PP_pos:0<PP:=by decide
theorem ser_bd {sq t i:Int} (hs0:0<=sq) (hs:sq<=3*PP) (ht:0<=t) (hi:2<=i):0<=t*sq / PP / (i*(i+1))/\2*(t*sq / PP / (i*(i+1)))<=t:=by
 have p:=PP_pos
 have hii:6<=i*(i+1):=Int.mul_le_mul (a:=2) (b:=3) (c:=i) (d:=i+1) hi (by omega) (by decide) (by omega)
 have h1:t*sq<=t*(3*PP):=Int.mul_le_mul_of_nonneg_left hs ht
 have h2:t*sq / PP<=3*t:=by
  refine Int.ediv_le_of_le_mul p ?_
  rw [show 3*t*PP=t*(3*PP) by rw [Int.mul_comm 3 t,Int.mul_assoc]]
  exact h1
 have h0:0<=t*sq / PP:=Int.ediv_nonneg (Int.mul_nonneg ht hs0) (by omega)
 have h3:0<=t*sq / PP / (i*(i+1)):=Int.ediv_nonneg h0 (by omega)
 have h4:=Int.ediv_mul_le (t*sq / PP) (b:=i*(i+1)) (by omega)
 have h5:=Int.mul_le_mul_of_nonneg_left hii h3
 exact ⟨h3,by omega⟩
theorem serN_end {sq:Int} {n:Nat} {i t s:Int} (h:t*sq / PP / (i*(i+1))=0):serN sq (n+1) i t s=s:=by
 rw [serN,decide_eq_true h]
theorem serN_step {sq:Int} {n:Nat} {i t s:Int} (h:t*sq / PP / (i*(i+1))≠0):serN sq (n+1) i t s=serN sq n (i+2) (t*sq / PP / (i*(i+1))) (match decide (i % 4=2) with|true=>s - t*sq / PP / (i*(i+1))|false=>s+t*sq / PP / (i*(i+1))):=by
 rw [serN,decide_eq_false h]
end Go.Dg
namespace Go.Dg
def arcN (x:Int):Nat->Int->Int->Int->Int
 | 0,_,_,s=>s
 | n+1,i,t,s=>match decide (t / (x*x) / i=0) with
  | true=>s
  | false=>arcN x n (i+2) (t / (x*x)) (match decide (i % 4=1) with|true=>s+t / (x*x) / i|false=>s - t / (x*x) / i)
theorem arcN_end {x:Int} {n:Nat} {i t s:Int} (h:t / (x*x) / i=0):arcN x (n+1) i t s=s:=by
 rw [arcN,decide_eq_true h]
theorem arcN_step {x:Int} {n:Nat} {i t s:Int} (h:t / (x*x) / i≠0):arcN x (n+1) i t s=arcN x n (i+2) (t / (x*x)) (match decide (i % 4=1) with|true=>s+t / (x*x) / i|false=>s - t / (x*x) / i):=by
 rw [arcN,decide_eq_false h]
end Go.Dg
namespace Go.Proofs.Ytmnhhlnbfkfkaaa.K
open Go Go.Eng Go.Dg
noncomputable section
def cSe (e m:Bool):Ctx:=cZb [(33,e),(37,m)]
theorem cSe_ok (e m:Bool):CtxOk (cSe e m):=cZb_ok _
def seP:Option (Int×Int×Int)->Patch
 | none=>⟨(8,.int true .i64 2) :: deadT 16 28,[],[]⟩
 | some (i,t,s)=>⟨(6,.lslice 3 (digs s.toNat).length) :: (7,.lslice 2 (digs t.toNat).length) :: (8,.int true .i64 i) :: deadT 16 28,[],[.rows .i64 (digs s.toNat),.rows .i64 (digs t.toNat)]⟩
def seX (s:Int):Patch:=⟨(4,.lslice 2 (digs s.toNat).length) :: (6,.any false) :: (7,.any false) :: (8,.any false) :: deadT 16 28,[],[.rows .i64 (digs s.toNat)]⟩
def seSq (y:List Int):Int:=val y*val y / PP
def seT (y:List Int) (i t:Int):Int:=t*seSq y / PP / (i*(i+1))
def seR (y:List Int):Option (Int×Int×Int)->Int
 | none=>serN (seSq y) 200 2 (val y) (val y)
 | some (i,t,s)=>serN (seSq y) (201 - (i / 2).toNat) i t s
def seU (y:List Int):SumL (Option (Int×Int×Int)):=
 {
  S:=seP
  I:=fun x=>match x with
   | none=>True
   | some (i,t,s)=>0<t/\i % 2=0/\2<i/\i<=400/\2 ^ (i / 2).toNat*t<=4*PP/\0<s/\(i % 4=2->t<=s)/\s<=i*PP
  μ:=fun x=>match x with
   | none=>400
   | some (i,_,_)=>(400 - i).toNat
  F:=fun x=>(.ret,seX (seR y x))
  next:=fun x=>match x with
   | none=>some (4,seT y 2 (val y),val y - seT y 2 (val y))
   | some (i,t,s)=>some (i+2,seT y i t,match decide (i % 4=2) with|true=>s - seT y i t|false=>s+seT y i t)
  ids:=fun x=>match x with
   | none=>[3,4]
   | some _=>[5,6]
  X:=fun x _=>match x with
   | none=>none
   | some (_,_,s)=>some (seX s,[3]) }
end
end Go.Proofs.Ytmnhhlnbfkfkaaa.K
namespace Go.Proofs.Ytmnhhlnbfkfkaaa.K
open Go Go.Eng Go.Dg
noncomputable section
def se_start_nd (y:List Int):Prop:=(2:Int)=(2:Int)
theorem se_start (y:List Int):fit (seS y) (seS y) (patch (seS y) ((seU y).S none)) ([])=some (.p (se_start_nd y)):=by kernel_rfl
def se_b0_nd (y:List Int):Prop:=(((((↑y.length:Int)=(↑y.length:Int)/\((0:Int)<=cutI (↑(digs (val y*val y).toNat).length:Int))/\((0:Int)<=(↑(digs (val y*val y).toNat).length:Int) - cutI (↑(digs (val y*val y).toNat).length:Int))/\(cutI (↑(digs (val y*val y).toNat).length:Int))+((↑(digs (val y*val y).toNat).length:Int) - cutI (↑(digs (val y*val y).toNat).length:Int))<=(↑(digs (val y*val y).toNat).length:Int))/\Dig y/\Dig (cutL (val y*val y))/\y.length+(cutL (val y*val y)).length<=(500000:Nat))/\(((0:Int)<=cutI (↑(digs (val y*val (cutL (val y*val y))).toNat).length:Int))/\(cutI (↑(digs (val y*val (cutL (val y*val y))).toNat).length:Int))<=(↑(digs (val y*val (cutL (val y*val y))).toNat).length:Int)/\(↑(digs (val y*val (cutL (val y*val y))).toNat).length:Int)<=(↑(digs (val y*val (cutL (val y*val y))).toNat).length:Int))/\(((0:Int)<=cutI (↑(digs (val y*val (cutL (val y*val y))).toNat).length:Int))/\((0:Int)<=(↑(digs (val y*val (cutL (val y*val y))).toNat).length:Int) - cutI (↑(digs (val y*val (cutL (val y*val y))).toNat).length:Int))/\(cutI (↑(digs (val y*val (cutL (val y*val y))).toNat).length:Int))+((↑(digs (val y*val (cutL (val y*val y))).toNat).length:Int) - cutI (↑(digs (val y*val (cutL (val y*val y))).toNat).length:Int))<=(↑(digs (val y*val (cutL (val y*val y))).toNat).length:Int))/\Dig (cutL (val y*val (cutL (val y*val y))))/\(cutL (val y*val (cutL (val y*val y)))).length<=(500000:Nat)/\(1:Int)<=IntKind.i64.wrap ((2:Int)*IntKind.i64.wrap ((2:Int)+(1:Int)))/\IntKind.i64.wrap ((2:Int)*IntKind.i64.wrap ((2:Int)+(1:Int)))<=(1000000000:Int))/\((↑(digs (val (cutL (val y*val (cutL (val y*val y)))) / IntKind.i64.wrap ((2:Int)*IntKind.i64.wrap ((2:Int)+(1:Int)))).toNat).length:Int)==(0:Int))=false/\(Int.tmod (2:Int) (4:Int)==(2:Int))=true/\((↑y.length:Int)=(↑y.length:Int)/\(↑(digs (val (cutL (val y*val (cutL (val y*val y)))) / IntKind.i64.wrap ((2:Int)*IntKind.i64.wrap ((2:Int)+(1:Int)))).toNat).length:Int)=(↑(digs (val (cutL (val y*val (cutL (val y*val y)))) / IntKind.i64.wrap ((2:Int)*IntKind.i64.wrap ((2:Int)+(1:Int)))).toNat).length:Int))/\Dig y/\Dig (digs (val (cutL (val y*val (cutL (val y*val y)))) / IntKind.i64.wrap ((2:Int)*IntKind.i64.wrap ((2:Int)+(1:Int)))).toNat)/\(0:Nat)<y.length/\y.length<=(500000:Nat)/\(digs (val (cutL (val y*val (cutL (val y*val y)))) / IntKind.i64.wrap ((2:Int)*IntKind.i64.wrap ((2:Int)+(1:Int)))).toNat).length<=y.length/\val (digs (val (cutL (val y*val (cutL (val y*val y)))) / IntKind.i64.wrap ((2:Int)*IntKind.i64.wrap ((2:Int)+(1:Int)))).toNat)<=val y)/\(true=true->(((↑(digs (val y - val (digs (val (cutL (val y*val (cutL (val y*val y)))) / IntKind.i64.wrap ((2:Int)*IntKind.i64.wrap ((2:Int)+(1:Int)))).toNat)).toNat).length:Int)=(↑(digs (val y - seT y (2:Int) (val y)).toNat).length:Int)/\(↑(digs (val (cutL (val y*val (cutL (val y*val y)))) / IntKind.i64.wrap ((2:Int)*IntKind.i64.wrap ((2:Int)+(1:Int)))).toNat).length:Int)=(↑(digs (seT y (2:Int) (val y)).toNat).length:Int)/\IntKind.i64.wrap ((2:Int)+(2:Int))=(4:Int))/\digs (val y - val (digs (val (cutL (val y*val (cutL (val y*val y)))) / IntKind.i64.wrap ((2:Int)*IntKind.i64.wrap ((2:Int)+(1:Int)))).toNat)).toNat=digs (val y - seT y (2:Int) (val y)).toNat/\digs (val (cutL (val y*val (cutL (val y*val y)))) / IntKind.i64.wrap ((2:Int)*IntKind.i64.wrap ((2:Int)+(1:Int)))).toNat=digs (seT y (2:Int) (val y)).toNat)/\(seU y).I ((seU y).next none)/\(seU y).μ ((seU y).next none)<(seU y).μ none/\(seU y).F ((seU y).next none)=(seU y).F none)
theorem se_b0 (y:List Int):chkR (seS y) ((seU y).way (none)) ((run (cSe false true) 300).code seFr seA (patch (seS y) ((seU y).S none)))=some (.p (se_b0_nd y)):=by kernel_rfl
def se_bm_nd (y:List Int) (i t s:Int):Prop:=(((((↑(digs t.toNat).length:Int)=(↑(digs t.toNat).length:Int)/\((0:Int)<=cutI (↑(digs (val y*val y).toNat).length:Int))/\((0:Int)<=(↑(digs (val y*val y).toNat).length:Int) - cutI (↑(digs (val y*val y).toNat).length:Int))/\(cutI (↑(digs (val y*val y).toNat).length:Int))+((↑(digs (val y*val y).toNat).length:Int) - cutI (↑(digs (val y*val y).toNat).length:Int))<=(↑(digs (val y*val y).toNat).length:Int))/\Dig (digs t.toNat)/\Dig (cutL (val y*val y))/\(digs t.toNat).length+(cutL (val y*val y)).length<=(500000:Nat))/\(((0:Int)<=cutI (↑(digs (val (digs t.toNat)*val (cutL (val y*val y))).toNat).length:Int))/\(cutI (↑(digs (val (digs t.toNat)*val (cutL (val y*val y))).toNat).length:Int))<=(↑(digs (val (digs t.toNat)*val (cutL (val y*val y))).toNat).length:Int)/\(↑(digs (val (digs t.toNat)*val (cutL (val y*val y))).toNat).length:Int)<=(↑(digs (val (digs t.toNat)*val (cutL (val y*val y))).toNat).length:Int))/\(((0:Int)<=cutI (↑(digs (val (digs t.toNat)*val (cutL (val y*val y))).toNat).length:Int))/\((0:Int)<=(↑(digs (val (digs t.toNat)*val (cutL (val y*val y))).toNat).length:Int) - cutI (↑(digs (val (digs t.toNat)*val (cutL (val y*val y))).toNat).length:Int))/\(cutI (↑(digs (val (digs t.toNat)*val (cutL (val y*val y))).toNat).length:Int))+((↑(digs (val (digs t.toNat)*val (cutL (val y*val y))).toNat).length:Int) - cutI (↑(digs (val (digs t.toNat)*val (cutL (val y*val y))).toNat).length:Int))<=(↑(digs (val (digs t.toNat)*val (cutL (val y*val y))).toNat).length:Int))/\Dig (cutL (val (digs t.toNat)*val (cutL (val y*val y))))/\(cutL (val (digs t.toNat)*val (cutL (val y*val y)))).length<=(500000:Nat)/\(1:Int)<=IntKind.i64.wrap (i*IntKind.i64.wrap (i+(1:Int)))/\IntKind.i64.wrap (i*IntKind.i64.wrap (i+(1:Int)))<=(1000000000:Int))/\((↑(digs (val (cutL (val (digs t.toNat)*val (cutL (val y*val y)))) / IntKind.i64.wrap (i*IntKind.i64.wrap (i+(1:Int)))).toNat).length:Int)==(0:Int))=false/\(i.tmod (4:Int)==(2:Int))=true/\((↑(digs s.toNat).length:Int)=(↑(digs s.toNat).length:Int)/\(↑(digs (val (cutL (val (digs t.toNat)*val (cutL (val y*val y)))) / IntKind.i64.wrap (i*IntKind.i64.wrap (i+(1:Int)))).toNat).length:Int)=(↑(digs (val (cutL (val (digs t.toNat)*val (cutL (val y*val y)))) / IntKind.i64.wrap (i*IntKind.i64.wrap (i+(1:Int)))).toNat).length:Int))/\Dig (digs s.toNat)/\Dig (digs (val (cutL (val (digs t.toNat)*val (cutL (val y*val y)))) / IntKind.i64.wrap (i*IntKind.i64.wrap (i+(1:Int)))).toNat)/\(0:Nat)<(digs s.toNat).length/\(digs s.toNat).length<=(500000:Nat)/\(digs (val (cutL (val (digs t.toNat)*val (cutL (val y*val y)))) / IntKind.i64.wrap (i*IntKind.i64.wrap (i+(1:Int)))).toNat).length<=(digs s.toNat).length/\val (digs (val (cutL (val (digs t.toNat)*val (cutL (val y*val y)))) / IntKind.i64.wrap (i*IntKind.i64.wrap (i+(1:Int)))).toNat)<=val (digs s.toNat))/\(true=true->(((↑(digs (val (digs s.toNat) - val (digs (val (cutL (val (digs t.toNat)*val (cutL (val y*val y)))) / IntKind.i64.wrap (i*IntKind.i64.wrap (i+(1:Int)))).toNat)).toNat).length:Int)=(↑(digs (match decide (i % (4:Int)=(2:Int)) with|true=>s - seT y i t|false=>s+seT y i t).toNat).length:Int)/\(↑(digs (val (cutL (val (digs t.toNat)*val (cutL (val y*val y)))) / IntKind.i64.wrap (i*IntKind.i64.wrap (i+(1:Int)))).toNat).length:Int)=(↑(digs (seT y i t).toNat).length:Int)/\IntKind.i64.wrap (i+(2:Int))=i+(2:Int))/\digs (val (digs s.toNat) - val (digs (val (cutL (val (digs t.toNat)*val (cutL (val y*val y)))) / IntKind.i64.wrap (i*IntKind.i64.wrap (i+(1:Int)))).toNat)).toNat=digs (match decide (i % (4:Int)=(2:Int)) with|true=>s - seT y i t|false=>s+seT y i t).toNat/\digs (val (cutL (val (digs t.toNat)*val (cutL (val y*val y)))) / IntKind.i64.wrap (i*IntKind.i64.wrap (i+(1:Int)))).toNat=digs (seT y i t).toNat)/\(seU y).I ((seU y).next (some (i,t,s)))/\(seU y).μ ((seU y).next (some (i,t,s)))<(seU y).μ (some (i,t,s))/\(seU y).F ((seU y).next (some (i,t,s)))=(seU y).F (some (i,t,s)))
theorem se_bm (y:List Int) (i t s:Int):chkR (seS y) ((seU y).way ((some (i,t,s)))) ((run (cSe false true) 300).code seFr seA (patch (seS y) ((seU y).S (some (i,t,s)))))=some (.p (se_bm_nd y i t s)):=by kernel_rfl
def se_bp_nd (y:List Int) (i t s:Int):Prop:=(((((↑(digs t.toNat).length:Int)=(↑(digs t.toNat).length:Int)/\((0:Int)<=cutI (↑(digs (val y*val y).toNat).length:Int))/\((0:Int)<=(↑(digs (val y*val y).toNat).length:Int) - cutI (↑(digs (val y*val y).toNat).length:Int))/\(cutI (↑(digs (val y*val y).toNat).length:Int))+((↑(digs (val y*val y).toNat).length:Int) - cutI (↑(digs (val y*val y).toNat).length:Int))<=(↑(digs (val y*val y).toNat).length:Int))/\Dig (digs t.toNat)/\Dig (cutL (val y*val y))/\(digs t.toNat).length+(cutL (val y*val y)).length<=(500000:Nat))/\(((0:Int)<=cutI (↑(digs (val (digs t.toNat)*val (cutL (val y*val y))).toNat).length:Int))/\(cutI (↑(digs (val (digs t.toNat)*val (cutL (val y*val y))).toNat).length:Int))<=(↑(digs (val (digs t.toNat)*val (cutL (val y*val y))).toNat).length:Int)/\(↑(digs (val (digs t.toNat)*val (cutL (val y*val y))).toNat).length:Int)<=(↑(digs (val (digs t.toNat)*val (cutL (val y*val y))).toNat).length:Int))/\(((0:Int)<=cutI (↑(digs (val (digs t.toNat)*val (cutL (val y*val y))).toNat).length:Int))/\((0:Int)<=(↑(digs (val (digs t.toNat)*val (cutL (val y*val y))).toNat).length:Int) - cutI (↑(digs (val (digs t.toNat)*val (cutL (val y*val y))).toNat).length:Int))/\(cutI (↑(digs (val (digs t.toNat)*val (cutL (val y*val y))).toNat).length:Int))+((↑(digs (val (digs t.toNat)*val (cutL (val y*val y))).toNat).length:Int) - cutI (↑(digs (val (digs t.toNat)*val (cutL (val y*val y))).toNat).length:Int))<=(↑(digs (val (digs t.toNat)*val (cutL (val y*val y))).toNat).length:Int))/\Dig (cutL (val (digs t.toNat)*val (cutL (val y*val y))))/\(cutL (val (digs t.toNat)*val (cutL (val y*val y)))).length<=(500000:Nat)/\(1:Int)<=IntKind.i64.wrap (i*IntKind.i64.wrap (i+(1:Int)))/\IntKind.i64.wrap (i*IntKind.i64.wrap (i+(1:Int)))<=(1000000000:Int))/\((↑(digs (val (cutL (val (digs t.toNat)*val (cutL (val y*val y)))) / IntKind.i64.wrap (i*IntKind.i64.wrap (i+(1:Int)))).toNat).length:Int)==(0:Int))=false/\(i.tmod (4:Int)==(2:Int))=false/\((↑(digs s.toNat).length:Int)=(↑(digs s.toNat).length:Int)/\(↑(digs (val (cutL (val (digs t.toNat)*val (cutL (val y*val y)))) / IntKind.i64.wrap (i*IntKind.i64.wrap (i+(1:Int)))).toNat).length:Int)=(↑(digs (val (cutL (val (digs t.toNat)*val (cutL (val y*val y)))) / IntKind.i64.wrap (i*IntKind.i64.wrap (i+(1:Int)))).toNat).length:Int))/\Dig (digs s.toNat)/\Dig (digs (val (cutL (val (digs t.toNat)*val (cutL (val y*val y)))) / IntKind.i64.wrap (i*IntKind.i64.wrap (i+(1:Int)))).toNat)/\((0:Nat)<(digs s.toNat).length\/(0:Nat)<(digs (val (cutL (val (digs t.toNat)*val (cutL (val y*val y)))) / IntKind.i64.wrap (i*IntKind.i64.wrap (i+(1:Int)))).toNat).length)/\(digs s.toNat).length<=(400000:Nat)/\(digs (val (cutL (val (digs t.toNat)*val (cutL (val y*val y)))) / IntKind.i64.wrap (i*IntKind.i64.wrap (i+(1:Int)))).toNat).length<=(400000:Nat))/\(true=true->(((↑(digs (val (digs s.toNat)+val (digs (val (cutL (val (digs t.toNat)*val (cutL (val y*val y)))) / IntKind.i64.wrap (i*IntKind.i64.wrap (i+(1:Int)))).toNat)).toNat).length:Int)=(↑(digs (match decide (i % (4:Int)=(2:Int)) with|true=>s - seT y i t|false=>s+seT y i t).toNat).length:Int)/\(↑(digs (val (cutL (val (digs t.toNat)*val (cutL (val y*val y)))) / IntKind.i64.wrap (i*IntKind.i64.wrap (i+(1:Int)))).toNat).length:Int)=(↑(digs (seT y i t).toNat).length:Int)/\IntKind.i64.wrap (i+(2:Int))=i+(2:Int))/\digs (val (digs s.toNat)+val (digs (val (cutL (val (digs t.toNat)*val (cutL (val y*val y)))) / IntKind.i64.wrap (i*IntKind.i64.wrap (i+(1:Int)))).toNat)).toNat=digs (match decide (i % (4:Int)=(2:Int)) with|true=>s - seT y i t|false=>s+seT y i t).toNat/\digs (val (cutL (val (digs t.toNat)*val (cutL (val y*val y)))) / IntKind.i64.wrap (i*IntKind.i64.wrap (i+(1:Int)))).toNat=digs (seT y i t).toNat)/\(seU y).I ((seU y).next (some (i,t,s)))/\(seU y).μ ((seU y).next (some (i,t,s)))<(seU y).μ (some (i,t,s))/\(seU y).F ((seU y).next (some (i,t,s)))=(seU y).F (some (i,t,s)))
theorem se_bp (y:List Int) (i t s:Int):chkR (seS y) ((seU y).way ((some (i,t,s)))) ((run (cSe false false) 300).code seFr seA (patch (seS y) ((seU y).S (some (i,t,s)))))=some (.p (se_bp_nd y i t s)):=by kernel_rfl
def se_e_nd (y:List Int) (i t s:Int):Prop:=(((((↑(digs t.toNat).length:Int)=(↑(digs t.toNat).length:Int)/\((0:Int)<=cutI (↑(digs (val y*val y).toNat).length:Int))/\((0:Int)<=(↑(digs (val y*val y).toNat).length:Int) - cutI (↑(digs (val y*val y).toNat).length:Int))/\(cutI (↑(digs (val y*val y).toNat).length:Int))+((↑(digs (val y*val y).toNat).length:Int) - cutI (↑(digs (val y*val y).toNat).length:Int))<=(↑(digs (val y*val y).toNat).length:Int))/\Dig (digs t.toNat)/\Dig (cutL (val y*val y))/\(digs t.toNat).length+(cutL (val y*val y)).length<=(500000:Nat))/\(((0:Int)<=cutI (↑(digs (val (digs t.toNat)*val (cutL (val y*val y))).toNat).length:Int))/\(cutI (↑(digs (val (digs t.toNat)*val (cutL (val y*val y))).toNat).length:Int))<=(↑(digs (val (digs t.toNat)*val (cutL (val y*val y))).toNat).length:Int)/\(↑(digs (val (digs t.toNat)*val (cutL (val y*val y))).toNat).length:Int)<=(↑(digs (val (digs t.toNat)*val (cutL (val y*val y))).toNat).length:Int))/\(((0:Int)<=cutI (↑(digs (val (digs t.toNat)*val (cutL (val y*val y))).toNat).length:Int))/\((0:Int)<=(↑(digs (val (digs t.toNat)*val (cutL (val y*val y))).toNat).length:Int) - cutI (↑(digs (val (digs t.toNat)*val (cutL (val y*val y))).toNat).length:Int))/\(cutI (↑(digs (val (digs t.toNat)*val (cutL (val y*val y))).toNat).length:Int))+((↑(digs (val (digs t.toNat)*val (cutL (val y*val y))).toNat).length:Int) - cutI (↑(digs (val (digs t.toNat)*val (cutL (val y*val y))).toNat).length:Int))<=(↑(digs (val (digs t.toNat)*val (cutL (val y*val y))).toNat).length:Int))/\Dig (cutL (val (digs t.toNat)*val (cutL (val y*val y))))/\(cutL (val (digs t.toNat)*val (cutL (val y*val y)))).length<=(500000:Nat)/\(1:Int)<=IntKind.i64.wrap (i*IntKind.i64.wrap (i+(1:Int)))/\IntKind.i64.wrap (i*IntKind.i64.wrap (i+(1:Int)))<=(1000000000:Int))/\((↑(digs (val (cutL (val (digs t.toNat)*val (cutL (val y*val y)))) / IntKind.i64.wrap (i*IntKind.i64.wrap (i+(1:Int)))).toNat).length:Int)==(0:Int))=true)/\(true=true->((↑(digs s.toNat).length:Int)=(↑(digs s.toNat).length:Int)/\digs s.toNat=digs s.toNat)/\(seU y).F (some (i,t,s))=(Ex.ret,seX s))
theorem se_e (y:List Int) (i t s:Int):chkR (seS y) ((seU y).way ((some (i,t,s)))) ((run (cSe true false) 300).code seFr seA (patch (seS y) ((seU y).S (some (i,t,s)))))=some (.p (se_e_nd y i t s)):=by kernel_rfl
end
end Go.Proofs.Ytmnhhlnbfkfkaaa.K
namespace Go.Proofs.Ytmnhhlnbfkfkaaa.K
open Go Go.Eng Go.Dg
noncomputable section
structure SeD (y:List Int):Prop where
 d:Dig y
 l:y.length<=100
 hi:val y<=1700000000000000000000000000000000000000000000
 lo:0<seT y 2 (val y)
theorem SeD.sq {y:List Int} (h:SeD y):0<=seSq y/\seSq y<=3*PP:=by
 have v0:=val_nonneg h.d
 have v1:=h.hi
 have p:=PP_pos
 refine ⟨Int.ediv_nonneg (Int.mul_nonneg v0 v0) (by omega),Int.ediv_le_of_le_mul p ?_⟩
 have:=Int.mul_le_mul (a:=val y) (b:=val y) (c:=1700000000000000000000000000000000000000000000) (d:=1700000000000000000000000000000000000000000000) v1 v1 v0 (by decide)
 have e:(1700000000000000000000000000000000000000000000:Int)*1700000000000000000000000000000000000000000000<=3*PP*PP:=by decide
 omega
theorem se_wr {i:Int} (h0:2<=i) (h1:i<=400):IntKind.i64.wrap (i*IntKind.i64.wrap (i+1))=i*(i+1):=by
 have e:i*(i+1)<=400*401:=Int.mul_le_mul (a:=i) (b:=i+1) (c:=400) (d:=401) h1 (by omega) (by omega) (by decide)
 have e2:2*3<=i*(i+1):=Int.mul_le_mul (a:=2) (b:=3) (c:=i) (d:=i+1) h0 (by omega) (by decide) (by omega)
 rw [show IntKind.i64.wrap (i+1)=i+1 from iw (by omega) (by omega),iw (by omega) (by omega)]
theorem SeD.q {y:List Int} (h:SeD y) {v i:Int} (hv:0<=v) (h0:2<=i) (h1:i<=400):val (cutL (v*val (cutL (val y*val y)))) / IntKind.i64.wrap (i*IntKind.i64.wrap (i+1))=seT y i v:=by
 have v0:=val_nonneg h.d
 have h2:=h.sq
 rw [se_wr h0 h1,cutL_val (Int.mul_nonneg v0 v0),cutL_val (v:=v*(val y*val y / PP)) (Int.mul_nonneg hv h2.1)]
 rfl
theorem cut_le {n:Int} (h:0<=n):0<=cutI n/\cutI n<=n:=by unfold cutI; split <;> omega
theorem cutL_len (v:Int):(cutL v).length<=(digs v.toNat).length:=by
 unfold cutL
 rw [List.length_take,List.length_drop]
 omega
theorem digs_le {v:Int} {n:Nat} (h0:0<=v) (h:v<pw n):(digs v.toNat).length<=n:=len_digs (by omega)
theorem len_mul {a b:Int} (a0:0<=a) (a1:a<=4*PP) (b0:0<=b) (b1:b<=4*PP):(digs (a*b).toNat).length<=11:=by
 have p:=PP_pos
 have h:=Int.mul_le_mul a1 b1 b0 (by omega)
 have e:4*PP*(4*PP)<pw 11:=by decide
 exact digs_le (Int.mul_nonneg a0 b0) (by omega)
theorem len_4 {a:Int} (a0:0<=a) (a1:a<=400*PP):(digs a.toNat).length<=6:=by
 have e:400*PP<pw 6:=by decide
 exact digs_le a0 (by omega)
theorem dv {a:Int} (a0:0<=a):val (digs a.toNat)=a:=by rw [val_digs]; omega
theorem len0 {a:Int} (a0:0<a):0<(digs a.toNat).length:=digs_len_pos (by omega)
theorem lenb {a b:Int} (a0:0<=a) (h:a<=b):(digs a.toNat).length<=(digs b.toNat).length:=by
 refine digs_le a0 ?_
 have:=val_lt (dig_digs b.toNat)
 rw [dv (by omega)] at this
 omega
theorem pow_bd {n:Nat} {t:Int} (h0:0<t) (h:2 ^ n*t<=4*PP):n<=151:=by
 refine Nat.le_of_not_lt fun hn=>?_
 have h1:(2:Int) ^ 152<=2 ^ n:=by
  have:=Nat.pow_le_pow_right (n:=2) (by decide) (show 152<=n by omega)
  have e1:((2 ^ 152:Nat):Int)<=((2 ^ n:Nat):Int):=by exact_mod_cast this
  simpa using e1
 have h2:(2:Int) ^ n*1<=2 ^ n*t:=Int.mul_le_mul_of_nonneg_left (by omega) (by omega)
 have e:4*PP<(2:Int) ^ 152:=by decide
 omega
end
end Go.Proofs.Ytmnhhlnbfkfkaaa.K
namespace Go.Proofs.Ytmnhhlnbfkfkaaa.K
open Go Go.Eng Go.Dg
noncomputable section
theorem seT_bd {y:List Int} (h:SeD y) {i t:Int} (ht:0<=t) (hi:2<=i):0<=seT y i t/\2*seT y i t<=t:=ser_bd h.sq.1 h.sq.2 ht hi
theorem seR_none {y:List Int} (h:SeD y):seR y (some (4,seT y 2 (val y),val y - seT y 2 (val y)))=seR y none:=by
 show serN (seSq y) 199 4 _ _=serN (seSq y) (199+1) 2 (val y) (val y)
 rw [serN_step (show val y*seSq y / PP / (2*(2+1))≠0 from by have:=h.lo; unfold seT at this; omega)]
 rfl
theorem seR_end {y:List Int} {i t s:Int} (hi:(i / 2).toNat<=200) (h:seT y i t=0):seR y (some (i,t,s))=s:=by
 show serN (seSq y) (201 - (i / 2).toNat) i t s=s
 rw [show 201 - (i / 2).toNat=(200 - (i / 2).toNat)+1 by omega,serN_end h]
theorem seR_some {y:List Int} {i t s:Int} (h0:0<=i) (hi:(i / 2).toNat<=200) (h:seT y i t≠0):seR y ((seU y).next (some (i,t,s)))=seR y (some (i,t,s)):=by
 show serN (seSq y) (201 - ((i+2) / 2).toNat) (i+2) (seT y i t) _=serN (seSq y) (201 - (i / 2).toNat) i t s
 rw [show 201 - (i / 2).toNat=(200 - (i / 2).toNat)+1 by omega,serN_step h,show 201 - ((i+2) / 2).toNat=200 - (i / 2).toNat by omega]
 rfl
theorem seI_next {y:List Int} (h:SeD y) {i t s:Int} (hI:(seU y).I (some (i,t,s))) (h0:seT y i t≠0):(seU y).I ((seU y).next (some (i,t,s))):=by
 obtain ⟨t0,i0,i1,i2,pw,s0,ts,sb⟩:=(show 0<t/\i % 2=0/\2<i/\i<=400/\2 ^ (i / 2).toNat*t<=4*PP/\0<s/\(i % 4=2->t<=s)/\s<=i*PP from hI)
 obtain ⟨b0,b1⟩:=seT_bd h (i:=i) (t:=t) (by omega) (by omega)
 have k:=pow_bd t0 pw
 have hp:(2:Int) ^ ((i+2) / 2).toNat*seT y i t<=4*PP:=by
  rw [show ((i+2) / 2).toNat=(i / 2).toNat+1 by omega,Int.pow_succ,Int.mul_assoc]
  have:(2:Int) ^ (i / 2).toNat*(2*seT y i t)<=2 ^ (i / 2).toNat*t:=Int.mul_le_mul_of_nonneg_left b1 (Int.pow_nonneg (by decide))
  omega
 have ht:t<=PP:=by
  have h4:(4:Int)*t<=2 ^ (i / 2).toNat*t:=by
   refine Int.mul_le_mul_of_nonneg_right ?_ (by omega)
   have:=Nat.pow_le_pow_right (n:=2) (by decide) (show 2<=(i / 2).toNat by omega)
   have e1:((2 ^ 2:Nat):Int)<=((2 ^ (i / 2).toNat:Nat):Int):=by exact_mod_cast this
   simpa using e1
  omega
 have e2:(i+2)*PP=i*PP+2*PP:=Int.add_mul _ _ _
 have p:=PP_pos
 show 0<seT y i t/\(i+2) % 2=0/\2<i+2/\i+2<=400/\2 ^ ((i+2) / 2).toNat*seT y i t<=4*PP/\0<(match decide (i % 4=2) with|true=>s - seT y i t|false=>s+seT y i t)/\((i+2) % 4=2->seT y i t<=(match decide (i % 4=2) with|true=>s - seT y i t|false=>s+seT y i t))/\(match decide (i % 4=2) with|true=>s - seT y i t|false=>s+seT y i t)<=(i+2)*PP
 by_cases hm:i % 4=2
 .have:=ts hm
  rw [show (match decide (i % 4=2) with|true=>s - seT y i t|false=>s+seT y i t)=s - seT y i t by rw [decide_eq_true hm]]
  refine ⟨by omega,by omega,by omega,by omega,hp,by omega,by omega,by omega⟩
 .rw [show (match decide (i % 4=2) with|true=>s - seT y i t|false=>s+seT y i t)=s+seT y i t by rw [decide_eq_false hm]]
  refine ⟨by omega,by omega,by omega,by omega,hp,by omega,by omega,by omega⟩
theorem seI_first {y:List Int} (h:SeD y):(seU y).I ((seU y).next none):=by
 have v0:=val_nonneg h.d
 have v1:=h.hi
 have l0:=h.lo
 obtain ⟨b0,b1⟩:=seT_bd h (i:=2) (t:=val y) v0 (by omega)
 have e:(1700000000000000000000000000000000000000000000:Int)<=2*PP:=by decide
 show 0<seT y 2 (val y)/\(4:Int) % 2=0/\(2:Int)<4/\(4:Int)<=400/\(2:Int) ^ (2:Nat)*seT y 2 (val y)<=4*PP/\0<val y - seT y 2 (val y)/\((4:Int) % 4=2->seT y 2 (val y)<=val y - seT y 2 (val y))/\val y - seT y 2 (val y)<=4*PP
 have p:=PP_pos
 refine ⟨l0,by decide,by decide,by decide,?_,by omega,by omega,by omega⟩
 rw [show (2:Int) ^ (2:Nat)=4 from rfl]; omega
end
end Go.Proofs.Ytmnhhlnbfkfkaaa.K
namespace Go.Proofs.Ytmnhhlnbfkfkaaa.K
open Go Go.Eng Go.Dg
noncomputable section
theorem se_loop {y:List Int} (h:SeD y):CodeOk cZ seFr (.loop seA) (seS y) ⟨.tt,[⟨.tt,.ret,patch (seS y) (seX (seR y none))⟩]⟩:=by
 refine sumL_oneC (seU y) (y0:=none) trivial ⟨_,se_start y,rfl⟩ (by kernel_rfl) (fun x hx=>?_) rfl
 have v0:=val_nonneg h.d
 have v1:=h.hi
 have yl:=h.l
 have l0:=h.lo
 have p:=PP_pos
 have e17:(1700000000000000000000000000000000000000000000:Int)<=2*PP:=by decide
 obtain ⟨q0,q1⟩:=h.sq
 have hsq:val (cutL (val y*val y))=seSq y:=by rw [cutL_val (Int.mul_nonneg v0 v0)]; rfl
 have m1:=len_mul v0 (by omega) v0 (by omega:val y<=4*PP)
 have k1:=cutL_len (val y*val y)
 have c1:=cut_le (n:=((digs (val y*val y).toNat).length:Int)) (by omega)
 have d1:=cutL_dig (val y*val y)
 cases x with
 | none=>
  have Q:=h.q (v:=val y) v0 (i:=2) (by omega) (by omega)
  have c2:=cut_le (n:=((digs (val y*val (cutL (val y*val y))).toNat).length:Int)) (by omega)
  have d2:=cutL_dig (val y*val (cutL (val y*val y)))
  have m2:=len_mul v0 (by omega:val y<=4*PP) q0 (by omega)
  rw [<- hsq] at m2
  have k2:=cutL_len (val y*val (cutL (val y*val y)))
  obtain ⟨b0,b1⟩:=seT_bd h (i:=2) (t:=val y) v0 (by omega)
  have dq:=dig_digs (seT y 2 (val y)).toNat
  have lq:=len0 l0
  have vq:=dv b0
  have yp:0<y.length:=by
   rcases Nat.eq_zero_or_pos y.length with e|e
   .rw [List.length_eq_zero_iff.1 e] at b1 l0
    have:val []=0:=rfl
    omega
   .exact e
  have ql:(digs (seT y 2 (val y)).toNat).length<=y.length:=digs_le b0 (by have:=val_lt h.d; omega)
  have nx:=seI_first h
  have w6:IntKind.i64.wrap (2*IntKind.i64.wrap (2+1))=6:=by decide
  refine ⟨cSe false true,300,cSe_ok _ _,rfl,rfl,_,se_b0 y,?_,fun _=>?_⟩
  .rw [Q,w6,vq]
   refine ⟨⟨⟨⟨rfl,by omega,by omega,by omega⟩,h.d,d1,by omega⟩,⟨by omega,by omega,by omega⟩,⟨by omega,by omega,by omega⟩,d2,by omega,by omega,by omega⟩,beq_eq_false_iff_ne.2 (by omega),rfl,⟨rfl,rfl⟩,h.d,dq,yp,by omega,ql,by omega⟩
  .rw [Q,vq]
   refine ⟨⟨⟨rfl,rfl,by decide⟩,rfl,rfl⟩,nx,by show (400 - 4:Int).toNat<400; omega,?_⟩
   exact congrArg (fun z=>(Ex.ret,seX z)) (seR_none h)
 | some x=>
  obtain ⟨i,t,s⟩:=x
  have hI:=hx
  obtain ⟨t0,i0,i1,i2,pw2,s0,ts,sb⟩:=(show 0<t/\i % 2=0/\2<i/\i<=400/\2 ^ (i / 2).toNat*t<=4*PP/\0<s/\(i % 4=2->t<=s)/\s<=i*PP from hx)
  have k:=pow_bd t0 pw2
  have ht:t<=4*PP:=by
   have h4:(1:Int)*t<=2 ^ (i / 2).toNat*t:=by
    refine Int.mul_le_mul_of_nonneg_right ?_ (by omega)
    have:=Nat.one_le_two_pow (n:=(i / 2).toNat)
    have e1:((1:Nat):Int)<=((2 ^ (i / 2).toNat:Nat):Int):=by exact_mod_cast this
    simpa using e1
   omega
  have hs:s<=400*PP:=by
   have:i*PP<=400*PP:=Int.mul_le_mul_of_nonneg_right i2 (by omega)
   omega
  have vt:=dv (a:=t) (by omega)
  have vs:=dv (a:=s) (by omega)
  have dt:=dig_digs t.toNat
  have ds:=dig_digs s.toNat
  have lt:=len_4 (a:=t) (by omega) (by omega)
  have ls:=len_4 (a:=s) (by omega) hs
  have ls0:=len0 s0
  have Q:=h.q (v:=t) (by omega) (i:=i) (by omega) i2
  have c2:=cut_le (n:=((digs (t*val (cutL (val y*val y))).toNat).length:Int)) (by omega)
  have d2:=cutL_dig (t*val (cutL (val y*val y)))
  have m2:=len_mul (a:=t) (by omega) ht q0 (by omega)
  rw [<- hsq] at m2
  have k2:=cutL_len (t*val (cutL (val y*val y)))
  obtain ⟨b0,b1⟩:=seT_bd h (i:=i) (t:=t) (by omega) (by omega)
  have dq:=dig_digs (seT y i t).toNat
  have vq:=dv b0
  have w6:=se_wr (i:=i) (by omega) i2
  have w7:1<=i*(i+1):=by have:=Int.mul_le_mul (a:=2) (b:=3) (c:=i) (d:=i+1) (by omega) (by omega) (by decide) (by omega); omega
  have w8:i*(i+1)<=400*401:=Int.mul_le_mul (a:=i) (b:=i+1) (c:=400) (d:=401) i2 (by omega) (by omega) (by decide)
  have w9:IntKind.i64.wrap (i+2)=i+2:=iw (by omega) (by omega)
  by_cases h0:seT y i t=0
  .refine ⟨cSe true false,300,cSe_ok _ _,rfl,rfl,_,se_e y i t s,?_,fun _=>⟨⟨rfl,rfl⟩,?_⟩⟩
   .rw [vt,Q,w6,h0]
    exact ⟨⟨⟨⟨rfl,by omega,by omega,by omega⟩,dt,d1,by omega⟩,⟨by omega,by omega,by omega⟩,⟨by omega,by omega,by omega⟩,d2,by omega,by omega,by omega⟩,by rw [show digs (0:Int).toNat=[] from digs_zero]; rfl⟩
   .show (Ex.ret,seX _)=(Ex.ret,seX _)
    rw [seR_end (by omega) h0]
  .have lq:=len0 (a:=seT y i t) (by omega)
   have nx:=seI_next h hI h0
   have nr:=seR_some (y:=y) (i:=i) (t:=t) (s:=s) (by omega) (by omega) h0
   have mu:(400 - (i+2)).toNat<(400 - i).toNat:=by
    have:i<=304:=by omega
    omega
   by_cases hm:i % 4=2
   .have hts:=ts hm
    have ql:=lenb b0 (show seT y i t<=s by omega)
    have e4:(match decide (i % 4=2) with|true=>s - seT y i t|false=>s+seT y i t)=s - seT y i t:=by rw [decide_eq_true hm]
    refine ⟨cSe false true,300,cSe_ok _ _,rfl,rfl,_,se_bm y i t s,?_,fun _=>?_⟩
    .rw [vt,Q,w6,vq,vs]
     refine ⟨⟨⟨⟨rfl,by omega,by omega,by omega⟩,dt,d1,by omega⟩,⟨by omega,by omega,by omega⟩,⟨by omega,by omega,by omega⟩,d2,by omega,by omega,by omega⟩,beq_eq_false_iff_ne.2 (by omega),?_,⟨rfl,rfl⟩,ds,dq,ls0,by omega,ql,by omega⟩
     rw [Int.tmod_eq_emod_of_nonneg (by omega),hm]; rfl
    .rw [vt,Q,vq,vs]
     exact ⟨⟨⟨congrArg (fun z:Int=>((digs z.toNat).length:Int)) e4.symm,rfl,w9⟩,congrArg (fun z:Int=>digs z.toNat) e4.symm,rfl⟩,nx,mu,congrArg (fun z=>(Ex.ret,seX z)) nr⟩
   .have hmm:i % 4=0:=by omega
    have ql:=len_4 (a:=seT y i t) b0 (by omega)
    have e4:(match decide (i % 4=2) with|true=>s - seT y i t|false=>s+seT y i t)=s+seT y i t:=by rw [decide_eq_false hm]
    refine ⟨cSe false false,300,cSe_ok _ _,rfl,rfl,_,se_bp y i t s,?_,fun _=>?_⟩
    .rw [vt,Q,w6]
     refine ⟨⟨⟨⟨rfl,by omega,by omega,by omega⟩,dt,d1,by omega⟩,⟨by omega,by omega,by omega⟩,⟨by omega,by omega,by omega⟩,d2,by omega,by omega,by omega⟩,beq_eq_false_iff_ne.2 (by omega),?_,⟨rfl,rfl⟩,ds,dq,.inl ls0,by omega,by omega⟩
     rw [Int.tmod_eq_emod_of_nonneg (by omega),hmm]; rfl
    .rw [vt,Q,vq,vs]
     exact ⟨⟨⟨congrArg (fun z:Int=>((digs z.toNat).length:Int)) e4.symm,rfl,w9⟩,congrArg (fun z:Int=>digs z.toNat) e4.symm,rfl⟩,nx,mu,congrArg (fun z=>(Ex.ret,seX z)) nr⟩
noncomputable def cSeL (y:List Int):Ctx:=withLoops cZ [oneLoop 66 (seS y).hp.clock seFr seA (seS y) .ret (seX (seR y none))]
theorem cSeL_ok {y:List Int} (h:SeD y):CtxOk (cSeL y):=withLoop_ok cZ_ok (se_loop h) (withNone_ok cZ_ok)
end
end Go.Proofs.Ytmnhhlnbfkfkaaa.K
namespace Go.Proofs.Ytmnhhlnbfkfkaaa.K
open Go Go.Eng Go.Dg
noncomputable section
def se_t_nd (y:List Int):Prop:=(((((↑y.length:Int)=(↑y.length:Int)/\(↑y.length:Int)=(↑y.length:Int))/\Dig y/\Dig y/\y.length+y.length<=(500000:Nat))/\((0:Int)<=cutI (↑(digs (val y*val y).toNat).length:Int))/\(cutI (↑(digs (val y*val y).toNat).length:Int))<=(↑(digs (val y*val y).toNat).length:Int)/\(↑(digs (val y*val y).toNat).length:Int)<=(↑(digs (val y*val y).toNat).length:Int))/\At (seFr) (seFr) (seA) (seA) (seS y) (seS y))
def se_t_v (y:List Int):AV:=(AV.lslice 1 (↑(digs (seR y none).toNat).length:Int))
def se_t_h (y:List Int):Hp:=⟨[{ wr:=24,body:=ABody.rows IntKind.i64 (digs (seR y none).toNat) },{ wr:=(0:Nat),body:=ABody.rows IntKind.i64 y }],2,25⟩
theorem se_t (y:List Int):(run (cSeL y) 300).call 66 (seArgs y) (zH y)=some ⟨.p (se_t_nd y),[⟨.tt,se_t_v y,se_t_h y⟩]⟩:=by kernel_rfl
end
end Go.Proofs.Ytmnhhlnbfkfkaaa.K
namespace Go.Proofs.Ytmnhhlnbfkfkaaa.K
open Go Go.Eng Go.Dg
noncomputable section
def serV:List Nu->List (List Int)->Option (Prop×To)
 | [.n k],[y]=>some (k=5/\SeD y,.li false (digs (seR y none).toNat))
 | _,_=>none
theorem series_ok:NOk Try.prog (fun _=>none) hG0 66 (mSpec hG0 .i64 [.li,.nu (.i .i64)] serV):=by
 refine msp_runs (fun xs ys p t e h=>?_) ⟨_,Try.func66,rfl⟩
 unfold serV at e
 split at e
 .rename_i k y
  cases e
  obtain ⟨rfl,h⟩:=h
  have hd:=h.d
  have hl:=h.l
  have c1:=cut_le (n:=((digs (val y*val y).toNat).length:Int)) (by omega)
  exact ⟨cSeL y,300,seArgs y,_,_,_,_,_,cSeL_ok h,rfl,rfl,⟨rfl,⟨rfl,rfl⟩,trivial⟩,se_t y,rfl,⟨⟨⟨⟨rfl,rfl⟩,hd,hd,by omega⟩,⟨by omega,by omega,by omega⟩⟩,⟨rfl,rfl,rfl⟩⟩,rfl,rfl,rfl,rfl⟩
 .cases e
end
end Go.Proofs.Ytmnhhlnbfkfkaaa.K
namespace Go.Proofs.Ytmnhhlnbfkfkaaa.K
open Go Go.Eng Go.Dg
noncomputable section
def tZ2:List (FuncId×NSpec):=(66,mSpec hG0 .i64 [.li,.nu (.i .i64)] serV) :: tZ
theorem tZ2_ok:∀ x∈tZ2,NOk Try.prog (fun _=>none) hG0 x.1 x.2:=by
 intro x hx
 rcases List.mem_cons.1 hx with rfl|hx
 .exact series_ok
 exact tZ_ok x hx
def dwFr:AFr:=⟨68,none⟩
def dwA:Code:=loopOf Try.prog 68 0
noncomputable def dwS (a:List Int):St:=stAt cZ 300 68 (seArgs a) (zH a)
def dwV (a:List Int):Int:=val a*val (digs (4294967296:Int).toNat)
def dwP (i n:Int):Patch:=⟨(5,.int true .i64 n) :: (7,.int true .i64 i) :: deadT 17 11,[],[]⟩
def dwU (a:List Int):SumL (Int×Int):=
 {
  S:=fun (i,n)=>dwP i n
  I:=fun (i,n)=>-1<=i/\i<(cutL (dwV a)).length/\n=val ((cutL (dwV a)).drop (i+1).toNat)
  μ:=fun (i,_)=>(i+1).toNat
  F:=fun _=>(.exit 0,dwP (-1) (dwV a / PP))
  next:=fun (i,n)=>(i - 1,n*1000000000+(cutL (dwV a)).getD i.toNat 0)
  ids:=fun _=>[]
  X:=fun (i,n) _=>some (dwP i n,[]) }
end
end Go.Proofs.Ytmnhhlnbfkfkaaa.K
namespace Go.Proofs.Ytmnhhlnbfkfkaaa.K
open Go Go.Eng Go.Dg
noncomputable section
def dw_start_nd (a:List Int):Prop:=(0:Int)=(0:Int)/\IntKind.i64.wrap (((↑(digs (val a*val (digs (Int.toNat (4294967296:Int)))).toNat).length:Int) - cutI (↑(digs (val a*val (digs (Int.toNat (4294967296:Int)))).toNat).length:Int)) - (1:Int))=(↑(cutL (dwV a)).length:Int) - (1:Int)
theorem dw_start (a:List Int):fit (dwS a) (dwS a) (patch (dwS a) (dwP (((cutL (dwV a)).length:Int) - 1) 0)) ([])=some (.p (dw_start_nd a)):=by kernel_rfl
def dw_body_nd (a:List Int) (i n:Int):Prop:=(decide (i>=(0:Int))=true->(((0:Int)<=cutI (↑(digs (val a*val (digs (Int.toNat (4294967296:Int)))).toNat).length:Int))/\(0:Int)<=i/\i<(↑(digs (val a*val (digs (Int.toNat (4294967296:Int)))).toNat).length:Int) - cutI (↑(digs (val a*val (digs (Int.toNat (4294967296:Int)))).toNat).length:Int))/\((cutI (↑(digs (val a*val (digs (Int.toNat (4294967296:Int)))).toNat).length:Int))+i).toNat<(digs (val a*val (digs (Int.toNat (4294967296:Int)))).toNat).length)/\((!decide (i>=(0:Int)))=true->(n=n/\i=i)/\(dwU a).F (i,n)=(Ex.exit (0:Nat),dwP i n))/\(decide (i>=(0:Int))=true->(IntKind.i64.wrap (IntKind.i64.wrap (n*(1000000000:Int))+(digs (val a*val (digs (Int.toNat (4294967296:Int)))).toNat).getD ((cutI (↑(digs (val a*val (digs (Int.toNat (4294967296:Int)))).toNat).length:Int))+i).toNat (0:Int))=n*(1000000000:Int)+(cutL (dwV a)).getD i.toNat (0:Int)/\IntKind.i64.wrap (i - (1:Int))=i - (1:Int))/\(dwU a).I ((dwU a).next (i,n))/\(dwU a).μ ((dwU a).next (i,n))<(dwU a).μ (i,n)/\(dwU a).F ((dwU a).next (i,n))=(dwU a).F (i,n))
theorem dw_body (a:List Int) (i n:Int):chkR (dwS a) ((dwU a).way ((i,n))) ((run cZ 300).code dwFr dwA (patch (dwS a) ((dwU a).S (i,n))))=some (.p (dw_body_nd a i n)):=by kernel_rfl
end
end Go.Proofs.Ytmnhhlnbfkfkaaa.K
namespace Go.Proofs.Ytmnhhlnbfkfkaaa.K
open Go Go.Eng Go.Dg
noncomputable section
structure DwD (a:List Int):Prop where
 d:Dig a
 l:a.length<=100
 hi:dwV a / PP<4611686018427387904
theorem DwD.v {a:List Int} (h:DwD a):0<=dwV a:=Int.mul_nonneg (val_nonneg h.d) (val_nonneg (dig_digs _))
theorem drop_le {l:List Int} (h:Dig l) (k:Nat):val (l.drop k)<=val l:=by
 rw [val_drop k h]
 exact Int.ediv_le_self _ (val_nonneg h)
theorem dw_loop {a:List Int} (h:DwD a):CodeOk cZ dwFr (.loop dwA) (dwS a) ⟨.tt,[⟨.tt,.exit 0,patch (dwS a) (dwP (-1) (dwV a / PP))⟩]⟩:=by
 have v0:=h.v
 have hc:=cutL_eq v0
 have hv:=cutL_val v0
 have hd:=cutL_dig (dwV a)
 have hi:=h.hi
 have c1:=cut_le (n:=((digs (dwV a).toNat).length:Int)) (by omega)
 have lm:(digs (dwV a).toNat).length<=500000:=by
  have l:=h.l
  have h1:=val_lt h.d
  have h2:=pw_mono l
  refine Nat.le_trans (digs_le (n:=102) v0 ?_) (by decide)
  have e1:val (digs (4294967296:Int).toNat)=4294967296:=dv (by decide)
  have e2:pw 102=1000000000000000000*pw 100:=by rw [pw_succ,pw_succ]; omega
  have h0:=val_nonneg h.d
  have p:=pw_pos 100
  unfold dwV
  rw [e1,e2]; omega
 have lc:((cutL (dwV a)).length:Int)=(digs (dwV a).toNat).length - cutI (digs (dwV a).toNat).length:=by
  rw [hc,List.length_drop]; omega
 refine sumL_one (run_sound cZ_ok 300) (dwU a) (y0:=(((cutL (dwV a)).length:Int) - 1,0)) ⟨by omega,by show _ - 1<_; omega,?_⟩ ⟨_,dw_start a,rfl,?_⟩ (by kernel_rfl) (fun y hy=>?_) rfl
 .show 0=val ((cutL (dwV a)).drop (((cutL (dwV a)).length:Int) - 1+1).toNat)
  rw [show (((cutL (dwV a)).length:Int) - 1+1).toNat=(cutL (dwV a)).length by omega,List.drop_length]; rfl
 .show IntKind.i64.wrap (((digs (dwV a).toNat).length:Int) - cutI (digs (dwV a).toNat).length - 1)=(cutL (dwV a)).length - 1
  rw [lc,iw (by omega) (by omega)]
 .obtain ⟨i,n⟩:=y
  obtain ⟨i0,i1,hn⟩:=(show -1<=i/\i<(cutL (dwV a)).length/\n=val ((cutL (dwV a)).drop (i+1).toNat) from hy)
  refine ⟨_,dw_body a i n,fun e=>?_,fun e=>?_,fun e=>?_⟩
  .have e:=dt.1 e
   exact ⟨⟨c1.1,e,by show i<((digs (dwV a).toNat).length:Int) - cutI (digs (dwV a).toNat).length; omega⟩,by show (cutI (digs (dwV a).toNat).length+i).toNat<(digs (dwV a).toNat).length; omega⟩
  .have e:=ndt.1 e
   have:i=-1:=by omega
   subst this
   refine ⟨⟨rfl,rfl⟩,?_⟩
   show (Ex.exit 0,dwP (-1) (dwV a / PP))=(Ex.exit 0,dwP (-1) n)
   rw [hn,show ((-1:Int)+1).toNat=0 from rfl,List.drop_zero,hv]
  .have e:=dt.1 e
   have hl:i.toNat<(cutL (dwV a)).length:=by omega
   have s1:=drop_val hl
   have s2:=drop_le hd i.toNat
   rw [show i.toNat+1=(i+1).toNat by omega,<- hn] at s1
   rw [hv] at s2
   have g0:=hd.get i.toNat
   have n0:0<=n:=by rw [hn]; exact val_nonneg (dig_drop hd _)
   have gd:(digs (dwV a).toNat).getD (cutI (digs (dwV a).toNat).length+i).toNat 0=(cutL (dwV a)).getD i.toNat 0:=by
    rw [hc,List.getD_eq_getElem?_getD,List.getD_eq_getElem?_getD,List.getElem?_drop]
    congr 2
    omega
   have w1:IntKind.i64.wrap (n*1000000000)=n*1000000000:=iw (by omega) (by omega)
   have w2:IntKind.i64.wrap (n*1000000000+(cutL (dwV a)).getD i.toNat 0)=n*1000000000+(cutL (dwV a)).getD i.toNat 0:=iw (by omega) (by omega)
   refine ⟨⟨?_,iw (by omega) (by omega)⟩,⟨by show -1<=i - 1; omega,by show i - 1<_; omega,?_⟩,by show (i - 1+1).toNat<(i+1).toNat; omega,rfl⟩
   .show IntKind.i64.wrap (IntKind.i64.wrap (n*1000000000)+(digs (dwV a).toNat).getD (cutI (digs (dwV a).toNat).length+i).toNat 0)=_
    rw [w1,gd,w2]
   .show n*1000000000+(cutL (dwV a)).getD i.toNat 0=val ((cutL (dwV a)).drop (i - 1+1).toNat)
    rw [show (i - 1+1).toNat=i.toNat by omega,s1]; omega
noncomputable def cDwL (a:List Int):Ctx:=withLoops cZ [oneLoop 68 (dwS a).hp.clock dwFr dwA (dwS a) (.exit 0) (dwP (-1) (dwV a / PP))]
theorem cDwL_ok {a:List Int} (h:DwD a):CtxOk (cDwL a):=withLoop_ok cZ_ok (dw_loop h) (withNone_ok cZ_ok)
end
end Go.Proofs.Ytmnhhlnbfkfkaaa.K
namespace Go.Proofs.Ytmnhhlnbfkfkaaa.K
open Go Go.Eng Go.Dg
noncomputable section
def dw_t_nd (a:List Int):Prop:=((((0:Int)<(4294967296:Int)/\(4294967296:Int)<(1000000000000000000:Int))/\(((↑a.length:Int)=(↑a.length:Int)/\(↑(digs (Int.toNat (4294967296:Int))).length:Int)=(↑(digs (Int.toNat (4294967296:Int))).length:Int))/\Dig a/\Dig (digs (Int.toNat (4294967296:Int)))/\a.length+(digs (Int.toNat (4294967296:Int))).length<=(500000:Nat))/\((0:Int)<=cutI (↑(digs (val a*val (digs (Int.toNat (4294967296:Int)))).toNat).length:Int))/\(cutI (↑(digs (val a*val (digs (Int.toNat (4294967296:Int)))).toNat).length:Int))<=(↑(digs (val a*val (digs (Int.toNat (4294967296:Int)))).toNat).length:Int)/\(↑(digs (val a*val (digs (Int.toNat (4294967296:Int)))).toNat).length:Int)<=(↑(digs (val a*val (digs (Int.toNat (4294967296:Int)))).toNat).length:Int))/\At (dwFr) (dwFr) (dwA) (dwA) (dwS a) (dwS a))
def dw_t_v (a:List Int):AV:=(AV.int true IntKind.i64 (dwV a / PP))
def dw_t_h (a:List Int):Hp:=⟨[{ wr:=(0:Nat),body:=ABody.rows IntKind.i64 a }],1,28⟩
theorem dw_t (a:List Int):(run (cDwL a) 300).call 68 (seArgs a) (zH a)=some ⟨.p (dw_t_nd a),[⟨.tt,dw_t_v a,dw_t_h a⟩]⟩:=by kernel_rfl
end
end Go.Proofs.Ytmnhhlnbfkfkaaa.K
namespace Go.Proofs.Ytmnhhlnbfkfkaaa.K
open Go Go.Eng Go.Dg
noncomputable section
def dwnV:List Nu->List (List Int)->Option (Prop×To)
 | [.n k],[a]=>some (k=5/\DwD a,.nu .i64 (val a*4294967296 / PP))
 | _,_=>none
theorem dwV_eq (a:List Int):dwV a=val a*4294967296:=by
 unfold dwV
 rw [dv (by decide)]
theorem down_ok:NOk Try.prog (fun _=>none) hG0 68 (mSpec hG0 .i64 [.li,.nu (.i .i64)] dwnV):=by
 refine msp_runs (fun xs ys p t e h=>?_) ⟨_,Try.func68,rfl⟩
 unfold dwnV at e
 split at e
 .rename_i k y
  cases e
  obtain ⟨rfl,h⟩:=h
  have hd:=h.d
  have hl:=h.l
  have c1:=cut_le (n:=((digs (dwV y).toNat).length:Int)) (by omega)
  have l2:(digs (4294967296:Int).toNat).length<=2:=digs_le (by decide) (by decide)
  exact ⟨cDwL y,300,seArgs y,_,_,_,_,_,cDwL_ok h,rfl,rfl,⟨rfl,⟨rfl,rfl⟩,trivial⟩,dw_t y,rfl,⟨⟨⟨by decide,by decide⟩,⟨⟨rfl,rfl⟩,hd,dig_digs _,by show _+(digs (4294967296:Int).toNat).length<=_; omega⟩,⟨c1.1,c1.2,Int.le_refl _⟩⟩,⟨rfl,rfl,rfl⟩⟩,rfl,rfl,by show dwV y / PP=_; rw [dwV_eq]⟩
 .cases e
end
end Go.Proofs.Ytmnhhlnbfkfkaaa.K
namespace Go.Proofs.Ytmnhhlnbfkfkaaa.K
open Go Go.Eng Go.Dg
noncomputable section
def arFr:AFr:=⟨74,none⟩
def arA:Code:=loopOf Try.prog 74 0
def arArgs (x:Int) (one:List Int):List AV:=[.int true .i64 x,.lslice 0 one.length]
noncomputable def arS (x:Int) (one:List Int):St:=stAt cZ 300 74 (arArgs x one) (zH one)
def cAr (e m:Bool):Ctx:=cZb [(22,e),(26,m)]
theorem cAr_ok (e m:Bool):CtxOk (cAr e m):=cZb_ok _
def arP:Option (Int×Int×Int)->Patch
 | none=>⟨(8,.int true .i64 1) :: (9,.any false) :: deadT 15 18,[],[]⟩
 | some (i,t,s)=>⟨(5,.lslice 6 (digs s.toNat).length) :: (8,.int true .i64 i) :: (9,.any false) :: deadT 15 18,[(4,.cells [.lslice 5 (digs t.toNat).length])],[.rows .i64 (digs s.toNat),.rows .i64 (digs t.toNat)]⟩
def arX (s:Int):Patch:=⟨(4,.lslice 5 (digs s.toNat).length) :: (5,.any false) :: (8,.any false) :: (9,.any false) :: deadT 15 18,[(4,.dead)],[.rows .i64 (digs s.toNat)]⟩
def arQ (x:Int) (one:List Int):Int:=val one*x / (x*x)
def arR (x:Int) (one:List Int):Option (Int×Int×Int)->Int
 | none=>arcN x 200 1 (val one*x) 0
 | some (i,t,s)=>arcN x (200 - (i / 2).toNat) i t s
def arU (x:Int) (one:List Int):SumL (Option (Int×Int×Int)):=
 {
  S:=arP
  I:=fun y=>match y with
   | none=>True
   | some (i,t,s)=>0<t/\i % 2=1/\2<i/\i<=399/\2 ^ (i / 2).toNat*t<=4*PP/\0<=s/\(i % 4=3->t / (i - 2)<=s)/\s<=i*PP
  μ:=fun y=>match y with
   | none=>400
   | some (i,_,_)=>(400 - i).toNat
  F:=fun y=>(.ret,arX (arR x one y))
  next:=fun y=>match y with
   | none=>some (3,arQ x one,arQ x one / 1)
   | some (i,t,s)=>some (i+2,t / (x*x),match decide (i % 4=1) with|true=>s+t / (x*x) / i|false=>s - t / (x*x) / i)
  ids:=fun y=>match y with
   | none=>[5,7]
   | some _=>[7,9]
  X:=fun y _=>match y with
   | none=>none
   | some (_,_,s)=>some (arX s,[6]) }
end
end Go.Proofs.Ytmnhhlnbfkfkaaa.K
namespace Go.Proofs.Ytmnhhlnbfkfkaaa.K
open Go Go.Eng Go.Dg
noncomputable section
def ar_start_nd (x:Int) (one:List Int):Prop:=(1:Int)=(1:Int)
theorem ar_start (x:Int) (one:List Int):fit (arS x one) (arS x one) (patch (arS x one) ((arU x one).S none)) ([])=some (.p (ar_start_nd x one)):=by kernel_rfl
def ar_b0_nd (x:Int) (one:List Int):Prop:=((((↑(digs (val one*val [x]).toNat).length:Int)=(↑(digs (val one*val [x]).toNat).length:Int)/\Dig (digs (val one*val [x]).toNat)/\(digs (val one*val [x]).toNat).length<=(500000:Nat)/\(1:Int)<=IntKind.i64.wrap (x*x)/\IntKind.i64.wrap (x*x)<=(1000000000:Int))/\(↑(digs (val (digs (val one*val [x]).toNat) / IntKind.i64.wrap (x*x)).toNat).length:Int)=(↑(digs (val (digs (val one*val [x]).toNat) / IntKind.i64.wrap (x*x)).toNat).length:Int)/\Dig (digs (val (digs (val one*val [x]).toNat) / IntKind.i64.wrap (x*x)).toNat)/\(digs (val (digs (val one*val [x]).toNat) / IntKind.i64.wrap (x*x)).toNat).length<=(500000:Nat)/\(1:Int)<=(1:Int)/\(1:Int)<=(1000000000:Int))/\((↑(digs (val (digs (val (digs (val one*val [x]).toNat) / IntKind.i64.wrap (x*x)).toNat) / (1:Int)).toNat).length:Int)==(0:Int))=false/\(Int.tmod (1:Int) (4:Int)==(1:Int))=true/\(↑(digs (val (digs (val (digs (val one*val [x]).toNat) / IntKind.i64.wrap (x*x)).toNat) / (1:Int)).toNat).length:Int)=(↑(digs (val (digs (val (digs (val one*val [x]).toNat) / IntKind.i64.wrap (x*x)).toNat) / (1:Int)).toNat).length:Int)/\Dig []/\Dig (digs (val (digs (val (digs (val one*val [x]).toNat) / IntKind.i64.wrap (x*x)).toNat) / (1:Int)).toNat)/\((0:Nat)<([]:List Int).length\/(0:Nat)<(digs (val (digs (val (digs (val one*val [x]).toNat) / IntKind.i64.wrap (x*x)).toNat) / (1:Int)).toNat).length)/\([]:List Int).length<=(400000:Nat)/\(digs (val (digs (val (digs (val one*val [x]).toNat) / IntKind.i64.wrap (x*x)).toNat) / (1:Int)).toNat).length<=(400000:Nat))/\(true=true->(((↑(digs (val []+val (digs (val (digs (val (digs (val one*val [x]).toNat) / IntKind.i64.wrap (x*x)).toNat) / (1:Int)).toNat)).toNat).length:Int)=(↑(digs (arQ x one / (1:Int)).toNat).length:Int)/\IntKind.i64.wrap ((1:Int)+(2:Int))=(3:Int))/\(↑(digs (val (digs (val one*val [x]).toNat) / IntKind.i64.wrap (x*x)).toNat).length:Int)=(↑(digs (arQ x one).toNat).length:Int)/\digs (val []+val (digs (val (digs (val (digs (val one*val [x]).toNat) / IntKind.i64.wrap (x*x)).toNat) / (1:Int)).toNat)).toNat=digs (arQ x one / (1:Int)).toNat/\digs (val (digs (val one*val [x]).toNat) / IntKind.i64.wrap (x*x)).toNat=digs (arQ x one).toNat)/\(arU x one).I ((arU x one).next none)/\(arU x one).μ ((arU x one).next none)<(arU x one).μ none/\(arU x one).F ((arU x one).next none)=(arU x one).F none)
theorem ar_b0 (x:Int) (one:List Int):chkR (arS x one) ((arU x one).way (none)) ((run (cAr false true) 300).code arFr arA (patch (arS x one) ((arU x one).S none)))=some (.p (ar_b0_nd x one)):=by kernel_rfl
def ar_bp_nd (x:Int) (one:List Int) (i t s:Int):Prop:=((((↑(digs t.toNat).length:Int)=(↑(digs t.toNat).length:Int)/\Dig (digs t.toNat)/\(digs t.toNat).length<=(500000:Nat)/\(1:Int)<=IntKind.i64.wrap (x*x)/\IntKind.i64.wrap (x*x)<=(1000000000:Int))/\(↑(digs (val (digs t.toNat) / IntKind.i64.wrap (x*x)).toNat).length:Int)=(↑(digs (val (digs t.toNat) / IntKind.i64.wrap (x*x)).toNat).length:Int)/\Dig (digs (val (digs t.toNat) / IntKind.i64.wrap (x*x)).toNat)/\(digs (val (digs t.toNat) / IntKind.i64.wrap (x*x)).toNat).length<=(500000:Nat)/\(1:Int)<=i/\i<=(1000000000:Int))/\((↑(digs (val (digs (val (digs t.toNat) / IntKind.i64.wrap (x*x)).toNat) / i).toNat).length:Int)==(0:Int))=false/\(i.tmod (4:Int)==(1:Int))=true/\((↑(digs s.toNat).length:Int)=(↑(digs s.toNat).length:Int)/\(↑(digs (val (digs (val (digs t.toNat) / IntKind.i64.wrap (x*x)).toNat) / i).toNat).length:Int)=(↑(digs (val (digs (val (digs t.toNat) / IntKind.i64.wrap (x*x)).toNat) / i).toNat).length:Int))/\Dig (digs s.toNat)/\Dig (digs (val (digs (val (digs t.toNat) / IntKind.i64.wrap (x*x)).toNat) / i).toNat)/\((0:Nat)<(digs s.toNat).length\/(0:Nat)<(digs (val (digs (val (digs t.toNat) / IntKind.i64.wrap (x*x)).toNat) / i).toNat).length)/\(digs s.toNat).length<=(400000:Nat)/\(digs (val (digs (val (digs t.toNat) / IntKind.i64.wrap (x*x)).toNat) / i).toNat).length<=(400000:Nat))/\(true=true->(((↑(digs (val (digs s.toNat)+val (digs (val (digs (val (digs t.toNat) / IntKind.i64.wrap (x*x)).toNat) / i).toNat)).toNat).length:Int)=(↑(digs (match decide (i % (4:Int)=(1:Int)) with|true=>s+t / (x*x) / i|false=>s - t / (x*x) / i).toNat).length:Int)/\IntKind.i64.wrap (i+(2:Int))=i+(2:Int))/\(↑(digs (val (digs t.toNat) / IntKind.i64.wrap (x*x)).toNat).length:Int)=(↑(digs (t / (x*x)).toNat).length:Int)/\digs (val (digs s.toNat)+val (digs (val (digs (val (digs t.toNat) / IntKind.i64.wrap (x*x)).toNat) / i).toNat)).toNat=digs (match decide (i % (4:Int)=(1:Int)) with|true=>s+t / (x*x) / i|false=>s - t / (x*x) / i).toNat/\digs (val (digs t.toNat) / IntKind.i64.wrap (x*x)).toNat=digs (t / (x*x)).toNat)/\(arU x one).I ((arU x one).next (some (i,t,s)))/\(arU x one).μ ((arU x one).next (some (i,t,s)))<(arU x one).μ (some (i,t,s))/\(arU x one).F ((arU x one).next (some (i,t,s)))=(arU x one).F (some (i,t,s)))
theorem ar_bp (x:Int) (one:List Int) (i t s:Int):chkR (arS x one) ((arU x one).way ((some (i,t,s)))) ((run (cAr false true) 300).code arFr arA (patch (arS x one) ((arU x one).S (some (i,t,s)))))=some (.p (ar_bp_nd x one i t s)):=by kernel_rfl
def ar_bm_nd (x:Int) (one:List Int) (i t s:Int):Prop:=((((↑(digs t.toNat).length:Int)=(↑(digs t.toNat).length:Int)/\Dig (digs t.toNat)/\(digs t.toNat).length<=(500000:Nat)/\(1:Int)<=IntKind.i64.wrap (x*x)/\IntKind.i64.wrap (x*x)<=(1000000000:Int))/\(↑(digs (val (digs t.toNat) / IntKind.i64.wrap (x*x)).toNat).length:Int)=(↑(digs (val (digs t.toNat) / IntKind.i64.wrap (x*x)).toNat).length:Int)/\Dig (digs (val (digs t.toNat) / IntKind.i64.wrap (x*x)).toNat)/\(digs (val (digs t.toNat) / IntKind.i64.wrap (x*x)).toNat).length<=(500000:Nat)/\(1:Int)<=i/\i<=(1000000000:Int))/\((↑(digs (val (digs (val (digs t.toNat) / IntKind.i64.wrap (x*x)).toNat) / i).toNat).length:Int)==(0:Int))=false/\(i.tmod (4:Int)==(1:Int))=false/\((↑(digs s.toNat).length:Int)=(↑(digs s.toNat).length:Int)/\(↑(digs (val (digs (val (digs t.toNat) / IntKind.i64.wrap (x*x)).toNat) / i).toNat).length:Int)=(↑(digs (val (digs (val (digs t.toNat) / IntKind.i64.wrap (x*x)).toNat) / i).toNat).length:Int))/\Dig (digs s.toNat)/\Dig (digs (val (digs (val (digs t.toNat) / IntKind.i64.wrap (x*x)).toNat) / i).toNat)/\(0:Nat)<(digs s.toNat).length/\(digs s.toNat).length<=(500000:Nat)/\(digs (val (digs (val (digs t.toNat) / IntKind.i64.wrap (x*x)).toNat) / i).toNat).length<=(digs s.toNat).length/\val (digs (val (digs (val (digs t.toNat) / IntKind.i64.wrap (x*x)).toNat) / i).toNat)<=val (digs s.toNat))/\(true=true->(((↑(digs (val (digs s.toNat) - val (digs (val (digs (val (digs t.toNat) / IntKind.i64.wrap (x*x)).toNat) / i).toNat)).toNat).length:Int)=(↑(digs (match decide (i % (4:Int)=(1:Int)) with|true=>s+t / (x*x) / i|false=>s - t / (x*x) / i).toNat).length:Int)/\IntKind.i64.wrap (i+(2:Int))=i+(2:Int))/\(↑(digs (val (digs t.toNat) / IntKind.i64.wrap (x*x)).toNat).length:Int)=(↑(digs (t / (x*x)).toNat).length:Int)/\digs (val (digs s.toNat) - val (digs (val (digs (val (digs t.toNat) / IntKind.i64.wrap (x*x)).toNat) / i).toNat)).toNat=digs (match decide (i % (4:Int)=(1:Int)) with|true=>s+t / (x*x) / i|false=>s - t / (x*x) / i).toNat/\digs (val (digs t.toNat) / IntKind.i64.wrap (x*x)).toNat=digs (t / (x*x)).toNat)/\(arU x one).I ((arU x one).next (some (i,t,s)))/\(arU x one).μ ((arU x one).next (some (i,t,s)))<(arU x one).μ (some (i,t,s))/\(arU x one).F ((arU x one).next (some (i,t,s)))=(arU x one).F (some (i,t,s)))
theorem ar_bm (x:Int) (one:List Int) (i t s:Int):chkR (arS x one) ((arU x one).way ((some (i,t,s)))) ((run (cAr false false) 300).code arFr arA (patch (arS x one) ((arU x one).S (some (i,t,s)))))=some (.p (ar_bm_nd x one i t s)):=by kernel_rfl
def ar_e_nd (x:Int) (one:List Int) (i t s:Int):Prop:=((((↑(digs t.toNat).length:Int)=(↑(digs t.toNat).length:Int)/\Dig (digs t.toNat)/\(digs t.toNat).length<=(500000:Nat)/\(1:Int)<=IntKind.i64.wrap (x*x)/\IntKind.i64.wrap (x*x)<=(1000000000:Int))/\(↑(digs (val (digs t.toNat) / IntKind.i64.wrap (x*x)).toNat).length:Int)=(↑(digs (val (digs t.toNat) / IntKind.i64.wrap (x*x)).toNat).length:Int)/\Dig (digs (val (digs t.toNat) / IntKind.i64.wrap (x*x)).toNat)/\(digs (val (digs t.toNat) / IntKind.i64.wrap (x*x)).toNat).length<=(500000:Nat)/\(1:Int)<=i/\i<=(1000000000:Int))/\((↑(digs (val (digs (val (digs t.toNat) / IntKind.i64.wrap (x*x)).toNat) / i).toNat).length:Int)==(0:Int))=true)/\(true=true->((↑(digs s.toNat).length:Int)=(↑(digs s.toNat).length:Int)/\digs s.toNat=digs s.toNat)/\(arU x one).F (some (i,t,s))=(Ex.ret,arX s))
theorem ar_e (x:Int) (one:List Int) (i t s:Int):chkR (arS x one) ((arU x one).way ((some (i,t,s)))) ((run (cAr true false) 300).code arFr arA (patch (arS x one) ((arU x one).S (some (i,t,s)))))=some (.p (ar_e_nd x one i t s)):=by kernel_rfl
end
end Go.Proofs.Ytmnhhlnbfkfkaaa.K
namespace Go.Proofs.Ytmnhhlnbfkfkaaa.K
open Go Go.Eng Go.Dg
noncomputable section
structure ArD (x:Int) (one:List Int):Prop where
 d:Dig one
 l:one.length<=100
 hi:val one<=PP
 x0:2<=x
 x1:x<=30000
 lo:0<arQ x one / 1
theorem ArD.xx {x:Int} {one:List Int} (h:ArD x one):4<=x*x/\x*x<=900000000/\IntKind.i64.wrap (x*x)=x*x:=by
 have x0:=h.x0
 have x1:=h.x1
 have a:=Int.mul_le_mul (a:=2) (b:=2) (c:=x) (d:=x) x0 x0 (by decide) (by omega)
 have b:=Int.mul_le_mul (a:=x) (b:=x) (c:=30000) (d:=30000) x1 x1 (by omega) (by decide)
 exact ⟨by omega,by omega,iw (by omega) (by omega)⟩
theorem half_div {t m:Int} (ht:0<=t) (hm:2<=m):0<=t / m/\2*(t / m)<=t:=by
 have h0:=Int.ediv_nonneg ht (show 0<=m by omega)
 have h1:=Int.ediv_mul_le t (b:=m) (by omega)
 have h2:=Int.mul_le_mul_of_nonneg_left hm h0
 exact ⟨h0,by omega⟩
theorem div_dec {t m:Int} (ht:0<=t) (hm:1<=m):0<=t / m/\t / m<=t:=⟨Int.ediv_nonneg ht (by omega),Int.ediv_le_self _ ht⟩
theorem div_mono2 {a b m n:Int} (h0:0<=a) (h1:a<=b) (h2:1<=n) (h3:n<=m):a / m<=b / n:=by
 have p1:=Int.ediv_mul_le a (b:=m) (by omega)
 have p0:0<=a / m:=Int.ediv_nonneg h0 (by omega)
 have p2:=Int.mul_le_mul_of_nonneg_left h3 p0
 exact (Int.le_ediv_iff_mul_le (by omega)).2 (by omega)
theorem ArD.q {x:Int} {one:List Int} (h:ArD x one):0<=arQ x one/\arQ x one<=PP:=by
 have v0:=val_nonneg h.d
 have x0:=h.x0
 obtain ⟨a,b,_⟩:=h.xx
 refine ⟨Int.ediv_nonneg (Int.mul_nonneg v0 (by omega)) (by omega),Int.le_trans (Int.ediv_le_of_le_mul (by omega) ?_) h.hi⟩
 refine Int.mul_le_mul_of_nonneg_left ?_ v0
 have:=Int.mul_le_mul_of_nonneg_left (show 1<=x by omega) (show 0<=x by omega)
 omega
theorem arR_none {x:Int} {one:List Int} (h:ArD x one):arR x one (some (3,arQ x one,arQ x one / 1))=arR x one none:=by
 show arcN x 199 3 _ _=arcN x (199+1) 1 (val one*x) 0
 rw [arcN_step (show val one*x / (x*x) / 1≠0 from by have:=h.lo; unfold arQ at this; omega)]
 show _=arcN x 199 (1+2) (val one*x / (x*x)) (0+val one*x / (x*x) / 1)
 rw [Int.zero_add]; rfl
theorem arR_end {x:Int} {one:List Int} {i t s:Int} (hi:(i / 2).toNat<=199) (h:t / (x*x) / i=0):arR x one (some (i,t,s))=s:=by
 show arcN x (200 - (i / 2).toNat) i t s=s
 rw [show 200 - (i / 2).toNat=(199 - (i / 2).toNat)+1 by omega,arcN_end h]
theorem arR_some {x:Int} {one:List Int} {i t s:Int} (h0:0<=i) (hi:(i / 2).toNat<=199) (h:t / (x*x) / i≠0):arR x one ((arU x one).next (some (i,t,s)))=arR x one (some (i,t,s)):=by
 show arcN x (200 - ((i+2) / 2).toNat) (i+2) (t / (x*x)) _=arcN x (200 - (i / 2).toNat) i t s
 rw [show 200 - (i / 2).toNat=(199 - (i / 2).toNat)+1 by omega,arcN_step h,show 200 - ((i+2) / 2).toNat=199 - (i / 2).toNat by omega]
 first|done|rfl
theorem arI_first {x:Int} {one:List Int} (h:ArD x one):(arU x one).I ((arU x one).next none):=by
 obtain ⟨q0,q1⟩:=h.q
 have l0:=h.lo
 rw [Int.ediv_one] at l0
 have p:=PP_pos
 show 0<arQ x one/\(3:Int) % 2=1/\(2:Int)<3/\(3:Int)<=399/\(2:Int) ^ (1:Nat)*arQ x one<=4*PP/\0<=arQ x one / 1/\((3:Int) % 4=3->arQ x one / (3 - 2)<=arQ x one / 1)/\arQ x one / 1<=3*PP
 rw [show (3:Int) - 2=1 from rfl,Int.ediv_one,show (2:Int) ^ (1:Nat)=2 from rfl]
 refine ⟨l0,by decide,by decide,by decide,by omega,q0,by omega,by omega⟩
theorem arI_next {x:Int} {one:List Int} (h:ArD x one) {i t s:Int} (hI:(arU x one).I (some (i,t,s))) (h0:t / (x*x) / i≠0):(arU x one).I ((arU x one).next (some (i,t,s))):=by
 obtain ⟨t0,i0,i1,i2,pw,s0,ts,sb⟩:=(show 0<t/\i % 2=1/\2<i/\i<=399/\2 ^ (i / 2).toNat*t<=4*PP/\0<=s/\(i % 4=3->t / (i - 2)<=s)/\s<=i*PP from hI)
 obtain ⟨xa,xb,_⟩:=h.xx
 obtain ⟨b0,b1⟩:=half_div (t:=t) (m:=x*x) (by omega) (by omega)
 obtain ⟨c0,c1⟩:=div_dec (t:=t / (x*x)) (m:=i) b0 (by omega)
 have cm:i % 4=3->t / (x*x) / i<=t / (i - 2):=fun _=>div_mono2 b0 (by omega) (by omega) (by omega)
 have ce:t / (x*x) / (i+2 - 2)<=t / (x*x) / i:=by rw [show i+2 - 2=i by omega]; exact Int.le_refl _
 have k:=pow_bd t0 pw
 have hp:(2:Int) ^ ((i+2) / 2).toNat*(t / (x*x))<=4*PP:=by
  rw [show ((i+2) / 2).toNat=(i / 2).toNat+1 by omega,Int.pow_succ,Int.mul_assoc]
  have:(2:Int) ^ (i / 2).toNat*(2*(t / (x*x)))<=2 ^ (i / 2).toNat*t:=Int.mul_le_mul_of_nonneg_left b1 (Int.pow_nonneg (by decide))
  omega
 have ht:t<=2*PP:=by
  have h4:(2:Int)*t<=2 ^ (i / 2).toNat*t:=by
   refine Int.mul_le_mul_of_nonneg_right ?_ (by omega)
   have:=Nat.pow_le_pow_right (n:=2) (by decide) (show 1<=(i / 2).toNat by omega)
   have e1:((2 ^ 1:Nat):Int)<=((2 ^ (i / 2).toNat:Nat):Int):=by exact_mod_cast this
   simpa using e1
  omega
 have e2:(i+2)*PP=i*PP+2*PP:=Int.add_mul _ _ _
 have p:=PP_pos
 have tp:0<t / (x*x):=by
  rcases Int.lt_or_eq_of_le b0 with e|e
  .exact e
  .rw [<- e] at h0; simp at h0
 show 0<t / (x*x)/\(i+2) % 2=1/\2<i+2/\i+2<=399/\2 ^ ((i+2) / 2).toNat*(t / (x*x))<=4*PP/\0<=(match decide (i % 4=1) with|true=>s+t / (x*x) / i|false=>s - t / (x*x) / i)/\((i+2) % 4=3->t / (x*x) / (i+2 - 2)<=(match decide (i % 4=1) with|true=>s+t / (x*x) / i|false=>s - t / (x*x) / i))/\(match decide (i % 4=1) with|true=>s+t / (x*x) / i|false=>s - t / (x*x) / i)<=(i+2)*PP
 have h5:0<=(match decide (i % 4=1) with|true=>s+t / (x*x) / i|false=>s - t / (x*x) / i)/\((i+2) % 4=3->t / (x*x) / (i+2 - 2)<=(match decide (i % 4=1) with|true=>s+t / (x*x) / i|false=>s - t / (x*x) / i))/\(match decide (i % 4=1) with|true=>s+t / (x*x) / i|false=>s - t / (x*x) / i)<=(i+2)*PP:=by
  by_cases hm:i % 4=1
  .rw [show (match decide (i % 4=1) with|true=>s+t / (x*x) / i|false=>s - t / (x*x) / i)=s+t / (x*x) / i by rw [decide_eq_true hm]]
   generalize t / (x*x) / i=u at *
   refine ⟨by omega,by omega,by omega⟩
  .have hm3:i % 4=3:=by omega
   have a1:=ts hm3
   have a2:=cm hm3
   rw [show (match decide (i % 4=1) with|true=>s+t / (x*x) / i|false=>s - t / (x*x) / i)=s - t / (x*x) / i by rw [decide_eq_false hm]]
   generalize t / (x*x) / i=u at *
   generalize t / (i - 2)=w at *
   refine ⟨by omega,by omega,by omega⟩
 refine ⟨tp,by omega,by omega,by omega,hp,h5⟩
end
end Go.Proofs.Ytmnhhlnbfkfkaaa.K
namespace Go.Proofs.Ytmnhhlnbfkfkaaa.K
open Go Go.Eng Go.Dg
noncomputable section
theorem val_one (x:Int):val [x]=x:=by simp [val]
theorem dig_one {x:Int} (h0:0<=x) (h1:x<1000000000):Dig [x]:=dig_cons.2 ⟨⟨h0,h1⟩,dig_nil⟩
theorem ar_loop {x:Int} {one:List Int} (h:ArD x one):CodeOk cZ arFr (.loop arA) (arS x one) ⟨.tt,[⟨.tt,.ret,patch (arS x one) (arX (arR x one none))⟩]⟩:=by
 refine sumL_oneC (arU x one) (y0:=none) trivial ⟨_,ar_start x one,rfl⟩ (by kernel_rfl) (fun y hy=>?_) rfl
 have v0:=val_nonneg h.d
 have v1:=h.hi
 have yl:=h.l
 have x0:=h.x0
 have x1:=h.x1
 have p:=PP_pos
 obtain ⟨xa,xb,xw⟩:=h.xx
 cases y with
 | none=>
  obtain ⟨q0,q1⟩:=h.q
  have l0:=h.lo
  have e1:val (digs (val one*val [x]).toNat)=val one*x:=by rw [val_one,dv (Int.mul_nonneg v0 (by omega))]
  have Q:val (digs (val one*val [x]).toNat) / IntKind.i64.wrap (x*x)=arQ x one:=by rw [e1,xw]; rfl
  have vq:=dv q0
  have vq1:=dv (a:=arQ x one / 1) (by omega)
  have l1:(digs (val one*val [x]).toNat).length<=500000:=by
   rw [val_one]
   refine Nat.le_trans (digs_le (n:=8) (Int.mul_nonneg v0 (by omega)) ?_) (by decide)
   have:=Int.mul_le_mul v1 x1 (by omega) (by omega)
   have e:PP*30000<pw 8:=by decide
   omega
  have lq:=len_4 q0 (by omega)
  have lq1:=len_4 (a:=arQ x one / 1) (by omega) (by rw [Int.ediv_one]; omega)
  have lp:=len0 l0
  refine ⟨cAr false true,300,cAr_ok _ _,rfl,rfl,_,ar_b0 x one,?_,fun _=>?_⟩
  .rw [Q,xw,vq]
   refine ⟨⟨⟨rfl,dig_digs _,l1,by omega,by omega⟩,rfl,dig_digs _,by omega,by decide,by decide⟩,beq_eq_false_iff_ne.2 (by omega),rfl,rfl,dig_nil,dig_digs _,.inr lp,by decide,by omega⟩
  .rw [Q,vq,vq1]
   have z:val []+arQ x one / 1=arQ x one / 1:=Int.zero_add _
   rw [z]
   exact ⟨⟨⟨rfl,by decide⟩,rfl,rfl,rfl⟩,arI_first h,by show (400 - 3:Int).toNat<400; omega,congrArg (fun z=>(Ex.ret,arX z)) (arR_none h)⟩
 | some y=>
  obtain ⟨i,t,s⟩:=y
  have hI:=hy
  obtain ⟨t0,i0,i1,i2,pw2,s0,ts,sb⟩:=(show 0<t/\i % 2=1/\2<i/\i<=399/\2 ^ (i / 2).toNat*t<=4*PP/\0<=s/\(i % 4=3->t / (i - 2)<=s)/\s<=i*PP from hy)
  have k:=pow_bd t0 pw2
  obtain ⟨b0,b1⟩:=half_div (t:=t) (m:=x*x) (by omega) (by omega)
  obtain ⟨c0,c1⟩:=div_dec (t:=t / (x*x)) (m:=i) b0 (by omega)
  have ht:t<=4*PP:=by
   have h4:(1:Int)*t<=2 ^ (i / 2).toNat*t:=by
    refine Int.mul_le_mul_of_nonneg_right ?_ (by omega)
    have:=Nat.one_le_two_pow (n:=(i / 2).toNat)
    have e1:((1:Nat):Int)<=((2 ^ (i / 2).toNat:Nat):Int):=by exact_mod_cast this
    simpa using e1
   omega
  have hs:s<=400*PP:=by
   have:i*PP<=400*PP:=Int.mul_le_mul_of_nonneg_right (by omega) (by omega)
   omega
  have vt:=dv (a:=t) (by omega)
  have vs:=dv s0
  have vb:=dv b0
  have vc:=dv c0
  have dt:=dig_digs t.toNat
  have ds:=dig_digs s.toNat
  have db:=dig_digs (t / (x*x)).toNat
  have dc:=dig_digs (t / (x*x) / i).toNat
  have lt:=len_4 (a:=t) (by omega) (by omega)
  have ls:=len_4 s0 hs
  have lb:=len_4 b0 (by omega)
  have lc:=len_4 c0 (by omega)
  have w9:IntKind.i64.wrap (i+2)=i+2:=iw (by omega) (by omega)
  by_cases h0:t / (x*x) / i=0
  .refine ⟨cAr true false,300,cAr_ok _ _,rfl,rfl,_,ar_e x one i t s,?_,fun _=>⟨⟨rfl,rfl⟩,congrArg (fun z=>(Ex.ret,arX z)) (arR_end (by omega) h0)⟩⟩
   rw [vt,xw,vb,h0]
   exact ⟨⟨⟨rfl,dt,by omega,by omega,by omega⟩,rfl,db,by omega,by omega,by omega⟩,by rw [show digs (0:Int).toNat=[] from digs_zero]; rfl⟩
  .have lq:=len0 (a:=t / (x*x) / i) (by omega)
   have nx:=arI_next h hI h0
   have nr:=arR_some (x:=x) (one:=one) (i:=i) (t:=t) (s:=s) (by omega) (by omega) h0
   have mu:(400 - (i+2)).toNat<(400 - i).toNat:=by omega
   by_cases hm:i % 4=1
   .have e4:(match decide (i % 4=1) with|true=>s+t / (x*x) / i|false=>s - t / (x*x) / i)=s+t / (x*x) / i:=by rw [decide_eq_true hm]
    refine ⟨cAr false true,300,cAr_ok _ _,rfl,rfl,_,ar_bp x one i t s,?_,fun _=>?_⟩
    .rw [vt,xw,vb]
     refine ⟨⟨⟨rfl,dt,by omega,by omega,by omega⟩,rfl,db,by omega,by omega,by omega⟩,beq_eq_false_iff_ne.2 (by omega),?_,⟨rfl,rfl⟩,ds,dc,.inr lq,by omega,by omega⟩
     rw [Int.tmod_eq_emod_of_nonneg (by omega),hm]; rfl
    .rw [vt,xw,vb,vc,vs]
     exact ⟨⟨⟨congrArg (fun z:Int=>((digs z.toNat).length:Int)) e4.symm,w9⟩,rfl,congrArg (fun z:Int=>digs z.toNat) e4.symm,rfl⟩,nx,mu,congrArg (fun z=>(Ex.ret,arX z)) nr⟩
   .have hm3:i % 4=3:=by omega
    have a1:=ts hm3
    have a2:t / (x*x) / i<=t / (i - 2):=div_mono2 b0 (by omega) (by omega) (by omega)
    have ql:=lenb c0 (show t / (x*x) / i<=s by omega)
    have e4:(match decide (i % 4=1) with|true=>s+t / (x*x) / i|false=>s - t / (x*x) / i)=s - t / (x*x) / i:=by rw [decide_eq_false hm]
    refine ⟨cAr false false,300,cAr_ok _ _,rfl,rfl,_,ar_bm x one i t s,?_,fun _=>?_⟩
    .rw [vt,xw,vb,vc,vs]
     refine ⟨⟨⟨rfl,dt,by omega,by omega,by omega⟩,rfl,db,by omega,by omega,by omega⟩,beq_eq_false_iff_ne.2 (by omega),?_,⟨rfl,rfl⟩,ds,dc,by omega,by omega,ql,by omega⟩
     rw [Int.tmod_eq_emod_of_nonneg (by omega),hm3]; rfl
    .rw [vt,xw,vb,vc,vs]
     exact ⟨⟨⟨congrArg (fun z:Int=>((digs z.toNat).length:Int)) e4.symm,w9⟩,rfl,congrArg (fun z:Int=>digs z.toNat) e4.symm,rfl⟩,nx,mu,congrArg (fun z=>(Ex.ret,arX z)) nr⟩
noncomputable def cArL (x:Int) (one:List Int):Ctx:=withLoops cZ [oneLoop 74 (arS x one).hp.clock arFr arA (arS x one) .ret (arX (arR x one none))]
theorem cArL_ok {x:Int} {one:List Int} (h:ArD x one):CtxOk (cArL x one):=withLoop_ok cZ_ok (ar_loop h) (withNone_ok cZ_ok)
end
end Go.Proofs.Ytmnhhlnbfkfkaaa.K
namespace Go.Proofs.Ytmnhhlnbfkfkaaa.K
open Go Go.Eng Go.Dg
noncomputable section
def ar_t_nd (x:Int) (one:List Int):Prop:=(((↑one.length:Int)=(↑one.length:Int)/\Dig one/\Dig [x]/\one.length + [x].length<=(500000:Nat))/\At (arFr) (arFr) (arA) (arA) (arS x one) (arS x one))
def ar_t_v (x:Int) (one:List Int):AV:=(AV.lslice 1 (↑(digs (arR x one none).toNat).length:Int))
def ar_t_h (x:Int) (one:List Int):Hp:=⟨[{ wr:=15,body:=ABody.rows IntKind.i64 (digs (arR x one none).toNat) },{ wr:=(0:Nat),body:=ABody.rows IntKind.i64 one }],2,16⟩
theorem ar_t (x:Int) (one:List Int):(run (cArL x one) 300).call 74 (arArgs x one) (zH one)=some ⟨.p (ar_t_nd x one),[⟨.tt,ar_t_v x one,ar_t_h x one⟩]⟩:=by kernel_rfl
end
end Go.Proofs.Ytmnhhlnbfkfkaaa.K
