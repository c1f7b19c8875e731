/- What is proved: FrameUndo returns true, whatever the input (part 9). No conditions beyond those of the row. -/
import Derived.Test.YtbhibbcjfgnmhaaGreatDoorPH
import Derived.KernelRfl
set_option linter.unusedVariables false
set_option linter.unusedSimpArgs false
set_option linter.unusedSectionVars false
namespace Go.Proofs.YtbhibbcjfgnmhaaGreatDoor.K
open Go Go.Eng Go.Dg
noncomputable section
theorem Qi {a b:List Int} (ha:Dig a) (hb:Dig b) (hl:a.length+b.length<=500000) {i:Int} (h0:0<=i) (h1:i<a.length):CodeOk cL xZ (.loop Qf) (Ap a b i) ⟨.tt,[⟨.tt,.exit 2,ae (Ap a b i) (tiX a b i)⟩]⟩:=by
 refine mG (bP ig 300) (tiU a b i) (y0:=(0,0,aT (tmL a b) (tmV a b i))) (TmI.start ha hb h0 h1) ⟨_,Qh a b i,⟨rfl,rfl⟩,rfl⟩ (by kernel_rfl) (fun y hy=>?_) rfl
 obtain ⟨k,c,d⟩:=y
 have hI:TmI a b i k c d:=hy
 obtain ⟨l,dg,k0,k1,c0,c1,v,z⟩:=id hI
 have eL:IntKind.i64.wrap ((a.length:Int)+b.length)=a.length+b.length:=iw (by omega) (by omega)
 have e1:IntKind.i64.wrap (i+k)=i+k:=iw (by omega) (by omega)
 have e2:(0+(i+k)).toNat=i.toNat+k.toNat:=by omega
 refine ⟨_,Us a b i k c d,fun h=>?_,fun h=>⟨⟨⟨rfl,rfl⟩,rfl⟩,?_⟩,fun h=>?_⟩
 .have h:=dt.1 h
  rw [e1,eL,e2]
  exact ⟨⟨⟨k0,h⟩,by omega⟩,⟨⟨by omega,by omega⟩,by omega⟩,⟨by omega,by omega⟩,by omega⟩
 .obtain ⟨f1,f2,f3⟩:=hI.fin (ndt.1 h)
  show (Ex.exit 2,tiX a b i)=(Ex.exit 2,tiP k c d)
  unfold tiX tmL
  rw [f1,f2,<- f3]
 .have h:=dt.1 h
  obtain ⟨m0,m1,m2,m3⟩:=hI.num ha hb h
  rw [e1,e2]
  have e3:IntKind.i64.wrap (a.getD i.toNat 0*b.getD k.toNat 0)=a.getD i.toNat 0*b.getD k.toNat 0:=iw (by omega) (by omega)
  rw [e3]
  have e4:IntKind.i64.wrap (d.getD (i.toNat+k.toNat) 0+a.getD i.toNat 0*b.getD k.toNat 0)=d.getD (i.toNat+k.toNat) 0+a.getD i.toNat 0*b.getD k.toNat 0:=iw (by omega) (by omega)
  rw [e4]
  have e5:IntKind.i64.wrap (d.getD (i.toNat+k.toNat) 0+a.getD i.toNat 0*b.getD k.toNat 0+c)=d.getD (i.toNat+k.toNat) 0+a.getD i.toNat 0*b.getD k.toNat 0+c:=iw (by omega) (by omega)
  rw [e5]
  have st:=hI.step ha hb h1 h
  have e6:IntKind.i64.wrap ((d.getD (i.toNat+k.toNat) 0+a.getD i.toNat 0*b.getD k.toNat 0+c).tdiv 1000000000)=(d.getD (i.toNat+k.toNat) 0+a.getD i.toNat 0*b.getD k.toNat 0+c).tdiv 1000000000:=by
   have:=st.c0
   have:=st.c1
   exact iw (by omega) (by omega)
  refine ⟨⟨⟨e6,iw (by omega) (by omega)⟩,rfl⟩,st,?_,rfl⟩
  show (b.length - (k+1)).toNat<(b.length - k).toNat
  omega
theorem Uu {a b:List Int} (ha:Dig a) (hb:Dig b) (hl:a.length+b.length<=500000) {i:Int} (h0:0<=i) (h1:i<a.length):CtxOk (XT a b i):=aQ ig (Qi ha hb hl h0 h1) (dG ig)
theorem Uv {a b:List Int} (ha:Dig a) (hb:Dig b) (hl:a.length+b.length<=500000):CodeOk cL xZ (.loop Jr) (toS a b) ⟨.tt,[⟨.tt,.exit 0,ae (toS a b) (toP a.length (aT (tmL a b) (tmV a b a.length)))⟩]⟩:=by
 have eL:IntKind.i64.wrap ((a.length:Int)+b.length)=a.length+b.length:=iw (by omega) (by omega)
 refine mH (toU a b) (y0:=0) ⟨by omega,by omega⟩ ⟨_,Qg a b,rfl,?_⟩ (by kernel_rfl) (fun i hi=>?_) rfl
 .rw [eL,show ((a.length:Int)+b.length).toNat=tmL a b by unfold tmL; omega,G6]
  congr 1
  unfold tmV
  simp [val]
 obtain ⟨i0,i1⟩:=(show 0<=i/\i<=a.length from hi)
 by_cases hlt:i<a.length
 .have e1:IntKind.i64.wrap (i+b.length)=i+b.length:=iw (by omega) (by omega)
  have e2:(0+(i+(b.length:Int))).toNat=i.toNat+b.length:=by omega
  refine ⟨XT a b i,300,Uu ha hb hl i0 hlt,rfl,rfl,_,Ut a b i,fun h=>?_,fun h=>absurd hlt (ndt.1 h),fun h=>⟨⟨iw (by omega) (by omega),?_⟩,?_,?_,rfl⟩⟩
  .rw [e1,eL,e2]
   refine ⟨⟨⟨i0,hlt⟩,by omega⟩,⟨rfl,rfl,rfl⟩,⟨by omega,by omega⟩,?_⟩
   rw [cB]; unfold tmL; omega
  .rw [e1,e2]
   exact XQ ha hb i0 hlt
  .show 0<=i+1/\i+1<=a.length
   omega
  .show (a.length - (i+1)).toNat<(a.length - i).toNat
   omega
 .obtain rfl:i=a.length:=by omega
  exact ⟨cHz 21,300,XU 21,rfl,rfl,_,XV a b a.length,ndf hlt,fun _=>⟨⟨rfl,rfl⟩,rfl⟩⟩
noncomputable def ttS (a b d:List Int) (N:Int):St:=u7 cL 300 152 [.islice true 2 0 N] ⟨[⟨14,.ints .i64 d⟩,⟨0,.rows .i64 b⟩,⟨0,.rows .i64 a⟩],3,17⟩
theorem Qj (a b d:List Int) (N:Int):fit (ttS a b d N) (ttS a b d N) (ae (ttS a b d N) ((trU 2 d N).S N)) []=some (.p ((0:Int)=0/\N=N)):=by kernel_rfl
theorem Uw (a b d:List Int) (N y:Int):fw (ttS a b d N) ((trU 2 d N).way y) ((run cL 300).code kr trA (ae (ttS a b d N) ((trU 2 d N).S y)))=some (.p (trN 2 d N y)):=by kernel_rfl
theorem Ux (a b:List Int) {d:List Int} {N:Int} (hN:N=d.length) (ld:Sm d):CodeOk cL kr (.loop trA) (ttS a b d N) ⟨.tt,[⟨.tt,.exit 0,ae (ttS a b d N) (trP 2 (tlI d N))⟩]⟩:=yA hN ld (Qj a b d N) (by kernel_rfl) (fun y=>Uw a b d N y)
def tmN (a b:List Int):Int:=IntKind.i64.wrap ((a.length:Int)+b.length)
def tmD (a b:List Int):List Int:=aT (tmL a b) (tmV a b a.length)
noncomputable def cTt (a b:List Int):Ctx:=bu cL [cK 141 (toS a b).hp.clock xZ Jr (toS a b) (.exit 0) (toP a.length (tmD a b)),cK 152 20 kr trA (ttS a b (tmD a b) (tmN a b)) (.exit 0) (trP 2 (tlI (tmD a b) (tmN a b)))]
theorem La {a b:List Int} (hl:a.length+b.length<=500000):tmN a b=(tmD a b).length:=by
 unfold tmN tmD tmL
 rw [iw (by omega) (by omega),cB]; omega
theorem XW {a b:List Int} (ha:Dig a) (hb:Dig b) (hl:a.length+b.length<=500000):CtxOk (cTt a b):=
 aQ ig (Uv ha hb hl) (aQ ig (Ux a b (La hl) (by show (tmD a b).length<=500000; unfold tmD tmL; rw [cB]; exact hl)) (dG ig))
def Uy (a b:List Int):Prop:=((IntKind.i64.wrap ((↑a.length:Int)+(↑b.length:Int))=IntKind.i64.wrap ((↑a.length:Int)+(↑b.length:Int))/\(0:Int)<=IntKind.i64.wrap ((↑a.length:Int)+(↑b.length:Int))/\IntKind.i64.wrap ((↑a.length:Int)+(↑b.length:Int))<=(1048576:Int))/\At (xZ) (xZ) (Jr) (Jr) (toS a b) (toS a b)/\At (kr) (kr) (trA) (trA) (ttS a b (tmD a b) (tmN a b)) (ttS a b (tmD a b) (tmN a b)))
def XX (a b:List Int):AV:=(AV.islice true 2 (0:Int) (tlI (tmD a b) (tmN a b)))
def XY (a b:List Int):Hp:=⟨[{ wr:=14,body:=ABody.ints IntKind.i64 (tmD a b) },{ wr:=(0:Nat),body:=ABody.rows IntKind.i64 b },{ wr:=(0:Nat),body:=ABody.rows IntKind.i64 a }],3,24⟩
theorem aca (a b:List Int):(run (cTt a b) 300).call 141 (zB a b) (zG a b)=some ⟨.p (Uy a b),[⟨.tt,XX a b,XY a b⟩]⟩:=by kernel_rfl
def XZ:List Nu->List (List Int)->Option (Prop×To)
 | [],[a,b]=>some (Dig a/\Dig b/\a.length+b.length<=500000,.li false (aa (val a*val b).toNat))
 | _,_=>none
theorem Ed {d:List Int} {N v:Int} (h:Dig d) (hN:N=d.length) (hv:val d=v):((0:Int)<=0/\0<=tlI d N/\0+tlI d N<=d.length)/\List.take (tlI d N).toNat (List.drop (Int.toNat 0) d)=aa v.toNat:=by
 have hl:=Qa d
 rw [KZ h hN,hv,hN]
 exact ⟨⟨by omega,by omega,by omega⟩,rfl⟩
theorem Qk:NOk Tryz.prog (fun _=>none) hG0 141 (eT hG0 .i64 [.li,.li] XZ):=by
 refine fJ (fun xs ys p t e h=>?_) ⟨_,Tryz.func141,rfl⟩
 unfold XZ at e
 split at e
 .rename_i a b
  cases e
  obtain ⟨ha,hb,hl⟩:=h
  have eN:tmN a b=a.length+b.length:=iw (by omega) (by omega)
  exact ⟨cTt a b,300,zB a b,_,_,_,_,_,XW ha hb hl,rfl,rfl,⟨rfl,rfl,trivial⟩,aca a b,rfl,⟨⟨rfl,by show 0<=tmN a b; omega,by show tmN a b<=_; omega⟩,⟨rfl,rfl,rfl⟩,⟨rfl,rfl,rfl⟩⟩,rfl,rfl,Ed (jI _ _) (La hl) (XR ha hb)⟩
 .cases e
end
end Go.Proofs.YtbhibbcjfgnmhaaGreatDoor.K
namespace Go.Dg
open Go Go.Eng
def fM:List Int->List Int->List Int
 | x :: a,y :: b=>(x - y) :: fM a b
 | a,[]=>a
 | [],_ :: _=>[]
def lZ:List Int->List Int->List Int
 | x :: a,y :: b=>(x+y) :: lZ a b
 | a,[]=>a
 | [],_ :: _=>[]
theorem Aq (a:List Int):fM a []=a:=by cases a <;> rfl
theorem Au (a:List Int):lZ a []=a:=by cases a <;> rfl
theorem vB:∀ a b:List Int,(fM a b).length=a.length
 | [],[]=>rfl
 | x :: a,[]=>rfl
 | [],_ :: _=>rfl
 | x :: a,y :: b=>by simp [fM,vB a b]
theorem vD:∀ a b:List Int,(lZ a b).length=a.length
 | [],[]=>rfl
 | x :: a,[]=>rfl
 | [],_ :: _=>rfl
 | x :: a,y :: b=>by simp [lZ,vD a b]
theorem Av:∀ (a b:List Int) (i:Nat),i<a.length->(fM a b).getD i 0=a.getD i 0 - b.getD i 0
 | [],_,i,h=>by simp at h
 | x :: a,[],i,h=>by simp [fM]
 | x :: a,y :: b,0,h=>by simp [fM]
 | x :: a,y :: b,i+1,h=>by
  have:=Av a b i (by simpa using h)
  simpa [fM] using this
theorem vE:∀ (a b:List Int) (i:Nat),i<a.length->(lZ a b).getD i 0=a.getD i 0+b.getD i 0
 | [],_,i,h=>by simp at h
 | x :: a,[],i,h=>by simp [lZ]
 | x :: a,y :: b,0,h=>by simp [lZ]
 | x :: a,y :: b,i+1,h=>by
  have:=vE a b i (by simpa using h)
  simpa [lZ] using this
theorem Cs:∀ (a b:List Int) (i:Nat),i<b.length->b.length<=a.length->(fM a (b.take i)).set i ((fM a (b.take i)).getD i 0 - b.getD i 0)=fM a (b.take (i+1))
 | _,[],i,h,_=>by simp at h
 | [],y :: b,i,h,h2=>by simp at h2
 | x :: a,y :: b,0,h,_=>by simp [fM,Aq]
 | x :: a,y :: b,i+1,h,h2=>by
  have:=Cs a b i (by simpa using h) (by simpa using h2)
  simpa [fM] using this
theorem Ct:∀ (a b:List Int) (i:Nat),i<b.length->b.length<=a.length->(lZ a (b.take i)).set i ((lZ a (b.take i)).getD i 0+b.getD i 0)=lZ a (b.take (i+1))
 | _,[],i,h,_=>by simp at h
 | [],y :: b,i,h,h2=>by simp at h2
 | x :: a,y :: b,0,h,_=>by simp [lZ,Au]
 | x :: a,y :: b,i+1,h,h2=>by
  have:=Ct a b i (by simpa using h) (by simpa using h2)
  simpa [lZ] using this
theorem He:∀ (a b:List Int),b.length<=a.length->val (fM a b)=val a - val b
 | a,[],_=>by simp [Aq,val]
 | [],y :: b,h=>by simp at h
 | x :: a,y :: b,h=>by
  have:=He a b (by simpa using h)
  simp only [fM,val]
  omega
theorem Hf:∀ (a b:List Int),b.length<=a.length->val (lZ a b)=val a+val b
 | a,[],_=>by simp [Au,val]
 | [],y :: b,h=>by simp at h
 | x :: a,y :: b,h=>by
  have:=Hf a b (by simpa using h)
  simp only [lZ,val]
  omega
theorem Ju {d:List Int} (h:∀ j,j<d.length->0<=d.getD j 0/\d.getD j 0<1000000000):Dig d:=by
 intro x hx
 obtain ⟨j,hj,rfl⟩:=List.getElem_of_mem hx
 have:=h j hj
 simpa [List.getD_eq_getElem?_getD,List.getElem?_eq_getElem hj] using this
structure NbI (L:Nat) (V:Int) (i:Nat) (d:List Int):Prop where
 l:d.length=L
 i1:i<=L
 lo:∀ j,j<i->0<=d.getD j 0/\d.getD j 0<1000000000
 me:-1000000000<=d.getD i 0/\d.getD i 0<1000000000
 hi:∀ j,i<j->-1000000000<d.getD j 0/\d.getD j 0<1000000000
 v:val d=V
theorem NbI.start {a b:List Int} (ha:Dig a) (hb:Dig b) (hl:b.length<=a.length):NbI a.length (val a - val b) 0 (fM a b):=by
 have g:∀ j,-1000000000<(fM a b).getD j 0/\(fM a b).getD j 0<1000000000:=by
  intro j
  rcases Nat.lt_or_ge j a.length with h|h
  .rw [Av a b j h]
   have:=ha.get j
   have:=hb.get j
   omega
  .rw [List.getD_eq_getElem?_getD,List.getElem?_eq_none (by rw [vB]; exact h)]
   simp
 exact ⟨vB a b,Nat.zero_le _,fun j hj=>by omega,⟨by have:=g 0; omega,(g 0).2⟩,fun j _=>g j,He a b hl⟩
theorem Uz {d:List Int} {i:Nat} (hl:d.length=i+1) (lo:∀ j,j<i->0<=d.getD j 0/\d.getD j 0<1000000000) (hn:d.getD i 0<0):val d<0:=by
 have e:val d=val (d.take i)+pw i*d.getD i 0:=by
  rw [<- dM (by omega),<- hl,List.take_length]
 have dg:Dig (d.take i):=by
  apply Ju
  intro j hj
  rw [List.length_take] at hj
  have:=lo j (by omega)
  simpa [List.getD_eq_getElem?_getD,List.getElem?_take,show j<i by omega] using this
 have h1:=gP dg
 rw [List.length_take,Nat.min_eq_left (by omega)] at h1
 have h2:pw i*d.getD i 0<=pw i * -1:=Int.mul_le_mul_of_nonneg_left (by omega) (Int.le_of_lt (pw_pos i))
 omega
theorem NbI.in {L:Nat} {V:Int} {i:Nat} {d:List Int} (h:NbI L V i d) (hV:0<=V) (hi:i<L) (hn:d.getD i 0<0):i+1<L:=by
 rcases Nat.lt_or_ge (i+1) L with h1|h1
 .exact h1
 .have:=Uz (i:=i) (by rw [h.l]; omega) h.lo hn
  rw [h.v] at this
  omega
theorem NbI.skip {L:Nat} {V:Int} {i:Nat} {d:List Int} (h:NbI L V i d) (hi:i<L) (hn:¬ d.getD i 0<0):NbI L V (i+1) d:=by
 obtain ⟨l,i1,lo,me,hi',v⟩:=h
 refine ⟨l,hi,fun j hj=>?_,?_,fun j hj=>hi' j (by omega),v⟩
 .rcases Nat.lt_or_ge j i with h1|h1
  .exact lo j h1
  .have:j=i:=by omega
   subst this; omega
 .have:=hi' (i+1) (by omega); omega
theorem NbI.step {L:Nat} {V:Int} {i:Nat} {d:List Int} (h:NbI L V i d) (hV:0<=V) (hi:i<L) (hn:d.getD i 0<0):
  NbI L V (i+1) ((d.set i (d.getD i 0+1000000000)).set (i+1) ((d.set i (d.getD i 0+1000000000)).getD (i+1) 0 - 1)):=by
 have h1:=h.in hV hi hn
 obtain ⟨l,i1,lo,me,hi',v⟩:=h
 have e1:(d.set i (d.getD i 0+1000000000)).getD (i+1) 0=d.getD (i+1) 0:=getD_set (by omega)
 rw [e1]
 have hn1:=hi' (i+1) (by omega)
 refine ⟨by simp [l],hi,fun j hj=>?_,?_,fun j hj=>?_,?_⟩
 .rw [getD_set (by omega)]
  rcases Nat.lt_or_ge j i with h2|h2
  .rw [getD_set (by omega)]; exact lo j h2
  .have:j=i:=by omega
   subst this
   rw [gG (by omega)]; omega
 .rw [gG (by rw [List.length_set]; omega)]; omega
 .rw [getD_set (by omega),getD_set (by omega)]
  exact hi' j (by omega)
 .rw [lN _ _ _ (by rw [List.length_set]; omega),lN _ _ _ (by omega),e1,kg]
  grind
theorem NbI.fin {L:Nat} {V:Int} {d:List Int} (h:NbI L V L d):d=aT L V:=by
 exact qc (Ju fun j hj=>h.lo j (by rw [<- h.l]; exact hj)) h.l h.v
structure NcI (L:Nat) (V:Int) (i:Nat) (d:List Int):Prop where
 l:d.length=L+1
 i1:i<=L
 lo:∀ j,j<i->0<=d.getD j 0/\d.getD j 0<1000000000
 me:0<=d.getD i 0/\d.getD i 0<2000000000
 hi:∀ j,i<j->0<=d.getD j 0/\d.getD j 0<1999999999
 t0:i<L->d.getD L 0=0
 t1:d.getD L 0<=1
 v:val d=V
theorem NcI.start {a b:List Int} (ha:Dig a) (hb:Dig b) (hl:b.length<=a.length):NcI a.length (val a+val b) 0 (lZ (a++[0]) b):=by
 have da:Dig (a++[0]):=KV.2 ⟨ha,dI.2 ⟨by omega,jZ⟩⟩
 have ll:(a++[(0:Int)]).length=a.length+1:=by simp
 have g:∀ j,0<=(lZ (a++[0]) b).getD j 0/\(lZ (a++[0]) b).getD j 0<1999999999:=by
  intro j
  rcases Nat.lt_or_ge j (a++[(0:Int)]).length with h|h
  .rw [vE _ b j h]
   have:=da.get j
   have:=hb.get j
   omega
  .rw [List.getD_eq_getElem?_getD,List.getElem?_eq_none (by rw [vD]; exact h)]
   simp
 have top:(lZ (a++[0]) b).getD a.length 0=0:=by
  rw [vE _ b _ (by omega)]
  have e1:(a++[(0:Int)]).getD a.length 0=0:=by simp [List.getD_eq_getElem?_getD]
  have e2:b.getD a.length 0=0:=by rw [List.getD_eq_getElem?_getD,List.getElem?_eq_none hl]; rfl
  omega
 refine ⟨by rw [vD,ll],Nat.zero_le _,fun j hj=>by omega,⟨(g 0).1,by have:=(g 0).2; omega⟩,fun j _=>g j,fun _=>top,by omega,?_⟩
 rw [Hf _ b (by rw [ll]; omega),D8]
 simp [val]
theorem NcI.skip {L:Nat} {V:Int} {i:Nat} {d:List Int} (h:NcI L V i d) (hi:i<L) (hn:¬ 1000000000<=d.getD i 0):NcI L V (i+1) d:=by
 obtain ⟨l,i1,lo,me,hi',t0,t1,v⟩:=h
 refine ⟨l,hi,fun j hj=>?_,?_,fun j hj=>hi' j (by omega),fun _=>t0 hi,t1,v⟩
 .rcases Nat.lt_or_ge j i with h1|h1
  .exact lo j h1
  .have:j=i:=by omega
   subst this; omega
 .have:=hi' (i+1) (by omega); omega
theorem NcI.step {L:Nat} {V:Int} {i:Nat} {d:List Int} (h:NcI L V i d) (hi:i<L) (hn:1000000000<=d.getD i 0):
  NcI L V (i+1) ((d.set i (d.getD i 0 - 1000000000)).set (i+1) ((d.set i (d.getD i 0 - 1000000000)).getD (i+1) 0+1)):=by
 obtain ⟨l,i1,lo,me,hi',t0,t1,v⟩:=h
 have e1:(d.set i (d.getD i 0 - 1000000000)).getD (i+1) 0=d.getD (i+1) 0:=getD_set (by omega)
 rw [e1]
 have hn1:=hi' (i+1) (by omega)
 refine ⟨by simp [l],hi,fun j hj=>?_,?_,fun j hj=>?_,fun h2=>?_,?_,?_⟩
 .rw [getD_set (by omega)]
  rcases Nat.lt_or_ge j i with h2|h2
  .rw [getD_set (by omega)]; exact lo j h2
  .have:j=i:=by omega
   subst this
   rw [gG (by omega)]; omega
 .rw [gG (by rw [List.length_set]; omega)]; omega
 .rw [getD_set (by omega),getD_set (by omega)]
  exact hi' j (by omega)
 .rw [getD_set (by omega),getD_set (by omega)]
  exact t0 hi
 .rcases Nat.lt_or_ge (i+1) L with h2|h2
  .rw [getD_set (by omega),getD_set (by omega),t0 hi]; decide
  .have e2:i+1=L:=by omega
   have z:=t0 hi
   rw [<- e2] at z ⊢
   rw [gG (by rw [List.length_set]; omega),z]; decide
 .rw [lN _ _ _ (by rw [List.length_set]; omega),lN _ _ _ (by omega),e1,kg]
  grind
theorem NcI.fin {L:Nat} {V:Int} {d:List Int} (h:NcI L V L d):d=aT (L+1) V:=by
 refine qc (Ju fun j hj=>?_) h.l h.v
 rw [h.l] at hj
 rcases Nat.lt_or_ge j L with h1|h1
 .exact h.lo j h1
 .have e:j=L:=by omega
  have h2:=h.t1
  have h3:=h.me
  subst e
  omega
end Go.Dg
namespace Go.Proofs.YtbhibbcjfgnmhaaGreatDoor.K
open Go Go.Eng Go.Dg
noncomputable section
def wT:AFr:=⟨147,none⟩
def Nc:Code:=jN Tryz.prog 147 0
def Jv:Code:=jN Tryz.prog 147 1
noncomputable def m1S (a b:List Int):St:=u7 cL 300 147 (zB a b) (zG a b)
def m1P (i:Int) (d:List Int):Patch:=⟨fG 6 2++(13,.int true .i64 i) :: fG 14 12,[(2,.ints .i64 d)],[]⟩
def m1X (a b:List Int):Patch:=m1P b.length (fM a (b.take ((b.length:Int)).toNat))
def m1U (a b:List Int):SumL Int:=
 {
  S:=fun i=>m1P i (fM a (b.take i.toNat))
  I:=fun i=>0<=i/\i<=b.length
  μ:=fun i=>(b.length - i).toNat
  F:=fun _=>(.exit 0,m1X a b)
  next:=fun i=>i+1
  ids:=fun _=>[]
  X:=fun i _=>some (m1P i (fM a (b.take i.toNat)),[]) }
noncomputable def cM1 (a b:List Int):Ctx:=bu cL [cK 147 (m1S a b).hp.clock wT Nc (m1S a b) (.exit 0) (m1X a b)]
noncomputable def m2S (a b:List Int):St:=u7 (cM1 a b) 300 147 (zB a b) (zG a b)
def m2P (i:Int) (d:List Int):Patch:=⟨(8,.any false) :: (28,.int true .i64 i) :: fG 29 21,[(2,.ints .i64 d)],[]⟩
def Aw (a b:List Int):Int:=val a - val b
def m2U (a b:List Int):SumL (Int×List Int):=
 {
  S:=fun (i,d)=>m2P i d
  I:=fun (i,d)=>0<=i/\NbI a.length (Aw a b) i.toNat d
  μ:=fun (i,_)=>(a.length - i).toNat
  F:=fun _=>(.exit 2,m2P a.length (aT a.length (Aw a b)))
  next:=fun (i,d)=>(i+1,bif decide (d.getD i.toNat 0<0) then (d.set i.toNat (d.getD i.toNat 0+1000000000)).set (i.toNat+1) ((d.set i.toNat (d.getD i.toNat 0+1000000000)).getD (i.toNat+1) 0 - 1) else d)
  ids:=fun _=>[]
  X:=fun (i,d) _=>some (m2P i d,[]) }
def cHb (l:List (Nat×Bool)):Ctx:=gK cL (hZ (l.map fun x=>(x.1,match x.2 with|true=>.bool false true|false=>.bool false false)))
theorem qg (l:List (Nat×Bool)):CtxOk (cHb l):=cz ig _
def Hg (a b:List Int):Prop:=(0:Int)=(0:Int)/\a=fM a (List.take (Int.toNat (0:Int)) b)
theorem Ql (a b:List Int):fit (m1S a b) (m1S a b) (ae (m1S a b) ((m1U a b).S 0)) ([])=some (.p (Hg a b)):=by kernel_rfl
def Jw (a b:List Int) (i:Int):Prop:=(decide (i<(↑b.length:Int))=true->(((0:Int)<=i/\i<(↑b.length:Int))/\i.toNat<b.length)/\((0:Int)<=i/\i<(↑a.length:Int))/\((0:Int)+i).toNat<(fM a (List.take i.toNat b)).length/\((0:Int)<=i/\i<(↑a.length:Int))/\((0:Int)+i).toNat<(fM a (List.take i.toNat b)).length)/\((!decide (i<(↑b.length:Int)))=true->(i=i/\fM a (List.take i.toNat b)=fM a (List.take i.toNat b))/\(m1U a b).F i=(Ex.exit (0:Nat),m1P i (fM a (List.take i.toNat b))))/\(decide (i<(↑b.length:Int))=true->(IntKind.i64.wrap (i+(1:Int))=(m1U a b).next i/\(fM a (List.take i.toNat b)).set ((0:Int)+i).toNat (IntKind.i64.wrap ((fM a (List.take i.toNat b)).getD ((0:Int)+i).toNat (0:Int) - b.getD i.toNat (0:Int)))=fM a (List.take ((m1U a b).next i).toNat b))/\(m1U a b).I ((m1U a b).next i)/\(m1U a b).μ ((m1U a b).next i)<(m1U a b).μ i/\(m1U a b).F ((m1U a b).next i)=(m1U a b).F i)
theorem UA (a b:List Int) (i:Int):fw (m1S a b) ((m1U a b).way (i)) ((run cL 300).code wT Nc (ae (m1S a b) ((m1U a b).S i)))=some (.p (Jw a b i)):=by kernel_rfl
def Hl (a b:List Int):Prop:=(0:Int)=(0:Int)/\fM a (List.take (↑b.length:Int).toNat b)=fM a (List.take (↑b.length:Int).toNat b)
theorem Qm (a b:List Int):fit (m2S a b) (m2S a b) (ae (m2S a b) ((m2U a b).S (0,fM a (b.take ((b.length:Int)).toNat)))) ([])=some (.p (Hl a b)):=by kernel_rfl
def Nf (a b:List Int) (i:Int) (d:List Int):Prop:=decide (i<(↑a.length:Int))=false/\(true=true->(i=i/\d=d)/\(m2U a b).F (i,d)=(Ex.exit (2:Nat),m2P i d))
theorem X0 (a b:List Int) (i:Int) (d:List Int):fw (m2S a b) ((m2U a b).way ((i,d))) ((run (cHb [(29,false)]) 300).code wT Jv (ae (m2S a b) ((m2U a b).S (i,d))))=some (.p (Nf a b i d)):=by kernel_rfl
def Jy (a b:List Int) (i:Int) (d:List Int):Prop:=(decide (i<(↑a.length:Int))=true/\((0:Int)<=i/\i<(↑a.length:Int))/\((0:Int)+i).toNat<d.length/\decide (d.getD ((0:Int)+i).toNat (0:Int)<(0:Int))=false)/\(true=true->(IntKind.i64.wrap (i+(1:Int))=i+(1:Int)/\d=bif decide (d.getD i.toNat (0:Int)<(0:Int)) then (d.set i.toNat (d.getD i.toNat (0:Int)+(1000000000:Int))).set (i.toNat+(1:Nat)) ((d.set i.toNat (d.getD i.toNat (0:Int)+(1000000000:Int))).getD (i.toNat+(1:Nat)) (0:Int) - (1:Int)) else d)/\(m2U a b).I ((m2U a b).next (i,d))/\(m2U a b).μ ((m2U a b).next (i,d))<(m2U a b).μ (i,d)/\(m2U a b).F ((m2U a b).next (i,d))=(m2U a b).F (i,d))
theorem UB (a b:List Int) (i:Int) (d:List Int):fw (m2S a b) ((m2U a b).way ((i,d))) ((run (cHb [(29,true),(35,false)]) 300).code wT Jv (ae (m2S a b) ((m2U a b).S (i,d))))=some (.p (Jy a b i d)):=by kernel_rfl
def Jz (a b:List Int) (i:Int) (d:List Int):Prop:=(decide (i<(↑a.length:Int))=true/\(((0:Int)<=i/\i<(↑a.length:Int))/\((0:Int)+i).toNat<d.length/\decide (d.getD ((0:Int)+i).toNat (0:Int)<(0:Int))=true)/\(((0:Int)<=i/\i<(↑a.length:Int))/\((0:Int)+i).toNat<d.length/\((0:Int)<=i/\i<(↑a.length:Int))/\((0:Int)+i).toNat<d.length)/\((0:Int)<=IntKind.i64.wrap (i+(1:Int))/\IntKind.i64.wrap (i+(1:Int))<(↑a.length:Int))/\((0:Int)+IntKind.i64.wrap (i+(1:Int))).toNat<(d.set ((0:Int)+i).toNat (IntKind.i64.wrap (d.getD ((0:Int)+i).toNat (0:Int)+(1000000000:Int)))).length/\((0:Int)<=IntKind.i64.wrap (i+(1:Int))/\IntKind.i64.wrap (i+(1:Int))<(↑a.length:Int))/\((0:Int)+IntKind.i64.wrap (i+(1:Int))).toNat<(d.set ((0:Int)+i).toNat (IntKind.i64.wrap (d.getD ((0:Int)+i).toNat (0:Int)+(1000000000:Int)))).length)/\(true=true->(IntKind.i64.wrap (i+(1:Int))=i+(1:Int)/\(d.set ((0:Int)+i).toNat (IntKind.i64.wrap (d.getD ((0:Int)+i).toNat (0:Int)+(1000000000:Int)))).set ((0:Int)+IntKind.i64.wrap (i+(1:Int))).toNat (IntKind.i64.wrap ((d.set ((0:Int)+i).toNat (IntKind.i64.wrap (d.getD ((0:Int)+i).toNat (0:Int)+(1000000000:Int)))).getD ((0:Int)+IntKind.i64.wrap (i+(1:Int))).toNat (0:Int) - (1:Int)))=bif decide (d.getD i.toNat (0:Int)<(0:Int)) then (d.set i.toNat (d.getD i.toNat (0:Int)+(1000000000:Int))).set (i.toNat+(1:Nat)) ((d.set i.toNat (d.getD i.toNat (0:Int)+(1000000000:Int))).getD (i.toNat+(1:Nat)) (0:Int) - (1:Int)) else d)/\(m2U a b).I ((m2U a b).next (i,d))/\(m2U a b).μ ((m2U a b).next (i,d))<(m2U a b).μ (i,d)/\(m2U a b).F ((m2U a b).next (i,d))=(m2U a b).F (i,d))
theorem UC (a b:List Int) (i:Int) (d:List Int):fw (m2S a b) ((m2U a b).way ((i,d))) ((run (cHb [(29,true),(35,true)]) 300).code wT Jv (ae (m2S a b) ((m2U a b).S (i,d))))=some (.p (Jz a b i d)):=by kernel_rfl
theorem zt (i:Int):(0+i).toNat=i.toNat:=by rw [Int.zero_add]
theorem UD {a b:List Int} (ha:Dig a) (hb:Dig b) (la:Sm a) (hl:b.length<=a.length):CodeOk cL wT (.loop Nc) (m1S a b) ⟨.tt,[⟨.tt,.exit 0,ae (m1S a b) (m1X a b)⟩]⟩:=by
 have la:=la.le
 refine mG (bP ig 300) (m1U a b) (y0:=0) ⟨by omega,by omega⟩ ⟨_,Ql a b,rfl,(Aq a).symm⟩ (by kernel_rfl) (fun i hi=>⟨_,UA a b i,?_⟩) rfl
 obtain ⟨i0,i1⟩:=(show 0<=i/\i<=b.length from hi)
 have ll:=vB a (b.take i.toNat)
 refine ⟨fun h=>?_,fun h=>⟨⟨rfl,rfl⟩,?_⟩,fun h=>?_⟩
 .have h:i<b.length:=dt.1 h
  rw [zt,ll]
  exact ⟨⟨⟨i0,h⟩,by omega⟩,⟨i0,by omega⟩,by omega,⟨i0,by omega⟩,by omega⟩
 .have h:=ndt.1 h
  obtain rfl:i=b.length:=by omega
  rfl
 .have h:i<b.length:=dt.1 h
  have g1:=ha.get i.toNat
  have g2:=hb.get i.toNat
  have e0:(b.take i.toNat).getD i.toNat 0=0:=by rw [List.getD_eq_getElem?_getD,List.getElem?_eq_none (by rw [List.length_take]; omega)]; rfl
  have e1:=Av a (b.take i.toNat) i.toNat (by omega)
  rw [e0] at e1
  refine ⟨⟨iw (by omega) (by omega),?_⟩,?_,?_,rfl⟩
  .rw [zt,iw (by omega) (by omega),Cs a b i.toNat (by omega) hl]
   show _=fM a (b.take (i+1).toNat)
   rw [show (i+1).toNat=i.toNat+1 by omega]
  .show 0<=i+1/\i+1<=b.length
   omega
  .show (b.length - (i+1)).toNat<(b.length - i).toNat
   omega
theorem UE {a b:List Int} (ha:Dig a) (hb:Dig b) (la:Sm a) (hl:b.length<=a.length) (hV:0<=Aw a b):CodeOk cL wT (.loop Jv) (m2S a b) ⟨.tt,[⟨.tt,.exit 2,ae (m2S a b) (m2P a.length (aT a.length (Aw a b)))⟩]⟩:=by
 have la:=la.le
 refine mH (m2U a b) (y0:=(0,fM a (b.take ((b.length:Int)).toNat))) ?_ ⟨_,Qm a b,rfl,rfl⟩ (by kernel_rfl) (fun y hy=>?_) rfl
 .show 0<=(0:Int)/\NbI _ _ _ _
  rw [show ((b.length:Int)).toNat=b.length by omega,List.take_length]
  exact ⟨by decide,NbI.start ha hb hl⟩
 obtain ⟨i,d⟩:=y
 obtain ⟨i0,hI⟩:=(show 0<=i/\NbI a.length (Aw a b) i.toNat d from hy)
 obtain ⟨l,i1,lo,me,hi',v⟩:=id hI
 have e2:(i+1).toNat=i.toNat+1:=by omega
 by_cases hlt:i<a.length
 .have iw1:IntKind.i64.wrap (i+1)=i+1:=iw (by omega) (by omega)
  have mu:(a.length - (i+1)).toNat<(a.length - i).toNat:=by omega
  by_cases hn:d.getD i.toNat 0<0
  .have h1:=hI.in hV (by omega) hn
   have h2:=hi' (i.toNat+1) (by omega)
   have e3:(d.set i.toNat (d.getD i.toNat 0+1000000000)).getD (i.toNat+1) 0=d.getD (i.toNat+1) 0:=getD_set (by omega)
   have e4:IntKind.i64.wrap (d.getD i.toNat 0+1000000000)=d.getD i.toNat 0+1000000000:=iw (by omega) (by omega)
   have e5:IntKind.i64.wrap (d.getD (i.toNat+1) 0 - 1)=d.getD (i.toNat+1) 0 - 1:=iw (by omega) (by omega)
   have hb':(bif decide (d.getD i.toNat 0<0) then (d.set i.toNat (d.getD i.toNat 0+1000000000)).set (i.toNat+1) ((d.set i.toNat (d.getD i.toNat 0+1000000000)).getD (i.toNat+1) 0 - 1) else d)=(d.set i.toNat (d.getD i.toNat 0+1000000000)).set (i.toNat+1) ((d.set i.toNat (d.getD i.toNat 0+1000000000)).getD (i.toNat+1) 0 - 1):=by rw [decide_eq_true hn]; rfl
   refine ⟨cHb [(29,true),(35,true)],300,qg _,rfl,rfl,_,UC a b i d,?_,fun _=>?_⟩
   .rw [zt,iw1,zt,e2,e4,List.length_set]
    exact ⟨decide_eq_true hlt,⟨⟨i0,hlt⟩,by omega,decide_eq_true hn⟩,⟨⟨i0,hlt⟩,by omega,⟨i0,hlt⟩,by omega⟩,⟨by omega,by omega⟩,by omega,⟨by omega,by omega⟩,by omega⟩
   .refine ⟨⟨iw1,?_⟩,?_,mu,rfl⟩
    .rw [zt,iw1,zt,e2,e4,hb',e3,e5]
    .show 0<=i+1/\NbI _ _ (i+1).toNat _
     rw [e2,hb']
     exact ⟨by omega,hI.step hV (by omega) hn⟩
  .have hb':(bif decide (d.getD i.toNat 0<0) then (d.set i.toNat (d.getD i.toNat 0+1000000000)).set (i.toNat+1) ((d.set i.toNat (d.getD i.toNat 0+1000000000)).getD (i.toNat+1) 0 - 1) else d)=d:=by rw [decide_eq_false hn]; rfl
   refine ⟨cHb [(29,true),(35,false)],300,qg _,rfl,rfl,_,UB a b i d,?_,fun _=>⟨⟨iw1,hb'.symm⟩,?_,mu,rfl⟩⟩
   .rw [zt]
    exact ⟨decide_eq_true hlt,⟨i0,hlt⟩,by omega,decide_eq_false hn⟩
   .show 0<=i+1/\NbI _ _ (i+1).toNat _
    rw [e2,hb']
    exact ⟨by omega,hI.skip (by omega) hn⟩
 .refine ⟨cHb [(29,false)],300,qg _,rfl,rfl,_,X0 a b i d,decide_eq_false hlt,fun _=>⟨⟨rfl,rfl⟩,?_⟩⟩
  have e:i.toNat=a.length:=by omega
  rw [e] at hI
  show (Ex.exit 2,m2P a.length (aT a.length (Aw a b)))=(Ex.exit 2,m2P i d)
  rw [<- hI.fin,show i=a.length by omega]
noncomputable def mtS (a b d:List Int) (N:Int):St:=u7 cL 300 152 [.islice true 2 0 N] ⟨[⟨23,.ints .i64 d⟩,⟨0,.rows .i64 b⟩,⟨0,.rows .i64 a⟩],3,26⟩
theorem Qn (a b d:List Int) (N:Int):fit (mtS a b d N) (mtS a b d N) (ae (mtS a b d N) ((trU 2 d N).S N)) []=some (.p ((0:Int)=0/\N=N)):=by kernel_rfl
theorem UF (a b d:List Int) (N y:Int):fw (mtS a b d N) ((trU 2 d N).way y) ((run cL 300).code kr trA (ae (mtS a b d N) ((trU 2 d N).S y)))=some (.p (trN 2 d N y)):=by kernel_rfl
theorem UG (a b:List Int) {d:List Int} {N:Int} (hN:N=d.length) (ld:Sm d):CodeOk cL kr (.loop trA) (mtS a b d N) ⟨.tt,[⟨.tt,.exit 0,ae (mtS a b d N) (trP 2 (tlI d N))⟩]⟩:=yA hN ld (Qn a b d N) (by kernel_rfl) (fun y=>UF a b d N y)
def miD (a b:List Int):List Int:=aT a.length (Aw a b)
noncomputable def cMt (a b:List Int):Ctx:=bu cL [cK 147 (m1S a b).hp.clock wT Nc (m1S a b) (.exit 0) (m1X a b),cK 147 (m2S a b).hp.clock wT Jv (m2S a b) (.exit 2) (m2P a.length (miD a b)),
 cK 152 29 kr trA (mtS a b (miD a b) a.length) (.exit 0) (trP 2 (tlI (miD a b) a.length))]
theorem Ee (a b:List Int):(miD a b).length=a.length:=cB _ _
theorem X3 {a b:List Int} (ha:Dig a) (hb:Dig b) (la:Sm a) (hl:b.length<=a.length) (hV:0<=Aw a b):CtxOk (cMt a b):=
 aQ ig (UD ha hb la hl) (aQ ig (UE ha hb la hl hV) (aQ ig (UG a b (by rw [Ee]) (by show (miD a b).length<=500000; rw [Ee]; exact la)) (dG ig)))
def Qo (a b:List Int):Prop:=(((0:Int)<(↑a.length:Int)/\(↑a.length:Int)=(↑a.length:Int)/\(0:Int)<(↑a.length:Int)/\(↑a.length:Int)<=(1048576:Int))/\At (wT) (wT) (Nc) (Nc) (m1S a b) (m1S a b)/\At (wT) (wT) (Jv) (Jv) (m2S a b) (m2S a b)/\At (kr) (kr) (trA) (trA) (mtS a b (miD a b) a.length) (mtS a b (miD a b) a.length))
def UH (a b:List Int):AV:=(AV.islice true 2 (0:Int) (tlI (miD a b) (↑a.length:Int)))
def UI (a b:List Int):Hp:=⟨[{ wr:=23,body:=ABody.ints IntKind.i64 (miD a b) },{ wr:=(0:Nat),body:=ABody.rows IntKind.i64 b },{ wr:=(0:Nat),body:=ABody.rows IntKind.i64 a }],3,33⟩
theorem aam (a b:List Int):(run (cMt a b) 300).call 147 (zB a b) (zG a b)=some ⟨.p (Qo a b),[⟨.tt,UH a b,UI a b⟩]⟩:=by kernel_rfl
def X4:List Nu->List (List Int)->Option (Prop×To)
 | [],[a,b]=>some (Dig a/\Dig b/\0<a.length/\a.length<=500000/\b.length<=a.length/\val b<=val a,.li false (aa (val a - val b).toNat))
 | _,_=>none
theorem UJ:NOk Tryz.prog (fun _=>none) hG0 147 (eT hG0 .i64 [.li,.li] X4):=by
 refine fJ (fun xs ys p t e h=>?_) ⟨_,Tryz.func147,rfl⟩
 unfold X4 at e
 split at e
 .rename_i a b
  cases e
  obtain ⟨ha,hb,l0,l1,hl,hv⟩:=h
  have hV:0<=Aw a b:=by unfold Aw; omega
  have b0:=ai hb
  have a1:=gP ha
  have ev:val (miD a b)=val a - val b:=kW hV (by unfold Aw; omega)
  exact ⟨cMt a b,300,zB a b,_,_,_,_,_,X3 ha hb l1 hl hV,rfl,rfl,⟨rfl,rfl,trivial⟩,aam a b,rfl,⟨⟨by omega,rfl,by omega,by omega⟩,⟨rfl,rfl,rfl⟩,⟨rfl,rfl,rfl⟩,⟨rfl,rfl,rfl⟩⟩,rfl,rfl,Ed (jI _ _) (by rw [Ee]) ev⟩
 .cases e
def qh:AFr:=⟨148,none⟩
def Hm:Code:=jN Tryz.prog 148 0
def Ef:Code:=jN Tryz.prog 148 1
def cPl (s:Bool):Ctx:=cHb [(13,s)]
theorem Eg (s:Bool):CtxOk (cPl s):=qg _
def aZ (s:Bool) (a b:List Int):List Int:=match s with|true=>b|false=>a
def shA (s:Bool) (a b:List Int):List Int:=match s with|true=>a|false=>b
noncomputable def q1S (s:Bool) (a b:List Int):St:=u7 (cPl s) 300 148 (zB a b) (zG a b)
def q1P (i:Int) (d:List Int):Patch:=⟨fG 6 2++(25,.int true .i64 i) :: fG 26 12,[(2,.ints .i64 d)],[]⟩
def q1D (s:Bool) (a b:List Int) (i:Int):List Int:=lZ (aZ s a b++[0]) ((shA s a b).take i.toNat)
def q1X (s:Bool) (a b:List Int):Patch:=q1P (shA s a b).length (q1D s a b (shA s a b).length)
def q1U (s:Bool) (a b:List Int):SumL Int:=
 {
  S:=fun i=>q1P i (q1D s a b i)
  I:=fun i=>0<=i/\i<=(shA s a b).length
  μ:=fun i=>((shA s a b).length - i).toNat
  F:=fun _=>(.exit 0,q1X s a b)
  next:=fun i=>i+1
  ids:=fun _=>[]
  X:=fun i _=>some (q1P i (q1D s a b i),[]) }
noncomputable def cQ1 (s:Bool) (a b:List Int):Ctx:=bu (cPl s) [cK 148 (q1S s a b).hp.clock qh Hm (q1S s a b) (.exit 0) (q1X s a b)]
noncomputable def q2S (s:Bool) (a b:List Int):St:=u7 (cQ1 s a b) 300 148 (zB a b) (zG a b)
def q2P (i:Int) (d:List Int):Patch:=⟨(8,.any false) :: (40,.int true .i64 i) :: fG 41 21,[(2,.ints .i64 d)],[]⟩
def plV (a b:List Int):Int:=val a+val b
def q2F (s:Bool) (a b:List Int):List Int:=aT ((aZ s a b).length+1) (plV a b)
def q2U (s:Bool) (a b:List Int):SumL (Int×List Int):=
 {
  S:=fun (i,d)=>q2P i d
  I:=fun (i,d)=>0<=i/\NcI (aZ s a b).length (plV a b) i.toNat d
  μ:=fun (i,_)=>((aZ s a b).length - i).toNat
  F:=fun _=>(.exit 2,q2P (aZ s a b).length (q2F s a b))
  next:=fun (i,d)=>(i+1,bif decide (d.getD i.toNat 0>=1000000000) then (d.set i.toNat (d.getD i.toNat 0 - 1000000000)).set (i.toNat+1) ((d.set i.toNat (d.getD i.toNat 0 - 1000000000)).getD (i.toNat+1) 0+1) else d)
  ids:=fun _=>[]
  X:=fun (i,d) _=>some (q2P i d,[]) }
def Ho (s:Bool) (a b:List Int):Prop:=(0:Int)=(0:Int)/\LV (List.replicate (IntKind.i64.wrap ((↑(aZ s a b).length:Int)+(1:Int))).toNat (0:Int)) (Int.toNat (0:Int)) (aZ s a b)=q1D s a b (0:Int)
theorem Qp (s:Bool) (a b:List Int):fit (q1S s a b) (q1S s a b) (ae (q1S s a b) ((q1U s a b).S 0)) ([])=some (.p (Ho s a b)):=by cases s <;> kernel_rfl
def JA (s:Bool) (a b:List Int) (i:Int):Prop:=(decide (i<(↑(shA s a b).length:Int))=true->(((0:Int)<=i/\i<(↑(shA s a b).length:Int))/\i.toNat<(shA s a b).length)/\((0:Int)<=i/\i<IntKind.i64.wrap ((↑(aZ s a b).length:Int)+(1:Int)))/\((0:Int)+i).toNat<(q1D s a b i).length/\((0:Int)<=i/\i<IntKind.i64.wrap ((↑(aZ s a b).length:Int)+(1:Int)))/\((0:Int)+i).toNat<(q1D s a b i).length)/\((!decide (i<(↑(shA s a b).length:Int)))=true->(i=i/\q1D s a b i=q1D s a b i)/\(q1U s a b).F i=(Ex.exit (0:Nat),q1P i (q1D s a b i)))/\(decide (i<(↑(shA s a b).length:Int))=true->(IntKind.i64.wrap (i+(1:Int))=(q1U s a b).next i/\(q1D s a b i).set ((0:Int)+i).toNat (IntKind.i64.wrap ((q1D s a b i).getD ((0:Int)+i).toNat (0:Int)+(shA s a b).getD i.toNat (0:Int)))=q1D s a b ((q1U s a b).next i))/\(q1U s a b).I ((q1U s a b).next i)/\(q1U s a b).μ ((q1U s a b).next i)<(q1U s a b).μ i/\(q1U s a b).F ((q1U s a b).next i)=(q1U s a b).F i)
theorem UK (s:Bool) (a b:List Int) (i:Int):fw (q1S s a b) ((q1U s a b).way (i)) ((run cL 300).code qh Hm (ae (q1S s a b) ((q1U s a b).S i)))=some (.p (JA s a b i)):=by cases s <;> kernel_rfl
def Hq (s:Bool) (a b:List Int):Prop:=(0:Int)=(0:Int)/\q1D s a b (↑(shA s a b).length:Int)=q1D s a b (↑(shA s a b).length:Int)
theorem Qq (s:Bool) (a b:List Int):fit (q2S s a b) (q2S s a b) (ae (q2S s a b) ((q2U s a b).S (0,q1D s a b (shA s a b).length))) ([])=some (.p (Hq s a b)):=by cases s <;> kernel_rfl
def Ng (s:Bool) (a b:List Int) (i:Int) (d:List Int):Prop:=decide (i<(↑(aZ s a b).length:Int))=false/\(true=true->(i=i/\d=d)/\(q2U s a b).F (i,d)=(Ex.exit (2:Nat),q2P i d))
theorem X5 (s:Bool) (a b:List Int) (i:Int) (d:List Int):fw (q2S s a b) ((q2U s a b).way ((i,d))) ((run (cHb [(41,false)]) 300).code qh Ef (ae (q2S s a b) ((q2U s a b).S (i,d))))=some (.p (Ng s a b i d)):=by cases s <;> kernel_rfl
def JB (s:Bool) (a b:List Int) (i:Int) (d:List Int):Prop:=(decide (i<(↑(aZ s a b).length:Int))=true/\((0:Int)<=i/\i<IntKind.i64.wrap ((↑(aZ s a b).length:Int)+(1:Int)))/\((0:Int)+i).toNat<d.length/\decide (d.getD ((0:Int)+i).toNat (0:Int)>=(1000000000:Int))=false)/\(true=true->(IntKind.i64.wrap (i+(1:Int))=i+(1:Int)/\d=bif decide (d.getD i.toNat (0:Int)>=(1000000000:Int)) then (d.set i.toNat (d.getD i.toNat (0:Int) - (1000000000:Int))).set (i.toNat+(1:Nat)) ((d.set i.toNat (d.getD i.toNat (0:Int) - (1000000000:Int))).getD (i.toNat+(1:Nat)) (0:Int)+(1:Int)) else d)/\(q2U s a b).I ((q2U s a b).next (i,d))/\(q2U s a b).μ ((q2U s a b).next (i,d))<(q2U s a b).μ (i,d)/\(q2U s a b).F ((q2U s a b).next (i,d))=(q2U s a b).F (i,d))
theorem UL (s:Bool) (a b:List Int) (i:Int) (d:List Int):fw (q2S s a b) ((q2U s a b).way ((i,d))) ((run (cHb [(41,true),(47,false)]) 300).code qh Ef (ae (q2S s a b) ((q2U s a b).S (i,d))))=some (.p (JB s a b i d)):=by cases s <;> kernel_rfl
def JC (s:Bool) (a b:List Int) (i:Int) (d:List Int):Prop:=(decide (i<(↑(aZ s a b).length:Int))=true/\(((0:Int)<=i/\i<IntKind.i64.wrap ((↑(aZ s a b).length:Int)+(1:Int)))/\((0:Int)+i).toNat<d.length/\decide (d.getD ((0:Int)+i).toNat (0:Int)>=(1000000000:Int))=true)/\(((0:Int)<=i/\i<IntKind.i64.wrap ((↑(aZ s a b).length:Int)+(1:Int)))/\((0:Int)+i).toNat<d.length/\((0:Int)<=i/\i<IntKind.i64.wrap ((↑(aZ s a b).length:Int)+(1:Int)))/\((0:Int)+i).toNat<d.length)/\((0:Int)<=IntKind.i64.wrap (i+(1:Int))/\IntKind.i64.wrap (i+(1:Int))<IntKind.i64.wrap ((↑(aZ s a b).length:Int)+(1:Int)))/\((0:Int)+IntKind.i64.wrap (i+(1:Int))).toNat<(d.set ((0:Int)+i).toNat (IntKind.i64.wrap (d.getD ((0:Int)+i).toNat (0:Int) - (1000000000:Int)))).length/\((0:Int)<=IntKind.i64.wrap (i+(1:Int))/\IntKind.i64.wrap (i+(1:Int))<IntKind.i64.wrap ((↑(aZ s a b).length:Int)+(1:Int)))/\((0:Int)+IntKind.i64.wrap (i+(1:Int))).toNat<(d.set ((0:Int)+i).toNat (IntKind.i64.wrap (d.getD ((0:Int)+i).toNat (0:Int) - (1000000000:Int)))).length)/\(true=true->(IntKind.i64.wrap (i+(1:Int))=i+(1:Int)/\(d.set ((0:Int)+i).toNat (IntKind.i64.wrap (d.getD ((0:Int)+i).toNat (0:Int) - (1000000000:Int)))).set ((0:Int)+IntKind.i64.wrap (i+(1:Int))).toNat (IntKind.i64.wrap ((d.set ((0:Int)+i).toNat (IntKind.i64.wrap (d.getD ((0:Int)+i).toNat (0:Int) - (1000000000:Int)))).getD ((0:Int)+IntKind.i64.wrap (i+(1:Int))).toNat (0:Int)+(1:Int)))=bif decide (d.getD i.toNat (0:Int)>=(1000000000:Int)) then (d.set i.toNat (d.getD i.toNat (0:Int) - (1000000000:Int))).set (i.toNat+(1:Nat)) ((d.set i.toNat (d.getD i.toNat (0:Int) - (1000000000:Int))).getD (i.toNat+(1:Nat)) (0:Int)+(1:Int)) else d)/\(q2U s a b).I ((q2U s a b).next (i,d))/\(q2U s a b).μ ((q2U s a b).next (i,d))<(q2U s a b).μ (i,d)/\(q2U s a b).F ((q2U s a b).next (i,d))=(q2U s a b).F (i,d))
theorem UM (s:Bool) (a b:List Int) (i:Int) (d:List Int):fw (q2S s a b) ((q2U s a b).way ((i,d))) ((run (cHb [(41,true),(47,true)]) 300).code qh Ef (ae (q2S s a b) ((q2U s a b).S (i,d))))=some (.p (JC s a b i d)):=by cases s <;> kernel_rfl
theorem Qr (u:List Int):LV (List.replicate (u.length+1) 0) 0 u=u++[0]:=by
 unfold LV
 rw [List.take_zero,List.nil_append,List.drop_replicate,show u.length+1 - (0+u.length)=1 by omega]
 rfl
theorem UN (s:Bool) (a b:List Int) (i:Int):(q1D s a b i).length=(aZ s a b).length+1:=by
 unfold q1D
 rw [vD]; simp
theorem UO {s:Bool} {a b:List Int} (ha:Dig a) (hb:Dig b) (la:(aZ s a b).length<=400000) (hl:(shA s a b).length<=(aZ s a b).length):CodeOk cL qh (.loop Hm) (q1S s a b) ⟨.tt,[⟨.tt,.exit 0,ae (q1S s a b) (q1X s a b)⟩]⟩:=by
 have hL:Dig (aZ s a b):=by cases s <;> assumption
 have hS:Dig (shA s a b):=by cases s <;> assumption
 have hLz:Dig (aZ s a b++[0]):=KV.2 ⟨hL,dI.2 ⟨by omega,jZ⟩⟩
 have eN:IntKind.i64.wrap ((aZ s a b).length+1:Int)=(aZ s a b).length+1:=iw (by omega) (by omega)
 refine mG (bP ig 300) (q1U s a b) (y0:=0) ⟨by omega,by omega⟩ ⟨_,Qp s a b,rfl,?_⟩ (by cases s <;> kernel_rfl) (fun i hi=>⟨_,UK s a b i,?_⟩) rfl
 .rw [eN,show ((aZ s a b).length+1:Int).toNat=(aZ s a b).length+1 by omega,show Int.toNat 0=0 from rfl,Qr]
  exact (Au _).symm
 obtain ⟨i0,i1⟩:=(show 0<=i/\i<=(shA s a b).length from hi)
 have ll:=UN s a b i
 refine ⟨fun h=>?_,fun h=>⟨⟨rfl,rfl⟩,?_⟩,fun h=>?_⟩
 .have h:i<(shA s a b).length:=dt.1 h
  rw [zt,ll,eN]
  exact ⟨⟨⟨i0,h⟩,by omega⟩,⟨i0,by omega⟩,by omega,⟨i0,by omega⟩,by omega⟩
 .have h:=ndt.1 h
  obtain rfl:i=(shA s a b).length:=by omega
  rfl
 .have h:i<(shA s a b).length:=dt.1 h
  have g1:=hLz.get i.toNat
  have g2:=hS.get i.toNat
  have e0:((shA s a b).take i.toNat).getD i.toNat 0=0:=by rw [List.getD_eq_getElem?_getD,List.getElem?_eq_none (by rw [List.length_take]; omega)]; rfl
  have e1:(q1D s a b i).getD i.toNat 0=(aZ s a b++[0]).getD i.toNat 0+((shA s a b).take i.toNat).getD i.toNat 0:=vE _ _ i.toNat (by simp; omega)
  rw [e0] at e1
  refine ⟨⟨iw (by omega) (by omega),?_⟩,?_,?_,rfl⟩
  .rw [zt,iw (by omega) (by omega)]
   unfold q1D
   rw [Ct _ _ i.toNat (by omega) (by simp; omega)]
   show _=lZ _ ((shA s a b).take (i+1).toNat)
   rw [show (i+1).toNat=i.toNat+1 by omega]
  .show 0<=i+1/\i+1<=(shA s a b).length
   omega
  .show ((shA s a b).length - (i+1)).toNat<((shA s a b).length - i).toNat
   omega
theorem X6 (s:Bool) (a b:List Int):plV a b=val (aZ s a b)+val (shA s a b):=by
 unfold plV
 cases s
 .rfl
 .show val a+val b=val b+val a
  omega
theorem UQ {s:Bool} {a b:List Int} (ha:Dig a) (hb:Dig b) (la:(aZ s a b).length<=400000) (hl:(shA s a b).length<=(aZ s a b).length):CodeOk cL qh (.loop Ef) (q2S s a b) ⟨.tt,[⟨.tt,.exit 2,ae (q2S s a b) (q2P (aZ s a b).length (q2F s a b))⟩]⟩:=by
 have hL:Dig (aZ s a b):=by cases s <;> assumption
 have hS:Dig (shA s a b):=by cases s <;> assumption
 have eN:IntKind.i64.wrap ((aZ s a b).length+1:Int)=(aZ s a b).length+1:=iw (by omega) (by omega)
 refine mH (q2U s a b) (y0:=(0,q1D s a b (shA s a b).length)) ?_ ⟨_,Qq s a b,rfl,rfl⟩ (by cases s <;> kernel_rfl) (fun y hy=>?_) rfl
 .show 0<=(0:Int)/\NcI _ _ _ _
  unfold q1D
  rw [show (((shA s a b).length:Int)).toNat=(shA s a b).length by omega,List.take_length,X6 s]
  exact ⟨by decide,NcI.start hL hS hl⟩
 obtain ⟨i,d⟩:=y
 obtain ⟨i0,hI⟩:=(show 0<=i/\NcI (aZ s a b).length (plV a b) i.toNat d from hy)
 obtain ⟨l,i1,lo,me,hi',t0,t1,v⟩:=id hI
 have e2:(i+1).toNat=i.toNat+1:=by omega
 by_cases hlt:i<(aZ s a b).length
 .have iw1:IntKind.i64.wrap (i+1)=i+1:=iw (by omega) (by omega)
  have mu:((aZ s a b).length - (i+1)).toNat<((aZ s a b).length - i).toNat:=by omega
  by_cases hn:d.getD i.toNat 0>=1000000000
  .have h2:=hi' (i.toNat+1) (by omega)
   have e3:(d.set i.toNat (d.getD i.toNat 0 - 1000000000)).getD (i.toNat+1) 0=d.getD (i.toNat+1) 0:=getD_set (by omega)
   have e4:IntKind.i64.wrap (d.getD i.toNat 0 - 1000000000)=d.getD i.toNat 0 - 1000000000:=iw (by omega) (by omega)
   have e5:IntKind.i64.wrap (d.getD (i.toNat+1) 0+1)=d.getD (i.toNat+1) 0+1:=iw (by omega) (by omega)
   have hb':(bif decide (d.getD i.toNat 0>=1000000000) then (d.set i.toNat (d.getD i.toNat 0 - 1000000000)).set (i.toNat+1) ((d.set i.toNat (d.getD i.toNat 0 - 1000000000)).getD (i.toNat+1) 0+1) else d)=(d.set i.toNat (d.getD i.toNat 0 - 1000000000)).set (i.toNat+1) ((d.set i.toNat (d.getD i.toNat 0 - 1000000000)).getD (i.toNat+1) 0+1):=by rw [decide_eq_true hn]; rfl
   refine ⟨cHb [(41,true),(47,true)],300,qg _,rfl,rfl,_,UM s a b i d,?_,fun _=>?_⟩
   .rw [zt,iw1,zt,e2,e4,List.length_set,eN]
    exact ⟨decide_eq_true hlt,⟨⟨i0,by omega⟩,by omega,decide_eq_true hn⟩,⟨⟨i0,by omega⟩,by omega,⟨i0,by omega⟩,by omega⟩,⟨by omega,by omega⟩,by omega,⟨by omega,by omega⟩,by omega⟩
   .refine ⟨⟨iw1,?_⟩,?_,mu,rfl⟩
    .rw [zt,iw1,zt,e2,e4,hb',e3,e5]
    .show 0<=i+1/\NcI _ _ (i+1).toNat _
     rw [e2,hb']
     exact ⟨by omega,hI.step (by omega) hn⟩
  .have hb':(bif decide (d.getD i.toNat 0>=1000000000) then (d.set i.toNat (d.getD i.toNat 0 - 1000000000)).set (i.toNat+1) ((d.set i.toNat (d.getD i.toNat 0 - 1000000000)).getD (i.toNat+1) 0+1) else d)=d:=by rw [decide_eq_false hn]; rfl
   refine ⟨cHb [(41,true),(47,false)],300,qg _,rfl,rfl,_,UL s a b i d,?_,fun _=>⟨⟨iw1,hb'.symm⟩,?_,mu,rfl⟩⟩
   .rw [zt,eN]
    exact ⟨decide_eq_true hlt,⟨i0,by omega⟩,by omega,decide_eq_false hn⟩
   .show 0<=i+1/\NcI _ _ (i+1).toNat _
    rw [e2,hb']
    exact ⟨by omega,hI.skip (by omega) hn⟩
 .refine ⟨cHb [(41,false)],300,qg _,rfl,rfl,_,X5 s a b i d,decide_eq_false hlt,fun _=>⟨⟨rfl,rfl⟩,?_⟩⟩
  have e:i.toNat=(aZ s a b).length:=by omega
  rw [e] at hI
  show (Ex.exit 2,q2P (aZ s a b).length (q2F s a b))=(Ex.exit 2,q2P i d)
  unfold q2F
  rw [<- hI.fin,show i=(aZ s a b).length by omega]
def plW (s:Bool):Nat:=match s with|true=>29|false=>25
def plC (s:Bool):Nat:=match s with|true=>32|false=>28
noncomputable def qtS (s:Bool) (a b d:List Int) (N:Int):St:=u7 cL 300 152 [.islice true 2 0 N] ⟨[⟨plW s,.ints .i64 d⟩,⟨0,.rows .i64 b⟩,⟨0,.rows .i64 a⟩],3,plC s⟩
theorem Qs (s:Bool) (a b d:List Int) (N:Int):fit (qtS s a b d N) (qtS s a b d N) (ae (qtS s a b d N) ((trU 2 d N).S N)) []=some (.p ((0:Int)=0/\N=N)):=by cases s <;> kernel_rfl
theorem UR (s:Bool) (a b d:List Int) (N y:Int):fw (qtS s a b d N) ((trU 2 d N).way y) ((run cL 300).code kr trA (ae (qtS s a b d N) ((trU 2 d N).S y)))=some (.p (trN 2 d N y)):=by cases s <;> kernel_rfl
theorem UT (s:Bool) (a b:List Int) {d:List Int} {N:Int} (hN:N=d.length) (ld:Sm d):CodeOk cL kr (.loop trA) (qtS s a b d N) ⟨.tt,[⟨.tt,.exit 0,ae (qtS s a b d N) (trP 2 (tlI d N))⟩]⟩:=yA hN ld (Qs s a b d N) (by cases s <;> kernel_rfl) (fun y=>UR s a b d N y)
def plN (s:Bool) (a b:List Int):Int:=IntKind.i64.wrap ((aZ s a b).length+1:Int)
noncomputable def cQt (s:Bool) (a b:List Int):Ctx:=bu (cPl s) [cK 148 (q1S s a b).hp.clock qh Hm (q1S s a b) (.exit 0) (q1X s a b),cK 148 (q2S s a b).hp.clock qh Ef (q2S s a b) (.exit 2) (q2P (aZ s a b).length (q2F s a b)),
 cK 152 (plC s+3) kr trA (qtS s a b (q2F s a b) (plN s a b)) (.exit 0) (trP 2 (tlI (q2F s a b) (plN s a b)))]
theorem Lb (s:Bool) (a b:List Int):(q2F s a b).length=(aZ s a b).length+1:=cB _ _
theorem Eh {s:Bool} {a b:List Int} (la:(aZ s a b).length<=400000):plN s a b=(q2F s a b).length:=by
 unfold plN
 rw [iw (by omega) (by omega),Lb]; omega
theorem Ay {C D:Ctx} {fr:AFr} {a:Code} {S:St} {r:R} (h:CodeOk C fr (.loop a) S r) (hP:D.P=C.P) (hg:D.glob=C.glob):CodeOk D fr (.loop a) S r:=CodeOk.ctx hP hg h
theorem Qt {s:Bool} {a b:List Int} (ha:Dig a) (hb:Dig b) (la:(aZ s a b).length<=400000) (hl:(shA s a b).length<=(aZ s a b).length):CtxOk (cQt s a b):=
 aQ (Eg s) (Ay (UO ha hb la hl) rfl rfl) (aQ (Eg s) (Ay (UQ ha hb la hl) rfl rfl) (aQ (Eg s) (Ay (UT s a b (Eh la) (by show (q2F s a b).length<=500000; rw [Lb]; omega)) rfl rfl) (dG (Eg s))))
def UU (a b:List Int):Prop:=(decide ((↑a.length:Int)<(↑b.length:Int))=false/\(IntKind.i64.wrap ((↑a.length:Int)+(1:Int))=IntKind.i64.wrap ((↑a.length:Int)+(1:Int))/\(0:Int)<=IntKind.i64.wrap ((↑a.length:Int)+(1:Int))/\IntKind.i64.wrap ((↑a.length:Int)+(1:Int))<=(1048576:Int))/\((↑a.length:Int)=(↑a.length:Int)/\(0:Int)<=(0:Int)/\(0:Int)<(↑a.length:Int)/\(↑a.length:Int)<=IntKind.i64.wrap ((↑a.length:Int)+(1:Int))/\(0:Int)+IntKind.i64.wrap ((↑a.length:Int)+(1:Int))<=(↑(List.replicate (IntKind.i64.wrap ((↑a.length:Int)+(1:Int))).toNat (0:Int)).length:Int))/\At (qh) (qh) (Hm) (Hm) (q1S false a b) (q1S false a b)/\At (qh) (qh) (Ef) (Ef) (q2S false a b) (q2S false a b)/\At (kr) (kr) (trA) (trA) (qtS false a b (q2F false a b) (plN false a b)) (qtS false a b (q2F false a b) (plN false a b)))
def X7 (a b:List Int):AV:=(AV.islice true 2 (0:Int) (tlI (q2F false a b) (plN false a b)))
def X8 (a b:List Int):Hp:=⟨[{ wr:=25,body:=ABody.ints IntKind.i64 (q2F false a b) },{ wr:=(0:Nat),body:=ABody.rows IntKind.i64 b },{ wr:=(0:Nat),body:=ABody.rows IntKind.i64 a }],3,35⟩
theorem acb (a b:List Int):(run (cQt false a b) 300).call 148 (zB a b) (zG a b)=some ⟨.p (UU a b),[⟨.tt,X7 a b,X8 a b⟩]⟩:=by kernel_rfl
def UV (a b:List Int):Prop:=(decide ((↑a.length:Int)<(↑b.length:Int))=true/\(IntKind.i64.wrap ((↑b.length:Int)+(1:Int))=IntKind.i64.wrap ((↑b.length:Int)+(1:Int))/\(0:Int)<=IntKind.i64.wrap ((↑b.length:Int)+(1:Int))/\IntKind.i64.wrap ((↑b.length:Int)+(1:Int))<=(1048576:Int))/\((↑b.length:Int)=(↑b.length:Int)/\(0:Int)<=(0:Int)/\(0:Int)<(↑b.length:Int)/\(↑b.length:Int)<=IntKind.i64.wrap ((↑b.length:Int)+(1:Int))/\(0:Int)+IntKind.i64.wrap ((↑b.length:Int)+(1:Int))<=(↑(List.replicate (IntKind.i64.wrap ((↑b.length:Int)+(1:Int))).toNat (0:Int)).length:Int))/\At (qh) (qh) (Hm) (Hm) (q1S true a b) (q1S true a b)/\At (qh) (qh) (Ef) (Ef) (q2S true a b) (q2S true a b)/\At (kr) (kr) (trA) (trA) (qtS true a b (q2F true a b) (plN true a b)) (qtS true a b (q2F true a b) (plN true a b)))
def X9 (a b:List Int):AV:=(AV.islice true 2 (0:Int) (tlI (q2F true a b) (plN true a b)))
def Ya (a b:List Int):Hp:=⟨[{ wr:=29,body:=ABody.ints IntKind.i64 (q2F true a b) },{ wr:=(0:Nat),body:=ABody.rows IntKind.i64 b },{ wr:=(0:Nat),body:=ABody.rows IntKind.i64 a }],3,39⟩
theorem acd (a b:List Int):(run (cQt true a b) 300).call 148 (zB a b) (zG a b)=some ⟨.p (UV a b),[⟨.tt,X9 a b,Ya a b⟩]⟩:=by kernel_rfl
def Yb:List Nu->List (List Int)->Option (Prop×To)
 | [],[a,b]=>some (Dig a/\Dig b/\(0<a.length\/0<b.length)/\a.length<=400000/\b.length<=400000,.li false (aa (val a+val b).toNat))
 | _,_=>none
theorem Qu {s:Bool} {a b:List Int} (ha:Dig a) (hb:Dig b) (hl:(shA s a b).length<=(aZ s a b).length):val (q2F s a b)=val a+val b:=by
 have a0:=ai ha
 have b0:=ai hb
 have a1:=gP ha
 have b1:=gP hb
 refine kW (by unfold plV; omega) ?_
 have e:pw ((aZ s a b).length+1)=1000000000*pw (aZ s a b).length:=by simp [pw]
 have p0:=pw_pos (aZ s a b).length
 have ka:val a<pw (aZ s a b).length:=by
  refine Int.lt_of_lt_of_le a1 (j6 ?_)
  cases s <;> simp only [aZ,shA] at hl ⊢ <;> omega
 have kb:val b<pw (aZ s a b).length:=by
  refine Int.lt_of_lt_of_le b1 (j6 ?_)
  cases s <;> simp only [aZ,shA] at hl ⊢ <;> omega
 rw [e]; unfold plV; omega
theorem UW:NOk Tryz.prog (fun _=>none) hG0 148 (eT hG0 .i64 [.li,.li] Yb):=by
 refine fJ (fun xs ys p t e h=>?_) ⟨_,Tryz.func148,rfl⟩
 unfold Yb at e
 split at e
 .rename_i a b
  cases e
  obtain ⟨ha,hb,l0,la,lb⟩:=h
  have wa:IntKind.i64.wrap ((a.length:Int)+1)=a.length+1:=iw (by omega) (by omega)
  have wb:IntKind.i64.wrap ((b.length:Int)+1)=b.length+1:=iw (by omega) (by omega)
  by_cases hs:a.length<b.length
  .have hl:(shA true a b).length<=(aZ true a b).length:=by show a.length<=b.length; omega
   have lg:(aZ true a b).length<=400000:=lb
   refine ⟨cQt true a b,300,zB a b,_,_,_,_,_,Qt ha hb lg hl,rfl,rfl,⟨rfl,rfl,trivial⟩,acd a b,rfl,⟨decide_eq_true (by omega),⟨rfl,by omega,by omega⟩,⟨rfl,by omega,by omega,by omega,?_⟩,⟨rfl,rfl,rfl⟩,⟨rfl,rfl,rfl⟩,⟨rfl,rfl,rfl⟩⟩,rfl,rfl,Ed (jI _ _) (Eh lg) (Qu ha hb hl)⟩
   rw [List.length_replicate,wb]; omega
  .have hl:(shA false a b).length<=(aZ false a b).length:=by show b.length<=a.length; omega
   have lg:(aZ false a b).length<=400000:=la
   refine ⟨cQt false a b,300,zB a b,_,_,_,_,_,Qt ha hb lg hl,rfl,rfl,⟨rfl,rfl,trivial⟩,acb a b,rfl,⟨decide_eq_false (by omega),⟨rfl,by omega,by omega⟩,⟨rfl,by omega,by omega,by omega,?_⟩,⟨rfl,rfl,rfl⟩,⟨rfl,rfl,rfl⟩,⟨rfl,rfl,rfl⟩⟩,rfl,rfl,Ed (jI _ _) (Eh lg) (Qu ha hb hl)⟩
   rw [List.length_replicate,wa]; omega
 .cases e
end
end Go.Proofs.YtbhibbcjfgnmhaaGreatDoor.K
namespace Go.Dg
open Go Go.Eng
def dfB (a b:List Int):Nat->Int
 | 0=>0
 | n+1=>if a.getD n 0=b.getD n 0 then dfB a b n else IntKind.i64.wrap (a.getD n 0 - b.getD n 0)
def dfI (a b:List Int) (i:Int):Int:=dfB a b (i+1).toNat
theorem Lc {a b:List Int} {i:Int} (h:0<=i):dfI a b i=if a.getD i.toNat 0=b.getD i.toNat 0 then dfI a b (i - 1) else IntKind.i64.wrap (a.getD i.toNat 0 - b.getD i.toNat 0):=by
 unfold dfI
 rw [show (i+1).toNat=i.toNat+1 by omega,show (i - 1+1).toNat=i.toNat by omega,dfB]
theorem Qv {a b:List Int}:∀ n,M9 a b n=false->dfB a b n=0
 | 0,_=>rfl
 | n+1,h=>by
  simp only [M9] at h
  simp only [dfB]
  split at h
  .rename_i e; rw [if_pos e]; exact Qv n h
  .cases h
def rz (a b:List Int):Int:=if a.length=b.length then dfB a b a.length else IntKind.i64.wrap ((a.length:Int) - b.length)
theorem Ei {a b:List Int} (ha:Dig a) (hb:Dig b):∀ n,(dfB a b n<0 ↔ vw a b n=true)/\(0<dfB a b n ↔ vw b a n=true)
 | 0=>by simp [dfB,vw]
 | n+1=>by
  have i:=Ei ha hb n
  have a0:=ha.get n
  have b0:=hb.get n
  simp only [dfB,vw]
  by_cases e:a.getD n 0=b.getD n 0
  .rw [if_pos e,if_pos e,if_pos e.symm]; exact i
  .rw [if_neg e,if_neg e,if_neg (fun h=>e h.symm),iw (by omega) (by omega)]
   simp only [decide_eq_true_eq]
   omega
theorem UX {a b:List Int} (ha:Dig a) (hb:Dig b) (ta:Top a) (tb:Top b) (la:a.length<=500000) (lb:b.length<=500000):rz a b<0 ↔ val a<val b:=by
 rw [<- Cq ha hb ta tb]
 unfold rz KW
 by_cases e:a.length=b.length
 .rw [if_pos e,if_pos e]; exact (Ei ha hb _).1
 .rw [if_neg e,if_neg e,iw (by omega) (by omega)]
  simp only [decide_eq_true_eq]
  omega
theorem UY {a b:List Int} (ha:Dig a) (hb:Dig b) (ta:Top a) (tb:Top b) (la:a.length<=500000) (lb:b.length<=500000):0<rz a b ↔ val b<val a:=by
 rw [<- Cq hb ha tb ta]
 unfold rz KW
 by_cases e:a.length=b.length
 .rw [if_pos e,if_pos e.symm,<- e]; exact (Ei ha hb _).2
 .rw [if_neg e,if_neg (fun h=>e h.symm),iw (by omega) (by omega)]
  simp only [decide_eq_true_eq]
  omega
end Go.Dg
namespace Go.Proofs.YtbhibbcjfgnmhaaGreatDoor.K
open Go Go.Eng Go.Dg
noncomputable section
def JD (d:Bool):Ctx:=cHb [(10,d)]
theorem yB (d:Bool):CtxOk (JD d):=qg _
noncomputable def x8 (a b:List Int):St:=u7 (JD false) 300 145 (zB a b) (zG a b)
def Hr:AFr:=⟨145,none⟩
def Qw:Code:=jN Tryz.prog 145 0
def ace (i:Int):Patch:=⟨(5,.int true .i64 i) :: fG 19 22,[],[]⟩
def cmR (r:Int):Patch:=⟨(4,.int true .i64 r) :: (5,.any false) :: fG 19 22,[],[]⟩
def Ht:Patch:=⟨(5,.any false) :: fG 19 22,[],[]⟩
def sV (a b:List Int):SumL Int:=
 {
  S:=ace
  I:=fun i=>-1<=i/\i<a.length
  μ:=fun i=>(i+1).toNat
  F:=fun i=>bif wR a b i then (.ret,cmR (dfI a b i)) else (.exit 0,Ht)
  next:=fun i=>IntKind.i64.wrap (i - 1)
  ids:=fun _=>[]
  X:=fun i x=>match x with
   | .ret=>some (cmR (IntKind.i64.wrap (a.getD i.toNat 0 - b.getD i.toNat 0)),[])
   | .exit _=>some (Ht,[])
   | _=>none }
def Hu (a b:List Int):Prop:=IntKind.i64.wrap ((↑a.length:Int) - (1:Int))=IntKind.i64.wrap ((↑a.length:Int) - (1:Int))
theorem Nh (a b:List Int):fit (x8 a b) (x8 a b) (ae (x8 a b) ((sV a b).S (IntKind.i64.wrap ((a.length:Int) - 1)))) ([])=some (.p (Hu a b)):=by kernel_rfl
def JE (a b:List Int) (i:Int):Prop:=(decide (i>=(0:Int))=true->(((0:Int)<=i/\i<(↑a.length:Int))/\i.toNat<a.length/\((0:Int)<=i/\i<(↑b.length:Int))/\i.toNat<b.length)/\((a.getD i.toNat (0:Int) != b.getD i.toNat (0:Int))=true->((0:Int)<=i/\i<(↑a.length:Int))/\i.toNat<a.length/\((0:Int)<=i/\i<(↑b.length:Int))/\i.toNat<b.length))/\((!decide (i>=(0:Int)))=true->(sV a b).F i=(Ex.exit (0:Nat),Ht))/\((decide (i>=(0:Int))&&!a.getD i.toNat (0:Int) != b.getD i.toNat (0:Int))=true->IntKind.i64.wrap (i - (1:Int))=(sV a b).next i/\(sV a b).I ((sV a b).next i)/\(sV a b).μ ((sV a b).next i)<(sV a b).μ i/\(sV a b).F ((sV a b).next i)=(sV a b).F i)/\((decide (i>=(0:Int))&&a.getD i.toNat (0:Int) != b.getD i.toNat (0:Int))=true->IntKind.i64.wrap (a.getD i.toNat (0:Int) - b.getD i.toNat (0:Int))=IntKind.i64.wrap (a.getD i.toNat (0:Int) - b.getD i.toNat (0:Int))/\(sV a b).F i=(Ex.ret,cmR (IntKind.i64.wrap (a.getD i.toNat (0:Int) - b.getD i.toNat (0:Int)))))
theorem UZ (a b:List Int) (i:Int):fw (x8 a b) ((sV a b).way (i)) ((run (JD false) 300).code Hr Qw (ae (x8 a b) ((sV a b).S i)))=some (.p (JE a b i)):=by kernel_rfl
theorem Qx (a b:List Int) (hs:Sm a) (hl:a.length=b.length):CodeOk (JD false) Hr (.loop Qw) (x8 a b) ⟨.tt,[⟨.b (wR a b (a.length - 1)),.ret,ae (x8 a b) (cmR (dfI a b (a.length - 1)))⟩,⟨.b (!wR a b (a.length - 1)),.exit 0,ae (x8 a b) Ht⟩]⟩:=by
 have hs:=hs.le
 have e0:IntKind.i64.wrap ((a.length:Int) - 1)=a.length - 1:=iw (by omega) (by omega)
 refine Pb (bP (yB false) 300) (sV a b) (y0:=IntKind.i64.wrap ((a.length:Int) - 1)) (by rw [e0]; exact ⟨by omega,by omega⟩) ⟨_,Nh a b,rfl⟩ (by kernel_rfl) (fun i hi=>⟨_,UZ a b i,?_⟩) (by rw [e0]; rfl)
 obtain ⟨i0,i1⟩:=(show -1<=i/\i<a.length from hi)
 refine ⟨fun h=>?_,fun h=>?_,fun h=>?_,fun h=>?_⟩
 .have h:=dt.1 h
  have q:((0:Int)<=i/\i<(↑a.length:Int))/\i.toNat<a.length/\((0:Int)<=i/\i<(↑b.length:Int))/\i.toNat<b.length:=by omega
  exact ⟨q,fun _=>q⟩
 .have h:=ndt.1 h
  have:i=-1:=by omega
  subst this; rfl
 .obtain ⟨h0,h⟩:=WG.1 h
  have h:=ab8.1 h
  have e:IntKind.i64.wrap (i - 1)=i - 1:=iw (by omega) (by omega)
  refine ⟨rfl,?_,?_,?_⟩
  .show -1<=IntKind.i64.wrap (i - 1)/\IntKind.i64.wrap (i - 1)<a.length
   rw [e]; omega
  .show (IntKind.i64.wrap (i - 1)+1).toNat<(i+1).toNat
   rw [e]; omega
  .show (bif wR a b (IntKind.i64.wrap (i - 1)) then (Ex.ret,cmR (dfI a b (IntKind.i64.wrap (i - 1)))) else (.exit 0,Ht))=bif wR a b i then (Ex.ret,cmR (dfI a b i)) else (.exit 0,Ht)
   rw [e,GY h0,Lc h0,if_pos h,if_pos h]
 .obtain ⟨h0,h⟩:=WG.1 h
  have h:=GZ.1 h
  refine ⟨rfl,?_⟩
  show (bif wR a b i then (Ex.ret,cmR (dfI a b i)) else (.exit 0,Ht))=_
  rw [GY h0,Lc h0,if_neg h,if_neg h]; rfl
noncomputable def Yc (a b:List Int):Ctx:=bu (JD false) [DU 145 (x8 a b).hp.clock Hr Qw (x8 a b) (wR a b (a.length - 1)) .ret (cmR (dfI a b (a.length - 1))) (.exit 0) Ht]
theorem U0 (a b:List Int) (hs:Sm a) (hl:a.length=b.length):CtxOk (Yc a b):=I4 (yB false) (Qx a b hs hl) (dG (yB false))
def Qy (a b:List Int):Prop:=(((↑a.length:Int) != (↑b.length:Int))=false/\At (Hr) (Hr) (Qw) (Qw) (x8 a b) (x8 a b))
def U2 (a b:List Int):AV:=(AV.int true IntKind.i64 (bif !wR a b ((↑a.length:Int) - (1:Int)) then (0:Int) else dfI a b ((↑a.length:Int) - (1:Int))))
def U3 (a b:List Int):Hp:=⟨[{ wr:=(0:Nat),body:=ABody.rows IntKind.i64 b },{ wr:=(0:Nat),body:=ABody.rows IntKind.i64 a }],2,15⟩
theorem aan (a b:List Int):(run (Yc a b) 300).call 145 (zB a b) (zG a b)=some ⟨.p (Qy a b),[⟨.tt,U2 a b,U3 a b⟩]⟩:=by kernel_rfl
def Qz (a b:List Int):Prop:=(((↑a.length:Int) != (↑b.length:Int))=true)
def U4 (a b:List Int):AV:=(AV.int true IntKind.i64 (IntKind.i64.wrap ((↑a.length:Int) - (↑b.length:Int))))
def U5 (a b:List Int):Hp:=⟨[{ wr:=(0:Nat),body:=ABody.rows IntKind.i64 b },{ wr:=(0:Nat),body:=ABody.rows IntKind.i64 a }],2,14⟩
theorem aao (a b:List Int):(run (JD true) 300).call 145 (zB a b) (zG a b)=some ⟨.p (Qz a b),[⟨.tt,U4 a b,U5 a b⟩]⟩:=by kernel_rfl
def cmpV:List Nu->List (List Int)->Option (Prop×To)
 | [],[a,b]=>some (Sm a/\Sm b,.nu .i64 (rz a b))
 | _,_=>none
theorem Yd:NOk Tryz.prog (fun _=>none) hG0 145 (eT hG0 .i64 [.li,.li] cmpV):=by
 refine fJ (fun xs ys p t e h=>?_) ⟨_,Tryz.func145,rfl⟩
 unfold cmpV at e
 split at e
 .rename_i a b
  cases e
  obtain ⟨ha,hb⟩:=h
  by_cases hl:a.length=b.length
  .refine ⟨Yc a b,300,zB a b,_,_,_,_,_,U0 a b ha hl,rfl,rfl,⟨rfl,rfl,trivial⟩,aan a b,rfl,⟨?_,rfl,rfl,rfl⟩,rfl,rfl,?_⟩
   .rw [hl]; exact KX.2 rfl
   .show (bif !wR a b ((a.length:Int) - 1) then 0 else dfI a b ((a.length:Int) - 1))=rz a b
    unfold rz wR dfI
    rw [if_pos hl,show ((a.length:Int) - 1+1).toNat=a.length by omega]
    cases e:M9 a b a.length with
    | true=>rfl
    | false=>rw [Qv _ e]; rfl
  .refine ⟨JD true,300,zB a b,_,_,_,_,_,yB true,rfl,rfl,⟨rfl,rfl,trivial⟩,aao a b,rfl,?_,rfl,rfl,?_⟩
   .exact GZ.2 (by omega)
   .show IntKind.i64.wrap ((a.length:Int) - b.length)=rz a b
    unfold rz
    rw [if_neg hl]
 .cases e
def hUp (x t0:Nat):Nat->Nat->Option AV:=fun c t=>match Nat.beq t t0 with
 | true=>match Nat.ble c x with
  | true=>some (.bool false true)
  | false=>some (.bool false false)
 | false=>none
def cOn (x:Nat):Ctx:=gK cL (hUp x 9)
theorem QA (x:Nat):CtxOk (cOn x):=cz ig _
def U6 (n:Int):Prop:=((n != (0:Int))=true/\(IntKind.i64.wrap (n.tdiv (1000000000:Int)) != (0:Int))=false)
def Ye (n:Int):AV:=(AV.agg [AV.bool true (decide (n<(0:Int))),AV.gslice (0:Nat) (0:Nat) 1 1])
def Yf (n:Int):Hp:=⟨[{ wr:=23,body:=ABody.grown [AV.int true IntKind.i64 (if IntKind.i64.wrap ((0:Int) - n.tmod (1000000000:Int))>n.tmod (1000000000:Int) then IntKind.i64.wrap ((0:Int) - n.tmod (1000000000:Int)) else n.tmod (1000000000:Int))] }],1,32⟩
theorem acf (n:Int):(run (cOn 11) 300).call 142 [.int true .i64 n] hG0=some ⟨.p (U6 n),[⟨.tt,Ye n,Yf n⟩]⟩:=by kernel_rfl
def U7 (n:Int):Prop:=((n != (0:Int))=true/\(IntKind.i64.wrap (n.tdiv (1000000000:Int)) != (0:Int))=true/\(IntKind.i64.wrap ((IntKind.i64.wrap (n.tdiv (1000000000:Int))).tdiv (1000000000:Int)) != (0:Int))=false)
def Yg (n:Int):AV:=(AV.agg [AV.bool true (decide (n<(0:Int))),AV.gslice (0:Nat) (0:Nat) 2 1])
def Yh (n:Int):Hp:=⟨[{ wr:=42,body:=ABody.grown [AV.int true IntKind.i64 (if IntKind.i64.wrap ((0:Int) - n.tmod (1000000000:Int))>n.tmod (1000000000:Int) then IntKind.i64.wrap ((0:Int) - n.tmod (1000000000:Int)) else n.tmod (1000000000:Int)),AV.int true IntKind.i64 (if IntKind.i64.wrap ((0:Int) - (IntKind.i64.wrap (n.tdiv (1000000000:Int))).tmod (1000000000:Int))>(IntKind.i64.wrap (n.tdiv (1000000000:Int))).tmod (1000000000:Int) then IntKind.i64.wrap ((0:Int) - (IntKind.i64.wrap (n.tdiv (1000000000:Int))).tmod (1000000000:Int)) else (IntKind.i64.wrap (n.tdiv (1000000000:Int))).tmod (1000000000:Int))] }],1,51⟩
theorem acg (n:Int):(run (cOn 30) 300).call 142 [.int true .i64 n] hG0=some ⟨.p (U7 n),[⟨.tt,Yg n,Yh n⟩]⟩:=by kernel_rfl
def onV:List Nu->List (List Int)->Option (Prop×To)
 | [.n n],[]=>some (0<n/\n<1000000000000000000,.st [.pb false,.li false (aa n.toNat)])
 | _,_=>none
theorem aap {n:Int} (h0:0<=n) (h1:n<9000000000000000000):(if IntKind.i64.wrap (0 - n.tmod 1000000000)>n.tmod 1000000000 then IntKind.i64.wrap (0 - n.tmod 1000000000) else n.tmod 1000000000)=n % 1000000000:=by
 have e:n.tmod 1000000000=n % 1000000000:=Int.tmod_eq_emod_of_nonneg h0
 rw [e,iw (by omega) (by omega),if_neg (by omega)]
theorem aaq {n:Int} (h0:0<=n) (h1:n<9000000000000000000):IntKind.i64.wrap (n.tdiv 1000000000)=n / 1000000000:=by
 rw [Int.tdiv_eq_ediv_of_nonneg h0,iw (by omega) (by omega)]
theorem Yi {n:Int} (h0:0<n) (h1:n<1000000000):aa n.toNat=[n % 1000000000]:=by
 rw [fK (by omega),show n.toNat / 1000000000=0 by omega,fq]
 congr 1
 omega
theorem Yj {n:Int} (h0:1000000000<=n) (h1:n<1000000000000000000):aa n.toNat=[n % 1000000000,n / 1000000000 % 1000000000]:=by
 rw [fK (by omega),fK (by omega),show n.toNat / 1000000000 / 1000000000=0 by omega,fq]
 congr 1
 .omega
 .congr 1
  omega
theorem aar:NOk Tryz.prog (fun _=>none) hG0 142 (eT hG0 .i64 [.nu (.i .i64)] onV):=by
 refine fJ (fun xs ys p t e h=>?_) ⟨_,Tryz.func142,rfl⟩
 unfold onV at e
 split at e
 .rename_i n
  cases e
  obtain ⟨h0,h1⟩:=h
  have q1:=aaq (n:=n) (by omega) (by omega)
  have d1:=aap (n:=n) (by omega) (by omega)
  by_cases h:n<1000000000
  .refine ⟨cOn 11,300,[.int true .i64 n],_,_,_,_,_,QA 11,rfl,rfl,⟨⟨rfl,rfl⟩,trivial⟩,acf n,rfl,⟨GZ.2 (by omega),?_⟩,rfl,rfl,?_⟩
   .rw [q1]; exact KX.2 (by omega)
   .refine ⟨decide_eq_false (by omega),?_⟩
    show [_]=aa n.toNat
    rw [d1,Yi h0 h]
  .have q2:=aaq (n:=n / 1000000000) (by omega) (by omega)
   have d2:=aap (n:=n / 1000000000) (by omega) (by omega)
   refine ⟨cOn 30,300,[.int true .i64 n],_,_,_,_,_,QA 30,rfl,rfl,⟨⟨rfl,rfl⟩,trivial⟩,acg n,rfl,⟨GZ.2 (by omega),?_,?_⟩,rfl,rfl,?_⟩
   .rw [q1]; exact GZ.2 (by omega)
   .rw [q1,q2]; exact KX.2 (by omega)
   .refine ⟨decide_eq_false (by omega),?_⟩
    show [_,_]=aa n.toNat
    rw [d1,q1,d2,Yj (by omega) h1]
 .cases e
def tZ:List (FuncId×kU):=
 (153,eT hG0 .i64 [.li,.nu (.i .i64)] XN) ::
 (141,eT hG0 .i64 [.li,.li] XZ) ::
 (147,eT hG0 .i64 [.li,.li] X4) ::
 (148,eT hG0 .i64 [.li,.li] Yb) ::
 (145,eT hG0 .i64 [.li,.li] cmpV) ::
 (142,eT hG0 .i64 [.nu (.i .i64)] onV) :: []
theorem WH:∀ x∈tZ,NOk Tryz.prog (fun _=>none) hG0 x.1 x.2:=by
 intro x hx
 simp only [tZ,List.mem_cons,List.not_mem_nil,or_false] at hx
 rcases hx with rfl|rfl|rfl|rfl|rfl|rfl
 .exact part_ok
 .exact Qk
 .exact UJ
 .exact UW
 .exact Yd
 .exact aar
def cZ:Ctx:=mkN Tryz.prog (fun _=>none) hG0 tZ [] lJ
theorem qi:CtxOk cZ:=wM prog_ok (pX _) WH (fun x h=>by cases h)
def cZb (l:List (Nat×Bool)):Ctx:=gK cZ (hZ (l.map fun x=>(x.1,match x.2 with|true=>.bool false true|false=>.bool false false)))
theorem JF (l:List (Nat×Bool)):CtxOk (cZb l):=cz qi _
def wU (y:List Int):List AV:=[.lslice 0 y.length,.int false .i64 5]
def Hw:AFr:=⟨144,none⟩
def seA:Code:=jN Tryz.prog 144 0
noncomputable def seS (y:List Int):St:=u7 cZ 300 144 (wU y) (zH y)
end
end Go.Proofs.YtbhibbcjfgnmhaaGreatDoor.K
namespace Go.Dg
open Go Go.Eng
def PP:Int:=1000000000000000000000000000000000000000000000
def l6 (sq:Int):Nat->Int->Int->Int->Int
 | 0,_,_,s=>s
 | n+1,i,t,s=>match decide (t*sq / PP / (i*(i+1))=0) with
  | true=>s
  | false=>l6 sq n (i+2) (t*sq / PP / (i*(i+1))) (match decide (i % 4=2) with|true=>s - t*sq / PP / (i*(i+1))|false=>s+t*sq / PP / (i*(i+1)))
def aU (n:Int):Int:=if n<5 then n else 5
def cutL (v:Int):List Int:=List.take ((aa v.toNat).length - aU (aa v.toNat).length:Int).toNat (List.drop (aU (aa v.toNat).length).toNat (aa v.toNat))
theorem Az:∀ {l:List Int} (k:Nat),Dig l->val (l.drop k)=val l / pw k
 | l,0,_=>by simp [pw]
 | [],k+1,_=>by simp [val]
 | x :: l,k+1,h=>by
  have hh:=dI.1 h
  have p:=pw_pos k
  rw [List.drop_succ_cons,Az k hh.2,kg,<- Int.ediv_ediv_of_nonneg (by omega)]
  congr 1
  simp only [val]
  omega
theorem WI:pw 5=PP:=by decide
theorem Ld {v:Int} (h:0<=v):cutL v=(aa v.toNat).drop (aU (aa v.toNat).length).toNat:=by
 unfold cutL aU
 rw [List.take_of_length_le]
 rw [List.length_drop]
 split <;> omega
theorem vF {v:Int} (h:0<=v):val (cutL v)=v / PP:=by
 have hv:val (aa v.toNat)=v:=by rw [Ak]; omega
 have hd:=aC v.toNat
 rw [Ld h]
 unfold aU
 split
 .rename_i h5
  rw [show (((aa v.toNat).length:Int)).toNat=(aa v.toNat).length by omega,List.drop_length]
  have h1:=gP hd
  have h2:=j6 (show (aa v.toNat).length<=5 by omega)
  rw [WI] at h2
  rw [hv] at h1
  show (0:Int)=v / PP
  rw [Int.ediv_eq_zero_of_lt h (by omega)]
 .rw [show Int.toNat 5=5 from rfl,Az 5 hd,hv,WI]
theorem QB {l:List Int} (h:Dig l) (n:Nat):Dig (l.take n):=fun x hx=>h x (List.mem_of_mem_take hx)
theorem Hy {l:List Int} (h:Dig l) (n:Nat):Dig (l.drop n):=fun x hx=>h x (List.mem_of_mem_drop hx)
theorem vG (v:Int):Dig (cutL v):=QB (Hy (aC _) _) _
end Go.Dg
namespace Go.Dg
theorem gm:0<PP:=by decide
theorem QC {sq t i:Int} (hs0:0<=sq) (hs:sq<=3*PP) (ht:0<=t) (hi:2<=i):0<=t*sq / PP / (i*(i+1))/\2*(t*sq / PP / (i*(i+1)))<=t:=by
 have p:=gm
 have hii:6<=i*(i+1):=Int.mul_le_mul (a:=2) (b:=3) (c:=i) (d:=i+1) hi (by omega) (by decide) (by omega)
 have h1:t*sq<=t*(3*PP):=Int.mul_le_mul_of_nonneg_left hs ht
 have h2:t*sq / PP<=3*t:=by
  refine Int.ediv_le_of_le_mul p ?_
  rw [show 3*t*PP=t*(3*PP) by rw [Int.mul_comm 3 t,Int.mul_assoc]]
  exact h1
 have h0:0<=t*sq / PP:=Int.ediv_nonneg (Int.mul_nonneg ht hs0) (by omega)
 have h3:0<=t*sq / PP / (i*(i+1)):=Int.ediv_nonneg h0 (by omega)
 have h4:=Int.ediv_mul_le (t*sq / PP) (b:=i*(i+1)) (by omega)
 have h5:=Int.mul_le_mul_of_nonneg_left hii h3
 exact ⟨h3,by omega⟩
theorem Hz {sq:Int} {n:Nat} {i t s:Int} (h:t*sq / PP / (i*(i+1))=0):l6 sq (n+1) i t s=s:=by
 rw [l6,decide_eq_true h]
theorem wV {sq:Int} {n:Nat} {i t s:Int} (h:t*sq / PP / (i*(i+1))≠0):l6 sq (n+1) i t s=l6 sq n (i+2) (t*sq / PP / (i*(i+1))) (match decide (i % 4=2) with|true=>s - t*sq / PP / (i*(i+1))|false=>s+t*sq / PP / (i*(i+1))):=by
 rw [l6,decide_eq_false h]
def df (x:Int):Nat->Int->Int->Int->Int
 | 0,_,_,s=>s
 | n+1,i,t,s=>match decide (t / (x*x) / i=0) with
  | true=>s
  | false=>df x n (i+2) (t / (x*x)) (match decide (i % 4=1) with|true=>s+t / (x*x) / i|false=>s - t / (x*x) / i)
theorem QD {x:Int} {n:Nat} {i t s:Int} (h:t / (x*x) / i=0):df x (n+1) i t s=s:=by
 rw [df,decide_eq_true h]
theorem Cu {x:Int} {n:Nat} {i t s:Int} (h:t / (x*x) / i≠0):df x (n+1) i t s=df x n (i+2) (t / (x*x)) (match decide (i % 4=1) with|true=>s+t / (x*x) / i|false=>s - t / (x*x) / i):=by
 rw [df,decide_eq_false h]
end Go.Dg
namespace Go.Proofs.YtbhibbcjfgnmhaaGreatDoor.K
open Go Go.Eng Go.Dg
noncomputable section
def cSe (e m:Bool):Ctx:=cZb [(33,e),(37,m)]
theorem Ej (e m:Bool):CtxOk (cSe e m):=JF _
def seP:Option (Int×Int×Int)->Patch
 | none=>⟨(8,.int true .i64 2) :: fG 16 28,[],[]⟩
 | some (i,t,s)=>⟨(6,.lslice 3 (aa s.toNat).length) :: (7,.lslice 2 (aa t.toNat).length) :: (8,.int true .i64 i) :: fG 16 28,[],[.rows .i64 (aa s.toNat),.rows .i64 (aa t.toNat)]⟩
def seX (s:Int):Patch:=⟨(4,.lslice 2 (aa s.toNat).length) :: (6,.any false) :: (7,.any false) :: (8,.any false) :: fG 16 28,[],[.rows .i64 (aa s.toNat)]⟩
def sW (y:List Int):Int:=val y*val y / PP
def seT (y:List Int) (i t:Int):Int:=t*sW y / PP / (i*(i+1))
def seR (y:List Int):Option (Int×Int×Int)->Int
 | none=>l6 (sW y) 200 2 (val y) (val y)
 | some (i,t,s)=>l6 (sW y) (201 - (i / 2).toNat) i t s
def seU (y:List Int):SumL (Option (Int×Int×Int)):=
 {
  S:=seP
  I:=fun x=>match x with
   | none=>True
   | some (i,t,s)=>0<t/\i % 2=0/\2<i/\i<=400/\2 ^ (i / 2).toNat*t<=4*PP/\0<s/\(i % 4=2->t<=s)/\s<=i*PP
  μ:=fun x=>match x with
   | none=>400
   | some (i,_,_)=>(400 - i).toNat
  F:=fun x=>(.ret,seX (seR y x))
  next:=fun x=>match x with
   | none=>some (4,seT y 2 (val y),val y - seT y 2 (val y))
   | some (i,t,s)=>some (i+2,seT y i t,match decide (i % 4=2) with|true=>s - seT y i t|false=>s+seT y i t)
  ids:=fun x=>match x with
   | none=>[3,4]
   | some _=>[5,6]
  X:=fun x _=>match x with
   | none=>none
   | some (_,_,s)=>some (seX s,[3]) }
def HV (y:List Int):Prop:=(2:Int)=(2:Int)
theorem QE (y:List Int):fit (seS y) (seS y) (ae (seS y) ((seU y).S none)) ([])=some (.p (HV y)):=by kernel_rfl
def QF (y:List Int):Prop:=(((((↑y.length:Int)=(↑y.length:Int)/\((0:Int)<=aU (↑(aa (val y*val y).toNat).length:Int))/\((0:Int)<=(↑(aa (val y*val y).toNat).length:Int) - aU (↑(aa (val y*val y).toNat).length:Int))/\(aU (↑(aa (val y*val y).toNat).length:Int))+((↑(aa (val y*val y).toNat).length:Int) - aU (↑(aa (val y*val y).toNat).length:Int))<=(↑(aa (val y*val y).toNat).length:Int))/\Dig y/\Dig (cutL (val y*val y))/\y.length+(cutL (val y*val y)).length<=(500000:Nat))/\(((0:Int)<=aU (↑(aa (val y*val (cutL (val y*val y))).toNat).length:Int))/\(aU (↑(aa (val y*val (cutL (val y*val y))).toNat).length:Int))<=(↑(aa (val y*val (cutL (val y*val y))).toNat).length:Int)/\(↑(aa (val y*val (cutL (val y*val y))).toNat).length:Int)<=(↑(aa (val y*val (cutL (val y*val y))).toNat).length:Int))/\(((0:Int)<=aU (↑(aa (val y*val (cutL (val y*val y))).toNat).length:Int))/\((0:Int)<=(↑(aa (val y*val (cutL (val y*val y))).toNat).length:Int) - aU (↑(aa (val y*val (cutL (val y*val y))).toNat).length:Int))/\(aU (↑(aa (val y*val (cutL (val y*val y))).toNat).length:Int))+((↑(aa (val y*val (cutL (val y*val y))).toNat).length:Int) - aU (↑(aa (val y*val (cutL (val y*val y))).toNat).length:Int))<=(↑(aa (val y*val (cutL (val y*val y))).toNat).length:Int))/\Dig (cutL (val y*val (cutL (val y*val y))))/\(cutL (val y*val (cutL (val y*val y)))).length<=(500000:Nat)/\(1:Int)<=IntKind.i64.wrap ((2:Int)*IntKind.i64.wrap ((2:Int)+(1:Int)))/\IntKind.i64.wrap ((2:Int)*IntKind.i64.wrap ((2:Int)+(1:Int)))<=(1000000000:Int))/\((↑(aa (val (cutL (val y*val (cutL (val y*val y)))) / IntKind.i64.wrap ((2:Int)*IntKind.i64.wrap ((2:Int)+(1:Int)))).toNat).length:Int)==(0:Int))=false/\(Int.tmod (2:Int) (4:Int)==(2:Int))=true/\((↑y.length:Int)=(↑y.length:Int)/\(↑(aa (val (cutL (val y*val (cutL (val y*val y)))) / IntKind.i64.wrap ((2:Int)*IntKind.i64.wrap ((2:Int)+(1:Int)))).toNat).length:Int)=(↑(aa (val (cutL (val y*val (cutL (val y*val y)))) / IntKind.i64.wrap ((2:Int)*IntKind.i64.wrap ((2:Int)+(1:Int)))).toNat).length:Int))/\Dig y/\Dig (aa (val (cutL (val y*val (cutL (val y*val y)))) / IntKind.i64.wrap ((2:Int)*IntKind.i64.wrap ((2:Int)+(1:Int)))).toNat)/\(0:Nat)<y.length/\y.length<=(500000:Nat)/\(aa (val (cutL (val y*val (cutL (val y*val y)))) / IntKind.i64.wrap ((2:Int)*IntKind.i64.wrap ((2:Int)+(1:Int)))).toNat).length<=y.length/\val (aa (val (cutL (val y*val (cutL (val y*val y)))) / IntKind.i64.wrap ((2:Int)*IntKind.i64.wrap ((2:Int)+(1:Int)))).toNat)<=val y)/\(true=true->(((↑(aa (val y - val (aa (val (cutL (val y*val (cutL (val y*val y)))) / IntKind.i64.wrap ((2:Int)*IntKind.i64.wrap ((2:Int)+(1:Int)))).toNat)).toNat).length:Int)=(↑(aa (val y - seT y (2:Int) (val y)).toNat).length:Int)/\(↑(aa (val (cutL (val y*val (cutL (val y*val y)))) / IntKind.i64.wrap ((2:Int)*IntKind.i64.wrap ((2:Int)+(1:Int)))).toNat).length:Int)=(↑(aa (seT y (2:Int) (val y)).toNat).length:Int)/\IntKind.i64.wrap ((2:Int)+(2:Int))=(4:Int))/\aa (val y - val (aa (val (cutL (val y*val (cutL (val y*val y)))) / IntKind.i64.wrap ((2:Int)*IntKind.i64.wrap ((2:Int)+(1:Int)))).toNat)).toNat=aa (val y - seT y (2:Int) (val y)).toNat/\aa (val (cutL (val y*val (cutL (val y*val y)))) / IntKind.i64.wrap ((2:Int)*IntKind.i64.wrap ((2:Int)+(1:Int)))).toNat=aa (seT y (2:Int) (val y)).toNat)/\(seU y).I ((seU y).next none)/\(seU y).μ ((seU y).next none)<(seU y).μ none/\(seU y).F ((seU y).next none)=(seU y).F none)
theorem aas (y:List Int):fw (seS y) ((seU y).way (none)) ((run (cSe false true) 300).code Hw seA (ae (seS y) ((seU y).S none)))=some (.p (QF y)):=by kernel_rfl
def QG (y:List Int) (i t s:Int):Prop:=(((((↑(aa t.toNat).length:Int)=(↑(aa t.toNat).length:Int)/\((0:Int)<=aU (↑(aa (val y*val y).toNat).length:Int))/\((0:Int)<=(↑(aa (val y*val y).toNat).length:Int) - aU (↑(aa (val y*val y).toNat).length:Int))/\(aU (↑(aa (val y*val y).toNat).length:Int))+((↑(aa (val y*val y).toNat).length:Int) - aU (↑(aa (val y*val y).toNat).length:Int))<=(↑(aa (val y*val y).toNat).length:Int))/\Dig (aa t.toNat)/\Dig (cutL (val y*val y))/\(aa t.toNat).length+(cutL (val y*val y)).length<=(500000:Nat))/\(((0:Int)<=aU (↑(aa (val (aa t.toNat)*val (cutL (val y*val y))).toNat).length:Int))/\(aU (↑(aa (val (aa t.toNat)*val (cutL (val y*val y))).toNat).length:Int))<=(↑(aa (val (aa t.toNat)*val (cutL (val y*val y))).toNat).length:Int)/\(↑(aa (val (aa t.toNat)*val (cutL (val y*val y))).toNat).length:Int)<=(↑(aa (val (aa t.toNat)*val (cutL (val y*val y))).toNat).length:Int))/\(((0:Int)<=aU (↑(aa (val (aa t.toNat)*val (cutL (val y*val y))).toNat).length:Int))/\((0:Int)<=(↑(aa (val (aa t.toNat)*val (cutL (val y*val y))).toNat).length:Int) - aU (↑(aa (val (aa t.toNat)*val (cutL (val y*val y))).toNat).length:Int))/\(aU (↑(aa (val (aa t.toNat)*val (cutL (val y*val y))).toNat).length:Int))+((↑(aa (val (aa t.toNat)*val (cutL (val y*val y))).toNat).length:Int) - aU (↑(aa (val (aa t.toNat)*val (cutL (val y*val y))).toNat).length:Int))<=(↑(aa (val (aa t.toNat)*val (cutL (val y*val y))).toNat).length:Int))/\Dig (cutL (val (aa t.toNat)*val (cutL (val y*val y))))/\(cutL (val (aa t.toNat)*val (cutL (val y*val y)))).length<=(500000:Nat)/\(1:Int)<=IntKind.i64.wrap (i*IntKind.i64.wrap (i+(1:Int)))/\IntKind.i64.wrap (i*IntKind.i64.wrap (i+(1:Int)))<=(1000000000:Int))/\((↑(aa (val (cutL (val (aa t.toNat)*val (cutL (val y*val y)))) / IntKind.i64.wrap (i*IntKind.i64.wrap (i+(1:Int)))).toNat).length:Int)==(0:Int))=false/\(i.tmod (4:Int)==(2:Int))=true/\((↑(aa s.toNat).length:Int)=(↑(aa s.toNat).length:Int)/\(↑(aa (val (cutL (val (aa t.toNat)*val (cutL (val y*val y)))) / IntKind.i64.wrap (i*IntKind.i64.wrap (i+(1:Int)))).toNat).length:Int)=(↑(aa (val (cutL (val (aa t.toNat)*val (cutL (val y*val y)))) / IntKind.i64.wrap (i*IntKind.i64.wrap (i+(1:Int)))).toNat).length:Int))/\Dig (aa s.toNat)/\Dig (aa (val (cutL (val (aa t.toNat)*val (cutL (val y*val y)))) / IntKind.i64.wrap (i*IntKind.i64.wrap (i+(1:Int)))).toNat)/\(0:Nat)<(aa s.toNat).length/\(aa s.toNat).length<=(500000:Nat)/\(aa (val (cutL (val (aa t.toNat)*val (cutL (val y*val y)))) / IntKind.i64.wrap (i*IntKind.i64.wrap (i+(1:Int)))).toNat).length<=(aa s.toNat).length/\val (aa (val (cutL (val (aa t.toNat)*val (cutL (val y*val y)))) / IntKind.i64.wrap (i*IntKind.i64.wrap (i+(1:Int)))).toNat)<=val (aa s.toNat))/\(true=true->(((↑(aa (val (aa s.toNat) - val (aa (val (cutL (val (aa t.toNat)*val (cutL (val y*val y)))) / IntKind.i64.wrap (i*IntKind.i64.wrap (i+(1:Int)))).toNat)).toNat).length:Int)=(↑(aa (match decide (i % (4:Int)=(2:Int)) with|true=>s - seT y i t|false=>s+seT y i t).toNat).length:Int)/\(↑(aa (val (cutL (val (aa t.toNat)*val (cutL (val y*val y)))) / IntKind.i64.wrap (i*IntKind.i64.wrap (i+(1:Int)))).toNat).length:Int)=(↑(aa (seT y i t).toNat).length:Int)/\IntKind.i64.wrap (i+(2:Int))=i+(2:Int))/\aa (val (aa s.toNat) - val (aa (val (cutL (val (aa t.toNat)*val (cutL (val y*val y)))) / IntKind.i64.wrap (i*IntKind.i64.wrap (i+(1:Int)))).toNat)).toNat=aa (match decide (i % (4:Int)=(2:Int)) with|true=>s - seT y i t|false=>s+seT y i t).toNat/\aa (val (cutL (val (aa t.toNat)*val (cutL (val y*val y)))) / IntKind.i64.wrap (i*IntKind.i64.wrap (i+(1:Int)))).toNat=aa (seT y i t).toNat)/\(seU y).I ((seU y).next (some (i,t,s)))/\(seU y).μ ((seU y).next (some (i,t,s)))<(seU y).μ (some (i,t,s))/\(seU y).F ((seU y).next (some (i,t,s)))=(seU y).F (some (i,t,s)))
theorem aat (y:List Int) (i t s:Int):fw (seS y) ((seU y).way ((some (i,t,s)))) ((run (cSe false true) 300).code Hw seA (ae (seS y) ((seU y).S (some (i,t,s)))))=some (.p (QG y i t s)):=by kernel_rfl
def QH (y:List Int) (i t s:Int):Prop:=(((((↑(aa t.toNat).length:Int)=(↑(aa t.toNat).length:Int)/\((0:Int)<=aU (↑(aa (val y*val y).toNat).length:Int))/\((0:Int)<=(↑(aa (val y*val y).toNat).length:Int) - aU (↑(aa (val y*val y).toNat).length:Int))/\(aU (↑(aa (val y*val y).toNat).length:Int))+((↑(aa (val y*val y).toNat).length:Int) - aU (↑(aa (val y*val y).toNat).length:Int))<=(↑(aa (val y*val y).toNat).length:Int))/\Dig (aa t.toNat)/\Dig (cutL (val y*val y))/\(aa t.toNat).length+(cutL (val y*val y)).length<=(500000:Nat))/\(((0:Int)<=aU (↑(aa (val (aa t.toNat)*val (cutL (val y*val y))).toNat).length:Int))/\(aU (↑(aa (val (aa t.toNat)*val (cutL (val y*val y))).toNat).length:Int))<=(↑(aa (val (aa t.toNat)*val (cutL (val y*val y))).toNat).length:Int)/\(↑(aa (val (aa t.toNat)*val (cutL (val y*val y))).toNat).length:Int)<=(↑(aa (val (aa t.toNat)*val (cutL (val y*val y))).toNat).length:Int))/\(((0:Int)<=aU (↑(aa (val (aa t.toNat)*val (cutL (val y*val y))).toNat).length:Int))/\((0:Int)<=(↑(aa (val (aa t.toNat)*val (cutL (val y*val y))).toNat).length:Int) - aU (↑(aa (val (aa t.toNat)*val (cutL (val y*val y))).toNat).length:Int))/\(aU (↑(aa (val (aa t.toNat)*val (cutL (val y*val y))).toNat).length:Int))+((↑(aa (val (aa t.toNat)*val (cutL (val y*val y))).toNat).length:Int) - aU (↑(aa (val (aa t.toNat)*val (cutL (val y*val y))).toNat).length:Int))<=(↑(aa (val (aa t.toNat)*val (cutL (val y*val y))).toNat).length:Int))/\Dig (cutL (val (aa t.toNat)*val (cutL (val y*val y))))/\(cutL (val (aa t.toNat)*val (cutL (val y*val y)))).length<=(500000:Nat)/\(1:Int)<=IntKind.i64.wrap (i*IntKind.i64.wrap (i+(1:Int)))/\IntKind.i64.wrap (i*IntKind.i64.wrap (i+(1:Int)))<=(1000000000:Int))/\((↑(aa (val (cutL (val (aa t.toNat)*val (cutL (val y*val y)))) / IntKind.i64.wrap (i*IntKind.i64.wrap (i+(1:Int)))).toNat).length:Int)==(0:Int))=false/\(i.tmod (4:Int)==(2:Int))=false/\((↑(aa s.toNat).length:Int)=(↑(aa s.toNat).length:Int)/\(↑(aa (val (cutL (val (aa t.toNat)*val (cutL (val y*val y)))) / IntKind.i64.wrap (i*IntKind.i64.wrap (i+(1:Int)))).toNat).length:Int)=(↑(aa (val (cutL (val (aa t.toNat)*val (cutL (val y*val y)))) / IntKind.i64.wrap (i*IntKind.i64.wrap (i+(1:Int)))).toNat).length:Int))/\Dig (aa s.toNat)/\Dig (aa (val (cutL (val (aa t.toNat)*val (cutL (val y*val y)))) / IntKind.i64.wrap (i*IntKind.i64.wrap (i+(1:Int)))).toNat)/\((0:Nat)<(aa s.toNat).length\/(0:Nat)<(aa (val (cutL (val (aa t.toNat)*val (cutL (val y*val y)))) / IntKind.i64.wrap (i*IntKind.i64.wrap (i+(1:Int)))).toNat).length)/\(aa s.toNat).length<=(400000:Nat)/\(aa (val (cutL (val (aa t.toNat)*val (cutL (val y*val y)))) / IntKind.i64.wrap (i*IntKind.i64.wrap (i+(1:Int)))).toNat).length<=(400000:Nat))/\(true=true->(((↑(aa (val (aa s.toNat)+val (aa (val (cutL (val (aa t.toNat)*val (cutL (val y*val y)))) / IntKind.i64.wrap (i*IntKind.i64.wrap (i+(1:Int)))).toNat)).toNat).length:Int)=(↑(aa (match decide (i % (4:Int)=(2:Int)) with|true=>s - seT y i t|false=>s+seT y i t).toNat).length:Int)/\(↑(aa (val (cutL (val (aa t.toNat)*val (cutL (val y*val y)))) / IntKind.i64.wrap (i*IntKind.i64.wrap (i+(1:Int)))).toNat).length:Int)=(↑(aa (seT y i t).toNat).length:Int)/\IntKind.i64.wrap (i+(2:Int))=i+(2:Int))/\aa (val (aa s.toNat)+val (aa (val (cutL (val (aa t.toNat)*val (cutL (val y*val y)))) / IntKind.i64.wrap (i*IntKind.i64.wrap (i+(1:Int)))).toNat)).toNat=aa (match decide (i % (4:Int)=(2:Int)) with|true=>s - seT y i t|false=>s+seT y i t).toNat/\aa (val (cutL (val (aa t.toNat)*val (cutL (val y*val y)))) / IntKind.i64.wrap (i*IntKind.i64.wrap (i+(1:Int)))).toNat=aa (seT y i t).toNat)/\(seU y).I ((seU y).next (some (i,t,s)))/\(seU y).μ ((seU y).next (some (i,t,s)))<(seU y).μ (some (i,t,s))/\(seU y).F ((seU y).next (some (i,t,s)))=(seU y).F (some (i,t,s)))
theorem aau (y:List Int) (i t s:Int):fw (seS y) ((seU y).way ((some (i,t,s)))) ((run (cSe false false) 300).code Hw seA (ae (seS y) ((seU y).S (some (i,t,s)))))=some (.p (QH y i t s)):=by kernel_rfl
def U8 (y:List Int) (i t s:Int):Prop:=(((((↑(aa t.toNat).length:Int)=(↑(aa t.toNat).length:Int)/\((0:Int)<=aU (↑(aa (val y*val y).toNat).length:Int))/\((0:Int)<=(↑(aa (val y*val y).toNat).length:Int) - aU (↑(aa (val y*val y).toNat).length:Int))/\(aU (↑(aa (val y*val y).toNat).length:Int))+((↑(aa (val y*val y).toNat).length:Int) - aU (↑(aa (val y*val y).toNat).length:Int))<=(↑(aa (val y*val y).toNat).length:Int))/\Dig (aa t.toNat)/\Dig (cutL (val y*val y))/\(aa t.toNat).length+(cutL (val y*val y)).length<=(500000:Nat))/\(((0:Int)<=aU (↑(aa (val (aa t.toNat)*val (cutL (val y*val y))).toNat).length:Int))/\(aU (↑(aa (val (aa t.toNat)*val (cutL (val y*val y))).toNat).length:Int))<=(↑(aa (val (aa t.toNat)*val (cutL (val y*val y))).toNat).length:Int)/\(↑(aa (val (aa t.toNat)*val (cutL (val y*val y))).toNat).length:Int)<=(↑(aa (val (aa t.toNat)*val (cutL (val y*val y))).toNat).length:Int))/\(((0:Int)<=aU (↑(aa (val (aa t.toNat)*val (cutL (val y*val y))).toNat).length:Int))/\((0:Int)<=(↑(aa (val (aa t.toNat)*val (cutL (val y*val y))).toNat).length:Int) - aU (↑(aa (val (aa t.toNat)*val (cutL (val y*val y))).toNat).length:Int))/\(aU (↑(aa (val (aa t.toNat)*val (cutL (val y*val y))).toNat).length:Int))+((↑(aa (val (aa t.toNat)*val (cutL (val y*val y))).toNat).length:Int) - aU (↑(aa (val (aa t.toNat)*val (cutL (val y*val y))).toNat).length:Int))<=(↑(aa (val (aa t.toNat)*val (cutL (val y*val y))).toNat).length:Int))/\Dig (cutL (val (aa t.toNat)*val (cutL (val y*val y))))/\(cutL (val (aa t.toNat)*val (cutL (val y*val y)))).length<=(500000:Nat)/\(1:Int)<=IntKind.i64.wrap (i*IntKind.i64.wrap (i+(1:Int)))/\IntKind.i64.wrap (i*IntKind.i64.wrap (i+(1:Int)))<=(1000000000:Int))/\((↑(aa (val (cutL (val (aa t.toNat)*val (cutL (val y*val y)))) / IntKind.i64.wrap (i*IntKind.i64.wrap (i+(1:Int)))).toNat).length:Int)==(0:Int))=true)/\(true=true->((↑(aa s.toNat).length:Int)=(↑(aa s.toNat).length:Int)/\aa s.toNat=aa s.toNat)/\(seU y).F (some (i,t,s))=(Ex.ret,seX s))
theorem ach (y:List Int) (i t s:Int):fw (seS y) ((seU y).way ((some (i,t,s)))) ((run (cSe true false) 300).code Hw seA (ae (seS y) ((seU y).S (some (i,t,s)))))=some (.p (U8 y i t s)):=by kernel_rfl
structure SeD (y:List Int):Prop where
 d:Dig y
 l:y.length<=100
 hi:val y<=1700000000000000000000000000000000000000000000
 lo:0<seT y 2 (val y)
theorem SeD.sq {y:List Int} (h:SeD y):0<=sW y/\sW y<=3*PP:=by
 have v0:=ai h.d
 have v1:=h.hi
 have p:=gm
 refine ⟨Int.ediv_nonneg (Int.mul_nonneg v0 v0) (by omega),Int.ediv_le_of_le_mul p ?_⟩
 have:=Int.mul_le_mul (a:=val y) (b:=val y) (c:=1700000000000000000000000000000000000000000000) (d:=1700000000000000000000000000000000000000000000) v1 v1 v0 (by decide)
 have e:(1700000000000000000000000000000000000000000000:Int)*1700000000000000000000000000000000000000000000<=3*PP*PP:=by decide
 omega
theorem WJ {i:Int} (h0:2<=i) (h1:i<=400):IntKind.i64.wrap (i*IntKind.i64.wrap (i+1))=i*(i+1):=by
 have e:i*(i+1)<=400*401:=Int.mul_le_mul (a:=i) (b:=i+1) (c:=400) (d:=401) h1 (by omega) (by omega) (by decide)
 have e2:2*3<=i*(i+1):=Int.mul_le_mul (a:=2) (b:=3) (c:=i) (d:=i+1) h0 (by omega) (by decide) (by omega)
 rw [show IntKind.i64.wrap (i+1)=i+1 from iw (by omega) (by omega),iw (by omega) (by omega)]
theorem SeD.q {y:List Int} (h:SeD y) {v i:Int} (hv:0<=v) (h0:2<=i) (h1:i<=400):val (cutL (v*val (cutL (val y*val y)))) / IntKind.i64.wrap (i*IntKind.i64.wrap (i+1))=seT y i v:=by
 have v0:=ai h.d
 have h2:=h.sq
 rw [WJ h0 h1,vF (Int.mul_nonneg v0 v0),vF (v:=v*(val y*val y / PP)) (Int.mul_nonneg hv h2.1)]
 rfl
theorem wW {n:Int} (h:0<=n):0<=aU n/\aU n<=n:=by unfold aU; split <;> omega
theorem AA (v:Int):(cutL v).length<=(aa v.toNat).length:=by
 unfold cutL
 rw [List.length_take,List.length_drop]
 omega
theorem jw {v:Int} {n:Nat} (h0:0<=v) (h:v<pw n):(aa v.toNat).length<=n:=G5 (by omega)
theorem len_mul {a b:Int} (a0:0<=a) (a1:a<=4*PP) (b0:0<=b) (b1:b<=4*PP):(aa (a*b).toNat).length<=11:=by
 have p:=gm
 have h:=Int.mul_le_mul a1 b1 b0 (by omega)
 have e:4*PP*(4*PP)<pw 11:=by decide
 exact jw (Int.mul_nonneg a0 b0) (by omega)
theorem jR {a:Int} (a0:0<=a) (a1:a<=400*PP):(aa a.toNat).length<=6:=by
 have e:400*PP<pw 6:=by decide
 exact jw a0 (by omega)
theorem dv {a:Int} (a0:0<=a):val (aa a.toNat)=a:=by rw [Ak]; omega
theorem HY {a:Int} (a0:0<a):0<(aa a.toNat).length:=D9 (by omega)
theorem Yk {a b:Int} (a0:0<=a) (h:a<=b):(aa a.toNat).length<=(aa b.toNat).length:=by
 refine jw a0 ?_
 have:=gP (aC b.toNat)
 rw [dv (by omega)] at this
 omega
theorem El {n:Nat} {t:Int} (h0:0<t) (h:2 ^ n*t<=4*PP):n<=151:=by
 refine Nat.le_of_not_lt fun hn=>?_
 have h1:(2:Int) ^ 152<=2 ^ n:=by
  have:=Nat.pow_le_pow_right (n:=2) (by decide) (show 152<=n by omega)
  have e1:((2 ^ 152:Nat):Int)<=((2 ^ n:Nat):Int):=by exact_mod_cast this
  simpa using e1
 have h2:(2:Int) ^ n*1<=2 ^ n*t:=Int.mul_le_mul_of_nonneg_left (by omega) (by omega)
 have e:4*PP<(2:Int) ^ 152:=by decide
 omega
theorem Em {y:List Int} (h:SeD y) {i t:Int} (ht:0<=t) (hi:2<=i):0<=seT y i t/\2*seT y i t<=t:=QC h.sq.1 h.sq.2 ht hi
theorem QI {y:List Int} (h:SeD y):seR y (some (4,seT y 2 (val y),val y - seT y 2 (val y)))=seR y none:=by
 show l6 (sW y) 199 4 _ _=l6 (sW y) (199+1) 2 (val y) (val y)
 rw [wV (show val y*sW y / PP / (2*(2+1))≠0 from by have:=h.lo; unfold seT at this; omega)]
 rfl
theorem U9 {y:List Int} {i t s:Int} (hi:(i / 2).toNat<=200) (h:seT y i t=0):seR y (some (i,t,s))=s:=by
 show l6 (sW y) (201 - (i / 2).toNat) i t s=s
 rw [show 201 - (i / 2).toNat=(200 - (i / 2).toNat)+1 by omega,Hz h]
theorem QJ {y:List Int} {i t s:Int} (h0:0<=i) (hi:(i / 2).toNat<=200) (h:seT y i t≠0):seR y ((seU y).next (some (i,t,s)))=seR y (some (i,t,s)):=by
 show l6 (sW y) (201 - ((i+2) / 2).toNat) (i+2) (seT y i t) _=l6 (sW y) (201 - (i / 2).toNat) i t s
 rw [show 201 - (i / 2).toNat=(200 - (i / 2).toNat)+1 by omega,wV h,show 201 - ((i+2) / 2).toNat=200 - (i / 2).toNat by omega]
 rfl
theorem QK {y:List Int} (h:SeD y) {i t s:Int} (hI:(seU y).I (some (i,t,s))) (h0:seT y i t≠0):(seU y).I ((seU y).next (some (i,t,s))):=by
 obtain ⟨t0,i0,i1,i2,pw,s0,ts,sb⟩:=(show 0<t/\i % 2=0/\2<i/\i<=400/\2 ^ (i / 2).toNat*t<=4*PP/\0<s/\(i % 4=2->t<=s)/\s<=i*PP from hI)
 obtain ⟨b0,b1⟩:=Em h (i:=i) (t:=t) (by omega) (by omega)
 have k:=El t0 pw
 have hp:(2:Int) ^ ((i+2) / 2).toNat*seT y i t<=4*PP:=by
  rw [show ((i+2) / 2).toNat=(i / 2).toNat+1 by omega,Int.pow_succ,Int.mul_assoc]
  have:(2:Int) ^ (i / 2).toNat*(2*seT y i t)<=2 ^ (i / 2).toNat*t:=Int.mul_le_mul_of_nonneg_left b1 (Int.pow_nonneg (by decide))
  omega
 have ht:t<=PP:=by
  have h4:(4:Int)*t<=2 ^ (i / 2).toNat*t:=by
   refine Int.mul_le_mul_of_nonneg_right ?_ (by omega)
   have:=Nat.pow_le_pow_right (n:=2) (by decide) (show 2<=(i / 2).toNat by omega)
   have e1:((2 ^ 2:Nat):Int)<=((2 ^ (i / 2).toNat:Nat):Int):=by exact_mod_cast this
   simpa using e1
  omega
 have e2:(i+2)*PP=i*PP+2*PP:=Int.add_mul _ _ _
 have p:=gm
 show 0<seT y i t/\(i+2) % 2=0/\2<i+2/\i+2<=400/\2 ^ ((i+2) / 2).toNat*seT y i t<=4*PP/\0<(match decide (i % 4=2) with|true=>s - seT y i t|false=>s+seT y i t)/\((i+2) % 4=2->seT y i t<=(match decide (i % 4=2) with|true=>s - seT y i t|false=>s+seT y i t))/\(match decide (i % 4=2) with|true=>s - seT y i t|false=>s+seT y i t)<=(i+2)*PP
 by_cases hm:i % 4=2
 .have:=ts hm
  rw [show (match decide (i % 4=2) with|true=>s - seT y i t|false=>s+seT y i t)=s - seT y i t by rw [decide_eq_true hm]]
  refine ⟨by omega,by omega,by omega,by omega,hp,by omega,by omega,by omega⟩
 .rw [show (match decide (i % 4=2) with|true=>s - seT y i t|false=>s+seT y i t)=s+seT y i t by rw [decide_eq_false hm]]
  refine ⟨by omega,by omega,by omega,by omega,hp,by omega,by omega,by omega⟩
theorem Ni {y:List Int} (h:SeD y):(seU y).I ((seU y).next none):=by
 have v0:=ai h.d
 have v1:=h.hi
 have l0:=h.lo
 obtain ⟨b0,b1⟩:=Em h (i:=2) (t:=val y) v0 (by omega)
 have e:(1700000000000000000000000000000000000000000000:Int)<=2*PP:=by decide
 show 0<seT y 2 (val y)/\(4:Int) % 2=0/\(2:Int)<4/\(4:Int)<=400/\(2:Int) ^ (2:Nat)*seT y 2 (val y)<=4*PP/\0<val y - seT y 2 (val y)/\((4:Int) % 4=2->seT y 2 (val y)<=val y - seT y 2 (val y))/\val y - seT y 2 (val y)<=4*PP
 have p:=gm
 refine ⟨l0,by decide,by decide,by decide,?_,by omega,by omega,by omega⟩
 rw [show (2:Int) ^ (2:Nat)=4 from rfl]; omega
theorem Va {y:List Int} (h:SeD y):CodeOk cZ Hw (.loop seA) (seS y) ⟨.tt,[⟨.tt,.ret,ae (seS y) (seX (seR y none))⟩]⟩:=by
 refine mH (seU y) (y0:=none) trivial ⟨_,QE y,rfl⟩ (by kernel_rfl) (fun x hx=>?_) rfl
 have v0:=ai h.d
 have v1:=h.hi
 have yl:=h.l
 have l0:=h.lo
 have p:=gm
 have e17:(1700000000000000000000000000000000000000000000:Int)<=2*PP:=by decide
 obtain ⟨q0,q1⟩:=h.sq
 have hsq:val (cutL (val y*val y))=sW y:=by rw [vF (Int.mul_nonneg v0 v0)]; rfl
 have m1:=len_mul v0 (by omega) v0 (by omega:val y<=4*PP)
 have k1:=AA (val y*val y)
 have c1:=wW (n:=((aa (val y*val y).toNat).length:Int)) (by omega)
 have d1:=vG (val y*val y)
 cases x with
 | none=>
  have Q:=h.q (v:=val y) v0 (i:=2) (by omega) (by omega)
  have c2:=wW (n:=((aa (val y*val (cutL (val y*val y))).toNat).length:Int)) (by omega)
  have d2:=vG (val y*val (cutL (val y*val y)))
  have m2:=len_mul v0 (by omega:val y<=4*PP) q0 (by omega)
  rw [<- hsq] at m2
  have k2:=AA (val y*val (cutL (val y*val y)))
  obtain ⟨b0,b1⟩:=Em h (i:=2) (t:=val y) v0 (by omega)
  have dq:=aC (seT y 2 (val y)).toNat
  have lq:=HY l0
  have vq:=dv b0
  have yp:0<y.length:=by
   rcases Nat.eq_zero_or_pos y.length with e|e
   .rw [List.length_eq_zero_iff.1 e] at b1 l0
    have:val []=0:=rfl
    omega
   .exact e
  have ql:(aa (seT y 2 (val y)).toNat).length<=y.length:=jw b0 (by have:=gP h.d; omega)
  have nx:=Ni h
  have w6:IntKind.i64.wrap (2*IntKind.i64.wrap (2+1))=6:=by decide
  refine ⟨cSe false true,300,Ej _ _,rfl,rfl,_,aas y,?_,fun _=>?_⟩
  .rw [Q,w6,vq]
   refine ⟨⟨⟨⟨rfl,by omega,by omega,by omega⟩,h.d,d1,by omega⟩,⟨by omega,by omega,by omega⟩,⟨by omega,by omega,by omega⟩,d2,by omega,by omega,by omega⟩,beq_eq_false_iff_ne.2 (by omega),rfl,⟨rfl,rfl⟩,h.d,dq,yp,by omega,ql,by omega⟩
  .rw [Q,vq]
   refine ⟨⟨⟨rfl,rfl,by decide⟩,rfl,rfl⟩,nx,by show (400 - 4:Int).toNat<400; omega,?_⟩
   exact congrArg (fun z=>(Ex.ret,seX z)) (QI h)
 | some x=>
  obtain ⟨i,t,s⟩:=x
  have hI:=hx
  obtain ⟨t0,i0,i1,i2,pw2,s0,ts,sb⟩:=(show 0<t/\i % 2=0/\2<i/\i<=400/\2 ^ (i / 2).toNat*t<=4*PP/\0<s/\(i % 4=2->t<=s)/\s<=i*PP from hx)
  have k:=El t0 pw2
  have ht:t<=4*PP:=by
   have h4:(1:Int)*t<=2 ^ (i / 2).toNat*t:=by
    refine Int.mul_le_mul_of_nonneg_right ?_ (by omega)
    have:=Nat.one_le_two_pow (n:=(i / 2).toNat)
    have e1:((1:Nat):Int)<=((2 ^ (i / 2).toNat:Nat):Int):=by exact_mod_cast this
    simpa using e1
   omega
  have hs:s<=400*PP:=by
   have:i*PP<=400*PP:=Int.mul_le_mul_of_nonneg_right i2 (by omega)
   omega
  have vt:=dv (a:=t) (by omega)
  have vs:=dv (a:=s) (by omega)
  have dt:=aC t.toNat
  have ds:=aC s.toNat
  have lt:=jR (a:=t) (by omega) (by omega)
  have ls:=jR (a:=s) (by omega) hs
  have ls0:=HY s0
  have Q:=h.q (v:=t) (by omega) (i:=i) (by omega) i2
  have c2:=wW (n:=((aa (t*val (cutL (val y*val y))).toNat).length:Int)) (by omega)
  have d2:=vG (t*val (cutL (val y*val y)))
  have m2:=len_mul (a:=t) (by omega) ht q0 (by omega)
  rw [<- hsq] at m2
  have k2:=AA (t*val (cutL (val y*val y)))
  obtain ⟨b0,b1⟩:=Em h (i:=i) (t:=t) (by omega) (by omega)
  have dq:=aC (seT y i t).toNat
  have vq:=dv b0
  have w6:=WJ (i:=i) (by omega) i2
  have w7:1<=i*(i+1):=by have:=Int.mul_le_mul (a:=2) (b:=3) (c:=i) (d:=i+1) (by omega) (by omega) (by decide) (by omega); omega
  have w8:i*(i+1)<=400*401:=Int.mul_le_mul (a:=i) (b:=i+1) (c:=400) (d:=401) i2 (by omega) (by omega) (by decide)
  have w9:IntKind.i64.wrap (i+2)=i+2:=iw (by omega) (by omega)
  by_cases h0:seT y i t=0
  .refine ⟨cSe true false,300,Ej _ _,rfl,rfl,_,ach y i t s,?_,fun _=>⟨⟨rfl,rfl⟩,?_⟩⟩
   .rw [vt,Q,w6,h0]
    exact ⟨⟨⟨⟨rfl,by omega,by omega,by omega⟩,dt,d1,by omega⟩,⟨by omega,by omega,by omega⟩,⟨by omega,by omega,by omega⟩,d2,by omega,by omega,by omega⟩,by rw [show aa (0:Int).toNat=[] from fq]; rfl⟩
   .show (Ex.ret,seX _)=(Ex.ret,seX _)
    rw [U9 (by omega) h0]
  .have lq:=HY (a:=seT y i t) (by omega)
   have nx:=QK h hI h0
   have nr:=QJ (y:=y) (i:=i) (t:=t) (s:=s) (by omega) (by omega) h0
   have mu:(400 - (i+2)).toNat<(400 - i).toNat:=by
    have:i<=304:=by omega
    omega
   by_cases hm:i % 4=2
   .have hts:=ts hm
    have ql:=Yk b0 (show seT y i t<=s by omega)
    have e4:(match decide (i % 4=2) with|true=>s - seT y i t|false=>s+seT y i t)=s - seT y i t:=by rw [decide_eq_true hm]
    refine ⟨cSe false true,300,Ej _ _,rfl,rfl,_,aat y i t s,?_,fun _=>?_⟩
    .rw [vt,Q,w6,vq,vs]
     refine ⟨⟨⟨⟨rfl,by omega,by omega,by omega⟩,dt,d1,by omega⟩,⟨by omega,by omega,by omega⟩,⟨by omega,by omega,by omega⟩,d2,by omega,by omega,by omega⟩,beq_eq_false_iff_ne.2 (by omega),?_,⟨rfl,rfl⟩,ds,dq,ls0,by omega,ql,by omega⟩
     rw [Int.tmod_eq_emod_of_nonneg (by omega),hm]; rfl
    .rw [vt,Q,vq,vs]
     exact ⟨⟨⟨congrArg (fun z:Int=>((aa z.toNat).length:Int)) e4.symm,rfl,w9⟩,congrArg (fun z:Int=>aa z.toNat) e4.symm,rfl⟩,nx,mu,congrArg (fun z=>(Ex.ret,seX z)) nr⟩
   .have hmm:i % 4=0:=by omega
    have ql:=jR (a:=seT y i t) b0 (by omega)
    have e4:(match decide (i % 4=2) with|true=>s - seT y i t|false=>s+seT y i t)=s+seT y i t:=by rw [decide_eq_false hm]
    refine ⟨cSe false false,300,Ej _ _,rfl,rfl,_,aau y i t s,?_,fun _=>?_⟩
    .rw [vt,Q,w6]
     refine ⟨⟨⟨⟨rfl,by omega,by omega,by omega⟩,dt,d1,by omega⟩,⟨by omega,by omega,by omega⟩,⟨by omega,by omega,by omega⟩,d2,by omega,by omega,by omega⟩,beq_eq_false_iff_ne.2 (by omega),?_,⟨rfl,rfl⟩,ds,dq,.inl ls0,by omega,by omega⟩
     rw [Int.tmod_eq_emod_of_nonneg (by omega),hmm]; rfl
    .rw [vt,Q,vq,vs]
     exact ⟨⟨⟨congrArg (fun z:Int=>((aa z.toNat).length:Int)) e4.symm,rfl,w9⟩,congrArg (fun z:Int=>aa z.toNat) e4.symm,rfl⟩,nx,mu,congrArg (fun z=>(Ex.ret,seX z)) nr⟩
noncomputable def Yl (y:List Int):Ctx:=bu cZ [cK 144 (seS y).hp.clock Hw seA (seS y) .ret (seX (seR y none))]
theorem Vb {y:List Int} (h:SeD y):CtxOk (Yl y):=aQ qi (Va h) (dG qi)
def Vd (y:List Int):Prop:=(((((↑y.length:Int)=(↑y.length:Int)/\(↑y.length:Int)=(↑y.length:Int))/\Dig y/\Dig y/\y.length+y.length<=(500000:Nat))/\((0:Int)<=aU (↑(aa (val y*val y).toNat).length:Int))/\(aU (↑(aa (val y*val y).toNat).length:Int))<=(↑(aa (val y*val y).toNat).length:Int)/\(↑(aa (val y*val y).toNat).length:Int)<=(↑(aa (val y*val y).toNat).length:Int))/\At (Hw) (Hw) (seA) (seA) (seS y) (seS y))
def Ym (y:List Int):AV:=(AV.lslice 1 (↑(aa (seR y none).toNat).length:Int))
def Yn (y:List Int):Hp:=⟨[{ wr:=24,body:=ABody.rows IntKind.i64 (aa (seR y none).toNat) },{ wr:=(0:Nat),body:=ABody.rows IntKind.i64 y }],2,25⟩
theorem aci (y:List Int):(run (Yl y) 300).call 144 (wU y) (zH y)=some ⟨.p (Vd y),[⟨.tt,Ym y,Yn y⟩]⟩:=by kernel_rfl
def Yo:List Nu->List (List Int)->Option (Prop×To)
 | [.n k],[y]=>some (k=5/\SeD y,.li false (aa (seR y none).toNat))
 | _,_=>none
theorem Nj:NOk Tryz.prog (fun _=>none) hG0 144 (eT hG0 .i64 [.li,.nu (.i .i64)] Yo):=by
 refine fJ (fun xs ys p t e h=>?_) ⟨_,Tryz.func144,rfl⟩
 unfold Yo at e
 split at e
 .rename_i k y
  cases e
  obtain ⟨rfl,h⟩:=h
  have hd:=h.d
  have hl:=h.l
  have c1:=wW (n:=((aa (val y*val y).toNat).length:Int)) (by omega)
  exact ⟨Yl y,300,wU y,_,_,_,_,_,Vb h,rfl,rfl,⟨rfl,⟨rfl,rfl⟩,trivial⟩,aci y,rfl,⟨⟨⟨⟨rfl,rfl⟩,hd,hd,by omega⟩,⟨by omega,by omega,by omega⟩⟩,⟨rfl,rfl,rfl⟩⟩,rfl,rfl,rfl,rfl⟩
 .cases e
def tZ2:List (FuncId×kU):=(144,eT hG0 .i64 [.li,.nu (.i .i64)] Yo) :: tZ
theorem Yp:∀ x∈tZ2,NOk Tryz.prog (fun _=>none) hG0 x.1 x.2:=by
 intro x hx
 rcases List.mem_cons.1 hx with rfl|hx
 .exact Nj
 exact WH x hx
def QL:AFr:=⟨146,none⟩
def dwA:Code:=jN Tryz.prog 146 0
noncomputable def dwS (a:List Int):St:=u7 cZ 300 146 (wU a) (zH a)
def dwV (a:List Int):Int:=val a*val (aa (4294967296:Int).toNat)
def dwP (i n:Int):Patch:=⟨(5,.int true .i64 n) :: (7,.int true .i64 i) :: fG 17 11,[],[]⟩
def dwU (a:List Int):SumL (Int×Int):=
 {
  S:=fun (i,n)=>dwP i n
  I:=fun (i,n)=>-1<=i/\i<(cutL (dwV a)).length/\n=val ((cutL (dwV a)).drop (i+1).toNat)
  μ:=fun (i,_)=>(i+1).toNat
  F:=fun _=>(.exit 0,dwP (-1) (dwV a / PP))
  next:=fun (i,n)=>(i - 1,n*1000000000+(cutL (dwV a)).getD i.toNat 0)
  ids:=fun _=>[]
  X:=fun (i,n) _=>some (dwP i n,[]) }
def HZ (a:List Int):Prop:=(0:Int)=(0:Int)/\IntKind.i64.wrap (((↑(aa (val a*val (aa (Int.toNat (4294967296:Int)))).toNat).length:Int) - aU (↑(aa (val a*val (aa (Int.toNat (4294967296:Int)))).toNat).length:Int)) - (1:Int))=(↑(cutL (dwV a)).length:Int) - (1:Int)
theorem QM (a:List Int):fit (dwS a) (dwS a) (ae (dwS a) (dwP (((cutL (dwV a)).length:Int) - 1) 0)) ([])=some (.p (HZ a)):=by kernel_rfl
def JG (a:List Int) (i n:Int):Prop:=(decide (i>=(0:Int))=true->(((0:Int)<=aU (↑(aa (val a*val (aa (Int.toNat (4294967296:Int)))).toNat).length:Int))/\(0:Int)<=i/\i<(↑(aa (val a*val (aa (Int.toNat (4294967296:Int)))).toNat).length:Int) - aU (↑(aa (val a*val (aa (Int.toNat (4294967296:Int)))).toNat).length:Int))/\((aU (↑(aa (val a*val (aa (Int.toNat (4294967296:Int)))).toNat).length:Int))+i).toNat<(aa (val a*val (aa (Int.toNat (4294967296:Int)))).toNat).length)/\((!decide (i>=(0:Int)))=true->(n=n/\i=i)/\(dwU a).F (i,n)=(Ex.exit (0:Nat),dwP i n))/\(decide (i>=(0:Int))=true->(IntKind.i64.wrap (IntKind.i64.wrap (n*(1000000000:Int))+(aa (val a*val (aa (Int.toNat (4294967296:Int)))).toNat).getD ((aU (↑(aa (val a*val (aa (Int.toNat (4294967296:Int)))).toNat).length:Int))+i).toNat (0:Int))=n*(1000000000:Int)+(cutL (dwV a)).getD i.toNat (0:Int)/\IntKind.i64.wrap (i - (1:Int))=i - (1:Int))/\(dwU a).I ((dwU a).next (i,n))/\(dwU a).μ ((dwU a).next (i,n))<(dwU a).μ (i,n)/\(dwU a).F ((dwU a).next (i,n))=(dwU a).F (i,n))
theorem Vf (a:List Int) (i n:Int):fw (dwS a) ((dwU a).way ((i,n))) ((run cZ 300).code QL dwA (ae (dwS a) ((dwU a).S (i,n))))=some (.p (JG a i n)):=by kernel_rfl
structure DwD (a:List Int):Prop where
 d:Dig a
 l:a.length<=100
 hi:dwV a / PP<4611686018427387904
theorem DwD.v {a:List Int} (h:DwD a):0<=dwV a:=Int.mul_nonneg (ai h.d) (ai (aC _))
theorem Vg {l:List Int} (h:Dig l) (k:Nat):val (l.drop k)<=val l:=by
 rw [Az k h]
 exact Int.ediv_le_self _ (ai h)
theorem Vh {a:List Int} (h:DwD a):CodeOk cZ QL (.loop dwA) (dwS a) ⟨.tt,[⟨.tt,.exit 0,ae (dwS a) (dwP (-1) (dwV a / PP))⟩]⟩:=by
 have v0:=h.v
 have hc:=Ld v0
 have hv:=vF v0
 have hd:=vG (dwV a)
 have hi:=h.hi
 have c1:=wW (n:=((aa (dwV a).toNat).length:Int)) (by omega)
 have lm:(aa (dwV a).toNat).length<=500000:=by
  have l:=h.l
  have h1:=gP h.d
  have h2:=j6 l
  refine Nat.le_trans (jw (n:=102) v0 ?_) (by decide)
  have e1:val (aa (4294967296:Int).toNat)=4294967296:=dv (by decide)
  have e2:pw 102=1000000000000000000*pw 100:=by rw [kg,kg]; omega
  have h0:=ai h.d
  have p:=pw_pos 100
  unfold dwV
  rw [e1,e2]; omega
 have lc:((cutL (dwV a)).length:Int)=(aa (dwV a).toNat).length - aU (aa (dwV a).toNat).length:=by
  rw [hc,List.length_drop]; omega
 refine mG (bP qi 300) (dwU a) (y0:=(((cutL (dwV a)).length:Int) - 1,0)) ⟨by omega,by show _ - 1<_; omega,?_⟩ ⟨_,QM a,rfl,?_⟩ (by kernel_rfl) (fun y hy=>?_) rfl
 .show 0=val ((cutL (dwV a)).drop (((cutL (dwV a)).length:Int) - 1+1).toNat)
  rw [show (((cutL (dwV a)).length:Int) - 1+1).toNat=(cutL (dwV a)).length by omega,List.drop_length]; rfl
 .show IntKind.i64.wrap (((aa (dwV a).toNat).length:Int) - aU (aa (dwV a).toNat).length - 1)=(cutL (dwV a)).length - 1
  rw [lc,iw (by omega) (by omega)]
 .obtain ⟨i,n⟩:=y
  obtain ⟨i0,i1,hn⟩:=(show -1<=i/\i<(cutL (dwV a)).length/\n=val ((cutL (dwV a)).drop (i+1).toNat) from hy)
  refine ⟨_,Vf a i n,fun e=>?_,fun e=>?_,fun e=>?_⟩
  .have e:=dt.1 e
   exact ⟨⟨c1.1,e,by show i<((aa (dwV a).toNat).length:Int) - aU (aa (dwV a).toNat).length; omega⟩,by show (aU (aa (dwV a).toNat).length+i).toNat<(aa (dwV a).toNat).length; omega⟩
  .have e:=ndt.1 e
   have:i=-1:=by omega
   subst this
   refine ⟨⟨rfl,rfl⟩,?_⟩
   show (Ex.exit 0,dwP (-1) (dwV a / PP))=(Ex.exit 0,dwP (-1) n)
   rw [hn,show ((-1:Int)+1).toNat=0 from rfl,List.drop_zero,hv]
  .have e:=dt.1 e
   have hl:i.toNat<(cutL (dwV a)).length:=by omega
   have s1:=G8 hl
   have s2:=Vg hd i.toNat
   rw [show i.toNat+1=(i+1).toNat by omega,<- hn] at s1
   rw [hv] at s2
   have g0:=hd.get i.toNat
   have n0:0<=n:=by rw [hn]; exact ai (Hy hd _)
   have gd:(aa (dwV a).toNat).getD (aU (aa (dwV a).toNat).length+i).toNat 0=(cutL (dwV a)).getD i.toNat 0:=by
    rw [hc,List.getD_eq_getElem?_getD,List.getD_eq_getElem?_getD,List.getElem?_drop]
    congr 2
    omega
   have w1:IntKind.i64.wrap (n*1000000000)=n*1000000000:=iw (by omega) (by omega)
   have w2:IntKind.i64.wrap (n*1000000000+(cutL (dwV a)).getD i.toNat 0)=n*1000000000+(cutL (dwV a)).getD i.toNat 0:=iw (by omega) (by omega)
   refine ⟨⟨?_,iw (by omega) (by omega)⟩,⟨by show -1<=i - 1; omega,by show i - 1<_; omega,?_⟩,by show (i - 1+1).toNat<(i+1).toNat; omega,rfl⟩
   .show IntKind.i64.wrap (IntKind.i64.wrap (n*1000000000)+(aa (dwV a).toNat).getD (aU (aa (dwV a).toNat).length+i).toNat 0)=_
    rw [w1,gd,w2]
   .show n*1000000000+(cutL (dwV a)).getD i.toNat 0=val ((cutL (dwV a)).drop (i - 1+1).toNat)
    rw [show (i - 1+1).toNat=i.toNat by omega,s1]; omega
noncomputable def Yq (a:List Int):Ctx:=bu cZ [cK 146 (dwS a).hp.clock QL dwA (dwS a) (.exit 0) (dwP (-1) (dwV a / PP))]
theorem Vi {a:List Int} (h:DwD a):CtxOk (Yq a):=aQ qi (Vh h) (dG qi)
def Vj (a:List Int):Prop:=((((0:Int)<(4294967296:Int)/\(4294967296:Int)<(1000000000000000000:Int))/\(((↑a.length:Int)=(↑a.length:Int)/\(↑(aa (Int.toNat (4294967296:Int))).length:Int)=(↑(aa (Int.toNat (4294967296:Int))).length:Int))/\Dig a/\Dig (aa (Int.toNat (4294967296:Int)))/\a.length+(aa (Int.toNat (4294967296:Int))).length<=(500000:Nat))/\((0:Int)<=aU (↑(aa (val a*val (aa (Int.toNat (4294967296:Int)))).toNat).length:Int))/\(aU (↑(aa (val a*val (aa (Int.toNat (4294967296:Int)))).toNat).length:Int))<=(↑(aa (val a*val (aa (Int.toNat (4294967296:Int)))).toNat).length:Int)/\(↑(aa (val a*val (aa (Int.toNat (4294967296:Int)))).toNat).length:Int)<=(↑(aa (val a*val (aa (Int.toNat (4294967296:Int)))).toNat).length:Int))/\At (QL) (QL) (dwA) (dwA) (dwS a) (dwS a))
def Yr (a:List Int):AV:=(AV.int true IntKind.i64 (dwV a / PP))
def Yt (a:List Int):Hp:=⟨[{ wr:=(0:Nat),body:=ABody.rows IntKind.i64 a }],1,28⟩
theorem acj (a:List Int):(run (Yq a) 300).call 146 (wU a) (zH a)=some ⟨.p (Vj a),[⟨.tt,Yr a,Yt a⟩]⟩:=by kernel_rfl
def Yu:List Nu->List (List Int)->Option (Prop×To)
 | [.n k],[a]=>some (k=5/\DwD a,.nu .i64 (val a*4294967296 / PP))
 | _,_=>none
theorem QN (a:List Int):dwV a=val a*4294967296:=by
 unfold dwV
 rw [dv (by decide)]
theorem Vk:NOk Tryz.prog (fun _=>none) hG0 146 (eT hG0 .i64 [.li,.nu (.i .i64)] Yu):=by
 refine fJ (fun xs ys p t e h=>?_) ⟨_,Tryz.func146,rfl⟩
 unfold Yu at e
 split at e
 .rename_i k y
  cases e
  obtain ⟨rfl,h⟩:=h
  have hd:=h.d
  have hl:=h.l
  have c1:=wW (n:=((aa (dwV y).toNat).length:Int)) (by omega)
  have l2:(aa (4294967296:Int).toNat).length<=2:=jw (by decide) (by decide)
  exact ⟨Yq y,300,wU y,_,_,_,_,_,Vi h,rfl,rfl,⟨rfl,⟨rfl,rfl⟩,trivial⟩,acj y,rfl,⟨⟨⟨by decide,by decide⟩,⟨⟨rfl,rfl⟩,hd,aC _,by show _+(aa (4294967296:Int).toNat).length<=_; omega⟩,⟨c1.1,c1.2,Int.le_refl _⟩⟩,⟨rfl,rfl,rfl⟩⟩,rfl,rfl,by show dwV y / PP=_; rw [QN]⟩
 .cases e
def H5:AFr:=⟨151,none⟩
def arA:Code:=jN Tryz.prog 151 0
def JH (x:Int) (one:List Int):List AV:=[.int true .i64 x,.lslice 0 one.length]
noncomputable def arS (x:Int) (one:List Int):St:=u7 cZ 300 151 (JH x one) (zH one)
def cAr (e m:Bool):Ctx:=cZb [(22,e),(26,m)]
theorem Eo (e m:Bool):CtxOk (cAr e m):=JF _
def arP:Option (Int×Int×Int)->Patch
 | none=>⟨(8,.int true .i64 1) :: (9,.any false) :: fG 15 18,[],[]⟩
 | some (i,t,s)=>⟨(5,.lslice 6 (aa s.toNat).length) :: (8,.int true .i64 i) :: (9,.any false) :: fG 15 18,[(4,.cells [.lslice 5 (aa t.toNat).length])],[.rows .i64 (aa s.toNat),.rows .i64 (aa t.toNat)]⟩
def arX (s:Int):Patch:=⟨(4,.lslice 5 (aa s.toNat).length) :: (5,.any false) :: (8,.any false) :: (9,.any false) :: fG 15 18,[(4,.dead)],[.rows .i64 (aa s.toNat)]⟩
def arQ (x:Int) (one:List Int):Int:=val one*x / (x*x)
def arR (x:Int) (one:List Int):Option (Int×Int×Int)->Int
 | none=>df x 200 1 (val one*x) 0
 | some (i,t,s)=>df x (200 - (i / 2).toNat) i t s
def arU (x:Int) (one:List Int):SumL (Option (Int×Int×Int)):=
 {
  S:=arP
  I:=fun y=>match y with
   | none=>True
   | some (i,t,s)=>0<t/\i % 2=1/\2<i/\i<=399/\2 ^ (i / 2).toNat*t<=4*PP/\0<=s/\(i % 4=3->t / (i - 2)<=s)/\s<=i*PP
  μ:=fun y=>match y with
   | none=>400
   | some (i,_,_)=>(400 - i).toNat
  F:=fun y=>(.ret,arX (arR x one y))
  next:=fun y=>match y with
   | none=>some (3,arQ x one,arQ x one / 1)
   | some (i,t,s)=>some (i+2,t / (x*x),match decide (i % 4=1) with|true=>s+t / (x*x) / i|false=>s - t / (x*x) / i)
  ids:=fun y=>match y with
   | none=>[5,7]
   | some _=>[7,9]
  X:=fun y _=>match y with
   | none=>none
   | some (_,_,s)=>some (arX s,[6]) }
def H7 (x:Int) (one:List Int):Prop:=(1:Int)=(1:Int)
theorem QO (x:Int) (one:List Int):fit (arS x one) (arS x one) (ae (arS x one) ((arU x one).S none)) ([])=some (.p (H7 x one)):=by kernel_rfl
def QP (x:Int) (one:List Int):Prop:=((((↑(aa (val one*val [x]).toNat).length:Int)=(↑(aa (val one*val [x]).toNat).length:Int)/\Dig (aa (val one*val [x]).toNat)/\(aa (val one*val [x]).toNat).length<=(500000:Nat)/\(1:Int)<=IntKind.i64.wrap (x*x)/\IntKind.i64.wrap (x*x)<=(1000000000:Int))/\(↑(aa (val (aa (val one*val [x]).toNat) / IntKind.i64.wrap (x*x)).toNat).length:Int)=(↑(aa (val (aa (val one*val [x]).toNat) / IntKind.i64.wrap (x*x)).toNat).length:Int)/\Dig (aa (val (aa (val one*val [x]).toNat) / IntKind.i64.wrap (x*x)).toNat)/\(aa (val (aa (val one*val [x]).toNat) / IntKind.i64.wrap (x*x)).toNat).length<=(500000:Nat)/\(1:Int)<=(1:Int)/\(1:Int)<=(1000000000:Int))/\((↑(aa (val (aa (val (aa (val one*val [x]).toNat) / IntKind.i64.wrap (x*x)).toNat) / (1:Int)).toNat).length:Int)==(0:Int))=false/\(Int.tmod (1:Int) (4:Int)==(1:Int))=true/\(↑(aa (val (aa (val (aa (val one*val [x]).toNat) / IntKind.i64.wrap (x*x)).toNat) / (1:Int)).toNat).length:Int)=(↑(aa (val (aa (val (aa (val one*val [x]).toNat) / IntKind.i64.wrap (x*x)).toNat) / (1:Int)).toNat).length:Int)/\Dig []/\Dig (aa (val (aa (val (aa (val one*val [x]).toNat) / IntKind.i64.wrap (x*x)).toNat) / (1:Int)).toNat)/\((0:Nat)<([]:List Int).length\/(0:Nat)<(aa (val (aa (val (aa (val one*val [x]).toNat) / IntKind.i64.wrap (x*x)).toNat) / (1:Int)).toNat).length)/\([]:List Int).length<=(400000:Nat)/\(aa (val (aa (val (aa (val one*val [x]).toNat) / IntKind.i64.wrap (x*x)).toNat) / (1:Int)).toNat).length<=(400000:Nat))/\(true=true->(((↑(aa (val []+val (aa (val (aa (val (aa (val one*val [x]).toNat) / IntKind.i64.wrap (x*x)).toNat) / (1:Int)).toNat)).toNat).length:Int)=(↑(aa (arQ x one / (1:Int)).toNat).length:Int)/\IntKind.i64.wrap ((1:Int)+(2:Int))=(3:Int))/\(↑(aa (val (aa (val one*val [x]).toNat) / IntKind.i64.wrap (x*x)).toNat).length:Int)=(↑(aa (arQ x one).toNat).length:Int)/\aa (val []+val (aa (val (aa (val (aa (val one*val [x]).toNat) / IntKind.i64.wrap (x*x)).toNat) / (1:Int)).toNat)).toNat=aa (arQ x one / (1:Int)).toNat/\aa (val (aa (val one*val [x]).toNat) / IntKind.i64.wrap (x*x)).toNat=aa (arQ x one).toNat)/\(arU x one).I ((arU x one).next none)/\(arU x one).μ ((arU x one).next none)<(arU x one).μ none/\(arU x one).F ((arU x one).next none)=(arU x one).F none)
theorem aav (x:Int) (one:List Int):fw (arS x one) ((arU x one).way (none)) ((run (cAr false true) 300).code H5 arA (ae (arS x one) ((arU x one).S none)))=some (.p (QP x one)):=by kernel_rfl
def QQ (x:Int) (one:List Int) (i t s:Int):Prop:=((((↑(aa t.toNat).length:Int)=(↑(aa t.toNat).length:Int)/\Dig (aa t.toNat)/\(aa t.toNat).length<=(500000:Nat)/\(1:Int)<=IntKind.i64.wrap (x*x)/\IntKind.i64.wrap (x*x)<=(1000000000:Int))/\(↑(aa (val (aa t.toNat) / IntKind.i64.wrap (x*x)).toNat).length:Int)=(↑(aa (val (aa t.toNat) / IntKind.i64.wrap (x*x)).toNat).length:Int)/\Dig (aa (val (aa t.toNat) / IntKind.i64.wrap (x*x)).toNat)/\(aa (val (aa t.toNat) / IntKind.i64.wrap (x*x)).toNat).length<=(500000:Nat)/\(1:Int)<=i/\i<=(1000000000:Int))/\((↑(aa (val (aa (val (aa t.toNat) / IntKind.i64.wrap (x*x)).toNat) / i).toNat).length:Int)==(0:Int))=false/\(i.tmod (4:Int)==(1:Int))=true/\((↑(aa s.toNat).length:Int)=(↑(aa s.toNat).length:Int)/\(↑(aa (val (aa (val (aa t.toNat) / IntKind.i64.wrap (x*x)).toNat) / i).toNat).length:Int)=(↑(aa (val (aa (val (aa t.toNat) / IntKind.i64.wrap (x*x)).toNat) / i).toNat).length:Int))/\Dig (aa s.toNat)/\Dig (aa (val (aa (val (aa t.toNat) / IntKind.i64.wrap (x*x)).toNat) / i).toNat)/\((0:Nat)<(aa s.toNat).length\/(0:Nat)<(aa (val (aa (val (aa t.toNat) / IntKind.i64.wrap (x*x)).toNat) / i).toNat).length)/\(aa s.toNat).length<=(400000:Nat)/\(aa (val (aa (val (aa t.toNat) / IntKind.i64.wrap (x*x)).toNat) / i).toNat).length<=(400000:Nat))/\(true=true->(((↑(aa (val (aa s.toNat)+val (aa (val (aa (val (aa t.toNat) / IntKind.i64.wrap (x*x)).toNat) / i).toNat)).toNat).length:Int)=(↑(aa (match decide (i % (4:Int)=(1:Int)) with|true=>s+t / (x*x) / i|false=>s - t / (x*x) / i).toNat).length:Int)/\IntKind.i64.wrap (i+(2:Int))=i+(2:Int))/\(↑(aa (val (aa t.toNat) / IntKind.i64.wrap (x*x)).toNat).length:Int)=(↑(aa (t / (x*x)).toNat).length:Int)/\aa (val (aa s.toNat)+val (aa (val (aa (val (aa t.toNat) / IntKind.i64.wrap (x*x)).toNat) / i).toNat)).toNat=aa (match decide (i % (4:Int)=(1:Int)) with|true=>s+t / (x*x) / i|false=>s - t / (x*x) / i).toNat/\aa (val (aa t.toNat) / IntKind.i64.wrap (x*x)).toNat=aa (t / (x*x)).toNat)/\(arU x one).I ((arU x one).next (some (i,t,s)))/\(arU x one).μ ((arU x one).next (some (i,t,s)))<(arU x one).μ (some (i,t,s))/\(arU x one).F ((arU x one).next (some (i,t,s)))=(arU x one).F (some (i,t,s)))
theorem aaw (x:Int) (one:List Int) (i t s:Int):fw (arS x one) ((arU x one).way ((some (i,t,s)))) ((run (cAr false true) 300).code H5 arA (ae (arS x one) ((arU x one).S (some (i,t,s)))))=some (.p (QQ x one i t s)):=by kernel_rfl
def QR (x:Int) (one:List Int) (i t s:Int):Prop:=((((↑(aa t.toNat).length:Int)=(↑(aa t.toNat).length:Int)/\Dig (aa t.toNat)/\(aa t.toNat).length<=(500000:Nat)/\(1:Int)<=IntKind.i64.wrap (x*x)/\IntKind.i64.wrap (x*x)<=(1000000000:Int))/\(↑(aa (val (aa t.toNat) / IntKind.i64.wrap (x*x)).toNat).length:Int)=(↑(aa (val (aa t.toNat) / IntKind.i64.wrap (x*x)).toNat).length:Int)/\Dig (aa (val (aa t.toNat) / IntKind.i64.wrap (x*x)).toNat)/\(aa (val (aa t.toNat) / IntKind.i64.wrap (x*x)).toNat).length<=(500000:Nat)/\(1:Int)<=i/\i<=(1000000000:Int))/\((↑(aa (val (aa (val (aa t.toNat) / IntKind.i64.wrap (x*x)).toNat) / i).toNat).length:Int)==(0:Int))=false/\(i.tmod (4:Int)==(1:Int))=false/\((↑(aa s.toNat).length:Int)=(↑(aa s.toNat).length:Int)/\(↑(aa (val (aa (val (aa t.toNat) / IntKind.i64.wrap (x*x)).toNat) / i).toNat).length:Int)=(↑(aa (val (aa (val (aa t.toNat) / IntKind.i64.wrap (x*x)).toNat) / i).toNat).length:Int))/\Dig (aa s.toNat)/\Dig (aa (val (aa (val (aa t.toNat) / IntKind.i64.wrap (x*x)).toNat) / i).toNat)/\(0:Nat)<(aa s.toNat).length/\(aa s.toNat).length<=(500000:Nat)/\(aa (val (aa (val (aa t.toNat) / IntKind.i64.wrap (x*x)).toNat) / i).toNat).length<=(aa s.toNat).length/\val (aa (val (aa (val (aa t.toNat) / IntKind.i64.wrap (x*x)).toNat) / i).toNat)<=val (aa s.toNat))/\(true=true->(((↑(aa (val (aa s.toNat) - val (aa (val (aa (val (aa t.toNat) / IntKind.i64.wrap (x*x)).toNat) / i).toNat)).toNat).length:Int)=(↑(aa (match decide (i % (4:Int)=(1:Int)) with|true=>s+t / (x*x) / i|false=>s - t / (x*x) / i).toNat).length:Int)/\IntKind.i64.wrap (i+(2:Int))=i+(2:Int))/\(↑(aa (val (aa t.toNat) / IntKind.i64.wrap (x*x)).toNat).length:Int)=(↑(aa (t / (x*x)).toNat).length:Int)/\aa (val (aa s.toNat) - val (aa (val (aa (val (aa t.toNat) / IntKind.i64.wrap (x*x)).toNat) / i).toNat)).toNat=aa (match decide (i % (4:Int)=(1:Int)) with|true=>s+t / (x*x) / i|false=>s - t / (x*x) / i).toNat/\aa (val (aa t.toNat) / IntKind.i64.wrap (x*x)).toNat=aa (t / (x*x)).toNat)/\(arU x one).I ((arU x one).next (some (i,t,s)))/\(arU x one).μ ((arU x one).next (some (i,t,s)))<(arU x one).μ (some (i,t,s))/\(arU x one).F ((arU x one).next (some (i,t,s)))=(arU x one).F (some (i,t,s)))
theorem aax (x:Int) (one:List Int) (i t s:Int):fw (arS x one) ((arU x one).way ((some (i,t,s)))) ((run (cAr false false) 300).code H5 arA (ae (arS x one) ((arU x one).S (some (i,t,s)))))=some (.p (QR x one i t s)):=by kernel_rfl
def Vl (x:Int) (one:List Int) (i t s:Int):Prop:=((((↑(aa t.toNat).length:Int)=(↑(aa t.toNat).length:Int)/\Dig (aa t.toNat)/\(aa t.toNat).length<=(500000:Nat)/\(1:Int)<=IntKind.i64.wrap (x*x)/\IntKind.i64.wrap (x*x)<=(1000000000:Int))/\(↑(aa (val (aa t.toNat) / IntKind.i64.wrap (x*x)).toNat).length:Int)=(↑(aa (val (aa t.toNat) / IntKind.i64.wrap (x*x)).toNat).length:Int)/\Dig (aa (val (aa t.toNat) / IntKind.i64.wrap (x*x)).toNat)/\(aa (val (aa t.toNat) / IntKind.i64.wrap (x*x)).toNat).length<=(500000:Nat)/\(1:Int)<=i/\i<=(1000000000:Int))/\((↑(aa (val (aa (val (aa t.toNat) / IntKind.i64.wrap (x*x)).toNat) / i).toNat).length:Int)==(0:Int))=true)/\(true=true->((↑(aa s.toNat).length:Int)=(↑(aa s.toNat).length:Int)/\aa s.toNat=aa s.toNat)/\(arU x one).F (some (i,t,s))=(Ex.ret,arX s))
theorem ack (x:Int) (one:List Int) (i t s:Int):fw (arS x one) ((arU x one).way ((some (i,t,s)))) ((run (cAr true false) 300).code H5 arA (ae (arS x one) ((arU x one).S (some (i,t,s)))))=some (.p (Vl x one i t s)):=by kernel_rfl
end
end Go.Proofs.YtbhibbcjfgnmhaaGreatDoor.K
