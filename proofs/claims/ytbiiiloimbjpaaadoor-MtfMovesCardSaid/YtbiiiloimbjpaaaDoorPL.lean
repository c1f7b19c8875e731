/- What is proved: MtfMoves returns true, whatever the input (part 12). No conditions beyond those of the row. -/
import Derived.Test.YtbiiiloimbjpaaaDoorPJ
import Derived.Test.YtbiiiloimbjpaaaDoorPK
import Derived.KernelRfl
set_option linter.unusedVariables false
set_option linter.unusedSimpArgs false
set_option linter.unusedSectionVars false
namespace Go.Dg
open Go Go.Eng
theorem oZ:val aV=4294967296:=by decide
theorem GG:Dig aV:=fun x hx=>by
 simp only [aV,List.mem_cons,List.not_mem_nil,or_false] at hx
 rcases hx with rfl|rfl <;> decide
theorem GH:Top aV:=by unfold Top; decide
theorem aeq (x:Nat->Int):val (oX6 x)=x 0+1000000000*(x 1+1000000000*(x 2+1000000000*(x 3+1000000000*(x 4+1000000000*(x 5+1000000000*0))))):=rfl
theorem aer (x:Nat->Int):val (oX7 x)=x 0+1000000000*(x 1+1000000000*(x 2+1000000000*(x 3+1000000000*(x 4+1000000000*(x 5+1000000000*(x 6+1000000000*0)))))):=rfl
theorem vO (x:Nat->Int) (i:Nat):x i*200000000+cyN x i=dyN x i+1000000000*cyN x (i+1):=by
 show _=(x i*200000000+cyN x i) % 1000000000+1000000000*((x i*200000000+cyN x i) / 1000000000)
 omega
theorem wU (x:Nat->Int) (n k:Nat):rmN x n k*1000000000+dyN x (n - 2 - k)=858993459200000000*qyN x n k+rmN x n (k+1):=by
 show _=858993459200000000*((rmN x n k*1000000000+dyN x (n - 2 - k)) / 858993459200000000)+(rmN x n k*1000000000+dyN x (n - 2 - k)) % 858993459200000000
 omega
theorem nO {x:Nat->Int} {n:Nat} (h:∀ i,i<n->0<=x i/\x i<1000000000) (k:Nat):0<=qyN x n k/\qyN x n k<1000000000:=by
 have a:=BH h k
 have b:=Kg x (n - 2 - k)
 have c:=wU x n k
 have d:=BH h (k+1)
 omega
theorem aes {x:Nat->Int} (h:∀ i,i<6->0<=x i/\x i<1000000000):
  val (oX6 x) / 4294967296=val [qyN x 6 4,qyN x 6 3,qyN x 6 2,qyN x 6 1,qyN x 6 0]:=by
 have c0:=vO x 0; have c1:=vO x 1; have c2:=vO x 2; have c3:=vO x 3; have c4:=vO x 4; have c5:=vO x 5
 have r0:=wU x 6 0; have r1:=wU x 6 1; have r2:=wU x 6 2; have r3:=wU x 6 3; have r4:=wU x 6 4
 have rs:rmN x 6 0=cyN x 6*1000000000+dyN x 5:=rfl
 have z0:cyN x 0=0:=rfl
 have hb:=BH h 5
 rw [aeq]
 simp only [Nat.reduceSub,Nat.reduceAdd] at *
 show _=qyN x 6 4+1000000000*(qyN x 6 3+1000000000*(qyN x 6 2+1000000000*(qyN x 6 1+1000000000*(qyN x 6 0+1000000000*0))))
 generalize cyN x 0=a0 at *; generalize cyN x 1=a1 at *; generalize cyN x 2=a2 at *; generalize cyN x 3=a3 at *; generalize cyN x 4=a4 at *; generalize cyN x 5=a5 at *; generalize cyN x 6=a6 at *
 generalize dyN x 0=b0 at *; generalize dyN x 1=b1 at *; generalize dyN x 2=b2 at *; generalize dyN x 3=b3 at *; generalize dyN x 4=b4 at *; generalize dyN x 5=b5 at *
 generalize rmN x 6 0=s0 at *; generalize rmN x 6 1=s1 at *; generalize rmN x 6 2=s2 at *; generalize rmN x 6 3=s3 at *; generalize rmN x 6 4=s4 at *; generalize rmN x 6 5=s5 at *
 generalize qyN x 6 0=q0 at *; generalize qyN x 6 1=q1 at *; generalize qyN x 6 2=q2 at *; generalize qyN x 6 3=q3 at *; generalize qyN x 6 4=q4 at *
 generalize x 0=x0 at *; generalize x 1=x1 at *; generalize x 2=x2 at *; generalize x 3=x3 at *; generalize x 4=x4 at *; generalize x 5=x5 at *
 clear h
 omega
theorem aet {x:Nat->Int} (h:∀ i,i<7->0<=x i/\x i<1000000000):
  val (oX7 x) / 4294967296=val [qyN x 7 5,qyN x 7 4,qyN x 7 3,qyN x 7 2,qyN x 7 1,qyN x 7 0]:=by
 have c0:=vO x 0; have c1:=vO x 1; have c2:=vO x 2; have c3:=vO x 3; have c4:=vO x 4; have c5:=vO x 5; have c6:=vO x 6
 have r0:=wU x 7 0; have r1:=wU x 7 1; have r2:=wU x 7 2; have r3:=wU x 7 3; have r4:=wU x 7 4; have r5:=wU x 7 5
 have rs:rmN x 7 0=cyN x 7*1000000000+dyN x 6:=rfl
 have z0:cyN x 0=0:=rfl
 have hb:=BH h 6
 rw [aer]
 simp only [Nat.reduceSub,Nat.reduceAdd] at *
 show _=qyN x 7 5+1000000000*(qyN x 7 4+1000000000*(qyN x 7 3+1000000000*(qyN x 7 2+1000000000*(qyN x 7 1+1000000000*(qyN x 7 0+1000000000*0)))))
 generalize cyN x 0=a0 at *; generalize cyN x 1=a1 at *; generalize cyN x 2=a2 at *; generalize cyN x 3=a3 at *; generalize cyN x 4=a4 at *; generalize cyN x 5=a5 at *; generalize cyN x 6=a6 at *; generalize cyN x 7=a7 at *
 generalize dyN x 0=b0 at *; generalize dyN x 1=b1 at *; generalize dyN x 2=b2 at *; generalize dyN x 3=b3 at *; generalize dyN x 4=b4 at *; generalize dyN x 5=b5 at *; generalize dyN x 6=b6 at *
 generalize rmN x 7 0=s0 at *; generalize rmN x 7 1=s1 at *; generalize rmN x 7 2=s2 at *; generalize rmN x 7 3=s3 at *; generalize rmN x 7 4=s4 at *; generalize rmN x 7 5=s5 at *; generalize rmN x 7 6=s6 at *
 generalize qyN x 7 0=q0 at *; generalize qyN x 7 1=q1 at *; generalize qyN x 7 2=q2 at *; generalize qyN x 7 3=q3 at *; generalize qyN x 7 4=q4 at *; generalize qyN x 7 5=q5 at *
 generalize x 0=x0 at *; generalize x 1=x1 at *; generalize x 2=x2 at *; generalize x 3=x3 at *; generalize x 4=x4 at *; generalize x 5=x5 at *; generalize x 6=x6 at *
 clear h
 omega
theorem Kh {l:List Int} {n:Int} {b r t:Prop} (hn:(l.length:Int)=n) (n0:3<=n) (n1:n<=1000) (hd:Dig l) (ht:Top l) (hv:4294967296<=val l) (hb:b) (hr:r) (h:t):nN l n b r t:=by
 have e:oLX l=n - 1:=by
  unfold oLX
  rw [hn,iw (n:=n - 2) (by omega) (by omega),iw (by omega) (by omega)]; omega
 have hc:¬ nQ l aV<0:=fun h=>by
  have:=(Kb hd GG ht GH (by omega) (by decide)).1 h
  rw [oZ] at this; omega
 refine ⟨rfl,⟨⟨⟨rfl,rfl⟩,by unfold Sm; omega,by unfold Sm; decide⟩,decide_eq_false hc⟩,⟨⟨by decide,by decide⟩,by decide,rfl⟩,⟨⟨hn,⟨hn,hb⟩,hn⟩,rfl,⟨rfl,⟨⟨by decide,by decide⟩,by decide,rfl⟩,⟨by decide,by decide⟩,by decide,rfl⟩,rfl⟩,⟨rfl,by omega,by omega⟩,⟨e,hr⟩,h⟩
theorem nG {l:List Int} {n:Int} (hn:(l.length:Int)=n) (n0:3<=n) (n1:n<=1000):oLX l=n - 1:=by
 unfold oLX
 rw [hn,iw (n:=n - 2) (by omega) (by omega),iw (by omega) (by omega)]; omega
theorem DN (l:List Int) (m:Nat) (w:Nat->Nat->Int):∀ k,(oQl l m w k).length=(oLX l).toNat
 | 0=>by simp [oQl]
 | k+1=>by simp [oQl,DN l m w k]
theorem ma {x:Nat->Int} {n:Nat} (h:∀ i,i<n->0<=x i/\x i<1000000000) (l:List Int) (i:Nat) (hi:i<n) (hl:l.length=n) (hz:l.getD i 0=x i):rO l i (dyN x i) (cyN x (i+1)) (cyN x i):=by
 have a:=PO h i (by omega)
 have b:=h i hi
 exact Zg (z:=x i) (by omega) (by omega) hz b.1 b.2 a.1 a.2 rfl rfl
theorem Zh {x:Nat->Int} (h:∀ i,i<6->0<=x i/\x i<1000000000):PQ (ovW x 6) (oX6 x):=
 ⟨ma h _ 0 (by decide) rfl rfl,ma h _ 1 (by decide) rfl rfl,ma h _ 2 (by decide) rfl rfl,ma h _ 3 (by decide) rfl rfl,ma h _ 4 (by decide) rfl rfl,ma h _ 5 (by decide) rfl rfl⟩
theorem Zi {x:Nat->Int} (h:∀ i,i<7->0<=x i/\x i<1000000000):GA (ovW x 7) (oX7 x):=
 ⟨ma h _ 0 (by decide) rfl rfl,ma h _ 1 (by decide) rfl rfl,ma h _ 2 (by decide) rfl rfl,ma h _ 3 (by decide) rfl rfl,ma h _ 4 (by decide) rfl rfl,ma h _ 5 (by decide) rfl rfl,ma h _ 6 (by decide) rfl rfl⟩
theorem o5 {x:Nat->Int} {n:Nat} (h:∀ i,i<n->0<=x i/\x i<1000000000) {l:List Int} (k:Nat) {A B j len:Int} (hA:A=rmN x n k / 1000000000) (hB:B=rmN x n k % 1000000000) (j0:0<=j) (j1:j<len) {q:List Int} (hl:j.toNat<q.length):
  Ze (rmN x n k / 1000000000) (rmN x n k % 1000000000) (dyN x (n - 2 - k)) (qyN x n k) (200000000*qyN x n k % 1000000000) (200000000*qyN x n k / 1000000000) (rmN x n (k+1) % 1000000000) (b1N x n k) (858993459*qyN x n k % 1000000000) (858993459*qyN x n k / 1000000000) (rmN x n (k+1) / 1000000000) (rmN x n k / 1000000000) (qyN x n k) A B j len q:=by
 have a:=BH h k
 have b:=Kg x (n - 2 - k)
 exact Zf a.1 a.2 b.1 b.2 hA hB j0 j1 hl
theorem rm0 {x:Nat->Int} {n:Nat} (h:∀ i,i<n->0<=x i/\x i<1000000000):cyN x n=rmN x n 0 / 1000000000/\dyN x (n - 1)=rmN x n 0 % 1000000000:=by
 have b:=Kg x (n - 1)
 have e:rmN x n 0=cyN x n*1000000000+dyN x (n - 1):=rfl
 omega
theorem Zj {x:Nat->Int} (h:∀ i,i<6->0<=x i/\x i<1000000000):PR (ovW x 6) (oX6 x):=by
 have e:=nG (l:=oX6 x) (n:=6) rfl (by decide) (by decide)
 have ql:∀ k,(oQl (oX6 x) 4 (ovW x 6) k).length=5:=fun k=>by rw [DN,e]; rfl
 obtain ⟨a0,b0⟩:=rm0 h
 refine ⟨o5 h (l:=oX6 x) 0 a0 b0 ?_ ?_ ?_,o5 h (l:=oX6 x) 1 rfl rfl ?_ ?_ ?_,o5 h (l:=oX6 x) 2 rfl rfl ?_ ?_ ?_,o5 h (l:=oX6 x) 3 rfl rfl ?_ ?_ ?_,o5 h (l:=oX6 x) 4 rfl rfl ?_ ?_ ?_⟩ <;> first|decide|(rw [e]; decide)|(rw [ql]; decide)
theorem Zk {x:Nat->Int} (h:∀ i,i<7->0<=x i/\x i<1000000000):GD (ovW x 7) (oX7 x):=by
 have e:=nG (l:=oX7 x) (n:=7) rfl (by decide) (by decide)
 have ql:∀ k,(oQl (oX7 x) 5 (ovW x 7) k).length=6:=fun k=>by rw [DN,e]; rfl
 obtain ⟨a0,b0⟩:=rm0 h
 refine ⟨o5 h (l:=oX7 x) 0 a0 b0 ?_ ?_ ?_,o5 h (l:=oX7 x) 1 rfl rfl ?_ ?_ ?_,o5 h (l:=oX7 x) 2 rfl rfl ?_ ?_ ?_,o5 h (l:=oX7 x) 3 rfl rfl ?_ ?_ ?_,o5 h (l:=oX7 x) 4 rfl rfl ?_ ?_ ?_,o5 h (l:=oX7 x) 5 rfl rfl ?_ ?_ ?_⟩ <;> first|decide|(rw [e]; decide)|(rw [ql]; decide)
theorem ql6 (x:Nat->Int):oQl (oX6 x) 4 (ovW x 6) 5=[qyN x 6 4,qyN x 6 3,qyN x 6 2,qyN x 6 1,qyN x 6 0]:=by
 have e:=nG (l:=oX6 x) (n:=6) rfl (by decide) (by decide)
 simp only [oQl,e]; rfl
theorem ql7 (x:Nat->Int):oQl (oX7 x) 5 (ovW x 7) 6=[qyN x 7 5,qyN x 7 4,qyN x 7 3,qyN x 7 2,qyN x 7 1,qyN x 7 0]:=by
 have e:=nG (l:=oX7 x) (n:=7) rfl (by decide) (by decide)
 simp only [oQl,e]; rfl
theorem DR {l:List Int} (h:∀ y∈l,∃ x n k,(∀ i,i<n->0<=x i/\x i<1000000000)/\y=qyN x n k):Dig l:=fun y hy=>by
 obtain ⟨x,n,k,hx,rfl⟩:=h y hy
 exact nO hx k
theorem dq6 {x:Nat->Int} (h:∀ i,i<6->0<=x i/\x i<1000000000) (hv:4294967296000000000000000000000000000000000000<=val (oX6 x)):
  qyN x 6 0≠0/\aa (val (oX6 x) / 4294967296).toNat=[qyN x 6 4,qyN x 6 3,qyN x 6 2,qyN x 6 1,qyN x 6 0]:=by
 have q:=aes h
 have b0:=nO h 0; have b1:=nO h 1; have b2:=nO h 2; have b3:=nO h 3; have b4:=nO h 4
 have nz:qyN x 6 0≠0:=fun z=>by
  simp only [val] at q
  rw [z] at q
  omega
 refine ⟨nz,?_⟩
 rw [q]
 refine fI (DR fun y hy=>?_) (.inr nz)
 simp only [List.mem_cons,List.not_mem_nil,or_false] at hy
 rcases hy with rfl|rfl|rfl|rfl|rfl <;> exact ⟨x,6,_,h,rfl⟩
theorem dq7 {x:Nat->Int} (h:∀ i,i<7->0<=x i/\x i<1000000000) (hv:4294967296000000000000000000000000000000000000<=val (oX7 x)):
  (qyN x 7 0≠0->aa (val (oX7 x) / 4294967296).toNat=[qyN x 7 5,qyN x 7 4,qyN x 7 3,qyN x 7 2,qyN x 7 1,qyN x 7 0]) /\
  (qyN x 7 0=0->qyN x 7 1≠0/\aa (val (oX7 x) / 4294967296).toNat=[qyN x 7 5,qyN x 7 4,qyN x 7 3,qyN x 7 2,qyN x 7 1]):=by
 have q:=aet h
 have b0:=nO h 0; have b1:=nO h 1; have b2:=nO h 2; have b3:=nO h 3; have b4:=nO h 4; have b5:=nO h 5
 refine ⟨fun nz=>?_,fun z=>?_⟩
 .rw [q]
  refine fI (DR fun y hy=>?_) (.inr nz)
  simp only [List.mem_cons,List.not_mem_nil,or_false] at hy
  rcases hy with rfl|rfl|rfl|rfl|rfl|rfl <;> exact ⟨x,7,_,h,rfl⟩
 .have nz:qyN x 7 1≠0:=fun z1=>by
   simp only [val] at q
   rw [z,z1] at q
   omega
  refine ⟨nz,?_⟩
  have e:val [qyN x 7 5,qyN x 7 4,qyN x 7 3,qyN x 7 2,qyN x 7 1,qyN x 7 0]=val [qyN x 7 5,qyN x 7 4,qyN x 7 3,qyN x 7 2,qyN x 7 1]:=by
   rw [z]; simp only [val]; omega
  rw [q,e]
  refine fI (DR fun y hy=>?_) (.inr nz)
  simp only [List.mem_cons,List.not_mem_nil,or_false] at hy
  rcases hy with rfl|rfl|rfl|rfl|rfl <;> exact ⟨x,7,_,h,rfl⟩
theorem GI {x:Nat->Int} {n:Nat} (h:∀ i,i<n->0<=x i/\x i<1000000000) (k:Nat):(0<=rmN x n k / 1000000000/\rmN x n k / 1000000000<1000000000)/\0<=rmN x n k % 1000000000/\rmN x n k % 1000000000<1000000000:=by
 have a:=BH h k
 omega
theorem Qp {a b:Int} (ha:0<=a/\a<1000000000) (hb:0<=b/\b<1000000000) (h:a≠0):tU2 a b:=
 ⟨⟨rfl,rfl,beq_eq_false_iff_ne.2 h⟩,bQ.2 ⟨hb,bQ.2 ⟨ha,fun _ h=>by cases h⟩⟩,Nat.le_of_ble_eq_true rfl,by decide,by decide⟩
theorem Qq {a b:Int} (ha:a=0) (hb:0<=b/\b<1000000000) (h:b≠0):tU1 a b:=
 ⟨⟨⟨⟨rfl,rfl,beq_iff_eq.2 ha⟩,rfl⟩,rfl,rfl,beq_eq_false_iff_ne.2 h⟩,bQ.2 ⟨hb,fun _ h=>by cases h⟩,Nat.le_of_ble_eq_true rfl,by decide,by decide⟩
theorem Qr {a b:Int} (ha:a=0) (hb:b=0):tU0 a b:=
 ⟨⟨⟨⟨rfl,rfl,beq_iff_eq.2 ha⟩,rfl⟩,⟨⟨rfl,rfl,beq_iff_eq.2 hb⟩,rfl⟩,rfl⟩,fun _ h=>(by cases h),by decide,by decide,by decide⟩
theorem Qs {x:Nat->Int} (nz:qyN x 6 0≠0):tQ0 (oX6 x) 4 (oQl (oX6 x) 4 (ovW x 6) 5):=by
 have e:=nG (l:=oX6 x) (n:=6) rfl (by decide) (by decide)
 refine ⟨e,e,⟨by decide,by rw [e]; decide⟩,by rw [ql6]; show (4:Nat)<5; decide,?_⟩
 rw [ql6]; exact beq_eq_false_iff_ne.2 nz
theorem Qt {x:Nat->Int} (nz:qyN x 7 0≠0):tQ0 (oX7 x) 5 (oQl (oX7 x) 5 (ovW x 7) 6):=by
 have e:=nG (l:=oX7 x) (n:=7) rfl (by decide) (by decide)
 refine ⟨e,e,⟨by decide,by rw [e]; decide⟩,by rw [ql7]; show (5:Nat)<6; decide,?_⟩
 rw [ql7]; exact beq_eq_false_iff_ne.2 nz
theorem Qu {x:Nat->Int} (z:qyN x 7 0=0) (nz:qyN x 7 1≠0):tQ1 (oX7 x) (oQl (oX7 x) 5 (ovW x 7) 6):=by
 have e:=nG (l:=oX7 x) (n:=7) rfl (by decide) (by decide)
 have e:oLX (oX7 x)=6:=e
 refine ⟨⟨⟨e,e,⟨by decide,by rw [e]; decide⟩,by rw [ql7]; show (5:Nat)<6; decide,?_⟩,e,by decide,by decide,by rw [e]; decide⟩,rfl,rfl,⟨by decide,by decide⟩,by rw [ql7]; show (4:Nat)<6; decide,?_⟩
 .rw [ql7]; exact beq_iff_eq.2 z
 .rw [ql7]; exact beq_eq_false_iff_ne.2 nz
end Go.Dg
namespace Go.Proofs.YtbiiiloimbjpaaaDoor.K
open Go Go.Eng Go.Dg
noncomputable section
def OvD (a b:List Int):Prop:=Dig a/\Top a/\(a.length=6\/a.length=7)/\4294967296000000000000000000000000000000000000<=val a/\b=aV
theorem L6 {x:Nat->Int} (hq:aa (val (oX6 x) / 4294967296).toNat=[qyN x 6 4,qyN x 6 3,qyN x 6 2,qyN x 6 1,qyN x 6 0]):
  ((0:Int)<=0/\0<=oLX (oX6 x)/\0+oLX (oX6 x)<=((oQl (oX6 x) 4 (ovW x 6) 5).length:Int))/\List.take (oLX (oX6 x)).toNat (List.drop (Int.toNat 0) (oQl (oX6 x) 4 (ovW x 6) 5))=aa (val (oX6 x) / val aV).toNat:=by
 have e:=nG (l:=oX6 x) (n:=6) rfl (by decide) (by decide)
 have e:oLX (oX6 x)=5:=e
 rw [ql6,e,oZ,hq]
 exact ⟨⟨Int.le_refl _,by decide,Int.le_refl _⟩,rfl⟩
theorem L8 {x:Nat->Int} (hq:aa (val (oX7 x) / 4294967296).toNat=[qyN x 7 5,qyN x 7 4,qyN x 7 3,qyN x 7 2,qyN x 7 1,qyN x 7 0]):
  ((0:Int)<=0/\0<=oLX (oX7 x)/\0+oLX (oX7 x)<=((oQl (oX7 x) 5 (ovW x 7) 6).length:Int))/\List.take (oLX (oX7 x)).toNat (List.drop (Int.toNat 0) (oQl (oX7 x) 5 (ovW x 7) 6))=aa (val (oX7 x) / val aV).toNat:=by
 have e:=nG (l:=oX7 x) (n:=7) rfl (by decide) (by decide)
 have e:oLX (oX7 x)=6:=e
 rw [ql7,e,oZ,hq]
 exact ⟨⟨Int.le_refl _,by decide,Int.le_refl _⟩,rfl⟩
theorem L9 {x:Nat->Int} (hq:aa (val (oX7 x) / 4294967296).toNat=[qyN x 7 5,qyN x 7 4,qyN x 7 3,qyN x 7 2,qyN x 7 1]):
  ((0:Int)<=0+0/\(0:Int)<=5 - 0/\(0+0+(5 - 0):Int)<=((oQl (oX7 x) 5 (ovW x 7) 6).length:Int))/\List.take (5 - 0:Int).toNat (List.drop (Int.toNat (0+0)) (oQl (oX7 x) 5 (ovW x 7) 6))=aa (val (oX7 x) / val aV).toNat:=by
 rw [ql7,oZ,hq]
 exact ⟨⟨by decide,by decide,by show (5:Int)<=((6:Nat):Int); decide⟩,rfl⟩
theorem Mc {a b:List Int} (h:OvD a b):XQ Tryd.prog (fun _=>none) hG0 74 .i64 [.li,.li] [] [a,b] (.tu [.li false (aa (val a / val b).toNat),.any]):=by
  obtain ⟨hd,ht,hl,hv,rfl⟩:=h
  rcases hl with hl|hl
  .obtain ⟨x,rfl⟩:∃ x:Nat->Int,a=oX6 x:=⟨fun i=>a.getD i 0,by
    match a,hl with
    | [a0,a1,a2,a3,a4,a5],_=>rfl⟩
   have h:∀ i,i<6->0<=x i/\x i<1000000000:=fun i hi=>by
    refine hd _ ?_
    match i,hi with
    | 0,_|1,_|2,_|3,_|4,_|5,_=>simp [oX6]
   have hv0:4294967296<=val (oX6 x):=by omega
   obtain ⟨ra,rb⟩:=GI h 5
   have pre:∀ {t:Prop},t->nN (oX6 x) 6 (PQ (ovW x 6) (oX6 x)) (PR (ovW x 6) (oX6 x)) t:=fun q=>Kh rfl (by decide) (by decide) hd ht hv0 (Zh h) (Zj h) q
   obtain ⟨nz,hq⟩:=dq6 h hv
   by_cases z9:rmN x 6 5 / 1000000000=0
   .by_cases z5:rmN x 6 5 % 1000000000=0
    .exact ⟨PT (ovW x 6),300,zB (oX6 x) aV,_,_,_,_,_,PU _,rfl,rfl,⟨rfl,rfl,trivial⟩,acp (ovW x 6) x,rfl,pre ⟨Qr z9 z5,Qs nz⟩,rfl,rfl,(L6 hq).1,(L6 hq).2⟩
    .exact ⟨PX (ovW x 6),300,zB (oX6 x) aV,_,_,_,_,_,PY _,rfl,rfl,⟨rfl,rfl,trivial⟩,acr (ovW x 6) x,rfl,pre ⟨Qq z9 rb z5,Qs nz⟩,rfl,rfl,(L6 hq).1,(L6 hq).2⟩
   .exact ⟨P5 (ovW x 6),300,zB (oX6 x) aV,_,_,_,_,_,P6 _,rfl,rfl,⟨rfl,rfl,trivial⟩,acs (ovW x 6) x,rfl,pre ⟨Qp ra rb z9,Qs nz⟩,rfl,rfl,(L6 hq).1,(L6 hq).2⟩
  .obtain ⟨x,rfl⟩:∃ x:Nat->Int,a=oX7 x:=⟨fun i=>a.getD i 0,by
    match a,hl with
    | [a0,a1,a2,a3,a4,a5,a6],_=>rfl⟩
   have h:∀ i,i<7->0<=x i/\x i<1000000000:=fun i hi=>by
    refine hd _ ?_
    match i,hi with
    | 0,_|1,_|2,_|3,_|4,_|5,_|6,_=>simp [oX7]
   have hv0:4294967296<=val (oX7 x):=by omega
   obtain ⟨ra,rb⟩:=GI h 6
   have pre:∀ {t:Prop},t->nN (oX7 x) 7 (GA (ovW x 7) (oX7 x)) (GD (ovW x 7) (oX7 x)) t:=fun q=>Kh rfl (by decide) (by decide) hd ht hv0 (Zi h) (Zk h) q
   obtain ⟨d1,d0⟩:=dq7 h hv
   by_cases nz:qyN x 7 0=0
   .obtain ⟨n1,hq⟩:=d0 nz
    by_cases z9:rmN x 7 6 / 1000000000=0
    .by_cases z5:rmN x 7 6 % 1000000000=0
     .exact ⟨Qb (ovW x 7),300,zB (oX7 x) aV,_,_,_,_,_,Qc _,rfl,rfl,⟨rfl,rfl,trivial⟩,acv (ovW x 7) x,rfl,pre ⟨Qr z9 z5,Qu nz n1⟩,rfl,rfl,(L9 hq).1,(L9 hq).2⟩
     .exact ⟨Qh (ovW x 7),300,zB (oX7 x) aV,_,_,_,_,_,Qi _,rfl,rfl,⟨rfl,rfl,trivial⟩,acx (ovW x 7) x,rfl,pre ⟨Qq z9 rb z5,Qu nz n1⟩,rfl,rfl,(L9 hq).1,(L9 hq).2⟩
    .exact ⟨Qn (ovW x 7),300,zB (oX7 x) aV,_,_,_,_,_,Qo _,rfl,rfl,⟨rfl,rfl,trivial⟩,acz (ovW x 7) x,rfl,pre ⟨Qp ra rb z9,Qu nz n1⟩,rfl,rfl,(L9 hq).1,(L9 hq).2⟩
   .have hq:=d1 nz
    by_cases z9:rmN x 7 6 / 1000000000=0
    .by_cases z5:rmN x 7 6 % 1000000000=0
     .exact ⟨P8 (ovW x 7),300,zB (oX7 x) aV,_,_,_,_,_,P9 _,rfl,rfl,⟨rfl,rfl,trivial⟩,acu (ovW x 7) x,rfl,pre ⟨Qr z9 z5,Qt nz⟩,rfl,rfl,(L8 hq).1,(L8 hq).2⟩
     .exact ⟨Qe (ovW x 7),300,zB (oX7 x) aV,_,_,_,_,_,Qf _,rfl,rfl,⟨rfl,rfl,trivial⟩,acw (ovW x 7) x,rfl,pre ⟨Qq z9 rb z5,Qt nz⟩,rfl,rfl,(L8 hq).1,(L8 hq).2⟩
    .exact ⟨Qk (ovW x 7),300,zB (oX7 x) aV,_,_,_,_,_,Ql _,rfl,rfl,⟨rfl,rfl,trivial⟩,acy (ovW x 7) x,rfl,pre ⟨Qp ra rb z9,Qt nz⟩,rfl,rfl,(L8 hq).1,(L8 hq).2⟩
def OvG (a b:List Int):Prop:=OvC a b\/OvD a b
def Zl:List Nu->List (List Int)->Option (Prop×To)
 | [],[a,b]=>some ((Dig a/\Dig b/\Top a/\Top b/\a.length<=500000/\b.length=1/\0<val b/\val b<=val a)\/OvG a b,.tu [.li false (aa (val a / val b).toNat),.any])
 | _,_=>none
theorem Qv:NOk Tryd.prog (fun _=>none) hG0 74 (eO hG0 .i64 [.li,.li] Zl):=by
 refine fG (fun xs ys p t e h=>?_) ⟨_,Tryd.func74,rfl⟩
 unfold Zl at e
 split at e
 .rename_i a b
  cases e
  rcases h with h|h|h
  .exact BG (.inl h)
  .exact BG (.inr h)
  .exact Mc h
 .cases e
def tZ4:List (FuncId×fO):=(74,eO hG0 .i64 [.li,.li] Zl) :: (71,eO hG0 .i64 [.li] YX) :: tZ3
theorem Zm:∀ x∈tZ4,NOk Tryd.prog (fun _=>none) hG0 x.1 x.2:=by
 intro x hx
 rcases List.mem_cons.1 hx with rfl|hx
 .exact Qv
 rcases List.mem_cons.1 hx with rfl|hx
 .exact YY
 exact PL x hx
noncomputable def cZ4:Ctx:=mkN Tryd.prog (fun _=>none) hG0 tZ4 [] kV
theorem Zn:CtxOk cZ4:=oO prog_ok (oL _) Zm (fun x h=>by cases h)
noncomputable def cQu (l:List (Nat×Bool)):Ctx:=gG cZ4 (hZ (l.map fun x=>(x.1,match x.2 with|true=>.bool false true|false=>.bool false false)))
theorem DT (l:List (Nat×Bool)):CtxOk (cQu l):=dh Zn _
def DU (m d:Int):List AV:=[.int true .i64 m,.int true .i64 d]
def quY (m d:Int):List Int:=aa (val (aa (val (aa RGT.toNat)*val (aa m.toNat)).toNat) / val (aa d.toNat)).toNat
def quS (m d:Int):List Int:=aa (seR (quY m d) none).toNat
def Ki (m d:Int):Prop:=(((m==0)=false/\(m==d)=false/\(IntKind.i64.wrap ((3:Int)*m)==d)=false)/\((Dig [(0:Int),(0:Int),(0:Int),(0:Int),(0:Int),(1:Int)]/\[(0:Int),(0:Int),(0:Int),(0:Int),(0:Int),(1:Int)].length<=(100:Nat)/\val [(0:Int),(0:Int),(0:Int),(0:Int),(0:Int),(1:Int)]=PP)/\((0:Int)<m/\m<1000000000000000000)/\(((↑(aa RGT.toNat).length:Int)=(↑(aa RGT.toNat).length:Int)/\(↑(aa m.toNat).length:Int)=(↑(aa m.toNat).length:Int))/\Dig (aa RGT.toNat)/\Dig (aa m.toNat)/\(aa RGT.toNat).length+(aa m.toNat).length<=(500000:Nat))/\((0:Int)<d/\d<1000000000000000000)/\((↑(aa (val (aa RGT.toNat)*val (aa m.toNat)).toNat).length:Int)=(↑(aa (val (aa RGT.toNat)*val (aa m.toNat)).toNat).length:Int)/\(↑(aa d.toNat).length:Int)=(↑(aa d.toNat).length:Int))/\(Dig (aa (val (aa RGT.toNat)*val (aa m.toNat)).toNat)/\Dig (aa d.toNat)/\Top (aa (val (aa RGT.toNat)*val (aa m.toNat)).toNat)/\Top (aa d.toNat)/\(aa (val (aa RGT.toNat)*val (aa m.toNat)).toNat).length<=(500000:Nat)/\(aa d.toNat).length=(1:Nat)/\(0:Int)<val (aa d.toNat)/\val (aa d.toNat)<=val (aa (val (aa RGT.toNat)*val (aa m.toNat)).toNat)\/OvG (aa (val (aa RGT.toNat)*val (aa m.toNat)).toNat) (aa d.toNat)))/\((↑(quY m d).length:Int)=(↑(quY m d).length:Int)/\(5:Int)=5/\SeD (quY m d))/\(((↑(quS m d).length:Int)=(↑(quS m d).length:Int)/\Sm (quS m d)/\Sm [(100000000:Int)])/\decide (nQ (quS m d) [(100000000:Int)]<=0)=false)/\(((↑(quS m d).length:Int)=(↑(quS m d).length:Int)/\Dig (quS m d)/\Dig [(100000000:Int)]/\(0:Nat)<(quS m d).length/\(quS m d).length<=(500000:Nat)/\[(100000000:Int)].length<=(quS m d).length/\val [(100000000:Int)]<=val (quS m d))/\(↑(aa (val (quS m d) - val [(100000000:Int)]).toNat).length:Int)=(↑(aa (val (quS m d) - val [(100000000:Int)]).toNat).length:Int)/\(5:Int)=5/\DwD (aa (val (quS m d) - val [(100000000:Int)]).toNat))/\((↑(quS m d).length:Int)=(↑(quS m d).length:Int)/\Dig (quS m d)/\Dig [(100000000:Int)]/\((0:Nat)<(quS m d).length\/(0:Nat) < [(100000000:Int)].length)/\(quS m d).length<=(400000:Nat)/\[(100000000:Int)].length<=(400000:Nat))/\((↑(aa (val (quS m d)+val [(100000000:Int)]).toNat).length:Int)=(↑(aa (val (quS m d)+val [(100000000:Int)]).toNat).length:Int)/\(5:Int)=5/\DwD (aa (val (quS m d)+val [(100000000:Int)]).toNat))/\(val (aa (val (quS m d)+val [(100000000:Int)]).toNat)*4294967296 / PP != val (aa (val (quS m d) - val [(100000000:Int)]).toNat)*4294967296 / PP)=false)
def IX (m d:Int):AV:=(AV.agg [AV.int true IntKind.i64 (val (aa (val (quS m d) - val [(100000000:Int)]).toNat)*4294967296 / PP),AV.int true IntKind.i64 (IntKind.i64.wrap (val (aa (val (quS m d) - val [(100000000:Int)]).toNat)*4294967296 / PP+1))])
def Zo (m d:Int):Hp:=⟨[],(0:Nat),70⟩
theorem aeu (m d:Int):(run (cQu [(14,false),(19,false),(25,false),(55,false),(67,false)]) 300).call 57 (DU m d) hG0=some ⟨.p (Ki m d),[⟨.tt,IX m d,Zo m d⟩]⟩:=by kernel_rfl
def VG (m d:Int):Prop:=((m==0)=true)
def Zp (m d:Int):AV:=(AV.agg [AV.int false IntKind.i64 (Int.ofNat (0:Nat)),AV.int false IntKind.i64 (Int.ofNat (0:Nat))])
def Zq (m d:Int):Hp:=⟨[],(0:Nat),9⟩
theorem aev (m d:Int):(run (cQu [(14,true)]) 300).call 57 (DU m d) hG0=some ⟨.p (VG m d),[⟨.tt,Zp m d,Zq m d⟩]⟩:=by kernel_rfl
def VH (m d:Int):Prop:=((m==0)=false/\(m==d)=true)
def Zr (m d:Int):AV:=(AV.agg [AV.int false IntKind.i64 (Int.ofNat 4294967296),AV.int false IntKind.i64 (Int.ofNat 4294967296)])
def Zt (m d:Int):Hp:=⟨[],(0:Nat),13⟩
theorem aew (m d:Int):(run (cQu [(14,false),(19,true)]) 300).call 57 (DU m d) hG0=some ⟨.p (VH m d),[⟨.tt,Zr m d,Zt m d⟩]⟩:=by kernel_rfl
def VI (m d:Int):Prop:=((m==0)=false/\(m==d)=false/\(IntKind.i64.wrap ((3:Int)*m)==d)=true)
def Zu (m d:Int):AV:=(AV.agg [AV.int false IntKind.i64 (Int.ofNat 2147483648),AV.int false IntKind.i64 (Int.ofNat 2147483648)])
def Zv (m d:Int):Hp:=⟨[],(0:Nat),18⟩
theorem aex (m d:Int):(run (cQu [(14,false),(19,false),(25,true)]) 300).call 57 (DU m d) hG0=some ⟨.p (VI m d),[⟨.tt,Zu m d,Zv m d⟩]⟩:=by kernel_rfl
theorem Qw:Dig [0,0,0,0,0,1]:=fun x hx=>by simp at hx; omega
theorem acA {m d:Int} (h0:0<m) (h1:m<=d):0<=bA m d/\bA m d<=1700000000000000000000000000000000000000000000:=by
 have hr:0<RG:=by decide
 refine ⟨Int.ediv_nonneg (Int.mul_nonneg (by omega) (by omega)) (by omega),Int.le_trans (b:=RG) (Int.ediv_le_of_le_mul (by omega) (Int.mul_le_mul_of_nonneg_left h1 (by omega))) (by decide)⟩
theorem DV {m d:Int} (h0:0<m) (h1:m<=d):quY m d=aa (bA m d).toNat/\val (quY m d)=bA m d:=by
 have e1:val (aa RGT.toNat)=RG:=dv (by decide)
 have e2:val (aa m.toNat)=m:=dv (by omega)
 have e3:val (aa d.toNat)=d:=dv (by omega)
 have e4:val (aa (RG*m).toNat)=RG*m:=dv (Int.mul_nonneg (by decide) (by omega))
 have e:quY m d=aa (bA m d).toNat:=by
  unfold quY
  rw [e1,e2,e4,e3]; rfl
 exact ⟨e,by rw [e]; exact dv (acA h0 h1).1⟩
theorem VJ {m d:Int} (h0:0<m) (h1:m<=d) (hs:0<=l9 m d):quS m d=aa (l9 m d).toNat/\val (quS m d)=l9 m d:=by
 obtain ⟨e1,e2⟩:=DV h0 h1
 have e:quS m d=aa (l9 m d).toNat:=by
  unfold quS
  show aa (lH (rM (quY m d)) 200 2 (val (quY m d)) (val (quY m d))).toNat=_
  unfold rM
  rw [e2]; rfl
 exact ⟨e,by rw [e]; exact dv hs⟩
theorem acB {m d:Int} (h0:0<m) (h1:m<=d) (g:SinG m d):SeD (quY m d):=by
 obtain ⟨e1,e2⟩:=DV h0 h1
 obtain ⟨y0,y1⟩:=acA h0 h1
 refine ⟨by rw [e1]; exact aI _,?_,by rw [e2]; exact y1,?_⟩
 .rw [e1]
  exact Nat.le_trans (jH y0 (Int.le_trans y1 (by decide))) (by decide)
 .have:=g.t
  unfold seT rM
  rw [e2]; exact this
theorem Qx {v:Int} (h0:0<=v) (h1:v<=3*PP):DwD (aa v.toNat):=by
 have p:=gm
 refine ⟨aI _,Nat.le_trans (jH h0 (by omega)) (by decide),?_⟩
 rw [Py,dv h0]
 refine Int.lt_of_le_of_lt (b:=12884901888) (Int.ediv_le_of_le_mul p ?_) (by decide)
 have:(12884901888:Int)*PP=3*PP*4294967296:=by decide
 rw [this]
 exact Int.mul_le_mul_of_nonneg_right h1 (by decide)
theorem Qy {m d:Int} (g:SinG m d):0<=kL m d/\kL m d<=12884901888:=by
 have p:=gm
 have:=g.far
 have:=g.hi
 refine ⟨Int.ediv_nonneg (Int.mul_nonneg (by omega) (by decide)) (by omega),Int.ediv_le_of_le_mul p ?_⟩
 have e:(12884901888:Int)*PP=3*PP*4294967296:=by decide
 rw [e]
 exact Int.mul_le_mul_of_nonneg_right (by omega) (by decide)
end
end Go.Proofs.YtbiiiloimbjpaaaDoor.K
namespace Go.Ln
def aB (w:Nat) (f:Nat->Nat):Nat->Nat
 | 0=>0
 | n+1=>aB w f n+f n*2 ^ (w*n)
theorem j5 (w:Nat) (f g:Nat->Nat) (n:Nat):aB w f n+aB w g n=aB w (fun i=>f i+g i) n:=by
 induction n with
 | zero=>rfl
 | succ n ih=>simp only [aB]; rw [<- ih]; grind
theorem iZ (w k:Nat) (f:Nat->Nat) (n:Nat):k*aB w f n=aB w (fun i=>k*f i) n:=by
 induction n with
 | zero=>rfl
 | succ n ih=>simp only [aB]; rw [<- ih]; grind
theorem o6 {w:Nat} {f:Nat->Nat} {n:Nat} (h:∀ i,i<n->f i<2 ^ w):aB w f n<2 ^ (w*n):=by
 induction n with
 | zero=>simp [aB]
 | succ n ih=>
  have h1:=ih (fun i hi=>h i (by omega))
  have h2:=h n (by omega)
  simp only [aB]
  have e:2 ^ (w*(n+1))=2 ^ w*2 ^ (w*n):=by rw [Nat.mul_succ,Nat.pow_add,Nat.mul_comm]
  rw [e]
  have h3:(f n+1)*2 ^ (w*n)<=2 ^ w*2 ^ (w*n):=Nat.mul_le_mul_right _ h2
  rw [Nat.add_mul] at h3
  omega
theorem gY {w:Nat} {f g:Nat->Nat} {n:Nat} (h:∀ i,i<n->f i=g i):aB w f n=aB w g n:=by
 induction n with
 | zero=>rfl
 | succ n ih=>
  simp only [aB]
  rw [ih (fun i hi=>h i (by omega)),h n (by omega)]
theorem Md {w:Nat} {f g:Nat->Nat} {n:Nat} (hf:∀ i,i<n->f i<2 ^ w) (hg:∀ i,i<n->g i<2 ^ w) (h:aB w f n=aB w g n):∀ i,i<n->f i=g i:=by
 induction n with
 | zero=>intro i hi; omega
 | succ n ih=>
  have a:=o6 (fun i hi=>hf i (show i<n+1 by omega):∀ i,i<n->f i<2 ^ w)
  have b:=o6 (fun i hi=>hg i (show i<n+1 by omega):∀ i,i<n->g i<2 ^ w)
  simp only [aB] at h
  have p:0<2 ^ (w*n):=Nat.two_pow_pos _
  have q:f n=g n:=by
   have h1:=congrArg (· / 2 ^ (w*n)) h
   simp only [Nat.add_mul_div_right _ _ p] at h1
   rw [Nat.div_eq_of_lt a,Nat.div_eq_of_lt b] at h1
   omega
  rw [q] at h
  intro i hi
  rcases Nat.lt_or_ge i n with h2|h2
  .exact ih (fun j hj=>hf j (by omega)) (fun j hj=>hg j (by omega)) (by omega) i h2
  .have:i=n:=by omega
   subst this; exact q
theorem Me {k a b c d:Nat} (ha:a<2 ^ k) (hc:c<2 ^ k):(a+b*2 ^ k) &&& (c+d*2 ^ k)=(a &&& c)+(b &&& d)*2 ^ k:=by
 apply Nat.eq_of_testBit_eq
 intro i
 have e:∀ x y:Nat,x+y*2 ^ k=2 ^ k*y+x:=fun x y=>by rw [Nat.add_comm,Nat.mul_comm]
 rw [Nat.testBit_and,e,e,e,Nat.testBit_two_pow_mul_add _ ha,Nat.testBit_two_pow_mul_add _ hc,Nat.testBit_two_pow_mul_add _ (Nat.and_lt_two_pow _ hc)]
 split
 .rw [Nat.testBit_and]
 .rw [Nat.testBit_and]
theorem BI {w:Nat} {f g:Nat->Nat} {n:Nat} (hf:∀ i,i<n->f i<2 ^ w) (hg:∀ i,i<n->g i<2 ^ w):aB w f n &&& aB w g n=aB w (fun i=>f i &&& g i) n:=by
 induction n with
 | zero=>simp [aB]
 | succ n ih=>
  simp only [aB]
  rw [Me (o6 fun i hi=>hf i (by omega)) (o6 fun i hi=>hg i (by omega)),ih (fun i hi=>hf i (by omega)) (fun i hi=>hg i (by omega))]
def far (w n v e:Nat) (X E M K H:Nat):Bool:=Nat.beq ((((X+E) &&& M)+K) &&& H) H
theorem Qz {t v:Nat} (h:t<2 ^ (v+1)) (hb:t &&& 2 ^ v=2 ^ v):2 ^ v<=t:=by
 rw [<- hb]; exact Nat.and_le_left
theorem Zw {w n v e:Nat} {x:Nat->Nat} {X E M K H:Nat} (hX:X=aB w x n) (hE:E=aB w (fun _=>e) n) (hM:M=aB w (fun _=>2 ^ v - 1) n) (hK:K=aB w (fun _=>2 ^ v - 2*e) n) (hH:H=aB w (fun _=>2 ^ v) n)
  (hx:∀ i,i<n->x i+e<2 ^ w) (hv:v+1<w) (he:0<e) (h:far w n v e X E M K H=true):∀ i,i<n->2*e<=(x i+e) % 2 ^ v:=by
 have h:=Nat.eq_of_beq_eq_true h
 have hw:2 ^ (v+1)<2 ^ w:=Nat.pow_lt_pow_right (by decide) hv
 have e2:2 ^ (v+1)=2*2 ^ v:=by rw [Nat.pow_succ,Nat.mul_comm]
 have p:0<2 ^ v:=Nat.two_pow_pos v
 subst hX hE hM hK hH
 rw [j5,BI hx (fun i _=>by omega)] at h
 have em:∀ i,(x i+e) &&& (2 ^ v - 1)=(x i+e) % 2 ^ v:=fun i=>Nat.and_two_pow_sub_one_eq_mod ..
 have hz:∀ i,(x i+e) % 2 ^ v<2 ^ v:=fun i=>Nat.mod_lt _ p
 rw [gY (g:=fun i=>(x i+e) % 2 ^ v) (fun i _=>em i),j5,BI (fun i _=>by have:=hz i; omega) (fun i _=>by omega)] at h
 have k:=Md (fun i _=>by
  have:((x i+e) % 2 ^ v+(2 ^ v - 2*e)) &&& 2 ^ v<=2 ^ v:=Nat.and_le_right
  omega) (fun i _=>by omega) h
 intro i hi
 have h1:=Qz (t:=(x i+e) % 2 ^ v+(2 ^ v - 2*e)) (by have:=hz i; omega) (k i hi)
 omega
theorem lI {w:Nat} (hw:0<w) {f:Nat->Nat} {n:Nat} (hf:∀ i,i<n->f i<2 ^ w) (i:Nat):(aB w f n).testBit i=(decide (i<w*n)&&(f (i / w)).testBit (i % w)):=by
 induction n with
 | zero=>simp [aB]
 | succ n ih=>
  have h1:=o6 (fun j hj=>hf j (by omega):∀ j,j<n->f j<2 ^ w)
  simp only [aB]
  rw [Nat.add_comm,Nat.mul_comm,Nat.testBit_two_pow_mul_add _ h1,ih (fun j hj=>hf j (by omega))]
  by_cases h:i<w*n
  .have h2:i<w*(n+1):=by rw [Nat.mul_succ]; omega
   simp [h,h2]
  .rw [if_neg h]
   by_cases h2:i<w*(n+1)
   .have e1:i / w=n:=by
     apply Nat.div_eq_of_lt_le
     .rw [Nat.mul_comm]; omega
     .rw [Nat.mul_comm]; exact h2
    have e2:i % w=i - w*n:=by
     have:=Nat.div_add_mod i w
     rw [e1] at this
     omega
    rw [e1,e2]
    simp [h2]
   .have h3:w<=i - w*n:=by rw [Nat.mul_succ] at h2; omega
    have h4:(f n).testBit (i - w*n)=false:=Nat.testBit_lt_two_pow (Nat.lt_of_lt_of_le (hf n (by omega)) (Nat.pow_le_pow_right (by decide) h3))
    rw [h4]
    simp [h2]
theorem BJ {w p:Nat} (hp:p<=w) (hw:0<w) {f:Nat->Nat} {n:Nat} (hf:∀ i,i<n->f i<2 ^ w):(aB w f n >>> p) &&& aB w (fun _=>2 ^ (w - p) - 1) n=aB w (fun i=>f i / 2 ^ p) n:=by
 have hd:∀ i,i<n->f i / 2 ^ p<2 ^ (w - p):=fun i hi=>by
  apply Nat.div_lt_of_lt_mul
  rw [<- Nat.pow_add,show p+(w - p)=w by omega]
  exact hf i hi
 have hle:2 ^ (w - p)<=2 ^ w:=Nat.pow_le_pow_right (by decide) (by omega)
 have pos:0<2 ^ (w - p):=Nat.two_pow_pos _
 apply Nat.eq_of_testBit_eq
 intro i
 rw [Nat.testBit_and,Nat.testBit_shiftRight,lI hw hf,lI hw (fun _ _=>by omega),lI hw (fun j hj=>Nat.lt_of_lt_of_le (hd j hj) hle)]
 have hm:=Nat.mod_lt i hw
 have hdm:=Nat.div_add_mod i w
 by_cases h:i<w*n
 .have hq:i / w<n:=Nat.div_lt_of_lt_mul h
  rw [Nat.testBit_two_pow_sub_one]
  by_cases h2:i % w<w - p
  .have e1:(p+i) / w=i / w:=by
    apply Nat.div_eq_of_lt_le
    .rw [Nat.mul_comm]; omega
    .rw [Nat.add_mul,Nat.mul_comm (i / w) w]; omega
   have e2:(p+i) % w=p+i % w:=by
    have:=Nat.div_add_mod (p+i) w
    rw [e1] at this
    omega
   have e3:p+i<w*n:=by
    have h3:w*(i / w+1)<=w*n:=Nat.mul_le_mul_left w hq
    rw [Nat.mul_add] at h3
    omega
   rw [e1,e2,Nat.testBit_div_two_pow,Nat.add_comm (i % w) p]
   simp [h,h2,e3]
  .have h4:(f (i / w) / 2 ^ p).testBit (i % w)=false:=Nat.testBit_lt_two_pow (Nat.lt_of_lt_of_le (hd _ hq) (Nat.pow_le_pow_right (by decide) (by omega)))
   rw [h4]
   simp [h,h2]
 .simp [h]
theorem BK (w:Nat) (f:Nat->Nat) (m n:Nat):aB w f (m+n)=aB w f m+aB w (fun i=>f (m+i)) n*2 ^ (w*m):=by
 induction n with
 | zero=>simp [aB]
 | succ n ih=>
  rw [<- Nat.add_assoc]
  simp only [aB]
  rw [ih,Nat.mul_add,Nat.pow_add]
  grind
theorem Mf {w:Nat} {f g:Nat->Nat} {n:Nat} (h:∀ i,i<n->g i<=f i):aB w f n - aB w g n=aB w (fun i=>f i - g i) n:=by
 have e:aB w (fun i=>f i - g i) n+aB w g n=aB w f n:=by
  rw [j5]
  exact gY fun i hi=>by have:=h i hi; omega
 omega
def uE (w:Nat):Nat->Nat
 | 0=>1
 | k+1=>uE w k+uE w k*2 ^ (w*2 ^ k)
theorem xy (w:Nat):∀ k,uE w k=aB w (fun _=>1) (2 ^ k)
 | 0=>by simp [uE,aB]
 | k+1=>by rw [uE,xy w k,Nat.pow_succ,Nat.mul_comm (2 ^ k) 2,Nat.two_mul,BK]
theorem o7 (w c:Nat) (n:Nat):aB w (fun _=>c) n=c*aB w (fun _=>1) n:=by
 rw [iZ]; simp
theorem BL (w c j:Nat):∀ n,aB w (fun i=>if i=j then c else 0) n=if j<n then c*2 ^ (w*j) else 0
 | 0=>by simp [aB]
 | n+1=>by
  simp only [aB]
  rw [BL w c j n]
  by_cases h:j<n
  .simp [h,show j<n+1 by omega,show n≠j by omega]
  .by_cases h2:n=j
   .subst h2; simp
   .simp [h,h2,show ¬ j<n+1 by omega]
end Go.Ln
namespace Go.Sn
def sum (f:Nat->Rat):Nat->Rat
 | 0=>0
 | n+1=>sum f n+f n
theorem kY (f g:Nat->Rat) (n:Nat):sum (fun i=>f i+g i) n=sum f n+sum g n:=by
 induction n with
 | zero=>simp only [sum]; grind
 | succ n ih=>simp only [sum]; rw [ih]; grind
theorem DW (f g:Nat->Rat) (n:Nat):sum (fun i=>f i - g i) n=sum f n - sum g n:=by
 induction n with
 | zero=>simp only [sum]; grind
 | succ n ih=>simp only [sum]; rw [ih]; grind
theorem dx (k:Rat) (f:Nat->Rat) (n:Nat):sum (fun i=>k*f i) n=k*sum f n:=by
 induction n with
 | zero=>simp [sum]
 | succ n ih=>simp only [sum]; rw [ih]; grind
theorem dB {f g:Nat->Rat} {n:Nat} (h:∀ i,i<n->f i=g i):sum f n=sum g n:=by
 induction n with
 | zero=>rfl
 | succ n ih=>simp only [sum]; rw [ih (fun i hi=>h i (by omega)),h n (by omega)]
theorem Mg (f:Nat->Rat) (n:Nat):sum f (n+1)=f 0+sum (fun i=>f (i+1)) n:=by
 induction n with
 | zero=>simp only [sum]; grind
 | succ n ih=>rw [sum,ih]; simp only [sum]; grind
theorem vP {f g:Nat->Rat} {n:Nat} (h:∀ i,i<n->f i<=g i):sum f n<=sum g n:=by
 induction n with
 | zero=>simp [sum]
 | succ n ih=>
  have h1:=ih (fun i hi=>h i (by omega))
  have h2:=h n (by omega)
  simp only [sum]; grind
theorem IY {f:Nat->Rat} {n:Nat} (h:∀ i,i<n->0<=f i):0<=sum f n:=by
 induction n with
 | zero=>simp [sum]
 | succ n ih=>
  have h1:=ih (fun i hi=>h i (by omega))
  have h2:=h n (by omega)
  simp only [sum]; grind
theorem o8 {f:Nat->Rat} {m n:Nat} (hmn:m<=n) (h:∀ i,i<n->0<=f i):sum f m<=sum f n:=by
 induction n with
 | zero=>
  have:m=0:=by omega
  subst this; simp [sum]
 | succ n ih=>
  rcases Nat.lt_or_ge n m with h1|h1
  .have:m=n+1:=by omega
   subst this; grind
  .have h2:=ih h1 (fun i hi=>h i (by omega))
   have h3:=h n (by omega)
   simp only [sum]; grind
theorem zR {f g:Nat->Rat} {m n:Nat} (hmn:m<=n) (h:∀ i,i<n->-g i<=f i/\f i<=g i):-(sum g n - sum g m)<=sum f n - sum f m/\sum f n - sum f m<=sum g n - sum g m:=by
 induction n with
 | zero=>
  have:m=0:=by omega
  subst this; grind
 | succ n ih=>
  rcases Nat.lt_or_ge n m with h1|h1
  .have:m=n+1:=by omega
   subst this; grind
  .obtain ⟨h2,h3⟩:=ih h1 (fun i hi=>h i (by omega))
   obtain ⟨h4,h5⟩:=h n (by omega)
   simp only [sum]; grind
def e (x:Rat):Nat->Rat
 | 0=>1
 | n+1=>e x n*x / ((n+1:Nat):Rat)
theorem mf (n:Nat):(0:Rat)<((n+1:Nat):Rat):=by exact_mod_cast Nat.succ_pos n
theorem gM (x:Rat) (n:Nat):((n+1:Nat):Rat)*e x (n+1)=x*e x n:=by
 have h:=mf n
 simp only [e]
 grind
theorem o9 {x:Rat} (hx:0<=x) (n:Nat):0<=e x n:=by
 induction n with
 | zero=>simp only [e]; grind
 | succ n ih=>
  have h:=mf n
  have h1:=Rat.mul_nonneg hx ih
  rw [<- gM] at h1
  by_cases h2:0<=e x (n+1)
  .exact h2
  .have h3:=Rat.mul_pos h (show (0:Rat) < -e x (n+1) by grind)
   grind
def B (a b:Rat) (n:Nat):Rat:=sum (fun k=>e a k*e b (n - k)) (n+1)
theorem Zx (a b:Rat) (n:Nat):((n+1:Nat):Rat)*B a b (n+1)=(a+b)*B a b n:=by
 have e1:((n+1:Nat):Rat)*B a b (n+1)=sum (fun k=>(k:Rat)*e a k*e b (n+1 - k)) (n+2)+sum (fun k=>e a k*(((n+1 - k:Nat):Rat)*e b (n+1 - k))) (n+2):=by
  unfold B
  rw [<- dx,<- kY]
  apply dB
  intro k hk
  have:((n+1:Nat):Rat)=(k:Rat)+((n+1 - k:Nat):Rat):=by
   rw [show (n+1:Nat)=k+(n+1 - k) by omega]
   push_cast
   simp
  rw [this]
  grind
 have e2:sum (fun k=>(k:Rat)*e a k*e b (n+1 - k)) (n+2)=a*B a b n:=by
  rw [Mg]
  unfold B
  rw [<- dx]
  have z:((0:Nat):Rat)*e a 0*e b (n+1 - 0)=0:=by simp
  rw [z,Rat.zero_add]
  apply dB
  intro k hk
  show ((k+1:Nat):Rat)*e a (k+1)*e b (n+1 - (k+1))=_
  rw [gM,show n+1 - (k+1)=n - k by omega]
  grind
 have e3:sum (fun k=>e a k*(((n+1 - k:Nat):Rat)*e b (n+1 - k))) (n+2)=b*B a b n:=by
  rw [sum]
  unfold B
  rw [<- dx]
  have z:e a (n+1)*(((n+1 - (n+1):Nat):Rat)*e b (n+1 - (n+1)))=0:=by simp
  rw [z,Rat.add_zero]
  apply dB
  intro k hk
  rw [show n+1 - k=(n - k)+1 by omega,gM]
  grind
 rw [e1,e2,e3]
 grind
theorem acC (a b:Rat) (n:Nat):B a b n=e (a+b) n:=by
 induction n with
 | zero=>simp only [B,sum,Nat.sub_self,e]; grind
 | succ n ih=>
  have h:=Zx a b n
  have h2:=gM (a+b) n
  have p:=mf n
  rw [ih] at h
  rw [<- h2] at h
  generalize ((n+1:Nat):Rat)=k at *
  have h3:k⁻¹*(k*B a b (n+1))=k⁻¹*(k*e (a+b) (n+1)):=by rw [h]
  have h4:k⁻¹*k=1:=Rat.inv_mul_cancel k (by grind)
  rw [<- Rat.mul_assoc,<- Rat.mul_assoc,h4,Rat.one_mul,Rat.one_mul] at h3
  exact h3
def Z (c:Nat->Rat) (N:Nat) (x:Rat):Rat:=sum (fun n=>c n*e x n) N
def one (_:Nat):Rat:=1
def T (c:Nat->Rat) (a b:Rat) (N:Nat):Rat:=sum (fun p=>e a p*sum (fun q=>c (p+q)*e b q) (N - p)) N
theorem QA (c:Nat->Rat) (a b:Rat) (N:Nat):T c a b N=Z c N (a+b):=by
 induction N with
 | zero=>rfl
 | succ N ih=>
  have h:T c a b (N+1)=T c a b N+c N*B a b N:=by
   have h1:sum (fun p=>e a p*sum (fun q=>c (p+q)*e b q) (N+1 - p)) N=sum (fun p=>e a p*sum (fun q=>c (p+q)*e b q) (N - p)) N+c N*sum (fun p=>e a p*e b (N - p)) N:=by
    rw [<- dx,<- kY]
    apply dB
    intro p hp
    rw [show N+1 - p=(N - p)+1 by omega,sum,show p+(N - p)=N by omega]
    grind
   unfold T B
   rw [sum,h1,show N+1 - N=0+1 by omega,sum]
   simp only [sum,Nat.sub_self,Nat.add_zero]
   grind
  rw [h,ih,acC]
  rfl
def Rc (c:Nat->Rat) (a b:Rat) (N:Nat):Rat:=sum (fun p=>e a p*sum (fun q=>c (p+q)*e b q) N) N
def tail (N:Nat) (x:Rat):Rat:=Z one (2*N) x - Z one N x
theorem QB {a b:Rat} (ha:0<=a) (hb:0<=b) (N:Nat):Rc one a b N<=Z one (2*N) (a+b):=by
 rw [<- QA]
 unfold T Rc
 have nn:∀ M,0<=sum (fun q=>one q*e b q) M:=fun M=>IY fun i _=>by
  have:=o9 hb i
  simp only [one]; grind
 have h1:sum (fun p=>e a p*sum (fun q=>one (p+q)*e b q) (2*N - p)) N<=sum (fun p=>e a p*sum (fun q=>one (p+q)*e b q) (2*N - p)) (2*N):=
  o8 (by omega) fun p _=>Rat.mul_nonneg (o9 ha p) (nn _)
 have h2:sum (fun p=>e a p*sum (fun q=>one (p+q)*e b q) N) N<=sum (fun p=>e a p*sum (fun q=>one (p+q)*e b q) (2*N - p)) N:=by
  apply vP
  intro p hp
  apply Rat.mul_le_mul_of_nonneg_left _ (o9 ha p)
  exact o8 (by omega) fun q _=>by
   have:=o9 hb q
   simp only [one]; grind
 grind
theorem Kj {c:Nat->Rat} (hc:∀ n,-1<=c n/\c n<=1) {a b:Rat} (ha:0<=a) (hb:0<=b) (N:Nat):-tail N (a+b)<=Rc c a b N - Z c N (a+b)/\Rc c a b N - Z c N (a+b)<=tail N (a+b):=by
 have hT:-(Rc one a b N - T one a b N)<=Rc c a b N - T c a b N/\Rc c a b N - T c a b N<=Rc one a b N - T one a b N:=by
  have key:∀ p,p<N->-(e a p*sum (fun q=>one (p+q)*e b q) N - e a p*sum (fun q=>one (p+q)*e b q) (N - p))<=e a p*sum (fun q=>c (p+q)*e b q) N - e a p*sum (fun q=>c (p+q)*e b q) (N - p) /\
    e a p*sum (fun q=>c (p+q)*e b q) N - e a p*sum (fun q=>c (p+q)*e b q) (N - p)<=e a p*sum (fun q=>one (p+q)*e b q) N - e a p*sum (fun q=>one (p+q)*e b q) (N - p):=by
   intro p hp
   have hb2:∀ i,i<N->-(one (p+i)*e b i)<=c (p+i)*e b i/\c (p+i)*e b i<=one (p+i)*e b i:=by
    intro i _
    have h1:=o9 hb i
    have h2:=hc (p+i)
    have h3:=Rat.mul_nonneg (a:=c (p+i)+1) (by grind) h1
    have h4:=Rat.mul_nonneg (a:=1 - c (p+i)) (by grind) h1
    simp only [one]; grind
   obtain ⟨h1,h2⟩:=zR (f:=fun q=>c (p+q)*e b q) (g:=fun q=>one (p+q)*e b q) (Nat.sub_le N p) hb2
   have h3:=o9 ha p
   have h4:=Rat.mul_le_mul_of_nonneg_left h1 h3
   have h5:=Rat.mul_le_mul_of_nonneg_left h2 h3
   grind
  have f1:∀ d:Nat->Rat,Rc d a b N - T d a b N=sum (fun p=>e a p*sum (fun q=>d (p+q)*e b q) N - e a p*sum (fun q=>d (p+q)*e b q) (N - p)) N:=by
   intro d
   unfold Rc T
   rw [<- DW]
  rw [f1,f1]
  constructor
  .have:=vP (f:=fun p=>-1*(e a p*sum (fun q=>one (p+q)*e b q) N - e a p*sum (fun q=>one (p+q)*e b q) (N - p))) (g:=fun p=>e a p*sum (fun q=>c (p+q)*e b q) N - e a p*sum (fun q=>c (p+q)*e b q) (N - p)) (n:=N) (fun p hp=>by have:=(key p hp).1; grind)
   rw [dx] at this
   grind
  .exact vP fun p hp=>(key p hp).2
 rw [QA,QA] at hT
 have:=QB ha hb N
 unfold tail
 grind
def sF (n:Nat):Rat:=match n % 4 with|1=>1|3=>-1|_=>0
def cF (n:Nat):Rat:=match n % 4 with|0=>1|2=>-1|_=>0
theorem rP (n:Nat):n % 4=0\/n % 4=1\/n % 4=2\/n % 4=3:=by omega
theorem QC (n:Nat):-1<=sF n/\sF n<=1:=by
 unfold sF
 rcases rP n with h|h|h|h <;> rw [h] <;> decide
theorem QD (n:Nat):-1<=cF n/\cF n<=1:=by
 unfold cF
 rcases rP n with h|h|h|h <;> rw [h] <;> decide
theorem Zy (p q:Nat):sF (p+q)=sF p*cF q+cF p*sF q:=by
 have h:(p+q) % 4=(p % 4+q % 4) % 4:=by omega
 unfold sF cF
 rw [h]
 rcases rP p with h1|h1|h1|h1 <;> rcases rP q with h2|h2|h2|h2 <;> rw [h1,h2] <;> simp <;> grind
theorem QE (p q:Nat):cF (p+q)=cF p*cF q - sF p*sF q:=by
 have h:(p+q) % 4=(p % 4+q % 4) % 4:=by omega
 unfold sF cF
 rw [h]
 rcases rP p with h1|h1|h1|h1 <;> rcases rP q with h2|h2|h2|h2 <;> rw [h1,h2] <;> simp <;> grind
def S (N:Nat) (x:Rat):Rat:=Z sF N x
def C (N:Nat) (x:Rat):Rat:=Z cF N x
theorem aey (a b:Rat) (N:Nat):Rc sF a b N=S N a*C N b+C N a*S N b:=by
 have h:∀ p,e a p*sum (fun q=>sF (p+q)*e b q) N=C N b*(sF p*e a p)+S N b*(cF p*e a p):=by
  intro p
  have h1:sum (fun q=>sF (p+q)*e b q) N=sF p*C N b+cF p*S N b:=by
   unfold C S Z
   rw [<- dx,<- dx,<- kY]
   apply dB
   intro q _
   rw [Zy]; grind
  rw [h1]; grind
 unfold Rc
 rw [dB (fun p _=>h p),kY,dx,dx]
 unfold S C Z
 grind
theorem aez (a b:Rat) (N:Nat):Rc cF a b N=C N a*C N b - S N a*S N b:=by
 have h:∀ p,e a p*sum (fun q=>cF (p+q)*e b q) N=C N b*(cF p*e a p) + -S N b*(sF p*e a p):=by
  intro p
  have h1:sum (fun q=>cF (p+q)*e b q) N=cF p*C N b + -sF p*S N b:=by
   unfold C S Z
   rw [<- dx,<- dx,<- kY]
   apply dB
   intro q _
   rw [QE]; grind
  rw [h1]; grind
 unfold Rc
 rw [dB (fun p _=>h p),kY,dx,dx]
 unfold S C Z
 grind
theorem qi {a b:Rat} (ha:0<=a) (hb:0<=b) (N:Nat):-tail N (a+b)<=S N a*C N b+C N a*S N b - S N (a+b)/\S N a*C N b+C N a*S N b - S N (a+b)<=tail N (a+b):=by
 have:=Kj QC ha hb N
 rw [aey] at this
 exact this
theorem uF {a b:Rat} (ha:0<=a) (hb:0<=b) (N:Nat):-tail N (a+b)<=C N a*C N b - S N a*S N b - C N (a+b)/\C N a*C N b - S N a*S N b - C N (a+b)<=tail N (a+b):=by
 have:=Kj QD ha hb N
 rw [aez] at this
 exact this
theorem VK {x y:Rat} (hx:0<=x) (h:x<=y) (n:Nat):e x n<=e y n:=by
 induction n with
 | zero=>simp only [e]; grind
 | succ n ih=>
  have p:=mf n
  have h1:=gM x n
  have h2:=gM y n
  have h3:x*e x n<=y*e y n:=by
   have a:=Rat.mul_le_mul_of_nonneg_left ih hx
   have b:=Rat.mul_le_mul_of_nonneg_right h (o9 (show 0<=y by grind) n)
   grind
  rw [<- h1,<- h2] at h3
  exact Rat.le_of_mul_le_mul_left h3 p
theorem acD {x y:Rat} (hx:0<=x) (h:x<=y) (n:Nat):e y (n+1) - e x (n+1)<=(y - x)*e y n:=by
 have hy:0<=y:=by grind
 induction n with
 | zero=>
  have h1:=gM x 0
  have h2:=gM y 0
  simp only [e] at *
  grind
 | succ n ih=>
  have p:=mf (n+1)
  have h1:=gM x (n+1)
  have h2:=gM y (n+1)
  have h3:=gM y n
  have e0:=o9 hy n
  have m0:0<=(y - x)*e y n:=Rat.mul_nonneg (by grind) e0
  have a:=Rat.mul_le_mul_of_nonneg_left ih hx
  have b:=Rat.mul_le_mul_of_nonneg_right h m0
  have c:((n+1+1:Nat):Rat)=((n+1:Nat):Rat)+1:=by push_cast; rfl
  refine Rat.le_of_mul_le_mul_left (c:=((n+1+1:Nat):Rat)) ?_ p
  have g1:((n+1+1:Nat):Rat)*(e y (n+1+1) - e x (n+1+1))=y*e y (n+1) - x*e x (n+1):=by rw [<- h1,<- h2]; grind
  have g2:((n+1+1:Nat):Rat)*((y - x)*e y (n+1))=(y - x)*(y*e y n)+(y - x)*e y (n+1):=by rw [c,<- h3]; grind
  rw [g1,g2]
  grind
theorem QF {c:Nat->Rat} (hc:∀ n,-1<=c n/\c n<=1) {x y:Rat} (hx:0<=x) (h:x<=y) (N:Nat):-((y - x)*Z one N y)<=Z c (N+1) y - Z c (N+1) x/\Z c (N+1) y - Z c (N+1) x<=(y - x)*Z one N y:=by
 have key:∀ n,-((y - x)*e y n)<=c (n+1)*e y (n+1) - c (n+1)*e x (n+1)/\c (n+1)*e y (n+1) - c (n+1)*e x (n+1)<=(y - x)*e y n:=by
  intro n
  have h1:=acD hx h n
  have h2:=VK hx h (n+1)
  obtain ⟨h3,h4⟩:=hc (n+1)
  have h5:=Rat.mul_nonneg (a:=c (n+1)+1) (b:=e y (n+1) - e x (n+1)) (by grind) (by grind)
  have h6:=Rat.mul_nonneg (a:=1 - c (n+1)) (b:=e y (n+1) - e x (n+1)) (by grind) (by grind)
  grind
 induction N with
 | zero=>simp only [Z,sum,e]; grind
 | succ N ih=>
  have h1:=key N
  unfold Z at *
  simp only [sum,one] at *
  grind
theorem mg {x y:Rat} (hx:0<=x) (h:x<=y) (N:Nat):0<=tail N x/\tail N x<=tail N y:=by
 unfold tail Z
 have h0:=o8 (f:=fun n=>one n*e x n) (show N<=2*N by omega) (fun i _=>by have:=o9 hx i; simp only [one]; grind)
 have:=zR (f:=fun n=>one n*e x n) (g:=fun n=>one n*e y n) (show N<=2*N by omega) (fun i _=>by
  have h1:=o9 hx i
  have h2:=VK hx h i
  simp only [one]; grind)
 grind
theorem BM {x y:Rat} (hx:0<=x) (h:x<=y) (N:Nat):Z one N x<=Z one N y:=by
 unfold Z
 exact vP fun i _=>by
  have:=VK hx h i
  simp only [one]; grind
theorem Z5:Z one 64 (8 / 5)<=5:=by decide +kernel
theorem acE:tail 64 (8 / 5)*(2:Rat) ^ 230<=1:=by decide +kernel
end Go.Sn
namespace Go.Sn
open Go.Dg
def hp:Rat:=15707963267948966192313216916397514420985846996875529104874722961539082 / 10000000000000000000000000000000000000000000000000000000000000000000000
def tru (q:Rat):Rat:=S 64 (hp*q)
def dl:Rat:=1 / 34359738368
def IZ (q:Rat) (k:Int):Prop:=(k:Rat)+dl<=4294967296*tru q/\4294967296*tru q<=(k:Rat)+1 - dl
def pT (sq y:Int):Nat->Int
 | 0=>y
 | j+1=>pT sq y j*sq / PP / ((2*(j:Int)+2)*(2*(j:Int)+2+1))
def pS (sq y:Int):Nat->Int
 | 0=>0
 | j+1=>match decide (j % 2=0) with|true=>pS sq y j+pT sq y j|false=>pS sq y j - pT sq y j
theorem VL {sq y:Int} {j:Nat} (h:pT sq y j=0):∀ n,j<=n->pT sq y n=0:=by
 intro n hn
 induction n with
 | zero=>
  have:j=0:=by omega
  subst this; exact h
 | succ n ih=>
  rcases Nat.lt_or_ge n j with h1|h1
  .have:j=n+1:=by omega
   subst this; exact h
  .rw [pT,ih h1]; simp
theorem Kk {sq y:Int} {j:Nat} (h:pT sq y j=0):∀ n,j<=n->pS sq y n=pS sq y j:=by
 intro n hn
 induction n with
 | zero=>
  have:j=0:=by omega
  subst this; rfl
 | succ n ih=>
  rcases Nat.lt_or_ge n j with h1|h1
  .have:j=n+1:=by omega
   subst this; rfl
  .rw [pS,VL h n h1,ih h1]
   split <;> omega
theorem Kl {sq y:Int}:∀ (n j:Nat),lH sq n (2*(j:Int)+2) (pT sq y j) (pS sq y (j+1))=pS sq y (j+1+n)
 | 0,_=>rfl
 | n+1,j=>by
  by_cases h:pT sq y (j+1)=0
  .rw [Gt (by exact h),Kk h (j+1+(n+1)) (by omega)]
  .rw [vM (by exact h)]
   have ih:=Kl (sq:=sq) (y:=y) n (j+1)
   rw [show j+1+(n+1)=j+1+1+n by omega,<- ih]
   have e1:2*(j:Int)+2+2=2*((j+1:Nat):Int)+2:=by push_cast; omega
   rw [e1]
   show lH sq n _ (pT sq y (j+1)) _=_
   congr 1
   rw [pS]
   show _=(match decide ((j+1) % 2=0) with|true=>pS sq y (j+1)+pT sq y (j+1)|false=>pS sq y (j+1) - pT sq y (j+1))
   by_cases hj:(j+1) % 2=0
   .rw [decide_eq_true hj,decide_eq_false (show ¬(2*(j:Int)+2) % 4=2 by omega)]; rfl
   .rw [decide_eq_false hj,decide_eq_true (show (2*(j:Int)+2) % 4=2 by omega)]; rfl
theorem pg {sq y:Int} (hs0:0<=sq) (hs:sq<=3*PP) (hy:0<=y):∀ j,0<=pT sq y j/\2*pT sq y (j+1)<=pT sq y j:=by
 intro j
 have key:∀ j,0<=pT sq y j->0<=pT sq y (j+1)/\2*pT sq y (j+1)<=pT sq y j:=by
  intro j h
  have:=Pi (i:=2*(j:Int)+2) hs0 hs h (by omega)
  exact this
 have nn:∀ j,0<=pT sq y j:=by
  intro j
  induction j with
  | zero=>exact hy
  | succ j ih=>exact (key j ih).1
 exact ⟨nn j,(key j (nn j)).2⟩
theorem acF {sq y:Int} (hs0:0<=sq) (hs:sq<=3*PP) (hy:0<=y):∀ j:Nat,y - pT sq y 1<=pS sq y (2*j+2)/\pS sq y (2*j+2)+pT sq y (2*j+2)<=y:=by
 intro j
 induction j with
 | zero=>
  have h1:0<=pT sq y 1/\2*pT sq y 2<=pT sq y 1:=pg hs0 hs hy 1
  have e:pS sq y 2=0+y - pT sq y 1:=rfl
  show y - pT sq y 1<=pS sq y 2/\pS sq y 2+pT sq y 2<=y
  have h2:=pg hs0 hs hy 2
  omega
 | succ j ih=>
  have h1:=pg hs0 hs hy (2*j+2)
  have h2:=pg hs0 hs hy (2*j+3)
  have h3:=pg hs0 hs hy (2*j+4)
  have e1:pS sq y (2*j+2+1)=pS sq y (2*j+2)+pT sq y (2*j+2):=by rw [pS,decide_eq_true (by omega)]
  have e2:pS sq y (2*j+2+1+1)=pS sq y (2*j+2+1) - pT sq y (2*j+2+1):=by rw [pS,decide_eq_false (by omega)]
  show y - pT sq y 1<=pS sq y (2*j+2+1+1)/\pS sq y (2*j+2+1+1)+pT sq y (2*j+4)<=y
  have e3:pT sq y (2*j+2+1)=pT sq y (2*j+3):=rfl
  have e4:pT sq y (2*j+3+1)=pT sq y (2*j+4):=rfl
  have e5:pT sq y (2*j+2+1)=pT sq y (2*j+3):=rfl
  omega
def U:Rat:=1000000000000000000000000000000000000000000000
theorem Mh:((PP:Int):Rat)=U:=by decide
theorem DX (a b:Int) (hb:0<b):((a / b:Int):Rat)*(b:Rat)<=(a:Rat):=by
 have:=Int.ediv_mul_le a (b:=b) (by omega)
 exact_mod_cast this
theorem DY (a b:Int) (hb:0<b):(a:Rat)<(((a / b:Int):Rat)+1)*(b:Rat):=by
 have:=Int.lt_ediv_add_one_mul_self a hb
 exact_mod_cast this
theorem step {U x p q t t' k a r:Rat} (hU:0<U) (x0:0<=x) (x1:x<=8 / 5) (nj:0<=p) (pyr:p<=x*U) (s0:0<=q) (i1:p<=U*t) (i2:U*t<=p+5) (sa:q*U<=x*x*U*U) (sb:x*x*U*U<(q+1)*U)
  (ta:a*U<=p*q) (tb:p*q<(a+1)*U) (ua:r*k<=a) (ub:a<(r+1)*k) (hk:6<=k) (e3:k*t'=x*x*t) (e4:0<=t):r<=U*t'/\U*t'<=r+5:=by
 have q1:q<=x*x*U:=Rat.le_of_mul_le_mul_right (c:=U) (by grind) hU
 have q2:x*x*U<q+1:=by
  apply Rat.not_le.1
  intro h
  have:=Rat.mul_le_mul_of_nonneg_right h (show 0<=U by grind)
  grind
 have x2:x*x<=64 / 25:=by
  have a:=Rat.mul_le_mul_of_nonneg_left x1 x0
  grind
 have xx0:0<=x*x:=Rat.mul_nonneg x0 x0
 have a1:a<=x*x*(U*t):=by
  refine Rat.le_of_mul_le_mul_right (c:=U) ?_ hU
  have h1:=Rat.mul_le_mul_of_nonneg_left q1 nj
  have h2:=Rat.mul_le_mul_of_nonneg_right i1 (show 0<=x*x*U from Rat.mul_nonneg xx0 (by grind))
  grind
 have a2:x*x*(U*t)<a+1+8 / 5+64 / 5:=by
  have h1:=Rat.mul_le_mul_of_nonneg_left i2 xx0
  have h2:x*x*p*U<=p*q+p:=by
   have:=Rat.mul_le_mul_of_nonneg_left (show x*x*U<=q+1 by grind) nj
   grind
  have h3:x*x*p*U<(a+1+8 / 5)*U:=by
   have:=Rat.mul_le_mul_of_nonneg_right x1 (show 0<=U by grind)
   grind
  have h4:x*x*p<a+1+8 / 5:=by
   apply Rat.not_le.1
   intro h
   have:=Rat.mul_le_mul_of_nonneg_right h (show 0<=U by grind)
   grind
  grind
 have hk0:0<k:=by grind
 constructor
 .refine Rat.le_of_mul_le_mul_right (c:=k) ?_ hk0
  have:U*t'*k=x*x*(U*t):=by grind
  grind
 .refine Rat.le_of_mul_le_mul_right (c:=k) ?_ hk0
  have:U*t'*k=x*x*(U*t):=by grind
  grind
theorem Km {y:Int} (h0:0<=y) (h1:y*10<=16*PP):∀ j:Nat,(pT (y*y / PP) y j:Rat)<=U*e ((y:Rat) / U) (2*j+1)/\U*e ((y:Rat) / U) (2*j+1)<=(pT (y*y / PP) y j:Rat)+5:=by
 have hU:(0:Rat)<U:=by decide
 have hP:0<PP:=gm
 have y0:(0:Rat)<=(y:Rat):=by exact_mod_cast h0
 have y1:(y:Rat)*10<=16*U:=by rw [<- Mh]; exact_mod_cast h1
 have hx:(y:Rat) / U*U=(y:Rat):=by grind
 have x0:0<=(y:Rat) / U:=by
  refine Rat.le_of_mul_le_mul_right (c:=U) ?_ hU
  rw [hx]; grind
 have x1:(y:Rat) / U<=8 / 5:=by
  refine Rat.le_of_mul_le_mul_right (c:=U) ?_ hU
  rw [hx]; grind
 have s0:0<=y*y / PP:=Int.ediv_nonneg (Int.mul_nonneg h0 h0) (by omega)
 have s1:y*y / PP<=3*PP:=by
  refine Int.ediv_le_of_le_mul hP ?_
  have a:y*10*(y*10)<=16*PP*(16*PP):=Int.mul_le_mul h1 h1 (by omega) (by omega)
  have b:0<=PP*PP:=Int.mul_nonneg (by omega) (by omega)
  grind
 have sa:=DX (y*y) PP hP
 have sb:=DY (y*y) PP hP
 rw [Mh] at sa sb
 have ey:((y*y:Int):Rat)=(y:Rat) / U*((y:Rat) / U)*U*U:=by
  push_cast
  rw [<- hx]; grind
 rw [ey] at sa sb
 generalize (y:Rat) / U=x at *
 intro j
 induction j with
 | zero=>
  have e1:e x (2*0+1)=x:=by simp only [e]; grind
  rw [e1]
  show (y:Rat)<=U*x/\U*x<=(y:Rat)+5
  grind
 | succ j ih=>
  obtain ⟨i1,i2⟩:=ih
  have nn:=(pg s0 s1 h0 j).1
  have py:pT (y*y / PP) y j<=y:=by
   clear i1 i2 nn
   induction j with
   | zero=>exact Int.le_refl _
   | succ j ih=>
    have a:=pg s0 s1 h0 j
    have b:=pg s0 s1 h0 (j+1)
    omega
  have nj:(0:Rat)<=(pT (y*y / PP) y j:Rat):=by exact_mod_cast nn
  have pyr:(pT (y*y / PP) y j:Rat)<=x*U:=by rw [hx]; exact_mod_cast py
  have s0r:(0:Rat)<=((y*y / PP:Int):Rat):=by exact_mod_cast s0
  have hk:6<=(2*(j:Int)+2)*(2*(j:Int)+2+1):=Int.mul_le_mul (a:=2) (b:=3) (by omega) (by omega) (by decide) (by omega)
  have ta:=DX (pT (y*y / PP) y j*(y*y / PP)) PP hP
  have tb:=DY (pT (y*y / PP) y j*(y*y / PP)) PP hP
  have ua:=DX (pT (y*y / PP) y j*(y*y / PP) / PP) ((2*(j:Int)+2)*(2*(j:Int)+2+1)) (by omega)
  have ub:=DY (pT (y*y / PP) y j*(y*y / PP) / PP) ((2*(j:Int)+2)*(2*(j:Int)+2+1)) (by omega)
  have hkr:(6:Rat)<=(((2*(j:Int)+2)*(2*(j:Int)+2+1):Int):Rat):=by exact_mod_cast hk
  have e3:(((2*(j:Int)+2)*(2*(j:Int)+2+1):Int):Rat)*e x (2*j+3)=x*x*e x (2*j+1):=by
   have a:=gM x (2*j+1)
   have b:=gM x (2*j+2)
   have c:(((2*(j:Int)+2)*(2*(j:Int)+2+1):Int):Rat)=((2*j+1+1:Nat):Rat)*((2*j+2+1:Nat):Rat):=by push_cast; grind
   rw [c,Rat.mul_assoc,show 2*j+3=2*j+2+1 by omega,b]
   have:((2*j+1+1:Nat):Rat)*(x*e x (2*j+2))=x*(((2*j+1+1:Nat):Rat)*e x (2*j+1+1)):=by grind
   rw [this,a]; grind
  rw [Mh] at ta tb
  show ((pT (y*y / PP) y j*(y*y / PP) / PP / ((2*(j:Int)+2)*(2*(j:Int)+2+1)):Int):Rat)<=U*e x (2*j+3)/\U*e x (2*j+3)<=((pT (y*y / PP) y j*(y*y / PP) / PP / ((2*(j:Int)+2)*(2*(j:Int)+2+1)):Int):Rat)+5
  have ep:((pT (y*y / PP) y j*(y*y / PP):Int):Rat)=(pT (y*y / PP) y j:Rat)*((y*y / PP:Int):Rat):=by push_cast; rfl
  rw [ep] at ta tb
  clear ep
  have e4:=o9 x0 (2*j+1)
  generalize pT (y*y / PP) y j*(y*y / PP) / PP / ((2*(j:Int)+2)*(2*(j:Int)+2+1))=r at *
  generalize pT (y*y / PP) y j*(y*y / PP) / PP=a at *
  generalize (((2*(j:Int)+2)*(2*(j:Int)+2+1):Int):Rat)=k at *
  generalize ((pT (y*y / PP) y j:Int):Rat)=p at *
  generalize ((y*y / PP:Int):Rat)=q at *
  generalize e x (2*j+1)=t at *
  generalize e x (2*j+3)=t' at *
  generalize (r:Rat)=r at *
  generalize (a:Rat)=a at *
  exact step hU x0 x1 nj pyr s0r i1 i2 sa sb ta tb ua ub hkr e3 e4
def qS (x:Rat):Nat->Rat
 | 0=>0
 | j+1=>match decide (j % 2=0) with|true=>qS x j+e x (2*j+1)|false=>qS x j - e x (2*j+1)
theorem aeA (x:Rat):∀ j,Z sF (2*j) x=qS x j:=by
 intro j
 induction j with
 | zero=>rfl
 | succ j ih=>
  show sum _ (2*j+1+1)=_
  rw [sum,sum]
  show Z sF (2*j) x+_+_=_
  rw [ih,qS]
  by_cases h:j % 2=0
  .have e1:sF (2*j)=0:=by unfold sF; rw [show 2*j % 4=0 by omega]; rfl
   have e2:sF (2*j+1)=1:=by unfold sF; rw [show (2*j+1) % 4=1 by omega]; rfl
   rw [decide_eq_true h,e1,e2]; grind
  .have e1:sF (2*j)=0:=by unfold sF; rw [show 2*j % 4=2 by omega]; rfl
   have e2:sF (2*j+1)=-1:=by unfold sF; rw [show (2*j+1) % 4=3 by omega]; rfl
   rw [decide_eq_false h,e1,e2]; grind
theorem VM {y:Int} (h0:0<=y) (h1:y*10<=16*PP):∀ j:Nat,(pS (y*y / PP) y j:Rat)<=U*qS ((y:Rat) / U) j+5*j/\U*qS ((y:Rat) / U) j<=(pS (y*y / PP) y j:Rat)+5*j:=by
 intro j
 induction j with
 | zero=>
  have z:qS ((y:Rat) / U) 0=0:=rfl
  have z2:pS (y*y / PP) y 0=0:=rfl
  rw [z,z2]; simp; decide +kernel
 | succ j ih=>
  obtain ⟨i1,i2⟩:=ih
  obtain ⟨t1,t2⟩:=Km h0 h1 j
  rw [pS,qS]
  have c:((j+1:Nat):Rat)=(j:Rat)+1:=by push_cast; rfl
  rw [c]
  by_cases h:j % 2=0
  .rw [decide_eq_true h]; dsimp only; push_cast; grind
  .rw [decide_eq_false h]; dsimp only; push_cast; grind
theorem e65:U*e (8 / 5) 65<1:=by decide +kernel
theorem acG {y:Int} (h0:0<=y) (h1:y*10<=16*PP):0<=(y:Rat) / U/\(y:Rat) / U<=8 / 5/\(y:Rat) / U*U=(y:Rat):=by
 have hU:(0:Rat)<U:=by decide
 have y0:(0:Rat)<=(y:Rat):=by exact_mod_cast h0
 have y1:(y:Rat)*10<=16*U:=by rw [<- Mh]; exact_mod_cast h1
 have hx:(y:Rat) / U*U=(y:Rat):=by grind
 refine ⟨?_,?_,hx⟩
 .refine Rat.le_of_mul_le_mul_right (c:=U) ?_ hU
  rw [hx]; grind
 .refine Rat.le_of_mul_le_mul_right (c:=U) ?_ hU
  rw [hx]; grind
theorem WU {y:Int} (h0:0<=y) (h1:y*10<=16*PP):0<=y*y / PP/\y*y / PP<=3*PP:=by
 have hP:0<PP:=gm
 refine ⟨Int.ediv_nonneg (Int.mul_nonneg h0 h0) (by omega),Int.ediv_le_of_le_mul hP ?_⟩
 have a:y*10*(y*10)<=16*PP*(16*PP):=Int.mul_le_mul h1 h1 (by omega) (by omega)
 have b:0<=PP*PP:=Int.mul_nonneg (by omega) (by omega)
 grind
theorem BN {y:Int} (h0:0<=y) (h1:y*10<=16*PP):lH (y*y / PP) 200 2 y y=pS (y*y / PP) y 32/\(lH (y*y / PP) 200 2 y y:Rat)<=U*S 64 ((y:Rat) / U)+160/\U*S 64 ((y:Rat) / U)<=(lH (y*y / PP) 200 2 y y:Rat)+160:=by
 obtain ⟨x0,x1,hx⟩:=acG h0 h1
 obtain ⟨s0,s1⟩:=WU h0 h1
 have z:pT (y*y / PP) y 32=0:=by
  have a:=(Km h0 h1 32).1
  have b:=VK x0 x1 65
  have c:=e65
  have d:U*e ((y:Rat) / U) 65<=U*e (8 / 5) 65:=Rat.mul_le_mul_of_nonneg_left b (by decide)
  have f:(pT (y*y / PP) y 32:Rat)<1:=by
   have:U*e ((y:Rat) / U) (2*32+1)=U*e ((y:Rat) / U) 65:=rfl
   grind
  have g:pT (y*y / PP) y 32<1:=by exact_mod_cast f
  have:=(pg s0 s1 h0 32).1
  omega
 have es:lH (y*y / PP) 200 2 y y=pS (y*y / PP) y 32:=by
  have a:=Kl (sq:=y*y / PP) (y:=y) 200 0
  have b:pS (y*y / PP) y (0+1)=y:=by show 0+y=y; omega
  rw [b] at a
  rw [show (2:Int)=2*((0:Nat):Int)+2 by decide]
  refine Eq.trans a (Kk z _ (by omega))
 have n:=VM h0 h1 32
 rw [es]
 have e2:S 64 ((y:Rat) / U)=qS ((y:Rat) / U) 32:=aeA _ 32
 rw [e2]
 have:(5:Rat)*((32:Nat):Rat)=160:=by decide +kernel
 rw [this] at n
 exact ⟨rfl,n⟩
theorem acH {x y:Rat} (hx:0<=x) (hx1:x<=8 / 5) (hy:0<=y) (hy1:y<=8 / 5) {d:Rat} (h1:x<=y+d) (h2:y<=x+d):S 64 x<=S 64 y+5*d/\S 64 y<=S 64 x+5*d:=by
 have key:∀ {x y:Rat},0<=x->x<=y->y<=8 / 5->y<=x+d->S 64 x<=S 64 y+5*d/\S 64 y<=S 64 x+5*d:=by
  intro x y h0 h1 h2 h3
  have a:=QF QC h0 h1 63
  have b:=BM (show 0<=y by grind) h2 63
  have c:Z one 63 (8 / 5)<=Z one 64 (8 / 5):=o8 (by omega) fun i _=>by
   have:=o9 (show (0:Rat)<=8 / 5 by grind) i
   simp only [one]; grind
  have z5:=Z5
  have nn:0<=Z one 63 y:=IY fun i _=>by
   have:=o9 (show 0<=y by grind) i
   simp only [one]; grind
  have m:=Rat.mul_le_mul_of_nonneg_left (Rat.le_trans (Rat.le_trans b c) z5) (show 0<=y - x by grind)
  unfold S
  grind
 rcases Rat.le_total (a:=x) (b:=y) with h|h
 .exact key hx h hy1 h2
 .have:=key hy h hx1 h1
  exact ⟨this.2,this.1⟩
theorem VN {a b k:Int} (hb:0<b) (h1:k*b<=a) (h2:a<(k+1)*b):a / b=k:=by
 have h3:k<=a / b:=(Int.le_ediv_iff_mul_le hb).2 h1
 have h4:a / b<k+1:=(Int.ediv_lt_iff_lt_mul hb).2 h2
 omega
theorem VO {m d:Int} (hm:0<=m) (hd:m<=d) (h0:0<d):0<=(m:Rat) / (d:Rat)/\(m:Rat) / (d:Rat)<=1/\(m:Rat) / (d:Rat)*(d:Rat)=(m:Rat):=by
 have d0:(0:Rat)<(d:Rat):=by exact_mod_cast h0
 have m0:(0:Rat)<=(m:Rat):=by exact_mod_cast hm
 have md:(m:Rat)<=(d:Rat):=by exact_mod_cast hd
 have e:(m:Rat) / (d:Rat)*(d:Rat)=(m:Rat):=by grind
 refine ⟨?_,?_,e⟩
 .refine Rat.le_of_mul_le_mul_right (c:=(d:Rat)) ?_ d0
  rw [e]; grind
 .refine Rat.le_of_mul_le_mul_right (c:=(d:Rat)) ?_ d0
  rw [e]; grind
theorem zS:0<=hp/\hp<=8 / 5/\hp*U<=((RG:Int):Rat)/\((RG:Int):Rat)<=hp*U+17:=by
 refine ⟨?_,?_,?_,?_⟩ <;> decide +kernel
theorem rQ {q:Rat} (h0:0<=q) (h1:q<=1):0<=hp*q/\hp*q<=8 / 5:=by
 obtain ⟨a,b,_,_⟩:=zS
 have:=Rat.mul_le_mul_of_nonneg_left h1 a
 exact ⟨Rat.mul_nonneg a h0,by grind⟩
theorem Mi {m d:Int} (hm:0<=m) (hd:m<=d) (h0:0<d):(l9 m d:Rat)<=U*tru ((m:Rat) / (d:Rat))+245/\U*tru ((m:Rat) / (d:Rat))<=(l9 m d:Rat)+245:=by
 obtain ⟨q0,q1,qd⟩:=VO hm hd h0
 obtain ⟨p0,p1⟩:=rQ q0 q1
 obtain ⟨_,_,r0,r1⟩:=zS
 have hU:(0:Rat)<U:=by decide
 have d0:(0:Rat)<(d:Rat):=by exact_mod_cast h0
 have y0:0<=bA m d:=Int.ediv_nonneg (Int.mul_nonneg (by decide) hm) (by omega)
 have y1:bA m d<=RG:=Int.ediv_le_of_le_mul h0 (Int.mul_le_mul_of_nonneg_left hd (by decide))
 have y2:bA m d*10<=16*PP:=by
  have:RG*10<=16*PP:=by decide
  omega
 obtain ⟨x0,x1,hx⟩:=acG y0 y2
 have n:=(BN y0 y2).2
 have a:=DX (RG*m) d h0
 have b:=DY (RG*m) d h0
 have ya:(bA m d:Rat)<=(RG:Rat)*((m:Rat) / (d:Rat)):=by
  refine Rat.le_of_mul_le_mul_right (c:=(d:Rat)) ?_ d0
  rw [Rat.mul_assoc,qd]
  have:((RG*m:Int):Rat)=(RG:Rat)*(m:Rat):=by push_cast; rfl
  rw [this] at a
  exact a
 have yb:(RG:Rat)*((m:Rat) / (d:Rat))<=(bA m d:Rat)+1:=by
  refine Rat.le_of_mul_le_mul_right (c:=(d:Rat)) ?_ d0
  rw [Rat.mul_assoc,qd]
  have:((RG*m:Int):Rat)=(RG:Rat)*(m:Rat):=by push_cast; rfl
  rw [this] at b
  unfold bA
  grind
 generalize (m:Rat) / (d:Rat)=q at *
 have c1:=Rat.mul_le_mul_of_nonneg_right r0 q0
 have c2:=Rat.mul_le_mul_of_nonneg_right r1 q0
 have l:=acH x0 x1 p0 p1 (d:=17 / U)
  (by
   refine Rat.le_of_mul_le_mul_right (c:=U) ?_ hU
   have:(hp*q+17 / U)*U=hp*U*q+17:=by grind
   rw [hx,this]; grind)
  (by
   refine Rat.le_of_mul_le_mul_right (c:=U) ?_ hU
   have:((bA m d:Rat) / U+17 / U)*U=(bA m d:Rat)+17:=by grind
   rw [this]; grind)
 have u1:=Rat.mul_le_mul_of_nonneg_left l.1 (show 0<=U by grind)
 have u2:=Rat.mul_le_mul_of_nonneg_left l.2 (show 0<=U by grind)
 have eu:∀ s:Rat,U*(s+5*(17 / U))=U*s+85:=fun s=>by grind
 rw [eu] at u1 u2
 unfold tru
 unfold l9
 grind
theorem I1 {m d k:Int} (hm:0<m) (hd:m<d) (hD:d<=4294967296) (h:IZ ((m:Rat) / (d:Rat)) k):SinG m d/\kL m d=k:=by
 have P0:0<PP:=gm
 have y0:0<=bA m d:=Int.ediv_nonneg (Int.mul_nonneg (by decide) (by omega)) (by omega)
 have y1:bA m d<=RG:=Int.ediv_le_of_le_mul (by omega) (Int.mul_le_mul_of_nonneg_left (by omega) (by decide))
 have rp:RG*10<=16*PP:=by decide
 have y3:365700000000000000000000000000000000<=bA m d:=by
  refine (Int.le_ediv_iff_mul_le (by omega)).2 ?_
  have a:365700000000000000000000000000000000*d<=365700000000000000000000000000000000*4294967296:=Int.mul_le_mul_of_nonneg_left hD (by decide)
  have b:RG*1<=RG*m:=Int.mul_le_mul_of_nonneg_left (by omega) (by decide)
  have c:(365700000000000000000000000000000000:Int)*4294967296<=RG*1:=by decide
  omega
 obtain ⟨s0,s1⟩:=WU y0 (by omega)
 have es:=(BN y0 (by omega)).1
 have bd:=acF s0 s1 y0 15
 have t0:=pg s0 s1 y0 0
 have t32:=(pg s0 s1 y0 32).1
 have e0:pT (bA m d*bA m d / PP) (bA m d) 0=bA m d:=rfl
 have n1:l9 m d=pS (bA m d*bA m d / PP) (bA m d) (2*15+2):=es
 have bt:0<=pT (bA m d*bA m d / PP) (bA m d) (2*15+2):=t32
 have t0':2*pT (bA m d*bA m d / PP) (bA m d) 1<=bA m d:=t0.2
 have lo:bA m d - pT (bA m d*bA m d / PP) (bA m d) 1<=l9 m d:=by rw [n1]; exact bd.1
 have hi:l9 m d<=bA m d:=by rw [n1]; omega
 have near:=Mi (m:=m) (d:=d) (by omega) (by omega) (by omega)
 obtain ⟨k1,k2⟩:=h
 generalize hT:tru ((m:Rat) / (d:Rat))=T at *
 have hd1:(100000000+245)*4294967296<U*dl:=by decide +kernel
 have hU:(0:Rat)<U:=by decide
 have m1:=Rat.mul_le_mul_of_nonneg_left k1 (show 0<=U by grind)
 have m2:=Rat.mul_le_mul_of_nonneg_left k2 (show 0<=U by grind)
 have key:∀ z:Int,-100000000<=z->z<=100000000->(l9 m d+z)*4294967296 / PP=k:=by
  intro z z0 z1
  have z0r:((-100000000:Int):Rat)<=(z:Rat):=Rat.intCast_le_intCast.2 z0
  have z1r:(z:Rat)<=((100000000:Int):Rat):=Rat.intCast_le_intCast.2 z1
  have e1:((-100000000:Int):Rat)=-100000000:=by decide +kernel
  have e2:((100000000:Int):Rat)=100000000:=by decide +kernel
  have e3:((4294967296:Int):Rat)=4294967296:=by decide +kernel
  rw [e1] at z0r
  rw [e2] at z1r
  apply VN P0
  .apply Rat.intCast_le_intCast.1
   rw [Rat.intCast_mul,Rat.intCast_mul,Rat.intCast_add,Mh,e3]
   grind
  .apply Rat.intCast_lt_intCast.1
   rw [Rat.intCast_mul,Rat.intCast_mul,Rat.intCast_add,Rat.intCast_add,Mh,e3,Rat.intCast_one]
   grind
 have kl:=key (-100000000) (by decide) (by decide)
 have kh:=key 100000000 (by decide) (by decide)
 have el:kL m d=k:=by
  unfold kL
  rw [<- kl]; rfl
 refine ⟨⟨?_,by omega,by omega,by rw [el]; exact kh⟩,el⟩
 have q1:365700000000000000000000000000000000*365700000000000000000000000000000000<=bA m d*bA m d:=Int.mul_le_mul y3 y3 (by decide) y0
 have q2:(133736490000000000000000000:Int)<=bA m d*bA m d / PP:=(Int.le_ediv_iff_mul_le P0).2 (Int.le_trans (by decide) q1)
 have q3:365700000000000000000000000000000000*133736490000000000000000000<=bA m d*(bA m d*bA m d / PP):=Int.mul_le_mul y3 q2 (by decide) y0
 have q4:(1000:Int)<=bA m d*(bA m d*bA m d / PP) / PP:=(Int.le_ediv_iff_mul_le P0).2 (Int.le_trans (by decide) q3)
 have q5:(1:Int)<=bA m d*(bA m d*bA m d / PP) / PP / (2*(2+1)):=(Int.le_ediv_iff_mul_le (by decide)).2 (by omega)
 omega
end Go.Sn
namespace Go.Ln
open Go.Sn
def nr (x y E:Rat):Prop:=x<=y+E/\y<=x+E
theorem mul_bd {x y A B:Rat} (hx:-A<=x) (hx2:x<=A) (hy:-B<=y) (hy2:y<=B):-(A*B)<=x*y/\x*y<=A*B:=by
 have h1:=Rat.mul_nonneg (a:=A - x) (b:=B - y) (by grind) (by grind)
 have h2:=Rat.mul_nonneg (a:=A+x) (b:=B+y) (by grind) (by grind)
 have h3:=Rat.mul_nonneg (a:=A - x) (b:=B+y) (by grind) (by grind)
 have h4:=Rat.mul_nonneg (a:=A+x) (b:=B - y) (by grind) (by grind)
 constructor <;> grind
theorem vQ {s A E c B F:Rat} (h1:nr s A E) (h2:nr c B F) (hs:0<=s) (hc:0<=c):nr (s*c) (A*B) (s*F+E*(c+F)):=by
 obtain ⟨a1,a2⟩:=h1
 obtain ⟨b1,b2⟩:=h2
 have m1:=mul_bd (x:=s) (y:=c - B) (A:=s) (B:=F) (by grind) (by grind) (by grind) (by grind)
 have m2:=mul_bd (x:=s - A) (y:=B) (A:=E) (B:=c+F) (by grind) (by grind) (by grind) (by grind)
 unfold nr
 constructor <;> grind
theorem QG {a A E b B F:Rat} (h1:nr a A E) (h2:nr b B F):nr (a+b) (A+B) (E+F):=by
 unfold nr at *; constructor <;> grind
theorem Zz {a A E b B F:Rat} (h1:nr a A E) (h2:nr b B F):nr (a - b) (A - B) (E+F):=by
 unfold nr at *; constructor <;> grind
theorem mh {a A E F:Rat} (h:nr a A E) (hf:E<=F):nr a A F:=by
 unfold nr at *; constructor <;> grind
theorem gq (n:Nat):(0:Rat)<=(n:Rat):=by exact_mod_cast Nat.zero_le n
theorem pw_pos (r:Nat):(0:Rat)<(2:Rat) ^ r:=by
 induction r with
 | zero=>simp; decide +kernel
 | succ r ih=>rw [Rat.pow_succ]; grind
theorem nI (r:Nat):((2 ^ r:Nat):Rat)=(2:Rat) ^ r:=by push_cast; rfl
theorem QH {z r E:Nat} {X T:Rat} (h:nr (z:Rat) ((2:Rat) ^ r*X) T) (hE:T<=(2:Rat) ^ r*(E:Rat)):nr ((z >>> r:Nat):Rat) X ((E:Rat)+1):=by
 have p:=pw_pos r
 have h1:(z >>> r)*2 ^ r<=z:=by rw [Nat.shiftRight_eq_div_pow]; exact Nat.div_mul_le_self ..
 have h2:z<((z >>> r)+1)*2 ^ r:=by
  rw [Nat.shiftRight_eq_div_pow]
  have:=Nat.lt_mul_div_succ z (Nat.two_pow_pos r)
  rw [Nat.mul_comm]; exact this
 have h1r:((z >>> r:Nat):Rat)*(2:Rat) ^ r<=(z:Rat):=by rw [<- nI]; exact_mod_cast h1
 have h2r:(z:Rat)<(((z >>> r:Nat):Rat)+1)*(2:Rat) ^ r:=by rw [<- nI]; exact_mod_cast h2
 generalize ((z >>> r:Nat):Rat)=y at *
 generalize (2:Rat) ^ r=k at *
 obtain ⟨a,b⟩:=h
 constructor
 .refine Rat.le_of_mul_le_mul_right (c:=k) ?_ p
  grind
 .refine Rat.le_of_mul_le_mul_right (c:=k) ?_ p
  grind
def iH (r B E1 c2 s2 E2:Nat):Nat:=((B*E2+E1*(c2+s2+2*E2)) >>> r)+3
theorem zT {r:Nat} (hr:r<=160) {x:Rat} (h0:0<=x) (h1:x<=8 / 5):(2:Rat) ^ r*tail 64 x<=1:=by
 have a:=(mg h0 h1 64).2
 have b:=acE
 have c:=(mg h0 h1 64).1
 have m:((2 ^ r:Nat):Rat)<=((2 ^ 230:Nat):Rat):=by
  have:2 ^ r<=2 ^ 230:=Nat.pow_le_pow_right (by decide) (by omega)
  exact_mod_cast this
 rw [nI,nI] at m
 have d:=Rat.mul_le_mul_of_nonneg_right m c
 have e:=Rat.mul_le_mul_of_nonneg_left a (show (0:Rat)<=(2:Rat) ^ 230 by have:=pw_pos 230; grind)
 grind
theorem rot {r:Nat} (hr:r<=160) {a b:Rat} (ha:0<=a) (hb:0<=b) (hab:a+b<=8 / 5) {s1 c1 s2 c2 E1 E2 B:Nat}
  (h1:nr (s1:Rat) ((2:Rat) ^ r*S 64 a) E1) (h2:nr (c1:Rat) ((2:Rat) ^ r*C 64 a) E1) (h3:nr (s2:Rat) ((2:Rat) ^ r*S 64 b) E2) (h4:nr (c2:Rat) ((2:Rat) ^ r*C 64 b) E2) (hB:s1+c1<=B):
  nr (((s1*c2+c1*s2) >>> r:Nat):Rat) ((2:Rat) ^ r*S 64 (a+b)) (iH r B E1 c2 s2 E2:Nat) /\
  (s1*s2<=c1*c2->nr (((c1*c2 - s1*s2) >>> r:Nat):Rat) ((2:Rat) ^ r*C 64 (a+b)) (iH r B E1 c2 s2 E2:Nat)):=by
 have p:=pw_pos r
 have t:=zT hr (show 0<=a+b by grind) hab
 have sa:=qi ha hb 64
 have ca:=uF ha hb 64
 have n1:=gq s1
 have n2:=gq c1
 have n3:=gq s2
 have n4:=gq c2
 have nE1:=gq E1
 have nE2:=gq E2
 have hE:((s1:Rat)+(c1:Rat))*(E2:Rat)+(E1:Rat)*((c2:Rat)+(s2:Rat)+2*(E2:Rat))+(2:Rat) ^ r<=(2:Rat) ^ r*((((B*E2+E1*(c2+s2+2*E2)) >>> r)+2:Nat):Rat):=by
  have h3:(s1+c1)*E2+E1*(c2+s2+2*E2)+2 ^ r<=2 ^ r*(((B*E2+E1*(c2+s2+2*E2)) >>> r)+2):=by
   have h0:=Nat.mul_le_mul_right E2 hB
   generalize E1*(c2+s2+2*E2)=Y at *
   generalize (s1+c1)*E2=Z at *
   generalize B*E2=V at *
   rw [Nat.shiftRight_eq_div_pow]
   have:=Nat.lt_mul_div_succ (V+Y) (Nat.two_pow_pos r)
   rw [Nat.mul_add] at this ⊢
   omega
  have:(((s1+c1)*E2+E1*(c2+s2+2*E2)+2 ^ r:Nat):Rat)<=((2 ^ r*(((B*E2+E1*(c2+s2+2*E2)) >>> r)+2):Nat):Rat):=by exact_mod_cast h3
  push_cast at this
  push_cast
  exact this
 have fin:∀ {z:Nat} {X:Rat},nr (z:Rat) ((2:Rat) ^ r*((2:Rat) ^ r*X)) (((s1:Rat)+(c1:Rat))*(E2:Rat)+(E1:Rat)*((c2:Rat)+(s2:Rat)+2*(E2:Rat))+(2:Rat) ^ r)->nr ((z >>> r:Nat):Rat) ((2:Rat) ^ r*X) (iH r B E1 c2 s2 E2:Nat):=by
  intro z X h
  have:=QH h hE
  have e:((iH r B E1 c2 s2 E2:Nat):Rat)=((((B*E2+E1*(c2+s2+2*E2)) >>> r)+2:Nat):Rat)+1:=by
   unfold iH; push_cast; grind
  rw [e]; exact this
 have t2:=Rat.mul_le_mul_of_nonneg_left t (show 0<=(2:Rat) ^ r by grind)
 constructor
 .apply fin
  have a1:=QG (vQ h1 h4 n1 n4) (vQ h2 h3 n2 n3)
  push_cast
  generalize (2:Rat) ^ r=k at *
  have k2:=Rat.mul_le_mul_of_nonneg_left sa.1 (show 0<=k*k from Rat.mul_nonneg (by grind) (by grind))
  have k3:=Rat.mul_le_mul_of_nonneg_left sa.2 (show 0<=k*k from Rat.mul_nonneg (by grind) (by grind))
  unfold nr at *
  constructor <;> grind
 .intro hle
  apply fin
  have a1:=Zz (vQ h2 h4 n2 n4) (vQ h1 h3 n1 n3)
  have e:((c1*c2 - s1*s2:Nat):Rat)=(c1:Rat)*(c2:Rat) - (s1:Rat)*(s2:Rat):=by
   have h:c1*c2 - s1*s2+s1*s2=c1*c2:=by omega
   have:((c1*c2 - s1*s2+s1*s2:Nat):Rat)=((c1*c2:Nat):Rat):=by rw [h]
   push_cast at this
   grind
  rw [e]
  generalize (2:Rat) ^ r=k at *
  have k2:=Rat.mul_le_mul_of_nonneg_left ca.1 (show 0<=k*k from Rat.mul_nonneg (by grind) (by grind))
  have k3:=Rat.mul_le_mul_of_nonneg_left ca.2 (show 0<=k*k from Rat.mul_nonneg (by grind) (by grind))
  unfold nr at *
  constructor <;> grind
def fP {α:Type} (n:Nat) (k:Nat->α):α:=match n with|0=>k 0|m+1=>k (Nat.succ m)
theorem uG {α:Type} (n:Nat) (k:Nat->α):fP n k=k n:=by cases n <;> rfl
def vC (m k CV SV c s:Nat):Nat:=CV+(((CV*c - SV*s) >>> 80) &&& (m*uE 164 k))*2 ^ (164*2 ^ k)
def vS (m k CV SV c s:Nat):Nat:=SV+(((SV*c+CV*s) >>> 80) &&& (m*uE 164 k))*2 ^ (164*2 ^ k)
def build:Nat->Nat->Nat->Nat->Nat->Nat->Nat->Nat->(Nat->Nat->Nat->Nat->Nat->Nat->Bool)->Bool
 | 0,_,CV,SV,EV,s,c,E,K=>K CV SV EV s c E
 | n+1,k,CV,SV,EV,s,c,E,K=>
  Nat.ble E (2 ^ 79)&&Nat.ble EV (2 ^ 70)&&Nat.ble (s*s) (c*c) &&
  fP (c >>> 80) fun cc=>fP (s >>> 80) fun ss=>fP (2 ^ 84 - 1) fun m=>
  fP (vC m k CV SV cc ss) fun CV'=>fP (vS m k CV SV cc ss) fun SV'=>fP (iH 80 (2 ^ 81) EV (cc+2 ^ 74) ss 2) fun EV'=>
  fP ((s*c+c*s) >>> 160) fun s'=>fP ((c*c - s*s) >>> 160) fun c'=>fP (iH 160 (s+c) E c s E) fun E'=>
  build n (k+1) CV' SV' EV' s' c' E' K
def Vec (η:Rat) (k E CV SV:Nat):Prop:=∃ fc fs:Nat->Nat,CV=aB 164 fc (2 ^ k)/\SV=aB 164 fs (2 ^ k)/\∀ j,j<2 ^ k->nr (fc j:Rat) ((2:Rat) ^ 80*C 64 (η*(j:Rat))) E/\nr (fs j:Rat) ((2:Rat) ^ 80*S 64 (η*(j:Rat))) E
def ak (a:Rat) (s c E:Nat):Prop:=nr (s:Rat) ((2:Rat) ^ 160*S 64 a) E/\nr (c:Rat) ((2:Rat) ^ 160*C 64 a) E
theorem S0:S 64 0=0:=by decide +kernel
theorem C0:C 64 0=1:=by decide +kernel
theorem Kn {x:Rat} (h0:0<=x) (h1:x<=1 / 500):-(1 / 100)<=S 64 x/\S 64 x<=1 / 100/\1 - 1 / 100<=C 64 x/\C 64 x<=1+1 / 100:=by
 have z:Z one 63 x<=5:=by
  have a:=BM h0 (show x<=8 / 5 by grind) 63
  have c:Z one 63 (8 / 5)<=Z one 64 (8 / 5):=o8 (by omega) fun i _=>by
   have:=o9 (show (0:Rat)<=8 / 5 by grind) i
   simp only [one]; grind
  exact Rat.le_trans (Rat.le_trans a c) Z5
 have z0:0<=Z one 63 x:=IY fun i _=>by
  have:=o9 h0 i
  simp only [one]; grind
 have m:=Rat.mul_le_mul_of_nonneg_left z h0
 have a:=QF QC (Rat.le_refl (a:=0)) h0 63
 have b:=QF QD (Rat.le_refl (a:=0)) h0 63
 have e1:Z sF (63+1) 0=0:=S0
 have e2:Z cF (63+1) 0=1:=C0
 rw [e1] at a
 rw [e2] at b
 unfold S C
 have e3:Z sF 64 x=Z sF (63+1) x:=rfl
 have e4:Z cF 64 x=Z cF (63+1) x:=rfl
 rw [e3,e4]
 generalize Z sF (63+1) x=p at *
 generalize Z cF (63+1) x=q at *
 refine ⟨?_,?_,?_,?_⟩ <;> grind
theorem P80:(2:Rat) ^ 80=1208925819614629174706176:=by decide +kernel
theorem I4 {x:Rat} (h0:0<=x) (h1:x<=1 / 500) {s c E:Nat} (hE:E<=2 ^ 70) (hc:nr (c:Rat) ((2:Rat) ^ 80*C 64 x) E) (hs:nr (s:Rat) ((2:Rat) ^ 80*S 64 x) E):2 ^ 80 - 2 ^ 74<=c/\c<=2 ^ 80+2 ^ 76/\s<=2 ^ 76:=by
 obtain ⟨s1,s2,c1,c2⟩:=Kn h0 h1
 have hEr:(E:Rat)<=((2 ^ 70:Nat):Rat):=by exact_mod_cast hE
 have e70:((2 ^ 70:Nat):Rat)=1180591620717411303424:=by decide +kernel
 rw [e70] at hEr
 rw [P80] at hc hs
 unfold nr at hc hs
 refine ⟨?_,?_,?_⟩
 .have:((2 ^ 80 - 2 ^ 74:Nat):Rat)<=(c:Rat):=by
   have e:((2 ^ 80 - 2 ^ 74:Nat):Rat)=1190036353683150593851392:=by decide +kernel
   rw [e]; grind
  exact_mod_cast this
 .have:(c:Rat)<=((2 ^ 80+2 ^ 76:Nat):Rat):=by
   have e:((2 ^ 80+2 ^ 76:Nat):Rat)=1284483683340543498125312:=by decide +kernel
   rw [e]; grind
  exact_mod_cast this
 .have:(s:Rat)<=((2 ^ 76:Nat):Rat):=by
   have e:((2 ^ 76:Nat):Rat)=75557863725914323419136:=by decide +kernel
   rw [e]; grind
  exact_mod_cast this
theorem Ko {a:Rat} {s c E:Nat} (h:ak a s c E) (hE:E<=2 ^ 80):nr ((s >>> 80:Nat):Rat) ((2:Rat) ^ 80*S 64 a) (2:Nat)/\nr ((c >>> 80:Nat):Rat) ((2:Rat) ^ 80*C 64 a) (2:Nat):=by
 have hEr:(E:Rat)<=((2 ^ 80:Nat):Rat):=by exact_mod_cast hE
 have key:∀ {z:Nat} {X:Rat},nr (z:Rat) ((2:Rat) ^ 160*X) E->nr ((z >>> 80:Nat):Rat) ((2:Rat) ^ 80*X) (2:Nat):=by
  intro z X h
  have e:(2:Rat) ^ 160*X=(2:Rat) ^ 80*((2:Rat) ^ 80*X):=by
   rw [show (2:Rat) ^ 160=(2:Rat) ^ 80*(2:Rat) ^ 80 by decide +kernel]; grind
  rw [e] at h
  have:=QH (E:=1) h (by
   have:((1:Nat):Rat)=1:=by decide +kernel
   rw [this,<- nI]; grind)
  exact mh this (by decide +kernel)
 exact ⟨key h.1,key h.2⟩
theorem wO {a b c d:Nat} (ha:a+c<=2 ^ 81) (hb:b<=2 ^ 82) (hd:d<=2 ^ 82):a*b+c*d<=2 ^ 163:=by
 have h1:=Nat.mul_le_mul_left a hb
 have h2:=Nat.mul_le_mul_left c hd
 have h3:=Nat.mul_le_mul_right (2 ^ 82) ha
 have e:2 ^ 81*2 ^ 82=2 ^ 163:=by rw [<- Nat.pow_add]
 rw [Nat.add_mul] at h3
 omega
theorem p2 {k:Nat}:((2 ^ k:Nat):Rat)=(2:Rat) ^ k:=nI k
theorem QI {η:Rat} (hη:0<=η) {k EV CV SV c s:Nat} (h:Vec η k EV CV SV) (hs:nr (s:Rat) ((2:Rat) ^ 80*S 64 (η*((2 ^ k:Nat):Rat))) (2:Nat)) (hc:nr (c:Rat) ((2:Rat) ^ 80*C 64 (η*((2 ^ k:Nat):Rat))) (2:Nat))
  (hx:η*((2 ^ (k+1):Nat):Rat)<=1 / 500) (hE:EV<=2 ^ 70):Vec η (k+1) (iH 80 (2 ^ 81) EV (c+2 ^ 74) s 2) (vC (2 ^ 84 - 1) k CV SV c s) (vS (2 ^ 84 - 1) k CV SV c s):=by
 obtain ⟨fc,fs,eC,eS,hv⟩:=h
 have ek:((2 ^ (k+1):Nat):Rat)=2*((2 ^ k:Nat):Rat):=by rw [Nat.pow_succ]; push_cast; grind
 have npk:=gq (2 ^ k)
 have hb0:0<=η*((2 ^ k:Nat):Rat):=Rat.mul_nonneg hη npk
 have hb1:η*((2 ^ k:Nat):Rat)<=1 / 500:=by rw [ek] at hx; grind
 have hj:∀ j:Nat,j<2 ^ k->0<=η*(j:Rat)/\η*(j:Rat)<=η*((2 ^ k:Nat):Rat):=fun j hj=>⟨Rat.mul_nonneg hη (gq j),Rat.mul_le_mul_of_nonneg_left (by exact_mod_cast Nat.le_of_lt hj) hη⟩
 obtain ⟨c0,c1,s1⟩:=I4 hb0 hb1 (show 2<=2 ^ 70 by decide) hc hs
 have hv2:∀ j,j<2 ^ k->2 ^ 80 - 2 ^ 74<=fc j/\fc j<=2 ^ 80+2 ^ 76/\fs j<=2 ^ 76:=fun j h=>I4 (hj j h).1 (Rat.le_trans (hj j h).2 hb1) hE (hv j h).1 (hv j h).2
 have e84:164 - 80=84:=rfl
 have hle:∀ j,j<2 ^ k->fs j*s<=fc j*c:=fun j h=>by
  obtain ⟨a1,a2,a3⟩:=hv2 j h
  exact Nat.mul_le_mul (Nat.le_trans a3 (Nat.le_trans (by decide) a1)) (Nat.le_trans s1 (Nat.le_trans (by decide) c0))
 have hlt:∀ j,j<2 ^ k->fc j*c+fs j*s<2 ^ 164:=fun j h=>by
  obtain ⟨a1,a2,a3⟩:=hv2 j h
  have:=wO (a:=fc j) (b:=c) (c:=fs j) (d:=s) (by omega) (by omega) (by omega)
  exact Nat.lt_of_le_of_lt this (by decide)
 have hlt2:∀ j,j<2 ^ k->fs j*c+fc j*s<2 ^ 164:=fun j h=>by
  obtain ⟨a1,a2,a3⟩:=hv2 j h
  have:=wO (a:=fs j) (b:=c) (c:=fc j) (d:=s) (by omega) (by omega) (by omega)
  exact Nat.lt_of_le_of_lt this (by decide)
 have lC:((CV*c - SV*s) >>> 80) &&& ((2 ^ 84 - 1)*uE 164 k)=aB 164 (fun j=>(fc j*c - fs j*s) / 2 ^ 80) (2 ^ k):=by
  rw [xy,<- o7,eC,eS,Nat.mul_comm (aB 164 fc _),Nat.mul_comm (aB 164 fs _),iZ,iZ,Mf (fun j h=>by rw [Nat.mul_comm s,Nat.mul_comm c]; exact hle j h)]
  rw [gY (g:=fun j=>fc j*c - fs j*s) (fun j _=>by rw [Nat.mul_comm c,Nat.mul_comm s])]
  exact BJ (p:=80) (by decide) (by decide) (fun j h=>by have:=hlt j h; omega)
 have lS:((SV*c+CV*s) >>> 80) &&& ((2 ^ 84 - 1)*uE 164 k)=aB 164 (fun j=>(fs j*c+fc j*s) / 2 ^ 80) (2 ^ k):=by
  rw [xy,<- o7,eC,eS,Nat.mul_comm (aB 164 fc _),Nat.mul_comm (aB 164 fs _),iZ,iZ,j5]
  rw [gY (g:=fun j=>fs j*c+fc j*s) (fun j _=>by rw [Nat.mul_comm c,Nat.mul_comm s])]
  exact BJ (p:=80) (by decide) (by decide) (fun j h=>hlt2 j h)
 have spl:∀ f g:Nat->Nat,aB 164 f (2 ^ k)+aB 164 g (2 ^ k)*2 ^ (164*2 ^ k)=aB 164 (fun i=>if i<2 ^ k then f i else g (i - 2 ^ k)) (2 ^ (k+1)):=by
  intro f g
  rw [show 2 ^ (k+1)=2 ^ k+2 ^ k by rw [Nat.pow_succ]; omega,BK]
  rw [gY (f:=fun i=>if i<2 ^ k then f i else g (i - 2 ^ k)) (g:=f) (fun i h=>by simp [h])]
  rw [gY (f:=fun i=>if 2 ^ k+i<2 ^ k then f (2 ^ k+i) else g (2 ^ k+i - 2 ^ k)) (g:=g) (fun i h=>by rw [if_neg (by omega),show 2 ^ k+i - 2 ^ k=i by omega])]
 have hEE:(EV:Rat)<=(iH 80 (2 ^ 81) EV (c+2 ^ 74) s 2:Nat):=by
  have:EV<=iH 80 (2 ^ 81) EV (c+2 ^ 74) s 2:=by
   unfold iH
   rw [Nat.shiftRight_eq_div_pow]
   have h1:EV*2 ^ 80<=EV*(c+2 ^ 74+s+2*2):=Nat.mul_le_mul_left _ (by omega)
   have h2:EV<=(2 ^ 81*2+EV*(c+2 ^ 74+s+2*2)) / 2 ^ 80:=(Nat.le_div_iff_mul_le (Nat.two_pow_pos 80)).2 (by omega)
   omega
  exact_mod_cast this
 have hE2:((iH 80 (2 ^ 81) EV c s 2:Nat):Rat)<=(iH 80 (2 ^ 81) EV (c+2 ^ 74) s 2:Nat):=by
  have:iH 80 (2 ^ 81) EV c s 2<=iH 80 (2 ^ 81) EV (c+2 ^ 74) s 2:=by
   unfold iH
   rw [Nat.shiftRight_eq_div_pow,Nat.shiftRight_eq_div_pow]
   have h1:EV*(c+s+2*2)<=EV*(c+2 ^ 74+s+2*2):=Nat.mul_le_mul_left _ (by omega)
   exact Nat.add_le_add_right (Nat.div_le_div_right (by omega)) 3
  exact_mod_cast this
 refine ⟨fun i=>if i<2 ^ k then fc i else (fc (i - 2 ^ k)*c - fs (i - 2 ^ k)*s) / 2 ^ 80,fun i=>if i<2 ^ k then fs i else (fs (i - 2 ^ k)*c+fc (i - 2 ^ k)*s) / 2 ^ 80,?_,?_,?_⟩
 .unfold vC
  rw [lC,eC]; exact spl _ _
 .unfold vS
  rw [lS,eS]; exact spl _ _
 .intro i hi
  dsimp only
  by_cases h:i<2 ^ k
  .rw [if_pos h,if_pos h]
   have hh:=hv i h
   exact ⟨mh hh.1 hEE,mh hh.2 hEE⟩
  .rw [if_neg h,if_neg h]
   have hi2:i - 2 ^ k<2 ^ k:=by rw [Nat.pow_succ] at hi; omega
   obtain ⟨a1,a2,a3⟩:=hv2 _ hi2
   obtain ⟨g1,g2⟩:=hj _ hi2
   have ei:η*(i:Rat)=η*((i - 2 ^ k:Nat):Rat)+η*((2 ^ k:Nat):Rat):=by
    have:((i - 2 ^ k+2 ^ k:Nat):Rat)=(i:Rat):=by rw [Nat.sub_add_cancel (by omega)]
    rw [<- this]; push_cast; grind
   have r:=rot (r:=80) (by decide) g1 hb0 (by grind) (hv _ hi2).2 (hv _ hi2).1 hs hc (B:=2 ^ 81) (by omega)
   rw [<- Nat.shiftRight_eq_div_pow,<- Nat.shiftRight_eq_div_pow,ei]
   exact ⟨mh (r.2 (hle _ hi2)) hE2,mh r.1 hE2⟩
theorem GJ {a b:Rat} (ha:0<=a) (hb:0<=b) (hab:a+b<=8 / 5) {s1 c1 E1 s2 c2 E2:Nat} (h1:ak a s1 c1 E1) (h2:ak b s2 c2 E2) (hle:s1*s2<=c1*c2):
  ak (a+b) ((s1*c2+c1*s2) >>> 160) ((c1*c2 - s1*s2) >>> 160) (iH 160 (s1+c1) E1 c2 s2 E2):=by
 have r:=rot (r:=160) (by decide) ha hb hab h1.1 h1.2 h2.1 h2.2 (Nat.le_refl _)
 exact ⟨r.1,r.2 hle⟩
theorem build_ok {η:Rat} (hη:0<=η):∀ (n k CV SV EV s c E:Nat) (K:Nat->Nat->Nat->Nat->Nat->Nat->Bool),Vec η k EV CV SV->ak (η*((2 ^ k:Nat):Rat)) s c E->η*((2 ^ (k+n):Nat):Rat)<=1 / 500->build n k CV SV EV s c E K=true ->
  ∃ CV' SV' EV' s' c' E',Vec η (k+n) EV' CV' SV'/\ak (η*((2 ^ (k+n):Nat):Rat)) s' c' E'/\K CV' SV' EV' s' c' E'=true
 | 0,k,CV,SV,EV,s,c,E,K,hv,hs,_,h=>⟨_,_,_,_,_,_,hv,hs,h⟩
 | n+1,k,CV,SV,EV,s,c,E,K,hv,hs,hx,h=>by
  rw [build] at h
  simp only [uG,Bool.and_eq_true,Nat.ble_eq] at h
  obtain ⟨⟨⟨h1,h2⟩,h3⟩,h4⟩:=h
  have hle:∀ {i j:Nat},i<=j->η*((2 ^ i:Nat):Rat)<=η*((2 ^ j:Nat):Rat):=fun {i j} hij=>Rat.mul_le_mul_of_nonneg_left (by exact_mod_cast Nat.pow_le_pow_right (by decide) hij) hη
  have hx1:η*((2 ^ (k+1):Nat):Rat)<=1 / 500:=Rat.le_trans (hle (by omega)) hx
  have hk0:0<=η*((2 ^ k:Nat):Rat):=Rat.mul_nonneg hη (gq _)
  have ek:η*((2 ^ (k+1):Nat):Rat)=η*((2 ^ k:Nat):Rat)+η*((2 ^ k:Nat):Rat):=by rw [Nat.pow_succ]; push_cast; grind
  obtain ⟨g1,g2⟩:=Ko hs (Nat.le_trans h1 (by decide))
  have v2:=QI hη hv g1 g2 hx1 h2
  have s2:=GJ hk0 hk0 (by rw [<- ek]; grind) hs hs h3
  rw [<- ek] at s2
  have ih:=build_ok hη n (k+1) _ _ _ _ _ _ K v2 s2 (by rw [show k+1+n=k+(n+1) by omega]; exact hx) h4
  rw [show k+1+n=k+(n+1) by omega] at ih
  exact ih
theorem acI {η:Rat}:Vec η 0 0 (2 ^ 80) 0:=by
 refine ⟨fun _=>2 ^ 80,fun _=>0,by simp [aB],by simp [aB],fun j hj=>?_⟩
 have:j=0:=by omega
 subst this
 have e:η*((0:Nat):Rat)=0:=by simp
 rw [e,S0,C0]
 have z:((0:Nat):Rat)=0:=by simp
 rw [z,nI]
 unfold nr
 refine ⟨⟨?_,?_⟩,⟨?_,?_⟩⟩ <;> grind
def Mj (x:Rat) (k:Int):Prop:=(k:Rat)+dl<=4294967296*S 64 x/\4294967296*S 64 x<=(k:Rat)+1 - dl
def VP (b xb ex:Nat):Nat:=match Nat.beq b xb with|true=>ex|false=>0
def tst (CV SV EE MM KK HH xb ex b s c E:Nat):Bool:=
 fP (s >>> 80) fun sa=>fP (c >>> 80) fun ca=>
 Nat.ble E (2 ^ 80)&&Nat.ble (sa+ca) (2 ^ 82)&&far 164 65536 128 0 (sa*CV+ca*SV+VP b xb ex) EE MM KK HH
def run (CV SV sL cL EL EE MM KK HH xb ex:Nat) (fin:Nat->Nat->Nat->Nat->Bool):Nat->Nat->Nat->Nat->Nat->Bool
 | 0,b,s,c,E=>fin b s c E
 | n+1,b,s,c,E=>
  tst CV SV EE MM KK HH xb ex b s c E&&Nat.ble (s*sL) (c*cL) &&
  fP (b+1) fun b'=>fP ((s*cL+c*sL) >>> 160) fun s'=>fP ((c*cL - s*sL) >>> 160) fun c'=>fP (iH 160 (s+c) E cL sL EL) fun E'=>
  run CV SV sL cL EL EE MM KK HH xb ex fin n b' s' c' E'
structure Cst (N EE MM KK HH:Nat):Prop where
 e:EE=aB 164 (fun _=>2 ^ 94) N
 m:MM=aB 164 (fun _=>2 ^ 128 - 1) N
 k:KK=aB 164 (fun _=>2 ^ 128 - 2*2 ^ 94) N
 h:HH=aB 164 (fun _=>2 ^ 128) N
def ae (η:Rat) (xb xj b:Nat):Prop:=∀ j,j<65536->¬(b=xb/\j=xj)->∃ k:Int,Mj (η*((b*65536+j:Nat):Rat)) k
theorem QJ {x:Nat} {T:Rat} (h:2*2 ^ 94<=(x+2 ^ 94) % 2 ^ 128) (hn:nr (x:Rat) ((2:Rat) ^ 160*T) ((2 ^ 92:Nat):Rat)):∃ k:Int,(k:Rat)+dl<=4294967296*T/\4294967296*T<=(k:Rat)+1 - dl:=by
 have h1:=Nat.div_add_mod (x+2 ^ 94) (2 ^ 128)
 have h2:=Nat.mod_lt (x+2 ^ 94) (show 2 ^ 128>0 by decide)
 refine ⟨((x+2 ^ 94) / 2 ^ 128:Nat),?_⟩
 generalize (x+2 ^ 94) / 2 ^ 128=k at *
 have a:k*2 ^ 128+2 ^ 94<=x:=by omega
 have b:x+2 ^ 94<=(k+1)*2 ^ 128:=by omega
 have ar:((k*2 ^ 128+2 ^ 94:Nat):Rat)<=(x:Rat):=by exact_mod_cast a
 have br:((x+2 ^ 94:Nat):Rat)<=(((k+1)*2 ^ 128:Nat):Rat):=by exact_mod_cast b
 rw [Rat.natCast_add,Rat.natCast_mul] at ar
 rw [Rat.natCast_add,Rat.natCast_mul,Rat.natCast_add] at br
 have e1:((2 ^ 128:Nat):Rat)=340282366920938463463374607431768211456:=by decide +kernel
 have e2:((2 ^ 94:Nat):Rat)=19807040628566084398385987584:=by decide +kernel
 have e3:((2 ^ 92:Nat):Rat)=4951760157141521099596496896:=by decide +kernel
 have e4:(2:Rat) ^ 160=4294967296*340282366920938463463374607431768211456:=by decide +kernel
 have e5:((1:Nat):Rat)=1:=by decide +kernel
 have e6:(((k:Nat):Int):Rat)=(k:Rat):=Rat.intCast_natCast k
 rw [e1,e2] at ar
 rw [e1,e2,e5] at br
 rw [e3,e4] at hn
 rw [e6]
 unfold nr at hn
 unfold dl
 constructor <;> grind
theorem mix {P x A1 A2 T F t B:Rat} (p:0<P) (a:nr x (P*A1+P*A2) F) (sn:-t<=A1+A2 - T/\A1+A2 - T<=t) (tl:P*t<=1) (hB:F+1<=B):nr x (P*T) B:=by
 have k2:=Rat.mul_le_mul_of_nonneg_left sn.1 (show 0<=P by grind)
 have k3:=Rat.mul_le_mul_of_nonneg_left sn.2 (show 0<=P by grind)
 unfold nr at *
 constructor <;> grind
theorem QK {N:Nat} (hN:2 ^ 16=N) {η:Rat} (hη:0<=η) {EV CV SV EE MM KK HH xb xj ex b s c E:Nat} (hv:Vec η 16 EV CV SV) (hE:EV<=512) (hx:η*65536<=1 / 500) (hc:Cst N EE MM KK HH) (hxj:xj<65536) (hex:ex=2 ^ 127*2 ^ (164*xj))
  (hb:η*((b*65536:Nat):Rat)+η*65536<=8 / 5) (hs:ak (η*((b*65536:Nat):Rat)) s c E) (h:tst CV SV EE MM KK HH xb ex b s c E=true):ae η xb xj b:=by
 unfold tst at h
 simp only [uG,Bool.and_eq_true,Nat.ble_eq] at h
 obtain ⟨⟨h1,h2⟩,h3⟩:=h
 obtain ⟨g1,g2⟩:=Ko hs h1
 obtain ⟨fc,fs,eC,eS,hv⟩:=hv
 have n16:N=65536:=by rw [<- hN]
 rw [hN] at eC eS hv
 have hj:∀ j:Nat,j<N->0<=η*(j:Rat)/\η*(j:Rat)<=η*65536:=fun j hj=>by
  refine ⟨Rat.mul_nonneg hη (gq j),Rat.mul_le_mul_of_nonneg_left ?_ hη⟩
  have:(j:Rat)<=((65536:Nat):Rat):=by exact_mod_cast Nat.le_of_lt (n16 ▸ hj)
  have e:((65536:Nat):Rat)=65536:=by decide +kernel
  rw [e] at this; exact this
 have hv2:∀ j,j<N->2 ^ 80 - 2 ^ 74<=fc j/\fc j<=2 ^ 80+2 ^ 76/\fs j<=2 ^ 76:=fun j h=>I4 (hj j h).1 (Rat.le_trans (hj j h).2 hx) (Nat.le_trans hE (by decide)) (hv j h).1 (hv j h).2
 generalize s >>> 80=sa at *
 generalize c >>> 80=ca at *
 have hX:sa*CV+ca*SV+VP b xb ex=aB 164 (fun i=>sa*fc i+ca*fs i+(if i=xj then (if b=xb then 2 ^ 127 else 0) else 0)) N:=by
  rw [eC,eS,iZ,iZ,j5]
  have:VP b xb ex=aB 164 (fun i=>if i=xj then (if b=xb then 2 ^ 127 else 0) else 0) N:=by
   rw [BL,if_pos (show xj<N by omega)]
   unfold VP
   by_cases hb:b=xb
   .rw [if_pos hb,show Nat.beq b xb=true by rw [Nat.beq_eq]; exact hb]; exact hex
   .rw [if_neg hb,show Nat.beq b xb=false from Bool.eq_false_iff.2 (fun h=>hb (Nat.eq_of_beq_eq_true h))]; simp
  rw [this,j5]
 have hlt:∀ i,i<N->sa*fc i+ca*fs i<=2 ^ 163:=fun i hi=>by
  obtain ⟨a1,a2,a3⟩:=hv2 i hi
  have b1:=Nat.mul_le_mul_left sa (show fc i<=2 ^ 81 by omega)
  have b2:=Nat.mul_le_mul_left ca (show fs i<=2 ^ 81 by omega)
  have b3:=Nat.mul_le_mul_right (2 ^ 81) h2
  rw [Nat.add_mul] at b3
  have e:2 ^ 82*2 ^ 81=2 ^ 163:=by rw [<- Nat.pow_add]
  omega
 have key:=Zw (w:=164) (n:=N) (v:=128) (e:=2 ^ 94) hX hc.e hc.m hc.k hc.h (fun i hi=>by
  have:=hlt i hi
  have e1:(if i=xj then (if b=xb then 2 ^ 127 else 0) else 0)<=2 ^ 127:=by split <;> (try split) <;> decide
  omega) (by decide) (by decide) h3
 intro j hj2 hne
 rw [<- n16] at hj2
 have kj:=key j hj2
 have z:(if j=xj then (if b=xb then 2 ^ 127 else 0) else 0)=0:=by
  by_cases h1:j=xj
  .rw [if_pos h1,if_neg (fun h=>hne ⟨h,h1⟩)]
  .rw [if_neg h1]
 obtain ⟨x,hxx⟩:∃ x,x=sa*fc j+ca*fs j+(if j=xj then (if b=xb then 2 ^ 127 else 0) else 0):=⟨_,rfl⟩
 rw [<- hxx] at kj
 rw [z,Nat.add_zero] at hxx
 have b0:0<=η*((b*65536:Nat):Rat):=Rat.mul_nonneg hη (gq _)
 obtain ⟨j0,j1⟩:=hj j hj2
 have e:η*((b*65536+j:Nat):Rat)=η*((b*65536:Nat):Rat)+η*(j:Rat):=by push_cast; grind
 unfold Mj
 rw [e]
 refine QJ kj ?_
 rw [hxx]
 have sn:=(qi b0 j0 64)
 have a1:=QG (vQ g1 (hv j hj2).1 (gq _) (gq _)) (vQ g2 (hv j hj2).2 (gq _) (gq _))
 have tl:=zT (r:=160) (by decide) (show 0<=η*((b*65536:Nat):Rat)+η*(j:Rat) by grind) (by grind)
 obtain ⟨d1,d2,d3⟩:=hv2 j hj2
 clear e
 generalize η*((b*65536:Nat):Rat)=A at *
 have bnd:(sa*EV+2*(fc j+EV))+(ca*EV+2*(fs j+EV))+1<=2 ^ 92:=by
  have m1:=Nat.mul_le_mul h2 hE
  rw [Nat.add_mul] at m1
  omega
 have bndr:(((sa*EV+2*(fc j+EV))+(ca*EV+2*(fs j+EV))+1:Nat):Rat)<=((2 ^ 92:Nat):Rat):=by exact_mod_cast bnd
 have e1:((2:Nat):Rat)=2:=by decide +kernel
 have e2:((1:Nat):Rat)=1:=by decide +kernel
 simp only [Rat.natCast_add,Rat.natCast_mul] at bndr
 rw [e1] at a1
 simp only [Rat.natCast_add,Rat.natCast_mul]
 rw [e1,e2] at bndr
 have e4:∀ x y:Rat,(2:Rat) ^ 80*x*((2:Rat) ^ 80*y)=(2:Rat) ^ 160*(x*y):=fun x y=>by
  rw [show (2:Rat) ^ 160=(2:Rat) ^ 80*(2:Rat) ^ 80 by decide +kernel]; grind
 rw [e4,e4] at a1
 exact mix (pw_pos 160) a1 sn tl bndr
theorem run_ok {N:Nat} (hN:2 ^ 16=N) {η:Rat} (hη:0<=η) {EV CV SV sL cL EL EE MM KK HH xb xj ex:Nat} (hv:Vec η 16 EV CV SV) (hE:EV<=512) (hx:η*65536<=1 / 500) (hc:Cst N EE MM KK HH) (hxj:xj<65536) (hex:ex=2 ^ 127*2 ^ (164*xj)) (hL:ak (η*((2 ^ 16:Nat):Rat)) sL cL EL) (fin:Nat->Nat->Nat->Nat->Bool):
  ∀ (n b s c E:Nat),η*(((b+n)*65536:Nat):Rat)<=8 / 5->ak (η*((b*65536:Nat):Rat)) s c E->run CV SV sL cL EL EE MM KK HH xb ex fin n b s c E=true ->
  (∀ i,i<n->ae η xb xj (b+i))/\∃ s' c' E',ak (η*(((b+n)*65536:Nat):Rat)) s' c' E'/\fin (b+n) s' c' E'=true:=by
 intro n
 induction n with
 | zero=>
  intro b s c E _ hs h
  exact ⟨fun i hi=>absurd hi (Nat.not_lt_zero i),s,c,E,hs,h⟩
 | succ n ih=>
  intro b s c E hb hs h
  rw [run] at h
  simp only [uG,Bool.and_eq_true,Nat.ble_eq] at h
  obtain ⟨⟨h1,h2⟩,h3⟩:=h
  have e16:((2 ^ 16:Nat):Rat)=65536:=by decide +kernel
  have m:η*(((b+1)*65536:Nat):Rat)<=η*(((b+(n+1))*65536:Nat):Rat):=Rat.mul_le_mul_of_nonneg_left (by exact_mod_cast Nat.mul_le_mul_right 65536 (by omega)) hη
  have e:η*(((b+1)*65536:Nat):Rat)=η*((b*65536:Nat):Rat)+η*65536:=by
   rw [Nat.add_mul,Rat.natCast_add,show ((1*65536:Nat):Rat)=65536 by decide +kernel]; grind
  have b0:0<=η*((b*65536:Nat):Rat):=Rat.mul_nonneg hη (gq _)
  have t:=QK hN hη hv hE hx hc hxj hex (by rw [<- e]; grind) hs h1
  have hL2:=hL
  rw [e16] at hL2
  have s2:=GJ b0 (show 0<=η*65536 by grind) (by rw [<- e]; grind) hs hL2 h2
  rw [<- e] at s2
  have ih:=ih (b+1) _ _ _ (by rw [show b+1+n=b+(n+1) by omega]; exact hb) s2 h3
  rw [show b+1+n=b+(n+1) by omega] at ih
  refine ⟨fun i hi=>?_,ih.2⟩
  cases i with
  | zero=>exact t
  | succ i=>
   have:=ih.1 i (by omega)
   rw [show b+1+i=b+(i+1) by omega] at this
   exact this
def aH (s0 c0 E0 xb xj n b s c E:Nat) (last:Bool) (s1 c1 E1:Nat):Bool:=
 build 16 0 (2 ^ 80) 0 0 s0 c0 E0 fun CV SV EV sL cL EL=>
  Nat.ble EV 512&&fP (uE 164 16) fun ON=>fP (2 ^ 94*ON) fun EE=>fP ((2 ^ 128 - 1)*ON) fun MM=>fP ((2 ^ 128 - 2*2 ^ 94)*ON) fun KK=>fP (2 ^ 128*ON) fun HH=>fP (2 ^ 127*2 ^ (164*xj)) fun ex=>
  run CV SV sL cL EL EE MM KK HH xb ex (fun b s c E=>match last with|true=>tst CV SV EE MM KK HH xb ex b s c E|false=>Nat.beq s s1&&Nat.beq c c1&&Nat.beq E E1) n b s c E
theorem ag {η:Rat} (hη:0<=η) (hx:η*65536<=1 / 500) {s0 c0 E0 xb xj n b s c E s1 c1 E1:Nat} {last:Bool} (h0:ak η s0 c0 E0) (hxj:xj<65536) (hb:η*(((b+n)*65536:Nat):Rat)+η*65536<=8 / 5)
  (hs:ak (η*((b*65536:Nat):Rat)) s c E) (h:aH s0 c0 E0 xb xj n b s c E last s1 c1 E1=true):
  (∀ i,i<n->ae η xb xj (b+i))/\(last=true->ae η xb xj (b+n))/\(last=false->ak (η*(((b+n)*65536:Nat):Rat)) s1 c1 E1):=by
 unfold aH at h
 have e1:η*((2 ^ 0:Nat):Rat)=η:=by
  rw [show ((2 ^ 0:Nat):Rat)=1 by decide +kernel]; grind
 have e2:η*((2 ^ (0+16):Nat):Rat)=η*65536:=by
  rw [show ((2 ^ (0+16):Nat):Rat)=65536 by decide +kernel]
 obtain ⟨CV,SV,EV,sL,cL,EL,hv,hL,h⟩:=build_ok hη 16 0 _ _ _ _ _ _ _ acI (by rw [e1]; exact h0) (by rw [e2]; exact hx) h
 rw [show 0+16=16 from rfl] at hv hL
 simp only [uG,Bool.and_eq_true,Nat.ble_eq] at h
 obtain ⟨hE,h⟩:=h
 obtain ⟨N,hN⟩:∃ N,2 ^ 16=N:=⟨_,rfl⟩
 have hc:Cst N (2 ^ 94*uE 164 16) ((2 ^ 128 - 1)*uE 164 16) ((2 ^ 128 - 2*2 ^ 94)*uE 164 16) (2 ^ 128*uE 164 16):=by
  rw [xy,hN]
  constructor <;> exact (o7 _ _ _).symm
 obtain ⟨r1,s',c',E',r2,r3⟩:=run_ok hN hη hv hE hx hc hxj rfl hL _ n b s c E (by grind) hs h
 refine ⟨r1,fun hl=>?_,fun hl=>?_⟩
 .subst hl
  exact QK hN hη hv hE hx hc hxj rfl hb r2 r3
 .subst hl
  simp only [Bool.and_eq_true] at r3
  obtain ⟨⟨a,b⟩,c⟩:=r3
  rw [<- Nat.eq_of_beq_eq_true a,<- Nat.eq_of_beq_eq_true b,<- Nat.eq_of_beq_eq_true c]
  exact r2
def eD:Rat:=hp / 90000000
def DZ:Nat:=25508015594712326045995713164063788870687
def D5:Nat:=1461501637330902695604255943821487705123777369966
theorem GK:ak eD DZ D5 2:=⟨⟨by decide +kernel,by decide +kernel⟩,⟨by decide +kernel,by decide +kernel⟩⟩
theorem qB:0<=eD/\eD*65536<=1 / 500:=by decide +kernel
end Go.Ln
