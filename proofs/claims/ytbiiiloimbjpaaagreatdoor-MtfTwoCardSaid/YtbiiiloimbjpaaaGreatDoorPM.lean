/- What is proved: MtfTwo returns true, whatever the input (part 13). No conditions beyond those of the row. -/
import Derived.Test.YtbiiiloimbjpaaaGreatDoorPJ
import Derived.Test.YtbiiiloimbjpaaaGreatDoorPK
import Derived.Test.YtbiiiloimbjpaaaGreatDoorPL
import Derived.KernelRfl
open Go.IntKind (i64 u64)
set_option linter.unusedVariables false
set_option linter.unusedSimpArgs false
set_option linter.unusedSectionVars false
namespace Go.Dg
open Go Go.Eng
theorem yE:val fH=4294967296:=by decide
theorem Qx:Dig fH:=fun x a=>by
 simp only [fH,aN,eX,eY] at a;rcases a with rfl|rfl <;> decide
theorem Qy:Top fH:=by unfold Top;decide
theorem ar5 (x:Nat->Int):val (oX6 x)=x 0+1000000000*(x 1+1000000000*(x 2+1000000000*(x 3+1000000000*(x 4+1000000000*(x 5+1000000000*0))))):=rfl
theorem ar6 (x:Nat->Int):val (oX7 x)=x 0+1000000000*(x 1+1000000000*(x 2+1000000000*(x 3+1000000000*(x 4+1000000000*(x 5+1000000000*(x 6+1000000000*0)))))):=rfl
theorem EZ (x:Nat->Int) (i:Nat):x i*200000000+cyN x i=dyN x i+1000000000*cyN x (i+1):=by show _=(x i*200000000+cyN x i) % 1000000000+1000000000*((x i*200000000+cyN x i) / 1000000000);omega
theorem Gl (x:Nat->Int) (n k:Nat):rmN x n k*1000000000+dyN x (n - 2 - k)=858993459200000000*qyN x n k+rmN x n (k+1):=by show _=858993459200000000*((rmN x n k*1000000000+dyN x (n - 2 - k)) / 858993459200000000)+(rmN x n k*1000000000+dyN x (n - 2 - k)) % 858993459200000000;omega
theorem xm {x:Nat->Int} {n:Nat} (h:∀ i,i<n->0<=x i/\x i<1000000000) (k:Nat):0<=qyN x n k/\qyN x n k<1000000000:=by have a:=K3 h k;have b:=UV x (n - 2 - k);have c:=Gl x n k;have d:=K3 h (k+1);omega
theorem ar7 {x:Nat->Int} (h:∀ i,i<6->0<=x i/\x i<1000000000):
  val (oX6 x) / 4294967296=val [qyN x 6 4,qyN x 6 3,qyN x 6 2,qyN x 6 1,qyN x 6 0]:=by
 have c0:=EZ x 0;have c1:=EZ x 1;have c2:=EZ x 2;have c3:=EZ x 3;have c4:=EZ x 4;have a:=EZ x 5;have r0:=Gl x 6 0;have r1:=Gl x 6 1;have b:=Gl x 6 2;have c:=Gl x 6 3;have d:=Gl x 6 4;have f:rmN x 6 0=cyN x 6*1000000000+dyN x 5:=rfl;have g:cyN x 0=0:=rfl;have hb:=K3 h 5;rw [ar5];simp only [Nat.reduceSub,Nat.reduceAdd] at *
 show _=qyN x 6 4+1000000000*(qyN x 6 3+1000000000*(qyN x 6 2+1000000000*(qyN x 6 1+1000000000*(qyN x 6 0+1000000000*0))));generalize cyN x 0=a0 at *;generalize cyN x 1=a1 at *;generalize cyN x 2=a2 at *;generalize cyN x 3=j at *;generalize cyN x 4=k at *;generalize cyN x 5=l at *;generalize cyN x 6=m at *
 generalize dyN x 0=n at *;generalize dyN x 1=o at *;generalize dyN x 2=p at *;generalize dyN x 3=q at *;generalize dyN x 4=r at *;generalize dyN x 5=s at *
 generalize rmN x 6 0=s0 at *;generalize rmN x 6 1=t at *;generalize rmN x 6 2=u at *;generalize rmN x 6 3=v at *;generalize rmN x 6 4=w at *;generalize rmN x 6 5=y at *
 generalize qyN x 6 0=z at *;generalize qyN x 6 1=A at *;generalize qyN x 6 2=D at *;generalize qyN x 6 3=E at *;generalize qyN x 6 4=q4 at *
 generalize x 0=x0 at *;generalize x 1=x1 at *;generalize x 2=F at *;generalize x 3=H at *;generalize x 4=I at *;generalize x 5=J at *
 clear h;omega
theorem ar8 {x:Nat->Int} (h:∀ i,i<7->0<=x i/\x i<1000000000):
  val (oX7 x) / 4294967296=val [qyN x 7 5,qyN x 7 4,qyN x 7 3,qyN x 7 2,qyN x 7 1,qyN x 7 0]:=by
 have c0:=EZ x 0;have c1:=EZ x 1;have c2:=EZ x 2;have c3:=EZ x 3;have c4:=EZ x 4;have a:=EZ x 5;have c6:=EZ x 6;have r0:=Gl x 7 0;have r1:=Gl x 7 1;have b:=Gl x 7 2;have c:=Gl x 7 3;have d:=Gl x 7 4;have f:=Gl x 7 5;have g:rmN x 7 0=cyN x 7*1000000000+dyN x 6:=rfl;have j:cyN x 0=0:=rfl;have hb:=K3 h 6;rw [ar6];simp only [Nat.reduceSub,Nat.reduceAdd] at *
 show _=qyN x 7 5+1000000000*(qyN x 7 4+1000000000*(qyN x 7 3+1000000000*(qyN x 7 2+1000000000*(qyN x 7 1+1000000000*(qyN x 7 0+1000000000*0)))));generalize cyN x 0=a0 at *;generalize cyN x 1=a1 at *;generalize cyN x 2=a2 at *;generalize cyN x 3=k at *;generalize cyN x 4=l at *;generalize cyN x 5=m at *;generalize cyN x 6=n at *;generalize cyN x 7=o at *
 generalize dyN x 0=p at *;generalize dyN x 1=q at *;generalize dyN x 2=r at *;generalize dyN x 3=s at *;generalize dyN x 4=t at *;generalize dyN x 5=u at *;generalize dyN x 6=v at *
 generalize rmN x 7 0=s0 at *;generalize rmN x 7 1=w at *;generalize rmN x 7 2=y at *;generalize rmN x 7 3=z at *;generalize rmN x 7 4=A at *;generalize rmN x 7 5=D at *;generalize rmN x 7 6=E at *
 generalize qyN x 7 0=F at *;generalize qyN x 7 1=H at *;generalize qyN x 7 2=I at *;generalize qyN x 7 3=J at *;generalize qyN x 7 4=q4 at *;generalize qyN x 7 5=K at *
 generalize x 0=x0 at *;generalize x 1=x1 at *;generalize x 2=L at *;generalize x 3=M at *;generalize x 4=N at *;generalize x 5=O at *;generalize x 6=P at *
 clear h;omega
theorem UW {l:List Int} {n:Int} {b r t:Prop} (hn:(l.length:Int)=n) (f:3<=n) (g:n<=1000) (hd:Dig l) (a:Top l) (i:4294967296<=val l) (hb:b) (c:r) (h:t):xk l n b r t:=by
 have e:oLX l=n - 1:=by unfold oLX;rw [hn,iw (n:=n - 2) (by omega) (by omega),iw (by omega) (by omega)];omega
 have d:¬ EU l fH<0:=fun h=>by
  have:=(afJ hd Qx a Qy (by omega) (by decide)).1 h;rw [yE] at this;omega
 refine ⟨rfl,⟨⟨⟨rfl,rfl⟩,by unfold Sm;omega,by unfold Sm;decide⟩,aG d⟩,⟨⟨by decide,by decide⟩,by decide,rfl⟩,⟨⟨hn,⟨hn,hb⟩,hn⟩,rfl,⟨rfl,⟨⟨by decide,by decide⟩,by decide,rfl⟩,⟨by decide,by decide⟩,by decide,rfl⟩,rfl⟩,⟨rfl,by omega,by omega⟩,⟨e,c⟩,h⟩
theorem wX {l:List Int} {n:Int} (hn:(l.length:Int)=n) (a:3<=n) (b:n<=1000):oLX l=n - 1:=by unfold oLX;rw [hn,iw (n:=n - 2) (by omega) (by omega),iw (by omega) (by omega)];omega
theorem M7 (l:List Int) (m:Nat) (w:Nat->Nat->Int):∀ k,(oQl l m w k).length=(oLX l).toNat
 | 0=>by simp [oQl]
 | k+1=>by simp [oQl,M7 l m w k]
theorem vJ {x:Nat->Int} {n:Nat} (h:∀ i,i<n->0<=x i/\x i<1000000000) (l:List Int) (i:Nat) (hi:i<n) (d:l.length=n) (c:l.getD i 0=x i):Bt l i (dyN x i) (cyN x (i+1)) (cyN x i):=by have a:=aa0 h i (by omega);have b:=h i hi;exact akB (z:=x i) (by omega) (by omega) c b.1 b.2 a.1 a.2 rfl rfl
theorem akD {x:Nat->Int} (h:∀ i,i<6->0<=x i/\x i<1000000000):aa1 (ovW x 6) (oX6 x):=
 ⟨vJ h _ 0 (by decide) rfl rfl,vJ h _ 1 (by decide) rfl rfl,vJ h _ 2 (by decide) rfl rfl,vJ h _ 3 (by decide) rfl rfl,vJ h _ 4 (by decide) rfl rfl,vJ h _ 5 (by decide) rfl rfl⟩
theorem akE {x:Nat->Int} (h:∀ i,i<7->0<=x i/\x i<1000000000):Qv (ovW x 7) (oX7 x):=
 ⟨vJ h _ 0 (by decide) rfl rfl,vJ h _ 1 (by decide) rfl rfl,vJ h _ 2 (by decide) rfl rfl,vJ h _ 3 (by decide) rfl rfl,vJ h _ 4 (by decide) rfl rfl,vJ h _ 5 (by decide) rfl rfl,vJ h _ 6 (by decide) rfl rfl⟩
theorem yF {x:Nat->Int} {n:Nat} (h:∀ i,i<n->0<=x i/\x i<1000000000) {l:List Int} (k:Nat) {A B j len:Int} (c:A=rmN x n k / 1000000000) (d:B=rmN x n k % 1000000000) (f:0<=j) (g:j<len) {q:List Int} (m:j.toNat<q.length):
  akz (rmN x n k / 1000000000) (rmN x n k % 1000000000) (dyN x (n - 2 - k)) (qyN x n k) (200000000*qyN x n k % 1000000000) (200000000*qyN x n k / 1000000000) (rmN x n (k+1) % 1000000000) (b1N x n k) (858993459*qyN x n k % 1000000000) (858993459*qyN x n k / 1000000000) (rmN x n (k+1) / 1000000000) (rmN x n k / 1000000000) (qyN x n k) A B j len q:=by
 have a:=K3 h k;have b:=UV x (n - 2 - k);exact akA a.1 a.2 b.1 b.2 c d f g m
theorem rm0 {x:Nat->Int} {n:Nat} (h:∀ i,i<n->0<=x i/\x i<1000000000):cyN x n=rmN x n 0 / 1000000000/\dyN x (n - 1)=rmN x n 0 % 1000000000:=by have b:=UV x (n - 1);have e:rmN x n 0=cyN x n*1000000000+dyN x (n - 1):=rfl;omega
theorem akF {x:Nat->Int} (h:∀ i,i<6->0<=x i/\x i<1000000000):aa2 (ovW x 6) (oX6 x):=by
 have e:=wX (l:=oX6 x) (n:=6) rfl (by decide) (by decide);have a:∀ k,(oQl (oX6 x) 4 (ovW x 6) k).length=5:=fun k=>by rw [M7,e];rfl
 obtain ⟨a0,b⟩:=rm0 h;refine ⟨yF h (l:=oX6 x) 0 a0 b ?_ ?_ ?_,yF h (l:=oX6 x) 1 rfl rfl ?_ ?_ ?_,yF h (l:=oX6 x) 2 rfl rfl ?_ ?_ ?_,yF h (l:=oX6 x) 3 rfl rfl ?_ ?_ ?_,yF h (l:=oX6 x) 4 rfl rfl ?_ ?_ ?_⟩ <;> first|decide|(rw [e];decide)|(rw [a];decide)
theorem akG {x:Nat->Int} (h:∀ i,i<7->0<=x i/\x i<1000000000):Qw (ovW x 7) (oX7 x):=by
 have e:=wX (l:=oX7 x) (n:=7) rfl (by decide) (by decide);have a:∀ k,(oQl (oX7 x) 5 (ovW x 7) k).length=6:=fun k=>by rw [M7,e];rfl
 obtain ⟨a0,b⟩:=rm0 h;refine ⟨yF h (l:=oX7 x) 0 a0 b ?_ ?_ ?_,yF h (l:=oX7 x) 1 rfl rfl ?_ ?_ ?_,yF h (l:=oX7 x) 2 rfl rfl ?_ ?_ ?_,yF h (l:=oX7 x) 3 rfl rfl ?_ ?_ ?_,yF h (l:=oX7 x) 4 rfl rfl ?_ ?_ ?_,yF h (l:=oX7 x) 5 rfl rfl ?_ ?_ ?_⟩ <;> first|decide|(rw [e];decide)|(rw [a];decide)
theorem ql6 (x:Nat->Int):oQl (oX6 x) 4 (ovW x 6) 5=[qyN x 6 4,qyN x 6 3,qyN x 6 2,qyN x 6 1,qyN x 6 0]:=by have e:=wX (l:=oX6 x) (n:=6) rfl (by decide) (by decide);simp only [oQl,e];rfl
theorem ql7 (x:Nat->Int):oQl (oX7 x) 5 (ovW x 7) 6=[qyN x 7 5,qyN x 7 4,qyN x 7 3,qyN x 7 2,qyN x 7 1,qyN x 7 0]:=by have e:=wX (l:=oX7 x) (n:=7) rfl (by decide) (by decide);simp only [oQl,e];rfl
theorem M8 {l:List Int} (h:∀ y∈l,∃ x n k,(∀ i,i<n->0<=x i/\x i<1000000000)/\y=qyN x n k):Dig l:=fun y a=>by
 obtain ⟨x,n,k,b,rfl⟩:=h y a;exact xm b k
theorem dq6 {x:Nat->Int} (h:∀ i,i<6->0<=x i/\x i<1000000000) (c:4294967296000000000000000000000000000000000000<=val (oX6 x)):
  qyN x 6 0≠0/\aA (val (oX6 x) / 4294967296).toNat=[qyN x 6 4,qyN x 6 3,qyN x 6 2,qyN x 6 1,qyN x 6 0]:=by
 have q:=ar7 h;have d:=xm h 0;have f:=xm h 1;have g:=xm h 2;have j:=xm h 3;have k:=xm h 4;have a:qyN x 6 0≠0:=fun z=>by
  simp only [val] at q;rw [z] at q;omega
 refine ⟨a,?_⟩;rw [q];refine kF (M8 fun y b=>?_) (.inr a);simp only [aN,eX,eY] at b;rcases b with rfl|rfl|rfl|rfl|rfl <;> exact ⟨x,6,_,h,rfl⟩
theorem dq7 {x:Nat->Int} (h:∀ i,i<7->0<=x i/\x i<1000000000) (d:4294967296000000000000000000000000000000000000<=val (oX7 x)):
  (qyN x 7 0≠0->aA (val (oX7 x) / 4294967296).toNat=[qyN x 7 5,qyN x 7 4,qyN x 7 3,qyN x 7 2,qyN x 7 1,qyN x 7 0]) /\
  (qyN x 7 0=0->qyN x 7 1≠0/\aA (val (oX7 x) / 4294967296).toNat=[qyN x 7 5,qyN x 7 4,qyN x 7 3,qyN x 7 2,qyN x 7 1]):=by
 have q:=ar8 h;have f:=xm h 0;have g:=xm h 1;have j:=xm h 2;have k:=xm h 3;have l:=xm h 4;have m:=xm h 5;refine ⟨fun b=>?_,fun z=>?_⟩
 .rw [q];refine kF (M8 fun y a=>?_) (.inr b);simp only [aN,eX,eY] at a;rcases a with rfl|rfl|rfl|rfl|rfl|rfl <;> exact ⟨x,7,_,h,rfl⟩
 .have b:qyN x 7 1≠0:=fun c=>by
   simp only [val] at q;rw [z,c] at q;omega
  refine ⟨b,?_⟩;have e:val [qyN x 7 5,qyN x 7 4,qyN x 7 3,qyN x 7 2,qyN x 7 1,qyN x 7 0]=val [qyN x 7 5,qyN x 7 4,qyN x 7 3,qyN x 7 2,qyN x 7 1]:=by rw [z];simp only [val];omega
  rw [q,e];refine kF (M8 fun y a=>?_) (.inr b);simp only [aN,eX,eY] at a;rcases a with rfl|rfl|rfl|rfl|rfl <;> exact ⟨x,7,_,h,rfl⟩
theorem Qz {x:Nat->Int} {n:Nat} (h:∀ i,i<n->0<=x i/\x i<1000000000) (k:Nat):(0<=rmN x n k / 1000000000/\rmN x n k / 1000000000<1000000000)/\0<=rmN x n k % 1000000000/\rmN x n k % 1000000000<1000000000:=by have a:=K3 h k;omega
theorem aa3 {a b:Int} (ha:0<=a/\a<1000000000) (hb:0<=b/\b<1000000000) (h:a≠0):tU2 a b:=
 ⟨⟨rfl,rfl,dm.2 h⟩,fA.2 ⟨hb,fA.2 ⟨ha,fun _ h=>by cases h⟩⟩,dI rfl,by decide,by decide⟩
theorem aa4 {a b:Int} (ha:a=0) (hb:0<=b/\b<1000000000) (h:b≠0):tU1 a b:=
 ⟨⟨⟨⟨rfl,rfl,dV.2 ha⟩,rfl⟩,rfl,rfl,dm.2 h⟩,fA.2 ⟨hb,fun _ h=>by cases h⟩,dI rfl,by decide,by decide⟩
theorem aa5 {a b:Int} (ha:a=0) (hb:b=0):tU0 a b:=
 ⟨⟨⟨⟨rfl,rfl,dV.2 ha⟩,rfl⟩,⟨⟨rfl,rfl,dV.2 hb⟩,rfl⟩,rfl⟩,fun _ h=>(by cases h),by decide,by decide,by decide⟩
theorem aa6 {x:Nat->Int} (a:qyN x 6 0≠0):tQ0 (oX6 x) 4 (oQl (oX6 x) 4 (ovW x 6) 5):=by have e:=wX (l:=oX6 x) (n:=6) rfl (by decide) (by decide);refine ⟨e,e,⟨by decide,by rw [e];decide⟩,by rw [ql6];show (4:Nat)<5;decide,?_⟩;rw [ql6];exact dm.2 a
theorem aa7 {x:Nat->Int} (a:qyN x 7 0≠0):tQ0 (oX7 x) 5 (oQl (oX7 x) 5 (ovW x 7) 6):=by have e:=wX (l:=oX7 x) (n:=7) rfl (by decide) (by decide);refine ⟨e,e,⟨by decide,by rw [e];decide⟩,by rw [ql7];show (5:Nat)<6;decide,?_⟩;rw [ql7];exact dm.2 a
theorem aa8 {x:Nat->Int} (z:qyN x 7 0=0) (a:qyN x 7 1≠0):tQ1 (oX7 x) (oQl (oX7 x) 5 (ovW x 7) 6):=by
 have e:=wX (l:=oX7 x) (n:=7) rfl (by decide) (by decide);have e:oLX (oX7 x)=6:=e;refine ⟨⟨⟨e,e,⟨by decide,by rw [e];decide⟩,by rw [ql7];show (5:Nat)<6;decide,?_⟩,e,by decide,by decide,by rw [e];decide⟩,rfl,rfl,⟨by decide,by decide⟩,by rw [ql7];show (4:Nat)<6;decide,?_⟩
 .rw [ql7];exact dV.2 z
 .rw [ql7];exact dm.2 a
end Go.Dg
namespace Go.Proofs.YtbiiiloimbjpaaaGreatDoor.K
open Go Go.Eng Go.Dg
noncomputable section
def OvD (a b:List Int):Prop:=Dig a/\Top a/\(a.length=6\/a.length=7)/\4294967296000000000000000000000000000000000000<=val a/\b=fH
theorem WK {x:Nat->Int} (hq:aA (val (oX6 x) / 4294967296).toNat=[qyN x 6 4,qyN x 6 3,qyN x 6 2,qyN x 6 1,qyN x 6 0]):
  ((0:Int)<=0/\0<=oLX (oX6 x)/\0+oLX (oX6 x)<=((oQl (oX6 x) 4 (ovW x 6) 5).length:Int))/\List.take (oLX (oX6 x)).toNat (List.drop (Int.toNat 0) (oQl (oX6 x) 4 (ovW x 6) 5))=aA (val (oX6 x) / val fH).toNat:=by
 have e:=wX (l:=oX6 x) (n:=6) rfl (by decide) (by decide);have e:oLX (oX6 x)=5:=e;rw [ql6,e,yE,hq];exact ⟨⟨dO _,by decide,dO _⟩,rfl⟩
theorem WL {x:Nat->Int} (hq:aA (val (oX7 x) / 4294967296).toNat=[qyN x 7 5,qyN x 7 4,qyN x 7 3,qyN x 7 2,qyN x 7 1,qyN x 7 0]):
  ((0:Int)<=0/\0<=oLX (oX7 x)/\0+oLX (oX7 x)<=((oQl (oX7 x) 5 (ovW x 7) 6).length:Int))/\List.take (oLX (oX7 x)).toNat (List.drop (Int.toNat 0) (oQl (oX7 x) 5 (ovW x 7) 6))=aA (val (oX7 x) / val fH).toNat:=by
 have e:=wX (l:=oX7 x) (n:=7) rfl (by decide) (by decide);have e:oLX (oX7 x)=6:=e;rw [ql7,e,yE,hq];exact ⟨⟨dO _,by decide,dO _⟩,rfl⟩
theorem WM {x:Nat->Int} (hq:aA (val (oX7 x) / 4294967296).toNat=[qyN x 7 5,qyN x 7 4,qyN x 7 3,qyN x 7 2,qyN x 7 1]):
  ((0:Int)<=0+0/\(0:Int)<=5 - 0/\(0+0+(5 - 0):Int)<=((oQl (oX7 x) 5 (ovW x 7) 6).length:Int))/\List.take (5 - 0:Int).toNat (List.drop (Int.toNat (0+0)) (oQl (oX7 x) 5 (ovW x 7) 6))=aA (val (oX7 x) / val fH).toNat:=by
 rw [ql7,yE,hq];exact ⟨⟨by decide,by decide,by show (5:Int)<=((6:Nat):Int);decide⟩,rfl⟩
theorem WN {a b:List Int} (h:OvD a b):ad7 Tryz.prog (fun _=>none) hG0 123 .i64 [.li,.li] [] [a,b] (.tu [.li false (aA (val a / val b).toNat),.any]):=by
  obtain ⟨hd,n,l,o,rfl⟩:=h;rcases l with l|l
  .obtain ⟨x,rfl⟩:∃ x:Nat->Int,a=oX6 x:=⟨fun i=>a.getD i 0,by
    match a,l with
    | [a0,a1,a2,p,r,s],_=>rfl⟩
   have h:∀ i,i<6->0<=x i/\x i<1000000000:=fun i hi=>by
    refine hd _ ?_
    match i,hi with
    | 0,_|1,_|2,_|3,_|4,_|5,_=>simp [oX6]
   have j:4294967296<=val (oX6 x):=by omega
   obtain ⟨ra,k⟩:=Qz h 5;have c:∀ {t:Prop},t->xk (oX6 x) 6 (aa1 (ovW x 6) (oX6 x)) (aa2 (ovW x 6) (oX6 x)) t:=fun q=>UW rfl (by decide) (by decide) hd n j (akD h) (akF h) q;obtain ⟨d,hq⟩:=dq6 h o;by_cases f:rmN x 6 5 / 1000000000=0
   .by_cases g:rmN x 6 5 % 1000000000=0
    .exact ⟨air (ovW x 6),300,zB (oX6 x) fH,_,_,_,_,_,wW _ _,rfl,rfl,⟨rfl,rfl,trivial⟩,aoJ (ovW x 6) x,rfl,c ⟨aa5 f g,aa6 d⟩,rfl,rfl,(WK hq).1,(WK hq).2⟩
    .exact ⟨ais (ovW x 6),300,zB (oX6 x) fH,_,_,_,_,_,wW _ _,rfl,rfl,⟨rfl,rfl,trivial⟩,aoK (ovW x 6) x,rfl,c ⟨aa4 f k g,aa6 d⟩,rfl,rfl,(WK hq).1,(WK hq).2⟩
   .exact ⟨ait (ovW x 6),300,zB (oX6 x) fH,_,_,_,_,_,wW _ _,rfl,rfl,⟨rfl,rfl,trivial⟩,aoL (ovW x 6) x,rfl,c ⟨aa3 ra k f,aa6 d⟩,rfl,rfl,(WK hq).1,(WK hq).2⟩
  .obtain ⟨x,rfl⟩:∃ x:Nat->Int,a=oX7 x:=⟨fun i=>a.getD i 0,by
    match a,l with
    | [a0,a1,a2,p,r,s,w],_=>rfl⟩
   have h:∀ i,i<7->0<=x i/\x i<1000000000:=fun i hi=>by
    refine hd _ ?_
    match i,hi with
    | 0,_|1,_|2,_|3,_|4,_|5,_|6,_=>simp [oX7]
   have j:4294967296<=val (oX7 x):=by omega
   obtain ⟨ra,k⟩:=Qz h 6;have c:∀ {t:Prop},t->xk (oX7 x) 7 (Qv (ovW x 7) (oX7 x)) (Qw (ovW x 7) (oX7 x)) t:=fun q=>UW rfl (by decide) (by decide) hd n j (akE h) (akG h) q;obtain ⟨u,v⟩:=dq7 h o;by_cases d:qyN x 7 0=0
   .obtain ⟨m,hq⟩:=v d;by_cases f:rmN x 7 6 / 1000000000=0
    .by_cases g:rmN x 7 6 % 1000000000=0
     .exact ⟨aiv (ovW x 7),300,zB (oX7 x) fH,_,_,_,_,_,wW _ _,rfl,rfl,⟨rfl,rfl,trivial⟩,aoN (ovW x 7) x,rfl,c ⟨aa5 f g,aa8 d m⟩,rfl,rfl,(WM hq).1,(WM hq).2⟩
     .exact ⟨aix (ovW x 7),300,zB (oX7 x) fH,_,_,_,_,_,wW _ _,rfl,rfl,⟨rfl,rfl,trivial⟩,aoP (ovW x 7) x,rfl,c ⟨aa4 f k g,aa8 d m⟩,rfl,rfl,(WM hq).1,(WM hq).2⟩
    .exact ⟨aiz (ovW x 7),300,zB (oX7 x) fH,_,_,_,_,_,wW _ _,rfl,rfl,⟨rfl,rfl,trivial⟩,aoR (ovW x 7) x,rfl,c ⟨aa3 ra k f,aa8 d m⟩,rfl,rfl,(WM hq).1,(WM hq).2⟩
   .have hq:=u d;by_cases f:rmN x 7 6 / 1000000000=0
    .by_cases g:rmN x 7 6 % 1000000000=0
     .exact ⟨aiu (ovW x 7),300,zB (oX7 x) fH,_,_,_,_,_,wW _ _,rfl,rfl,⟨rfl,rfl,trivial⟩,aoM (ovW x 7) x,rfl,c ⟨aa5 f g,aa7 d⟩,rfl,rfl,(WL hq).1,(WL hq).2⟩
     .exact ⟨aiw (ovW x 7),300,zB (oX7 x) fH,_,_,_,_,_,wW _ _,rfl,rfl,⟨rfl,rfl,trivial⟩,aoO (ovW x 7) x,rfl,c ⟨aa4 f k g,aa7 d⟩,rfl,rfl,(WL hq).1,(WL hq).2⟩
    .exact ⟨aiy (ovW x 7),300,zB (oX7 x) fH,_,_,_,_,_,wW _ _,rfl,rfl,⟨rfl,rfl,trivial⟩,aoQ (ovW x 7) x,rfl,c ⟨aa3 ra k f,aa7 d⟩,rfl,rfl,(WL hq).1,(WL hq).2⟩
def OvG (a b:List Int):Prop:=OvD a b
def akH:List Nu->List (List Int)->Option (Prop×To)
 | [],[a,b]=>some (OvG a b,.tu [.li false (aA (val a / val b).toNat),.any])
 | _,_=>none
theorem aa9:NOk Tryz.prog (fun _=>none) hG0 123 (bQ hG0 .i64 [.li,.li] akH):=by
 refine fw (fun xs ys p t e h=>?_) ⟨_,Tryz.func123,rfl⟩;unfold akH at e;split at e
 .rename_i a b;cases e;exact WN h
 .cases e
def tZ4:List (FuncId×ku):=(123,bQ hG0 .i64 [.li,.li] akH) :: (120,bQ hG0 .i64 [.li] akw) :: tZ3
theorem akI:∀ x∈tZ4,NOk Tryz.prog (fun _=>none) hG0 x.1 x.2:=by
 intro x a;rcases aN.1 a with rfl|a
 .exact aa9
 rcases aN.1 a with rfl|a
 .exact akx
 exact aaZ x a
def cZ4:Ctx:=mkN Tryz.prog (fun _=>none) hG0 tZ4 [] lw
theorem akJ:CtxOk cZ4:=mf prog_ok (iY _) akI (fun x h=>by cases h)
def cQu (l:List (Nat×Bool)):Ctx:=eZ cZ4 (hZ (l.map fun x=>(x.1,match x.2 with|true=>.bool false true|false=>.bool false false)))
theorem M9 (l:List (Nat×Bool)):CtxOk (cQu l):=bW akJ _
def yG (m d:Int):List AV:=[.int true .i64 m,.int true .i64 d]
def quY (m d:Int):List Int:=aA (val (aA (val (aA RGT.toNat)*val (aA m.toNat)).toNat) / val (aA d.toNat)).toNat
def quS (m d:Int):List Int:=aA (seR (quY m d) none).toNat
def UX (m d:Int):Prop:=(((m==0)=false/\(m==d)=false/\(i64.wrap ((3:Int)*m)==d)=false)/\((Dig [(0:Int),(0:Int),(0:Int),(0:Int),(0:Int),(1:Int)]/\[(0:Int),(0:Int),(0:Int),(0:Int),(0:Int),(1:Int)].length<=(100:Nat)/\val [(0:Int),(0:Int),(0:Int),(0:Int),(0:Int),(1:Int)]=PP)/\((0:Int)<m/\m<1000000000000000000)/\(((↑(aA RGT.toNat).length:Int)=(↑(aA RGT.toNat).length:Int)/\(↑(aA m.toNat).length:Int)=(↑(aA m.toNat).length:Int))/\Dig (aA RGT.toNat)/\Dig (aA m.toNat)/\(aA RGT.toNat).length+(aA m.toNat).length<=(500000:Nat))/\((0:Int)<d/\d<1000000000000000000)/\((↑(aA (val (aA RGT.toNat)*val (aA m.toNat)).toNat).length:Int)=(↑(aA (val (aA RGT.toNat)*val (aA m.toNat)).toNat).length:Int)/\(↑(aA d.toNat).length:Int)=(↑(aA d.toNat).length:Int))/\OvG (aA (val (aA RGT.toNat)*val (aA m.toNat)).toNat) (aA d.toNat))/\((↑(quY m d).length:Int)=(↑(quY m d).length:Int)/\(5:Int)=5/\SeD (quY m d))/\(((↑(quS m d).length:Int)=(↑(quS m d).length:Int)/\Sm (quS m d)/\Sm [(100000000:Int)])/\decide (EU (quS m d) [(100000000:Int)]<=0)=false)/\(((↑(quS m d).length:Int)=(↑(quS m d).length:Int)/\Dig (quS m d)/\Dig [(100000000:Int)]/\(0:Nat)<(quS m d).length/\(quS m d).length<=(500000:Nat)/\[(100000000:Int)].length<=(quS m d).length/\val [(100000000:Int)]<=val (quS m d))/\(↑(aA (val (quS m d) - val [(100000000:Int)]).toNat).length:Int)=(↑(aA (val (quS m d) - val [(100000000:Int)]).toNat).length:Int)/\(5:Int)=5/\DwD (aA (val (quS m d) - val [(100000000:Int)]).toNat))/\((↑(quS m d).length:Int)=(↑(quS m d).length:Int)/\Dig (quS m d)/\Dig [(100000000:Int)]/\((0:Nat)<(quS m d).length\/(0:Nat) < [(100000000:Int)].length)/\(quS m d).length<=(400000:Nat)/\[(100000000:Int)].length<=(400000:Nat))/\((↑(aA (val (quS m d)+val [(100000000:Int)]).toNat).length:Int)=(↑(aA (val (quS m d)+val [(100000000:Int)]).toNat).length:Int)/\(5:Int)=5/\DwD (aA (val (quS m d)+val [(100000000:Int)]).toNat))/\(val (aA (val (quS m d)+val [(100000000:Int)]).toNat)*4294967296 / PP != val (aA (val (quS m d) - val [(100000000:Int)]).toNat)*4294967296 / PP)=false)
def Sz (m d:Int):AV:=(AV.agg [AV.int true i64 (val (aA (val (quS m d) - val [(100000000:Int)]).toNat)*4294967296 / PP),AV.int true i64 (i64.wrap (val (aA (val (quS m d) - val [(100000000:Int)]).toNat)*4294967296 / PP+1))])
def akK (m d:Int):Hp:=⟨[],(0:Nat),70⟩
theorem ar9 (m d:Int):(run (cQu [(14,false),(19,false),(25,false),(55,false),(67,false)]) 300).call 104 (yG m d) hG0=some ⟨.p (UX m d),[⟨.tt,Sz m d,akK m d⟩]⟩:=by kernel_rfl
def agd (m d:Int):Prop:=((m==0)=true)
def akL (m d:Int):AV:=(AV.agg [AV.int false i64 (Int.ofNat (0:Nat)),AV.int false i64 (Int.ofNat (0:Nat))])
def akM (m d:Int):Hp:=⟨[],(0:Nat),9⟩
theorem asa (m d:Int):(run (cQu [(14,true)]) 300).call 104 (yG m d) hG0=some ⟨.p (agd m d),[⟨.tt,akL m d,akM m d⟩]⟩:=by kernel_rfl
def age (m d:Int):Prop:=((m==0)=false/\(m==d)=true)
def akN (m d:Int):AV:=(AV.agg [AV.int false i64 (Int.ofNat 4294967296),AV.int false i64 (Int.ofNat 4294967296)])
def akO (m d:Int):Hp:=⟨[],(0:Nat),13⟩
theorem asb (m d:Int):(run (cQu [(14,false),(19,true)]) 300).call 104 (yG m d) hG0=some ⟨.p (age m d),[⟨.tt,akN m d,akO m d⟩]⟩:=by kernel_rfl
def agf (m d:Int):Prop:=((m==0)=false/\(m==d)=false/\(i64.wrap ((3:Int)*m)==d)=true)
def akP (m d:Int):AV:=(AV.agg [AV.int false i64 (Int.ofNat 2147483648),AV.int false i64 (Int.ofNat 2147483648)])
def akQ (m d:Int):Hp:=⟨[],(0:Nat),18⟩
theorem asc (m d:Int):(run (cQu [(14,false),(19,false),(25,true)]) 300).call 104 (yG m d) hG0=some ⟨.p (agf m d),[⟨.tt,akP m d,akQ m d⟩]⟩:=by kernel_rfl
theorem aba:Dig [0,0,0,0,0,1]:=fun x a=>by simp at a;omega
theorem aoS {m d:Int} (a:0<m) (h1:m<=d):0<=eG m d/\eG m d<=1700000000000000000000000000000000000000000000:=by
 have c:0<RG:=by decide
 refine ⟨bu (aV (by omega) (by omega)) (by omega),jk (b:=RG) (gM (by omega) (bq h1 (by omega))) (by decide)⟩
theorem Na {m d:Int} (a:0<m) (h1:m<=d):quY m d=aA (eG m d).toNat/\val (quY m d)=eG m d:=by
 have b:val (aA RGT.toNat)=RG:=dv (by decide);have c:val (aA m.toNat)=m:=dv (by omega);have e3:val (aA d.toNat)=d:=dv (by omega);have f:val (aA (RG*m).toNat)=RG*m:=dv (aV (by decide) (by omega));have e:quY m d=aA (eG m d).toNat:=by unfold quY;rw [b,c,f,e3];rfl
 exact ⟨e,by rw [e];exact dv (aoS a h1).1⟩
theorem agh {m d:Int} (a:0<m) (h1:m<=d) (b:0<=rC m d):quS m d=aA (rC m d).toNat/\val (quS m d)=rC m d:=by
 obtain ⟨f,c⟩:=Na a h1;have e:quS m d=aA (rC m d).toNat:=by unfold quS;show aA (uE (Br (quY m d)) 200 2 (val (quY m d)) (val (quY m d))).toNat=_;unfold Br;rw [c];rfl
 exact ⟨e,by rw [e];exact dv b⟩
theorem aoT {m d:Int} (a:0<m) (h1:m<=d) (g:SinG m d):SeD (quY m d):=by
 obtain ⟨b,c⟩:=Na a h1;obtain ⟨h,f⟩:=aoS a h1;refine ⟨by rw [b];exact bU _,?_,by rw [c];exact f,?_⟩
 .rw [b];exact dF (qU h (jk f (by decide))) (by decide)
 .have:=g.t;unfold seT Br;rw [c];exact this
theorem abb {v:Int} (a:0<=v) (h1:v<=3*PP):DwD (aA v.toNat):=by
 have p:=lm;refine ⟨bU _,dF (qU a (by omega)) (by decide),?_⟩;rw [aaR,dv a];refine oL (b:=12884901888) (gM p ?_) (by decide);have:(12884901888:Int)*PP=3*PP*4294967296:=by decide
 rw [this];exact bG h1 (by decide)
theorem abd {m d:Int} (g:SinG m d):0<=qV m d/\qV m d<=12884901888:=by
 have p:=lm;have:=g.far;have:=g.hi;refine ⟨bu (aV (by omega) (by decide)) (by omega),gM p ?_⟩;have e:(12884901888:Int)*PP=3*PP*4294967296:=by decide
 rw [e];exact bG (by omega) (by decide)
end
end Go.Proofs.YtbiiiloimbjpaaaGreatDoor.K
namespace Go.Ln
def bX (w:Nat) (f:Nat->Nat):Nat->Nat
 | 0=>0
 | n+1=>bX w f n+f n*2 ^ (w*n)
theorem sK (w:Nat) (f g:Nat->Nat) (n:Nat):bX w f n+bX w g n=bX w (fun i=>f i+g i) n:=by
 induction n with
 | zero=>rfl
 | succ n a=>simp only [bX];rw [<- a];grind
theorem pQ (w k:Nat) (f:Nat->Nat) (n:Nat):k*bX w f n=bX w (fun i=>k*f i) n:=by
 induction n with
 | zero=>rfl
 | succ n a=>simp only [bX];rw [<- a];grind
theorem yH {w:Nat} {f:Nat->Nat} {n:Nat} (h:∀ i,i<n->f i<2 ^ w):bX w f n<2 ^ (w*n):=by
 induction n with
 | zero=>simp [bX]
 | succ n a=>
  have h1:=a (fun i hi=>h i (by omega));have h2:=h n (by omega);simp only [bX];have e:2 ^ (w*(n+1))=2 ^ w*2 ^ (w*n):=by rw [Ef,kV,bZ]
  rw [e];have h3:(f n+1)*2 ^ (w*n)<=2 ^ w*2 ^ (w*n):=jI _ h2;rw [dR] at h3;omega
theorem nN {w:Nat} {f g:Nat->Nat} {n:Nat} (h:∀ i,i<n->f i=g i):bX w f n=bX w g n:=by
 induction n with
 | zero=>rfl
 | succ n a=>
  simp only [bX];rw [a (fun i hi=>h i (by omega)),h n (by omega)]
theorem WO {w:Nat} {f g:Nat->Nat} {n:Nat} (c:∀ i,i<n->f i<2 ^ w) (d:∀ i,i<n->g i<2 ^ w) (h:bX w f n=bX w g n):∀ i,i<n->f i=g i:=by
 induction n with
 | zero=>intro i hi;omega
 | succ n k=>
  have a:=yH (fun i hi=>c i (show i<n+1 by omega):∀ i,i<n->f i<2 ^ w);have b:=yH (fun i hi=>d i (show i<n+1 by omega):∀ i,i<n->g i<2 ^ w);simp only [bX] at h;have p:0<2 ^ (w*n):=rO _;have q:f n=g n:=by have h1:=bL (· / 2 ^ (w*n)) h;simp only [Nat.add_mul_div_right _ _ p] at h1;rw [uQ a,uQ b] at h1;omega
  rw [q] at h;intro i hi;rcases aX i n with h2|h2
  .exact k (fun j l=>c j (by omega)) (fun j l=>d j (by omega)) (by omega) i h2
  .have:i=n:=by omega
   subst this;exact q
theorem WP {k a b c d:Nat} (ha:a<2 ^ k) (f:c<2 ^ k):(a+b*2 ^ k) &&& (c+d*2 ^ k)=(a &&& c)+(b &&& d)*2 ^ k:=by
 apply Nat.eq_of_testBit_eq;intro i;have e:∀ x y:Nat,x+y*2 ^ k=2 ^ k*y+x:=fun x y=>by rw [Eg,bZ]
 rw [zo,e,e,e,yR _ ha,yR _ f,yR _ (Nat.and_lt_two_pow _ f)];split
 .rw [zo]
 .rw [zo]
theorem K4 {w:Nat} {f g:Nat->Nat} {n:Nat} (a:∀ i,i<n->f i<2 ^ w) (b:∀ i,i<n->g i<2 ^ w):bX w f n &&& bX w g n=bX w (fun i=>f i &&& g i) n:=by
 induction n with
 | zero=>simp [bX]
 | succ n c=>
  simp only [bX];rw [WP (yH fun i hi=>a i (by omega)) (yH fun i hi=>b i (by omega)),c (fun i hi=>a i (by omega)) (fun i hi=>b i (by omega))]
def far (w n v e:Nat) (X E M K H:Nat):Bool:=Nat.beq ((((X+E) &&& M)+K) &&& H) H
theorem abe {t v:Nat} (h:t<2 ^ (v+1)) (hb:t &&& 2 ^ v=2 ^ v):2 ^ v<=t:=by rw [<- hb];exact Nat.and_le_left
theorem akR {w n v e:Nat} {x:Nat->Nat} {X E M K H:Nat} (b:X=bX w x n) (c:E=bX w (fun _=>e) n) (d:M=bX w (fun _=>2 ^ v - 1) n) (f:K=bX w (fun _=>2 ^ v - 2*e) n) (j:H=bX w (fun _=>2 ^ v) n)
  (l:∀ i,i<n->x i+e<2 ^ w) (m:v+1<w) (q:0<e) (h:far w n v e X E M K H=true):∀ i,i<n->2*e<=(x i+e) % 2 ^ v:=by
 have h:=aP h;have r:2 ^ (v+1)<2 ^ w:=Nat.pow_lt_pow_right (by decide) m;have s:2 ^ (v+1)=2*2 ^ v:=by rw [iC,bZ]
 have p:0<2 ^ v:=rO v;subst b c d f j;rw [sK,K4 l (fun i _=>by omega)] at h;have o:∀ i,(x i+e) &&& (2 ^ v - 1)=(x i+e) % 2 ^ v:=fun i=>JL ..;have a:∀ i,(x i+e) % 2 ^ v<2 ^ v:=fun i=>jQ _ p;rw [nN (g:=fun i=>(x i+e) % 2 ^ v) (fun i _=>o i),sK,K4 (fun i _=>by have:=a i;omega) (fun i _=>by omega)] at h;have k:=WO (fun i _=>by
  have:((x i+e) % 2 ^ v+(2 ^ v - 2*e)) &&& 2 ^ v<=2 ^ v:=Nat.and_le_right;omega) (fun i _=>by omega) h
 intro i hi;have h1:=abe (t:=(x i+e) % 2 ^ v+(2 ^ v - 2*e)) (by have:=a i;omega) (k i hi);omega
theorem uF {w:Nat} (l:0<w) {f:Nat->Nat} {n:Nat} (a:∀ i,i<n->f i<2 ^ w) (i:Nat):(bX w f n).testBit i=(decide (i<w*n)&&(f (i / w)).testBit (i % w)):=by
 induction n with
 | zero=>simp [bX]
 | succ n c=>
  have h1:=yH (fun j d=>a j (by omega):∀ j,j<n->f j<2 ^ w);simp only [bX];rw [Eg,bZ,yR _ h1,c (fun j d=>a j (by omega))];by_cases h:i<w*n
  .have h2:i<w*(n+1):=by rw [Ef];omega
   simp [h,h2]
  .rw [aB h];by_cases h2:i<w*(n+1)
   .have b:i / w=n:=by
     apply Nat.div_eq_of_lt_le
     .rw [bZ];omega
     .rw [bZ];exact h2
    have g:i % w=i - w*n:=by have:=oO i w;rw [b] at this;omega
    rw [b,g];simp [h2]
   .have h3:w<=i - w*n:=by rw [Ef] at h2;omega
    have k:(f n).testBit (i - w*n)=false:=JX (dZ (a n (by omega)) (kM (by decide) h3));rw [k];simp [h2]
theorem K5 {w p:Nat} (hp:p<=w) (a:0<w) {f:Nat->Nat} {n:Nat} (c:∀ i,i<n->f i<2 ^ w):(bX w f n >>> p) &&& bX w (fun _=>2 ^ (w - p) - 1) n=bX w (fun i=>f i / 2 ^ p) n:=by
 have hd:∀ i,i<n->f i / 2 ^ p<2 ^ (w - p):=fun i hi=>by
  apply Nat.div_lt_of_lt_mul;rw [<- kV,show p+(w - p)=w by omega];exact c i hi
 have b:2 ^ (w - p)<=2 ^ w:=kM (by decide) (by omega);have pos:0<2 ^ (w - p):=rO _;apply Nat.eq_of_testBit_eq;intro i;rw [zo,Nat.testBit_shiftRight,uF a c,uF a (fun _ _=>by omega),uF a (fun j g=>dZ (hd j g) b)];have o:=jQ i a;have k:=oO i w;by_cases h:i<w*n
 .have hq:i / w<n:=Nat.div_lt_of_lt_mul h;rw [Nat.testBit_two_pow_sub_one];by_cases h2:i % w<w - p
  .have d:(p+i) / w=i / w:=by
    apply Nat.div_eq_of_lt_le
    .rw [bZ];omega
    .rw [dR,bZ (i / w) w];omega
   have l:(p+i) % w=p+i % w:=by have:=oO (p+i) w;rw [d] at this;omega
   have e3:p+i<w*n:=by have h3:w*(i / w+1)<=w*n:=mU w hq;rw [iR] at h3;omega
   rw [d,l,Nat.testBit_div_two_pow,Eg (i % w) p];simp [h,h2,e3]
  .have m:(f (i / w) / 2 ^ p).testBit (i % w)=false:=JX (dZ (hd _ hq) (kM (by decide) (by omega)));rw [m];simp [h,h2]
 .simp [h]
theorem K6 (w:Nat) (f:Nat->Nat) (m n:Nat):bX w f (m+n)=bX w f m+bX w (fun i=>f (m+i)) n*2 ^ (w*m):=by
 induction n with
 | zero=>simp [bX]
 | succ n a=>
  rw [<- rW];simp only [bX];rw [a,iR,kV];grind
theorem WQ {w:Nat} {f g:Nat->Nat} {n:Nat} (h:∀ i,i<n->g i<=f i):bX w f n - bX w g n=bX w (fun i=>f i - g i) n:=by
 have e:bX w (fun i=>f i - g i) n+bX w g n=bX w f n:=by rw [sK];exact nN fun i hi=>by have:=h i hi;omega
 omega
def CU (w:Nat):Nat->Nat
 | 0=>1
 | k+1=>CU w k+CU w k*2 ^ (w*2 ^ k)
theorem GI (w:Nat):∀ k,CU w k=bX w (fun _=>1) (2 ^ k)
 | 0=>by simp [CU,bX]
 | k+1=>by rw [CU,GI w k,iC,bZ (2 ^ k) 2,Nat.two_mul,K6]
theorem yI (w c:Nat) (n:Nat):bX w (fun _=>c) n=c*bX w (fun _=>1) n:=by rw [pQ];simp
theorem K7 (w c j:Nat):∀ n,bX w (fun i=>if i=j then c else 0) n=if j<n then c*2 ^ (w*j) else 0
 | 0=>by simp [bX]
 | n+1=>by
  simp only [bX];rw [K7 w c j n];by_cases h:j<n
  .simp [h,show j<n+1 by omega,show n≠j by omega]
  .by_cases h2:n=j
   .subst h2;simp
   .simp [h,h2,show ¬ j<n+1 by omega]
end Go.Ln
namespace Go.Sn
def sum (f:Nat->Rat):Nat->Rat
 | 0=>0
 | n+1=>sum f n+f n
theorem uo (f g:Nat->Rat) (n:Nat):sum (fun i=>f i+g i) n=sum f n+sum g n:=by
 induction n with
 | zero=>simp only [sum];grind
 | succ n a=>simp only [sum];rw [a];grind
theorem Nb (f g:Nat->Rat) (n:Nat):sum (fun i=>f i - g i) n=sum f n - sum g n:=by
 induction n with
 | zero=>simp only [sum];grind
 | succ n a=>simp only [sum];rw [a];grind
theorem jb (k:Rat) (f:Nat->Rat) (n:Nat):sum (fun i=>k*f i) n=k*sum f n:=by
 induction n with
 | zero=>simp [sum]
 | succ n a=>simp only [sum];rw [a];grind
theorem jo {f g:Nat->Rat} {n:Nat} (h:∀ i,i<n->f i=g i):sum f n=sum g n:=by
 induction n with
 | zero=>rfl
 | succ n a=>simp only [sum];rw [a (fun i hi=>h i (by omega)),h n (by omega)]
theorem WR (f:Nat->Rat) (n:Nat):sum f (n+1)=f 0+sum (fun i=>f (i+1)) n:=by
 induction n with
 | zero=>simp only [sum];grind
 | succ n a=>rw [sum,a];simp only [sum];grind
theorem E5 {f g:Nat->Rat} {n:Nat} (h:∀ i,i<n->f i<=g i):sum f n<=sum g n:=by
 induction n with
 | zero=>simp [sum]
 | succ n a=>
  have h1:=a (fun i hi=>h i (by omega));have h2:=h n (by omega);simp only [sum];grind
theorem SA {f:Nat->Rat} {n:Nat} (h:∀ i,i<n->0<=f i):0<=sum f n:=by
 induction n with
 | zero=>simp [sum]
 | succ n a=>
  have h1:=a (fun i hi=>h i (by omega));have h2:=h n (by omega);simp only [sum];grind
theorem yJ {f:Nat->Rat} {m n:Nat} (a:m<=n) (h:∀ i,i<n->0<=f i):sum f m<=sum f n:=by
 induction n with
 | zero=>
  have:m=0:=by omega
  subst this;simp [sum]
 | succ n b=>
  rcases aX n m with h1|h1
  .have:m=n+1:=by omega
   subst this;grind
  .have h2:=b h1 (fun i hi=>h i (by omega));have h3:=h n (by omega);simp only [sum];grind
theorem Jk {f g:Nat->Rat} {m n:Nat} (a:m<=n) (h:∀ i,i<n->-g i<=f i/\f i<=g i):-(sum g n - sum g m)<=sum f n - sum f m/\sum f n - sum f m<=sum g n - sum g m:=by
 induction n with
 | zero=>
  have:m=0:=by omega
  subst this;grind
 | succ n b=>
  rcases aX n m with h1|h1
  .have:m=n+1:=by omega
   subst this;grind
  .obtain ⟨h2,h3⟩:=b h1 (fun i hi=>h i (by omega));obtain ⟨c,d⟩:=h n (by omega);simp only [sum];grind
def e (x:Rat):Nat->Rat
 | 0=>1
 | n+1=>e x n*x / ((n+1:Nat):Rat)
theorem vK (n:Nat):(0:Rat)<((n+1:Nat):Rat):=by exact_mod_cast Nat.succ_pos n
theorem lN (x:Rat) (n:Nat):((n+1:Nat):Rat)*e x (n+1)=x*e x n:=by have h:=vK n;simp only [e];grind
theorem yK {x:Rat} (a:0<=x) (n:Nat):0<=e x n:=by
 induction n with
 | zero=>simp only [e];grind
 | succ n b=>
  have h:=vK n;have h1:=bB a b;rw [<- lN] at h1;by_cases h2:0<=e x (n+1)
  .exact h2
  .have h3:=zK h (show (0:Rat) < -e x (n+1) by grind);grind
def B (a b:Rat) (n:Nat):Rat:=sum (fun k=>e a k*e b (n - k)) (n+1)
theorem akS (a b:Rat) (n:Nat):((n+1:Nat):Rat)*B a b (n+1)=(a+b)*B a b n:=by
 have d:((n+1:Nat):Rat)*B a b (n+1)=sum (fun k=>(k:Rat)*e a k*e b (n+1 - k)) (n+2)+sum (fun k=>e a k*(((n+1 - k:Nat):Rat)*e b (n+1 - k))) (n+2):=by
  unfold B;rw [<- jb,<- uo];apply jo;intro k c;have:((n+1:Nat):Rat)=(k:Rat)+((n+1 - k:Nat):Rat):=by rw [show (n+1:Nat)=k+(n+1 - k) by omega];push_cast;simp
  rw [this];grind
 have f:sum (fun k=>(k:Rat)*e a k*e b (n+1 - k)) (n+2)=a*B a b n:=by
  rw [WR];unfold B;rw [<- jb];have z:((0:Nat):Rat)*e a 0*e b (n+1 - 0)=0:=by simp
  rw [z,Rat.zero_add];apply jo;intro k c;show ((k+1:Nat):Rat)*e a (k+1)*e b (n+1 - (k+1))=_;rw [lN,show n+1 - (k+1)=n - k by omega];grind
 have e3:sum (fun k=>e a k*(((n+1 - k:Nat):Rat)*e b (n+1 - k))) (n+2)=b*B a b n:=by
  rw [sum];unfold B;rw [<- jb];have z:e a (n+1)*(((n+1 - (n+1):Nat):Rat)*e b (n+1 - (n+1)))=0:=by simp
  rw [z,Rat.add_zero];apply jo;intro k c;rw [show n+1 - k=(n - k)+1 by omega,lN];grind
 rw [d,f,e3];grind
theorem aoU (a b:Rat) (n:Nat):B a b n=e (a+b) n:=by
 induction n with
 | zero=>simp only [B,sum,Nat.sub_self,e];grind
 | succ n c=>
  have h:=akS a b n;have h2:=lN (a+b) n;have p:=vK n;rw [c] at h;rw [<- h2] at h;generalize ((n+1:Nat):Rat)=k at *
  have h3:k⁻¹*(k*B a b (n+1))=k⁻¹*(k*e (a+b) (n+1)):=by rw [h]
  have d:k⁻¹*k=1:=Rat.inv_mul_cancel k (by grind);rw [<- ny,<- ny,d,Rat.one_mul,Rat.one_mul] at h3;exact h3
def Z (c:Nat->Rat) (N:Nat) (x:Rat):Rat:=sum (fun n=>c n*e x n) N
def one (_:Nat):Rat:=1
def T (c:Nat->Rat) (a b:Rat) (N:Nat):Rat:=sum (fun p=>e a p*sum (fun q=>c (p+q)*e b q) (N - p)) N
theorem abf (c:Nat->Rat) (a b:Rat) (N:Nat):T c a b N=Z c N (a+b):=by
 induction N with
 | zero=>rfl
 | succ N d=>
  have h:T c a b (N+1)=T c a b N+c N*B a b N:=by
   have h1:sum (fun p=>e a p*sum (fun q=>c (p+q)*e b q) (N+1 - p)) N=sum (fun p=>e a p*sum (fun q=>c (p+q)*e b q) (N - p)) N+c N*sum (fun p=>e a p*e b (N - p)) N:=by rw [<- jb,<- uo];apply jo;intro p hp;rw [show N+1 - p=(N - p)+1 by omega,sum,show p+(N - p)=N by omega];grind
   unfold T B;rw [sum,h1,show N+1 - N=0+1 by omega,sum];simp only [sum,Nat.sub_self,gP];grind
  rw [h,d,aoU];rfl
def Rc (c:Nat->Rat) (a b:Rat) (N:Nat):Rat:=sum (fun p=>e a p*sum (fun q=>c (p+q)*e b q) N) N
def tail (N:Nat) (x:Rat):Rat:=Z one (2*N) x - Z one N x
theorem abg {a b:Rat} (ha:0<=a) (hb:0<=b) (N:Nat):Rc one a b N<=Z one (2*N) (a+b):=by
 rw [<- abf];unfold T Rc;have c:∀ M,0<=sum (fun q=>one q*e b q) M:=fun M=>SA fun i _=>by
  have:=yK hb i;simp only [one];grind
 have h1:sum (fun p=>e a p*sum (fun q=>one (p+q)*e b q) (2*N - p)) N<=sum (fun p=>e a p*sum (fun q=>one (p+q)*e b q) (2*N - p)) (2*N):=
  yJ (by omega) fun p _=>bB (yK ha p) (c _)
 have h2:sum (fun p=>e a p*sum (fun q=>one (p+q)*e b q) N) N<=sum (fun p=>e a p*sum (fun q=>one (p+q)*e b q) (2*N - p)) N:=by
  apply E5;intro p hp;apply bA _ (yK ha p);exact yJ (by omega) fun q _=>by
   have:=yK hb q;simp only [one];grind
 grind
theorem UY {c:Nat->Rat} (l:∀ n,-1<=c n/\c n<=1) {a b:Rat} (ha:0<=a) (hb:0<=b) (N:Nat):-tail N (a+b)<=Rc c a b N - Z c N (a+b)/\Rc c a b N - Z c N (a+b)<=tail N (a+b):=by
 have m:-(Rc one a b N - T one a b N)<=Rc c a b N - T c a b N/\Rc c a b N - T c a b N<=Rc one a b N - T one a b N:=by
  have h:∀ p,p<N->-(e a p*sum (fun q=>one (p+q)*e b q) N - e a p*sum (fun q=>one (p+q)*e b q) (N - p))<=e a p*sum (fun q=>c (p+q)*e b q) N - e a p*sum (fun q=>c (p+q)*e b q) (N - p) /\
    e a p*sum (fun q=>c (p+q)*e b q) N - e a p*sum (fun q=>c (p+q)*e b q) (N - p)<=e a p*sum (fun q=>one (p+q)*e b q) N - e a p*sum (fun q=>one (p+q)*e b q) (N - p):=by
   intro p hp;have j:∀ i,i<N->-(one (p+i)*e b i)<=c (p+i)*e b i/\c (p+i)*e b i<=one (p+i)*e b i:=by intro i _;have h1:=yK hb i;have h2:=l (p+i);have h3:=bB (a:=c (p+i)+1) (by grind) h1;have o:=bB (a:=1 - c (p+i)) (by grind) h1;simp only [one];grind
   obtain ⟨h1,h2⟩:=Jk (f:=fun q=>c (p+q)*e b q) (g:=fun q=>one (p+q)*e b q) (Nat.sub_le N p) j;have h3:=yK ha p;have o:=bA h1 h3;have r:=bA h2 h3;grind
  have k:∀ d:Nat->Rat,Rc d a b N - T d a b N=sum (fun p=>e a p*sum (fun q=>d (p+q)*e b q) N - e a p*sum (fun q=>d (p+q)*e b q) (N - p)) N:=by intro d;unfold Rc T;rw [<- Nb]
  rw [k,k];constructor
  .have:=E5 (f:=fun p=>-1*(e a p*sum (fun q=>one (p+q)*e b q) N - e a p*sum (fun q=>one (p+q)*e b q) (N - p))) (g:=fun p=>e a p*sum (fun q=>c (p+q)*e b q) N - e a p*sum (fun q=>c (p+q)*e b q) (N - p)) (n:=N) (fun p hp=>by have:=(h p hp).1;grind);rw [jb] at this;grind
  .exact E5 fun p hp=>(h p hp).2
 rw [abf,abf] at m;have:=abg ha hb N;unfold tail;grind
def sF (n:Nat):Rat:=match n % 4 with|1=>1|3=>-1|_=>0
def cF (n:Nat):Rat:=match n % 4 with|0=>1|2=>-1|_=>0
theorem Bu (n:Nat):n % 4=0\/n % 4=1\/n % 4=2\/n % 4=3:=by omega
theorem abh (n:Nat):-1<=sF n/\sF n<=1:=by unfold sF;rcases Bu n with h|h|h|h <;> rw [h] <;> decide
theorem abj (n:Nat):-1<=cF n/\cF n<=1:=by unfold cF;rcases Bu n with h|h|h|h <;> rw [h] <;> decide
theorem akT (p q:Nat):sF (p+q)=sF p*cF q+cF p*sF q:=by
 have h:(p+q) % 4=(p % 4+q % 4) % 4:=by omega
 unfold sF cF;rw [h];rcases Bu p with h1|h1|h1|h1 <;> rcases Bu q with h2|h2|h2|h2 <;> rw [h1,h2] <;> simp <;> grind
theorem abk (p q:Nat):cF (p+q)=cF p*cF q - sF p*sF q:=by
 have h:(p+q) % 4=(p % 4+q % 4) % 4:=by omega
 unfold sF cF;rw [h];rcases Bu p with h1|h1|h1|h1 <;> rcases Bu q with h2|h2|h2|h2 <;> rw [h1,h2] <;> simp <;> grind
def S (N:Nat) (x:Rat):Rat:=Z sF N x
def C (N:Nat) (x:Rat):Rat:=Z cF N x
theorem ase (a b:Rat) (N:Nat):Rc sF a b N=S N a*C N b+C N a*S N b:=by
 have h:∀ p,e a p*sum (fun q=>sF (p+q)*e b q) N=C N b*(sF p*e a p)+S N b*(cF p*e a p):=by
  intro p;have h1:sum (fun q=>sF (p+q)*e b q) N=sF p*C N b+cF p*S N b:=by unfold C S Z;rw [<- jb,<- jb,<- uo];apply jo;intro q _;rw [akT];grind
  rw [h1];grind
 unfold Rc;rw [jo (fun p _=>h p),uo,jb,jb];unfold S C Z;grind
theorem asf (a b:Rat) (N:Nat):Rc cF a b N=C N a*C N b - S N a*S N b:=by
 have h:∀ p,e a p*sum (fun q=>cF (p+q)*e b q) N=C N b*(cF p*e a p) + -S N b*(sF p*e a p):=by
  intro p;have h1:sum (fun q=>cF (p+q)*e b q) N=cF p*C N b + -sF p*S N b:=by unfold C S Z;rw [<- jb,<- jb,<- uo];apply jo;intro q _;rw [abk];grind
  rw [h1];grind
 unfold Rc;rw [jo (fun p _=>h p),uo,jb,jb];unfold S C Z;grind
theorem Ag {a b:Rat} (ha:0<=a) (hb:0<=b) (N:Nat):-tail N (a+b)<=S N a*C N b+C N a*S N b - S N (a+b)/\S N a*C N b+C N a*S N b - S N (a+b)<=tail N (a+b):=by have:=UY abh ha hb N;rw [ase] at this;exact this
theorem CV {a b:Rat} (ha:0<=a) (hb:0<=b) (N:Nat):-tail N (a+b)<=C N a*C N b - S N a*S N b - C N (a+b)/\C N a*C N b - S N a*S N b - C N (a+b)<=tail N (a+b):=by have:=UY abj ha hb N;rw [asf] at this;exact this
theorem abl {x y:Rat} (c:0<=x) (h:x<=y) (n:Nat):e x n<=e y n:=by
 induction n with
 | zero=>simp only [e];grind
 | succ n d=>
  have p:=vK n;have h1:=lN x n;have h2:=lN y n;have h3:x*e x n<=y*e y n:=by have a:=bA d c;have b:=gm h (yK (show 0<=y by grind) n);grind
  rw [<- h1,<- h2] at h3;exact JP h3 p
theorem aoV {x y:Rat} (d:0<=x) (h:x<=y) (n:Nat):e y (n+1) - e x (n+1)<=(y - x)*e y n:=by
 have f:0<=y:=by grind
 induction n with
 | zero=>
  have h1:=lN x 0;have h2:=lN y 0;simp only [e] at *
  grind
 | succ n g=>
  have p:=vK (n+1);have h1:=lN x (n+1);have h2:=lN y (n+1);have h3:=lN y n;have i:=yK f n;have j:0<=(y - x)*e y n:=bB (by grind) i;have a:=bA g d;have b:=gm h j;have c:((n+1+1:Nat):Rat)=((n+1:Nat):Rat)+1:=by push_cast;rfl
  refine JP (c:=((n+1+1:Nat):Rat)) ?_ p;have k:((n+1+1:Nat):Rat)*(e y (n+1+1) - e x (n+1+1))=y*e y (n+1) - x*e x (n+1):=by rw [<- h1,<- h2];grind
  have l:((n+1+1:Nat):Rat)*((y - x)*e y (n+1))=(y - x)*(y*e y n)+(y - x)*e y (n+1):=by rw [c,<- h3];grind
  rw [k,l];grind
theorem abm {c:Nat->Rat} (g:∀ n,-1<=c n/\c n<=1) {x y:Rat} (f:0<=x) (h:x<=y) (N:Nat):-((y - x)*Z one N y)<=Z c (N+1) y - Z c (N+1) x/\Z c (N+1) y - Z c (N+1) x<=(y - x)*Z one N y:=by
 have d:∀ n,-((y - x)*e y n)<=c (n+1)*e y (n+1) - c (n+1)*e x (n+1)/\c (n+1)*e y (n+1) - c (n+1)*e x (n+1)<=(y - x)*e y n:=by intro n;have h1:=aoV f h n;have h2:=abl f h (n+1);obtain ⟨h3,i⟩:=g (n+1);have j:=bB (a:=c (n+1)+1) (b:=e y (n+1) - e x (n+1)) (by grind) (by grind);have k:=bB (a:=1 - c (n+1)) (b:=e y (n+1) - e x (n+1)) (by grind) (by grind);grind
 induction N with
 | zero=>simp only [Z,sum,e];grind
 | succ N l=>
  have h1:=d N;unfold Z at *
  simp only [sum,one] at *
  grind
theorem vL {x y:Rat} (a:0<=x) (h:x<=y) (N:Nat):0<=tail N x/\tail N x<=tail N y:=by
 unfold tail Z;have b:=yJ (f:=fun n=>one n*e x n) (show N<=2*N by omega) (fun i _=>by have:=yK a i;simp only [one];grind);have:=Jk (f:=fun n=>one n*e x n) (g:=fun n=>one n*e y n) (show N<=2*N by omega) (fun i _=>by
  have h1:=yK a i;have h2:=abl a h i;simp only [one];grind)
 grind
theorem K8 {x y:Rat} (a:0<=x) (h:x<=y) (N:Nat):Z one N x<=Z one N y:=by
 unfold Z;exact E5 fun i _=>by
  have:=abl a h i;simp only [one];grind
theorem Z5:Z one 64 (8 / 5)<=5:=by decide +kernel
theorem aoW:tail 64 (8 / 5)*(2:Rat) ^ 230<=1:=by decide +kernel
end Go.Sn
namespace Go.Sn
open Go.Dg
def hp:Rat:=15707963267948966192313216916397514420985846996875529104874722961539082 / 10000000000000000000000000000000000000000000000000000000000000000000000
def tru (q:Rat):Rat:=S 64 (hp*q)
def dl:Rat:=1 / 34359738368
def QA (q:Rat) (k:Int):Prop:=(k:Rat)+dl<=4294967296*tru q/\4294967296*tru q<=(k:Rat)+1 - dl
def pT (sq y:Int):Nat->Int
 | 0=>y
 | j+1=>pT sq y j*sq / PP / ((2*(j:Int)+2)*(2*(j:Int)+2+1))
def pS (sq y:Int):Nat->Int
 | 0=>0
 | j+1=>match decide (j % 2=0) with|true=>pS sq y j+pT sq y j|false=>pS sq y j - pT sq y j
theorem agi {sq y:Int} {j:Nat} (h:pT sq y j=0):∀ n,j<=n->pT sq y n=0:=by
 intro n hn
 induction n with
 | zero=>
  have:j=0:=by omega
  subst this;exact h
 | succ n a=>
  rcases aX n j with h1|h1
  .have:j=n+1:=by omega
   subst this;exact h
  .rw [pT,a h1];simp
theorem UZ {sq y:Int} {j:Nat} (h:pT sq y j=0):∀ n,j<=n->pS sq y n=pS sq y j:=by
 intro n hn
 induction n with
 | zero=>
  have:j=0:=by omega
  subst this;rfl
 | succ n a=>
  rcases aX n j with h1|h1
  .have:j=n+1:=by omega
   subst this;rfl
  .rw [pS,agi h n h1,a h1];split <;> omega
theorem U0 {sq y:Int}:∀ (n j:Nat),uE sq n (2*(j:Int)+2) (pT sq y j) (pS sq y (j+1))=pS sq y (j+1+n)
 | 0,_=>rfl
 | n+1,j=>by
  by_cases h:pT sq y (j+1)=0
  .rw [Qo (by exact h),UZ h (j+1+(n+1)) (by omega)]
  .rw [EX (by exact h)];have b:=U0 (sq:=sq) (y:=y) n (j+1);rw [show j+1+(n+1)=j+1+1+n by omega,<- b];have c:2*(j:Int)+2+2=2*((j+1:Nat):Int)+2:=by push_cast;omega
   rw [c];show uE sq n _ (pT sq y (j+1)) _=_
   congr 1
   rw [pS];show _=(match decide ((j+1) % 2=0) with|true=>pS sq y (j+1)+pT sq y (j+1)|false=>pS sq y (j+1) - pT sq y (j+1));by_cases a:(j+1) % 2=0
   .rw [aI a,aG (show ¬(2*(j:Int)+2) % 4=2 by omega)];rfl
   .rw [aG a,aI (show (2*(j:Int)+2) % 4=2 by omega)];rfl
theorem vM {sq y:Int} (b:0<=sq) (d:sq<=3*PP) (f:0<=y):∀ j,0<=pT sq y j/\2*pT sq y (j+1)<=pT sq y j:=by
 intro j;have a:∀ j,0<=pT sq y j->0<=pT sq y (j+1)/\2*pT sq y (j+1)<=pT sq y j:=by intro j h;have:=aaG (i:=2*(j:Int)+2) b d h (by omega);exact this
 have c:∀ j,0<=pT sq y j:=by
  intro j
  induction j with
  | zero=>exact f
  | succ j g=>exact (a j g).1
 exact ⟨c j,(a j (c j)).2⟩
theorem aiA {sq y:Int} (a:0<=sq) (b:sq<=3*PP) (c:0<=y):∀ j:Nat,y - pT sq y 1<=pS sq y (2*j+2)/\pS sq y (2*j+2)+pT sq y (2*j+2)<=y:=by
 intro j
 induction j with
 | zero=>
  have h1:0<=pT sq y 1/\2*pT sq y 2<=pT sq y 1:=vM a b c 1;have e:pS sq y 2=0+y - pT sq y 1:=rfl;show y - pT sq y 1<=pS sq y 2/\pS sq y 2+pT sq y 2<=y;have h2:=vM a b c 2;omega
 | succ j d=>
  have h1:=vM a b c (2*j+2);have h2:=vM a b c (2*j+3);have h3:=vM a b c (2*j+4);have f:pS sq y (2*j+2+1)=pS sq y (2*j+2)+pT sq y (2*j+2):=by rw [pS,aI (by omega)]
  have g:pS sq y (2*j+2+1+1)=pS sq y (2*j+2+1) - pT sq y (2*j+2+1):=by rw [pS,aG (by omega)]
  show y - pT sq y 1<=pS sq y (2*j+2+1+1)/\pS sq y (2*j+2+1+1)+pT sq y (2*j+4)<=y;have e3:pT sq y (2*j+2+1)=pT sq y (2*j+3):=rfl;have h:pT sq y (2*j+3+1)=pT sq y (2*j+4):=rfl;have i:pT sq y (2*j+2+1)=pT sq y (2*j+3):=rfl;omega
def U:Rat:=1000000000000000000000000000000000000000000000
theorem WS:((PP:Int):Rat)=U:=by decide
theorem yL (a b:Int) (hb:0<b):((a / b:Int):Rat)*(b:Rat)<=(a:Rat):=by have:=oP a (b:=b) (by omega);exact_mod_cast this
theorem yM (a b:Int) (hb:0<b):(a:Rat)<(((a / b:Int):Rat)+1)*(b:Rat):=by have:=Int.lt_ediv_add_one_mul_self a hb;exact_mod_cast this
theorem step {U x p q t b k a r:Rat} (g:0<U) (x0:0<=x) (x1:x<=8 / 5) (i:0<=p) (j:p<=x*U) (s0:0<=q) (i1:p<=U*t) (l:U*t<=p+5) (sa:q*U<=x*x*U*U) (sb:x*x*U*U<(q+1)*U)
  (ta:a*U<=p*q) (tb:p*q<(a+1)*U) (n:r*k<=a) (o:a<(r+1)*k) (s:6<=k) (e3:k*b=x*x*t) (u:0<=t):r<=U*b/\U*b<=r+5:=by
 have m:q<=x*x*U:=bH (c:=U) (by grind) g;have v:x*x*U<q+1:=by apply uZ.1;intro h;have:=gm h (show 0<=U by grind);grind
 have w:x*x<=64 / 25:=by have a:=bA x1 x0;grind
 have d:0<=x*x:=bB x0 x0;have a1:a<=x*x*(U*t):=by refine bH (c:=U) ?_ g;have h1:=bA m i;have h2:=gm i1 (show 0<=x*x*U from bB d (by grind));grind
 have a2:x*x*(U*t)<a+1+8 / 5+64 / 5:=by
  have h1:=bA l d;have h2:x*x*p*U<=p*q+p:=by have:=bA (show x*x*U<=q+1 by grind) i;grind
  have h3:x*x*p*U<(a+1+8 / 5)*U:=by have:=gm x1 (show 0<=U by grind);grind
  have y:x*x*p<a+1+8 / 5:=by apply uZ.1;intro h;have:=gm h (show 0<=U by grind);grind
  grind
 have f:0<k:=by grind
 constructor
 .refine bH (c:=k) ?_ f;have:U*b*k=x*x*(U*t):=by grind
  grind
 .refine bH (c:=k) ?_ f;have:U*b*k=x*x*(U*t):=by grind
  grind
theorem U2 {y:Int} (d:0<=y) (h1:y*10<=16*PP):∀ j:Nat,(pT (y*y / PP) y j:Rat)<=U*e ((y:Rat) / U) (2*j+1)/\U*e ((y:Rat) / U) (2*j+1)<=(pT (y*y / PP) y j:Rat)+5:=by
 have h:(0:Rat)<U:=by decide
 have f:0<PP:=lm;have K:(0:Rat)<=(y:Rat):=by exact_mod_cast d
 have L:(y:Rat)*10<=16*U:=by rw [<- WS];exact_mod_cast h1
 have g:(y:Rat) / U*U=(y:Rat):=by grind
 have x0:0<=(y:Rat) / U:=by refine bH (c:=U) ?_ h;rw [g];grind
 have x1:(y:Rat) / U<=8 / 5:=by refine bH (c:=U) ?_ h;rw [g];grind
 have s0:0<=y*y / PP:=bu (aV d d) (by omega);have i:y*y / PP<=3*PP:=by refine gM f ?_;have a:y*10*(y*10)<=16*PP*(16*PP):=bC h1 h1 (by omega) (by omega);have b:0<=PP*PP:=aV (by omega) (by omega);grind
 have l:=yL (y*y) PP f;have sb:=yM (y*y) PP f;rw [WS] at l sb;have z:((y*y:Int):Rat)=(y:Rat) / U*((y:Rat) / U)*U*U:=by push_cast;rw [<- g];grind
 rw [z] at l sb;generalize (y:Rat) / U=x at *
 intro j
 induction j with
 | zero=>
  have A:e x (2*0+1)=x:=by simp only [e];grind
  rw [A];show (y:Rat)<=U*x/\U*x<=(y:Rat)+5;grind
 | succ j s=>
  obtain ⟨i1,u⟩:=s;have v:=(vM s0 i d j).1;have D:pT (y*y / PP) y j<=y:=by
   clear i1 u v
   induction j with
   | zero=>exact dO _
   | succ j s=>
    have a:=vM s0 i d j;have b:=vM s0 i d (j+1);omega
  have E:(0:Rat)<=(pT (y*y / PP) y j:Rat):=by exact_mod_cast v
  have m:(pT (y*y / PP) y j:Rat)<=x*U:=by rw [g];exact_mod_cast D
  have n:(0:Rat)<=((y*y / PP:Int):Rat):=by exact_mod_cast s0
  have F:6<=(2*(j:Int)+2)*(2*(j:Int)+2+1):=bC (a:=2) (b:=3) (by omega) (by omega) (by decide) (by omega);have ta:=yL (pT (y*y / PP) y j*(y*y / PP)) PP f;have tb:=yM (pT (y*y / PP) y j*(y*y / PP)) PP f;have H:=yL (pT (y*y / PP) y j*(y*y / PP) / PP) ((2*(j:Int)+2)*(2*(j:Int)+2+1)) (by omega);have I:=yM (pT (y*y / PP) y j*(y*y / PP) / PP) ((2*(j:Int)+2)*(2*(j:Int)+2+1)) (by omega);have o:(6:Rat)<=(((2*(j:Int)+2)*(2*(j:Int)+2+1):Int):Rat):=by exact_mod_cast F
  have e3:(((2*(j:Int)+2)*(2*(j:Int)+2+1):Int):Rat)*e x (2*j+3)=x*x*e x (2*j+1):=by
   have a:=lN x (2*j+1);have b:=lN x (2*j+2);have c:(((2*(j:Int)+2)*(2*(j:Int)+2+1):Int):Rat)=((2*j+1+1:Nat):Rat)*((2*j+2+1:Nat):Rat):=by push_cast;grind
   rw [c,ny,show 2*j+3=2*j+2+1 by omega,b];have:((2*j+1+1:Nat):Rat)*(x*e x (2*j+2))=x*(((2*j+1+1:Nat):Rat)*e x (2*j+1+1)):=by grind
   rw [this,a];grind
  rw [WS] at ta tb;show ((pT (y*y / PP) y j*(y*y / PP) / PP / ((2*(j:Int)+2)*(2*(j:Int)+2+1)):Int):Rat)<=U*e x (2*j+3)/\U*e x (2*j+3)<=((pT (y*y / PP) y j*(y*y / PP) / PP / ((2*(j:Int)+2)*(2*(j:Int)+2+1)):Int):Rat)+5;have w:((pT (y*y / PP) y j*(y*y / PP):Int):Rat)=(pT (y*y / PP) y j:Rat)*((y*y / PP:Int):Rat):=by push_cast;rfl
  rw [w] at ta tb;clear w;have J:=yK x0 (2*j+1);generalize pT (y*y / PP) y j*(y*y / PP) / PP / ((2*(j:Int)+2)*(2*(j:Int)+2+1))=r at *
  generalize pT (y*y / PP) y j*(y*y / PP) / PP=a at *
  generalize (((2*(j:Int)+2)*(2*(j:Int)+2+1):Int):Rat)=k at *
  generalize ((pT (y*y / PP) y j:Int):Rat)=p at *
  generalize ((y*y / PP:Int):Rat)=q at *
  generalize e x (2*j+1)=t at *
  generalize e x (2*j+3)=M at *
  generalize (r:Rat)=r at *
  generalize (a:Rat)=a at *
  exact step h x0 x1 E m n i1 u l sb ta tb H I o e3 J
def qS (x:Rat):Nat->Rat
 | 0=>0
 | j+1=>match decide (j % 2=0) with|true=>qS x j+e x (2*j+1)|false=>qS x j - e x (2*j+1)
theorem aoX (x:Rat):∀ j,Z sF (2*j) x=qS x j:=by
 intro j
 induction j with
 | zero=>rfl
 | succ j c=>
  show sum _ (2*j+1+1)=_;rw [sum,sum];show Z sF (2*j) x+_+_=_;rw [c,qS];by_cases h:j % 2=0
  .have a:sF (2*j)=0:=by unfold sF;rw [show 2*j % 4=0 by omega];rfl
   have b:sF (2*j+1)=1:=by unfold sF;rw [show (2*j+1) % 4=1 by omega];rfl
   rw [aI h,a,b];grind
  .have a:sF (2*j)=0:=by unfold sF;rw [show 2*j % 4=2 by omega];rfl
   have b:sF (2*j+1)=-1:=by unfold sF;rw [show (2*j+1) % 4=3 by omega];rfl
   rw [aG h,a,b];grind
theorem agj {y:Int} (a:0<=y) (h1:y*10<=16*PP):∀ j:Nat,(pS (y*y / PP) y j:Rat)<=U*qS ((y:Rat) / U) j+5*j/\U*qS ((y:Rat) / U) j<=(pS (y*y / PP) y j:Rat)+5*j:=by
 intro j
 induction j with
 | zero=>
  have z:qS ((y:Rat) / U) 0=0:=rfl;have b:pS (y*y / PP) y 0=0:=rfl;rw [z,b];simp;decide +kernel
 | succ j d=>
  obtain ⟨i1,f⟩:=d;obtain ⟨t1,g⟩:=U2 a h1 j;rw [pS,qS];have c:((j+1:Nat):Rat)=(j:Rat)+1:=by push_cast;rfl
  rw [c];by_cases h:j % 2=0
  .rw [aI h];dsimp only;push_cast;grind
  .rw [aG h];dsimp only;push_cast;grind
theorem e65:U*e (8 / 5) 65<1:=by decide +kernel
theorem aoY {y:Int} (d:0<=y) (h1:y*10<=16*PP):0<=(y:Rat) / U/\(y:Rat) / U<=8 / 5/\(y:Rat) / U*U=(y:Rat):=by
 have b:(0:Rat)<U:=by decide
 have f:(0:Rat)<=(y:Rat):=by exact_mod_cast d
 have g:(y:Rat)*10<=16*U:=by rw [<- WS];exact_mod_cast h1
 have a:(y:Rat) / U*U=(y:Rat):=by grind
 refine ⟨?_,?_,a⟩
 .refine bH (c:=U) ?_ b;rw [a];grind
 .refine bH (c:=U) ?_ b;rw [a];grind
theorem abn {y:Int} (c:0<=y) (h1:y*10<=16*PP):0<=y*y / PP/\y*y / PP<=3*PP:=by have d:0<PP:=lm;refine ⟨bu (aV c c) (by omega),gM d ?_⟩;have a:y*10*(y*10)<=16*PP*(16*PP):=bC h1 h1 (by omega) (by omega);have b:0<=PP*PP:=aV (by omega) (by omega);grind
theorem E8 {y:Int} (h:0<=y) (h1:y*10<=16*PP):uE (y*y / PP) 200 2 y y=pS (y*y / PP) y 32/\(uE (y*y / PP) 200 2 y y:Rat)<=U*S 64 ((y:Rat) / U)+160/\U*S 64 ((y:Rat) / U)<=(uE (y*y / PP) 200 2 y y:Rat)+160:=by
 obtain ⟨x0,x1,k⟩:=aoY h h1;obtain ⟨s0,i⟩:=abn h h1;have z:pT (y*y / PP) y 32=0:=by
  have a:=(U2 h h1 32).1;have b:=abl x0 x1 65;have c:=e65;have d:U*e ((y:Rat) / U) 65<=U*e (8 / 5) 65:=bA b (by decide);have f:(pT (y*y / PP) y 32:Rat)<1:=by have:U*e ((y:Rat) / U) (2*32+1)=U*e ((y:Rat) / U) 65:=rfl;grind
  have g:pT (y*y / PP) y 32<1:=by exact_mod_cast f
  have:=(vM s0 i h 32).1;omega
 have es:uE (y*y / PP) 200 2 y y=pS (y*y / PP) y 32:=by
  have a:=U0 (sq:=y*y / PP) (y:=y) 200 0;have b:pS (y*y / PP) y (0+1)=y:=by show 0+y=y;omega
  rw [b] at a;rw [show (2:Int)=2*((0:Nat):Int)+2 by decide];refine Eq.trans a (UZ z _ (by omega))
 have n:=agj h h1 32;rw [es];have j:S 64 ((y:Rat) / U)=qS ((y:Rat) / U) 32:=aoX _ 32;rw [j];have:(5:Rat)*((32:Nat):Rat)=160:=by decide +kernel
 rw [this] at n;exact ⟨rfl,n⟩
theorem aiB {x y:Rat} (k:0<=x) (g:x<=8 / 5) (l:0<=y) (j:y<=8 / 5) {d:Rat} (h1:x<=y+d) (h2:y<=x+d):S 64 x<=S 64 y+5*d/\S 64 y<=S 64 x+5*d:=by
 have f:∀ {x y:Rat},0<=x->x<=y->y<=8 / 5->y<=x+d->S 64 x<=S 64 y+5*d/\S 64 y<=S 64 x+5*d:=by
  intro x y n h1 h2 h3;have a:=abm abh n h1 63;have b:=K8 (show 0<=y by grind) h2 63;have c:Z one 63 (8 / 5)<=Z one 64 (8 / 5):=yJ (by omega) fun i _=>by
   have:=yK (show (0:Rat)<=8 / 5 by grind) i;simp only [one];grind
  have o:=Z5;have p:0<=Z one 63 y:=SA fun i _=>by
   have:=yK (show 0<=y by grind) i;simp only [one];grind
  have m:=bA (df (df b c) o) (show 0<=y - x by grind);unfold S;grind
 rcases Eh (a:=x) (b:=y) with h|h
 .exact f k h j h2
 .have:=f l h g h1;exact ⟨this.2,this.1⟩
theorem U3 {a b k:Int} (hb:0<b) (h1:k*b<=a) (h2:a<(k+1)*b):a / b=k:=by have h3:k<=a / b:=(jf hb).2 h1;have c:a / b<k+1:=(Dp hb).2 h2;omega
theorem abo {m d:Int} (b:0<=m) (hd:m<=d) (f:0<d):0<=(m:Rat) / (d:Rat)/\(m:Rat) / (d:Rat)<=1/\(m:Rat) / (d:Rat)*(d:Rat)=(m:Rat):=by
 have a:(0:Rat)<(d:Rat):=by exact_mod_cast f
 have g:(0:Rat)<=(m:Rat):=by exact_mod_cast b
 have h:(m:Rat)<=(d:Rat):=by exact_mod_cast hd
 have e:(m:Rat) / (d:Rat)*(d:Rat)=(m:Rat):=by grind
 refine ⟨?_,?_,e⟩
 .refine bH (c:=(d:Rat)) ?_ a;rw [e];grind
 .refine bH (c:=(d:Rat)) ?_ a;rw [e];grind
theorem Jl:0<=hp/\hp<=8 / 5/\hp*U<=((RG:Int):Rat)/\((RG:Int):Rat)<=hp*U+17:=by refine ⟨?_,?_,?_,?_⟩ <;> decide +kernel
theorem yO {q:Rat} (c:0<=q) (h1:q<=1):0<=hp*q/\hp*q<=8 / 5:=by obtain ⟨a,b,_,_⟩:=Jl;have:=bA h1 a;exact ⟨bB a c,by grind⟩
theorem K9 {m d:Int} (h:0<=m) (hd:m<=d) (f:0<d):(rC m d:Rat)<=U*tru ((m:Rat) / (d:Rat))+245/\U*tru ((m:Rat) / (d:Rat))<=(rC m d:Rat)+245:=by
 obtain ⟨g,r,i⟩:=abo h hd f;obtain ⟨t,u⟩:=yO g r;obtain ⟨_,_,r0,r1⟩:=Jl;have j:(0:Rat)<U:=by decide
 have k:(0:Rat)<(d:Rat):=by exact_mod_cast f
 have o:0<=eG m d:=bu (aV (by decide) h) (by omega);have z:eG m d<=RG:=gM f (bq hd (by decide));have p:eG m d*10<=16*PP:=by
  have:RG*10<=16*PP:=by decide
  omega
 obtain ⟨x0,x1,v⟩:=aoY o p;have n:=(E8 o p).2;have a:=yL (RG*m) d f;have b:=yM (RG*m) d f;have A:(eG m d:Rat)<=(RG:Rat)*((m:Rat) / (d:Rat)):=by
  refine bH (c:=(d:Rat)) ?_ k;rw [ny,i];have:((RG*m:Int):Rat)=(RG:Rat)*(m:Rat):=by push_cast;rfl
  rw [this] at a;exact a
 have D:(RG:Rat)*((m:Rat) / (d:Rat))<=(eG m d:Rat)+1:=by
  refine bH (c:=(d:Rat)) ?_ k;rw [ny,i];have:((RG*m:Int):Rat)=(RG:Rat)*(m:Rat):=by push_cast;rfl
  rw [this] at b;unfold eG;grind
 generalize (m:Rat) / (d:Rat)=q at *
 have c1:=gm r0 g;have c2:=gm r1 g;have l:=aiB x0 x1 t u (d:=17 / U)
  (by
   refine bH (c:=U) ?_ j;have:(hp*q+17 / U)*U=hp*U*q+17:=by grind
   rw [v,this];grind)
  (by
   refine bH (c:=U) ?_ j;have:((eG m d:Rat) / U+17 / U)*U=(eG m d:Rat)+17:=by grind
   rw [this];grind)
 have w:=bA l.1 (show 0<=U by grind);have x:=bA l.2 (show 0<=U by grind);have y:∀ s:Rat,U*(s+5*(17 / U))=U*s+85:=fun s=>by grind
 rw [y] at w x;unfold tru;unfold rC;grind
theorem Nc {m d k:Int} (J:0<m) (hd:m<d) (hD:d<=4294967296) (h:QA ((m:Rat) / (d:Rat)) k):SinG m d/\qV m d=k:=by
 have i:0<PP:=lm;have f:0<=eG m d:=bu (aV (by decide) (by omega)) (by omega);have K:eG m d<=RG:=gM (by omega) (bq (by omega) (by decide));have L:RG*10<=16*PP:=by decide
 have j:365700000000000000000000000000000000<=eG m d:=by
  refine (jf (by omega)).2 ?_;have a:365700000000000000000000000000000000*d<=365700000000000000000000000000000000*4294967296:=bq hD (by decide);have b:RG*1<=RG*m:=bq (by omega) (by decide);have c:(365700000000000000000000000000000000:Int)*4294967296<=RG*1:=by decide
  omega
 obtain ⟨s0,l⟩:=abn f (by omega);have es:=(E8 f (by omega)).1;have t:=aiA s0 l f 15;have t0:=vM s0 l f 0;have n:=(vM s0 l f 32).1;have M:pT (eG m d*eG m d / PP) (eG m d) 0=eG m d:=rfl;have q:rC m d=pS (eG m d*eG m d / PP) (eG m d) (2*15+2):=es;have bt:0<=pT (eG m d*eG m d / PP) (eG m d) (2*15+2):=n;have u:2*pT (eG m d*eG m d / PP) (eG m d) 1<=eG m d:=t0.2;have lo:eG m d - pT (eG m d*eG m d / PP) (eG m d) 1<=rC m d:=by rw [q];exact t.1
 have hi:rC m d<=eG m d:=by rw [q];omega
 have r:=K9 (m:=m) (d:=d) (by omega) (by omega) (by omega);obtain ⟨k1,k2⟩:=h;generalize N:tru ((m:Rat) / (d:Rat))=T at *
 have v:(100000000+245)*4294967296<U*dl:=by decide +kernel
 have O:(0:Rat)<U:=by decide
 have P:=bA k1 (show 0<=U by grind);have Q:=bA k2 (show 0<=U by grind);have g:∀ z:Int,-100000000<=z->z<=100000000->(rC m d+z)*4294967296 / PP=k:=by
  intro z w x;have o:((-100000000:Int):Rat)<=(z:Rat):=kL.2 w;have p:(z:Rat)<=((100000000:Int):Rat):=kL.2 x;have y:((-100000000:Int):Rat)=-100000000:=by decide +kernel
  have A:((100000000:Int):Rat)=100000000:=by decide +kernel
  have e3:((4294967296:Int):Rat)=4294967296:=by decide +kernel
  rw [y] at o;rw [A] at p;apply U3 i
  .apply kL.1;rw [ji,ji,ni,WS,e3];grind
  .apply JY.1;rw [ji,ji,ni,ni,WS,e3,Rat.intCast_one];grind
 have D:=g (-100000000) (by decide) (by decide);have E:=g 100000000 (by decide) (by decide);have s:qV m d=k:=by unfold qV;rw [<- D];rfl
 refine ⟨⟨?_,by omega,by omega,by rw [s];exact E⟩,s⟩;have F:365700000000000000000000000000000000*365700000000000000000000000000000000<=eG m d*eG m d:=bC j j (by decide) f;have H:(133736490000000000000000000:Int)<=eG m d*eG m d / PP:=(jf i).2 (jk (by decide) F);have I:365700000000000000000000000000000000*133736490000000000000000000<=eG m d*(eG m d*eG m d / PP):=bC j H (by decide) f;have q4:(1000:Int)<=eG m d*(eG m d*eG m d / PP) / PP:=(jf i).2 (jk (by decide) I);have W:(1:Int)<=eG m d*(eG m d*eG m d / PP) / PP / (2*(2+1)):=(jf (by decide)).2 (by omega);omega
end Go.Sn
namespace Go.Ln
open Go.Sn
def nr (x y E:Rat):Prop:=x<=y+E/\y<=x+E
theorem abp {x y A B:Rat} (f:-A<=x) (c:x<=A) (g:-B<=y) (d:y<=B):-(A*B)<=x*y/\x*y<=A*B:=by have h1:=bB (a:=A - x) (b:=B - y) (by grind) (by grind);have h2:=bB (a:=A+x) (b:=B+y) (by grind) (by grind);have h3:=bB (a:=A - x) (b:=B+y) (by grind) (by grind);have h:=bB (a:=A+x) (b:=B - y) (by grind) (by grind);constructor <;> grind
theorem E9 {s A E c B F:Rat} (h1:nr s A E) (h2:nr c B F) (a:0<=s) (b:0<=c):nr (s*c) (A*B) (s*F+E*(c+F)):=by obtain ⟨a1,a2⟩:=h1;obtain ⟨d,f⟩:=h2;have g:=abp (x:=s) (y:=c - B) (A:=s) (B:=F) (by grind) (by grind) (by grind) (by grind);have h:=abp (x:=s - A) (y:=B) (A:=E) (B:=c+F) (by grind) (by grind) (by grind) (by grind);unfold nr;constructor <;> grind
theorem abq {a A E b B F:Rat} (h1:nr a A E) (h2:nr b B F):nr (a+b) (A+B) (E+F):=by unfold nr at *;constructor <;> grind
theorem akU {a A E b B F:Rat} (h1:nr a A E) (h2:nr b B F):nr (a - b) (A - B) (E+F):=by unfold nr at *;constructor <;> grind
theorem vN {a A E F:Rat} (h:nr a A E) (b:E<=F):nr a A F:=by unfold nr at *;constructor <;> grind
theorem mh (n:Nat):(0:Rat)<=(n:Rat):=by exact_mod_cast kU n
theorem pw_pos (r:Nat):(0:Rat)<(2:Rat) ^ r:=by
 induction r with
 | zero=>simp;decide +kernel
 | succ r a=>rw [Rat.pow_succ];grind
theorem wY (r:Nat):((2 ^ r:Nat):Rat)=(2:Rat) ^ r:=by push_cast;rfl
theorem abr {z r E:Nat} {X T:Rat} (h:nr (z:Rat) ((2:Rat) ^ r*X) T) (g:T<=(2:Rat) ^ r*(E:Rat)):nr ((z >>> r:Nat):Rat) X ((E:Rat)+1):=by
 have p:=pw_pos r;have h1:(z >>> r)*2 ^ r<=z:=by rw [mQ];exact Nat.div_mul_le_self ..
 have h2:z<((z >>> r)+1)*2 ^ r:=by rw [mQ];have:=Nat.lt_mul_div_succ z (rO r);rw [bZ];exact this
 have d:((z >>> r:Nat):Rat)*(2:Rat) ^ r<=(z:Rat):=by rw [<- wY];exact_mod_cast h1
 have f:(z:Rat)<(((z >>> r:Nat):Rat)+1)*(2:Rat) ^ r:=by rw [<- wY];exact_mod_cast h2
 generalize ((z >>> r:Nat):Rat)=y at *
 generalize (2:Rat) ^ r=k at *
 obtain ⟨a,b⟩:=h;constructor
 .refine bH (c:=k) ?_ p;grind
 .refine bH (c:=k) ?_ p;grind
def oz (r B b c2 c a:Nat):Nat:=((B*a+b*(c2+c+2*a)) >>> r)+3
theorem Jm {r:Nat} (g:r<=160) {x:Rat} (f:0<=x) (h1:x<=8 / 5):(2:Rat) ^ r*tail 64 x<=1:=by
 have a:=(vL f h1 64).2;have b:=aoW;have c:=(vL f h1 64).1;have m:((2 ^ r:Nat):Rat)<=((2 ^ 230:Nat):Rat):=by have:2 ^ r<=2 ^ 230:=kM (by decide) (by omega);exact_mod_cast this
 rw [wY,wY] at m;have d:=gm m c;have e:=bA a (show (0:Rat)<=(2:Rat) ^ 230 by have:=pw_pos 230;grind);grind
theorem rot {r:Nat} (u:r<=160) {a b:Rat} (ha:0<=a) (hb:0<=b) (i:a+b<=8 / 5) {f c1 d c2 g c B:Nat}
  (h1:nr (f:Rat) ((2:Rat) ^ r*S 64 a) g) (h2:nr (c1:Rat) ((2:Rat) ^ r*C 64 a) g) (h3:nr (d:Rat) ((2:Rat) ^ r*S 64 b) c) (j:nr (c2:Rat) ((2:Rat) ^ r*C 64 b) c) (v:f+c1<=B):
  nr (((f*c2+c1*d) >>> r:Nat):Rat) ((2:Rat) ^ r*S 64 (a+b)) (oz r B g c2 d c:Nat) /\
  (f*d<=c1*c2->nr (((c1*c2 - f*d) >>> r:Nat):Rat) ((2:Rat) ^ r*C 64 (a+b)) (oz r B g c2 d c:Nat)):=by
 have p:=pw_pos r;have t:=Jm u (show 0<=a+b by grind) i;have l:=Ag ha hb 64;have m:=CV ha hb 64;have n:=mh f;have o:=mh c1;have q:=mh d;have s:=mh c2;have w:=mh g;have x:=mh c;have y:((f:Rat)+(c1:Rat))*(c:Rat)+(g:Rat)*((c2:Rat)+(d:Rat)+2*(c:Rat))+(2:Rat) ^ r<=(2:Rat) ^ r*((((B*c+g*(c2+d+2*c)) >>> r)+2:Nat):Rat):=by
  have h3:(f+c1)*c+g*(c2+d+2*c)+2 ^ r<=2 ^ r*(((B*c+g*(c2+d+2*c)) >>> r)+2):=by
   have E:=jI c v;generalize g*(c2+d+2*c)=Y at *
   generalize (f+c1)*c=Z at *
   generalize B*c=V at *
   rw [mQ];have:=Nat.lt_mul_div_succ (V+Y) (rO r);rw [iR] at this ⊢;omega
  have:(((f+c1)*c+g*(c2+d+2*c)+2 ^ r:Nat):Rat)<=((2 ^ r*(((B*c+g*(c2+d+2*c)) >>> r)+2):Nat):Rat):=by exact_mod_cast h3
  push_cast at this;push_cast;exact this
 have fin:∀ {z:Nat} {X:Rat},nr (z:Rat) ((2:Rat) ^ r*((2:Rat) ^ r*X)) (((f:Rat)+(c1:Rat))*(c:Rat)+(g:Rat)*((c2:Rat)+(d:Rat)+2*(c:Rat))+(2:Rat) ^ r)->nr ((z >>> r:Nat):Rat) ((2:Rat) ^ r*X) (oz r B g c2 d c:Nat):=by
  intro z X h;have:=abr h y;have e:((oz r B g c2 d c:Nat):Rat)=((((B*c+g*(c2+d+2*c)) >>> r)+2:Nat):Rat)+1:=by unfold oz;push_cast;grind
  rw [e];exact this
 have F:=bA t (show 0<=(2:Rat) ^ r by grind);constructor
 .apply fin;have a1:=abq (E9 h1 j n s) (E9 h2 h3 o q);push_cast;generalize (2:Rat) ^ r=k at *
  have k2:=bA l.1 (show 0<=k*k from bB (by grind) (by grind));have A:=bA l.2 (show 0<=k*k from bB (by grind) (by grind));unfold nr at *
  constructor <;> grind
 .intro D;apply fin;have a1:=akU (E9 h2 j o s) (E9 h1 h3 n q);have e:((c1*c2 - f*d:Nat):Rat)=(c1:Rat)*(c2:Rat) - (f:Rat)*(d:Rat):=by
   have h:c1*c2 - f*d+f*d=c1*c2:=by omega
   have:((c1*c2 - f*d+f*d:Nat):Rat)=((c1*c2:Nat):Rat):=by rw [h]
   push_cast at this;grind
  rw [e];generalize (2:Rat) ^ r=k at *
  have k2:=bA m.1 (show 0<=k*k from bB (by grind) (by grind));have A:=bA m.2 (show 0<=k*k from bB (by grind) (by grind));unfold nr at *
  constructor <;> grind
def l7 {α:Type} (n:Nat) (k:Nat->α):α:=match n with|0=>k 0|m+1=>k (Nat.succ m)
theorem CW {α:Type} (n:Nat) (k:Nat->α):l7 n k=k n:=by cases n <;> rfl
def vC (m k a b c s:Nat):Nat:=a+(((a*c - b*s) >>> 80) &&& (m*CU 164 k))*2 ^ (164*2 ^ k)
def vS (m k b a c s:Nat):Nat:=a+(((a*c+b*s) >>> 80) &&& (m*CU 164 k))*2 ^ (164*2 ^ k)
def build:Nat->Nat->Nat->Nat->Nat->Nat->Nat->Nat->(Nat->Nat->Nat->Nat->Nat->Nat->Bool)->Bool
 | 0,_,a,b,d,s,c,E,K=>K a b d s c E
 | n+1,k,a,b,d,s,c,E,K=>
  Nat.ble E (2 ^ 79)&&Nat.ble d (2 ^ 70)&&Nat.ble (s*s) (c*c) &&
  l7 (c >>> 80) fun f=>l7 (s >>> 80) fun g=>l7 (2 ^ 84 - 1) fun m=>
  l7 (vC m k a b f g) fun h=>l7 (vS m k a b f g) fun i=>l7 (oz 80 (2 ^ 81) d (f+2 ^ 74) g 2) fun j=>
  l7 ((s*c+c*s) >>> 160) fun s'=>l7 ((c*c - s*s) >>> 160) fun c'=>l7 (oz 160 (s+c) E c s E) fun l=>
  build n (k+1) h i j s' c' l K
def Vec (a:Rat) (k E d f:Nat):Prop:=∃ b c:Nat->Nat,d=bX 164 b (2 ^ k)/\f=bX 164 c (2 ^ k)/\∀ j,j<2 ^ k->nr (b j:Rat) ((2:Rat) ^ 80*C 64 (a*(j:Rat))) E/\nr (c j:Rat) ((2:Rat) ^ 80*S 64 (a*(j:Rat))) E
def yP (a:Rat) (s c E:Nat):Prop:=nr (s:Rat) ((2:Rat) ^ 160*S 64 a) E/\nr (c:Rat) ((2:Rat) ^ 160*C 64 a) E
theorem S0:S 64 0=0:=by decide +kernel
theorem C0:C 64 0=1:=by decide +kernel
theorem U4 {x:Rat} (d:0<=x) (h1:x<=1 / 500):-(1 / 100)<=S 64 x/\S 64 x<=1 / 100/\1 - 1 / 100<=C 64 x/\C 64 x<=1+1 / 100:=by
 have z:Z one 63 x<=5:=by
  have a:=K8 d (show x<=8 / 5 by grind) 63;have c:Z one 63 (8 / 5)<=Z one 64 (8 / 5):=yJ (by omega) fun i _=>by
   have:=yK (show (0:Rat)<=8 / 5 by grind) i;simp only [one];grind
  exact df (df a c) Z5
 have j:0<=Z one 63 x:=SA fun i _=>by
  have:=yK d i;simp only [one];grind
 have m:=bA z d;have a:=abm abh (zL (a:=0)) d 63;have b:=abm abj (zL (a:=0)) d 63;have f:Z sF (63+1) 0=0:=S0;have g:Z cF (63+1) 0=1:=C0;rw [f] at a;rw [g] at b;unfold S C;have e3:Z sF 64 x=Z sF (63+1) x:=rfl;have h:Z cF 64 x=Z cF (63+1) x:=rfl;rw [e3,h];generalize Z sF (63+1) x=p at *
 generalize Z cF (63+1) x=q at *
 refine ⟨?_,?_,?_,?_⟩ <;> grind
theorem P80:(2:Rat) ^ 80=1208925819614629174706176:=by decide +kernel
theorem SB {x:Rat} (g:0<=x) (h1:x<=1 / 500) {s c E:Nat} (h:E<=2 ^ 70) (d:nr (c:Rat) ((2:Rat) ^ 80*C 64 x) E) (f:nr (s:Rat) ((2:Rat) ^ 80*S 64 x) E):2 ^ 80 - 2 ^ 74<=c/\c<=2 ^ 80+2 ^ 76/\s<=2 ^ 76:=by
 obtain ⟨i,j,c1,c2⟩:=U4 g h1;have a:(E:Rat)<=((2 ^ 70:Nat):Rat):=by exact_mod_cast h
 have b:((2 ^ 70:Nat):Rat)=1180591620717411303424:=by decide +kernel
 rw [b] at a;rw [P80] at d f;unfold nr at d f;refine ⟨?_,?_,?_⟩
 .have:((2 ^ 80 - 2 ^ 74:Nat):Rat)<=(c:Rat):=by
   have e:((2 ^ 80 - 2 ^ 74:Nat):Rat)=1190036353683150593851392:=by decide +kernel
   rw [e];grind
  exact_mod_cast this
 .have:(c:Rat)<=((2 ^ 80+2 ^ 76:Nat):Rat):=by
   have e:((2 ^ 80+2 ^ 76:Nat):Rat)=1284483683340543498125312:=by decide +kernel
   rw [e];grind
  exact_mod_cast this
 .have:(s:Rat)<=((2 ^ 76:Nat):Rat):=by
   have e:((2 ^ 76:Nat):Rat)=75557863725914323419136:=by decide +kernel
   rw [e];grind
  exact_mod_cast this
theorem U5 {a:Rat} {s c E:Nat} (h:yP a s c E) (d:E<=2 ^ 80):nr ((s >>> 80:Nat):Rat) ((2:Rat) ^ 80*S 64 a) (2:Nat)/\nr ((c >>> 80:Nat):Rat) ((2:Rat) ^ 80*C 64 a) (2:Nat):=by
 have f:(E:Rat)<=((2 ^ 80:Nat):Rat):=by exact_mod_cast d
 have b:∀ {z:Nat} {X:Rat},nr (z:Rat) ((2:Rat) ^ 160*X) E->nr ((z >>> 80:Nat):Rat) ((2:Rat) ^ 80*X) (2:Nat):=by
  intro z X h;have e:(2:Rat) ^ 160*X=(2:Rat) ^ 80*((2:Rat) ^ 80*X):=by rw [show (2:Rat) ^ 160=(2:Rat) ^ 80*(2:Rat) ^ 80 by decide +kernel];grind
  rw [e] at h;have:=abr (E:=1) h (by
   have:((1:Nat):Rat)=1:=by decide +kernel
   rw [this,<- wY];grind)
  exact vN this (by decide +kernel)
 exact ⟨b h.1,b h.2⟩
theorem FV {a b c d:Nat} (ha:a+c<=2 ^ 81) (hb:b<=2 ^ 82) (hd:d<=2 ^ 82):a*b+c*d<=2 ^ 163:=by
 have h1:=mU a hb;have h2:=mU c hd;have h3:=jI (2 ^ 82) ha;have e:2 ^ 81*2 ^ 82=2 ^ 163:=by rw [<- kV]
 rw [dR] at h3;omega
theorem p2 {k:Nat}:((2 ^ k:Nat):Rat)=(2:Rat) ^ k:=wY k
theorem abt {o:Rat} (u:0<=o) {k l v w c s:Nat} (h:Vec o k l v w) (O:nr (s:Rat) ((2:Rat) ^ 80*S 64 (o*((2 ^ k:Nat):Rat))) (2:Nat)) (P:nr (c:Rat) ((2:Rat) ^ 80*C 64 (o*((2 ^ k:Nat):Rat))) (2:Nat))
  (W:o*((2 ^ (k+1):Nat):Rat)<=1 / 500) (X:l<=2 ^ 70):Vec o (k+1) (oz 80 (2 ^ 81) l (c+2 ^ 74) s 2) (vC (2 ^ 84 - 1) k v w c s) (vS (2 ^ 84 - 1) k v w c s):=by
 obtain ⟨m,n,K,L,x⟩:=h;have Y:((2 ^ (k+1):Nat):Rat)=2*((2 ^ k:Nat):Rat):=by rw [iC];push_cast;grind
 have M:=mh (2 ^ k);have y:0<=o*((2 ^ k:Nat):Rat):=bB u M;have z:o*((2 ^ k:Nat):Rat)<=1 / 500:=by rw [Y] at W;grind
 have A:∀ j:Nat,j<2 ^ k->0<=o*(j:Rat)/\o*(j:Rat)<=o*((2 ^ k:Nat):Rat):=fun j A=>⟨bB u (mh j),bA (by exact_mod_cast Nat.le_of_lt A) u⟩;obtain ⟨c0,c1,s1⟩:=SB y z (show 2<=2 ^ 70 by decide) P O;have t:∀ j,j<2 ^ k->2 ^ 80 - 2 ^ 74<=m j/\m j<=2 ^ 80+2 ^ 76/\n j<=2 ^ 76:=fun j h=>SB (A j h).1 (df (A j h).2 z) X (x j h).1 (x j h).2;have aa:164 - 80=84:=rfl;have D:∀ j,j<2 ^ k->n j*s<=m j*c:=fun j h=>by
  obtain ⟨a1,a2,J⟩:=t j h;exact rU (dF J (dF (by decide) a1)) (dF s1 (dF (by decide) c0))
 have N:∀ j,j<2 ^ k->m j*c+n j*s<2 ^ 164:=fun j h=>by
  obtain ⟨a1,a2,J⟩:=t j h;have:=FV (a:=m j) (b:=c) (c:=n j) (d:=s) (by omega) (by omega) (by omega);exact y5 this (by decide)
 have E:∀ j,j<2 ^ k->n j*c+m j*s<2 ^ 164:=fun j h=>by
  obtain ⟨a1,a2,J⟩:=t j h;have:=FV (a:=n j) (b:=c) (c:=m j) (d:=s) (by omega) (by omega) (by omega);exact y5 this (by decide)
 have lC:((v*c - w*s) >>> 80) &&& ((2 ^ 84 - 1)*CU 164 k)=bX 164 (fun j=>(m j*c - n j*s) / 2 ^ 80) (2 ^ k):=by rw [GI,<- yI,K,L,bZ (bX 164 m _),bZ (bX 164 n _),pQ,pQ,WQ (fun j h=>by rw [bZ s,bZ c];exact D j h)];rw [nN (g:=fun j=>m j*c - n j*s) (fun j _=>by rw [bZ c,bZ s])];exact K5 (p:=80) (by decide) (by decide) (fun j h=>by have:=N j h;omega)
 have lS:((w*c+v*s) >>> 80) &&& ((2 ^ 84 - 1)*CU 164 k)=bX 164 (fun j=>(n j*c+m j*s) / 2 ^ 80) (2 ^ k):=by rw [GI,<- yI,K,L,bZ (bX 164 m _),bZ (bX 164 n _),pQ,pQ,sK];rw [nN (g:=fun j=>n j*c+m j*s) (fun j _=>by rw [bZ c,bZ s])];exact K5 (p:=80) (by decide) (by decide) (fun j h=>E j h)
 have F:∀ f g:Nat->Nat,bX 164 f (2 ^ k)+bX 164 g (2 ^ k)*2 ^ (164*2 ^ k)=bX 164 (fun i=>if i<2 ^ k then f i else g (i - 2 ^ k)) (2 ^ (k+1)):=by intro f g;rw [show 2 ^ (k+1)=2 ^ k+2 ^ k by rw [iC];omega,K6];rw [nN (f:=fun i=>if i<2 ^ k then f i else g (i - 2 ^ k)) (g:=f) (fun i h=>by simp [h])];rw [nN (f:=fun i=>if 2 ^ k+i<2 ^ k then f (2 ^ k+i) else g (2 ^ k+i - 2 ^ k)) (g:=g) (fun i h=>by rw [aB (by omega),show 2 ^ k+i - 2 ^ k=i by omega])]
 have H:(l:Rat)<=(oz 80 (2 ^ 81) l (c+2 ^ 74) s 2:Nat):=by
  have:l<=oz 80 (2 ^ 81) l (c+2 ^ 74) s 2:=by unfold oz;rw [mQ];have h1:l*2 ^ 80<=l*(c+2 ^ 74+s+2*2):=mU _ (by omega);have h2:l<=(2 ^ 81*2+l*(c+2 ^ 74+s+2*2)) / 2 ^ 80:=(Nat.le_div_iff_mul_le (rO 80)).2 (by omega);omega
  exact_mod_cast this
 have I:((oz 80 (2 ^ 81) l c s 2:Nat):Rat)<=(oz 80 (2 ^ 81) l (c+2 ^ 74) s 2:Nat):=by
  have:oz 80 (2 ^ 81) l c s 2<=oz 80 (2 ^ 81) l (c+2 ^ 74) s 2:=by unfold oz;rw [mQ,mQ];have h1:l*(c+s+2*2)<=l*(c+2 ^ 74+s+2*2):=mU _ (by omega);exact Nat.add_le_add_right (Nat.div_le_div_right (by omega)) 3
  exact_mod_cast this
 refine ⟨fun i=>if i<2 ^ k then m i else (m (i - 2 ^ k)*c - n (i - 2 ^ k)*s) / 2 ^ 80,fun i=>if i<2 ^ k then n i else (n (i - 2 ^ k)*c+m (i - 2 ^ k)*s) / 2 ^ 80,?_,?_,?_⟩
 .unfold vC;rw [lC,K];exact F _ _
 .unfold vS;rw [lS,L];exact F _ _
 .intro i hi
  dsimp only
  by_cases h:i<2 ^ k
  .rw [aC h,aC h];have Q:=x i h;exact ⟨vN Q.1 H,vN Q.2 H⟩
  .rw [aB h,aB h];have q:i - 2 ^ k<2 ^ k:=by rw [iC] at hi;omega
   obtain ⟨a1,a2,J⟩:=t _ q;obtain ⟨g1,g2⟩:=A _ q;have ei:o*(i:Rat)=o*((i - 2 ^ k:Nat):Rat)+o*((2 ^ k:Nat):Rat):=by
    have:((i - 2 ^ k+2 ^ k:Nat):Rat)=(i:Rat):=by rw [Nat.sub_add_cancel (by omega)]
    rw [<- this];push_cast;grind
   have r:=rot (r:=80) (by decide) g1 y (by grind) (x _ q).2 (x _ q).1 O P (B:=2 ^ 81) (by omega);rw [<- mQ,<- mQ,ei];exact ⟨vN (r.2 (D _ q)) I,vN r.1 I⟩
theorem QB {a b:Rat} (ha:0<=a) (hb:0<=b) (f:a+b<=8 / 5) {c c1 h d c2 i:Nat} (h1:yP a c c1 h) (h2:yP b d c2 i) (g:c*d<=c1*c2):
  yP (a+b) ((c*c2+c1*d) >>> 160) ((c1*c2 - c*d) >>> 160) (oz 160 (c+c1) h c2 d i):=by
 have r:=rot (r:=160) (by decide) ha hb f h1.1 h1.2 h2.1 h2.2 (bD _);exact ⟨r.1,r.2 g⟩
theorem build_ok {a:Rat} (b:0<=a):∀ (n k o p q s c E:Nat) (K:Nat->Nat->Nat->Nat->Nat->Nat->Bool),Vec a k q o p->yP (a*((2 ^ k:Nat):Rat)) s c E->a*((2 ^ (k+n):Nat):Rat)<=1 / 500->build n k o p q s c E K=true ->
  ∃ d f g s' c' w,Vec a (k+n) g d f/\yP (a*((2 ^ (k+n):Nat):Rat)) s' c' w/\K d f g s' c' w=true
 | 0,k,o,p,q,s,c,E,K,r,l,_,h=>⟨_,_,_,_,_,_,r,l,h⟩
 | n+1,k,o,p,q,s,c,E,K,r,l,x,h=>by
  rw [build] at h;simp only [CW,aF,iT] at h;obtain ⟨⟨⟨h1,h2⟩,h3⟩,D⟩:=h;have t:∀ {i j:Nat},i<=j->a*((2 ^ i:Nat):Rat)<=a*((2 ^ j:Nat):Rat):=fun {i j} u=>bA (by exact_mod_cast kM (by decide) u) b;have v:a*((2 ^ (k+1):Nat):Rat)<=1 / 500:=df (t (by omega)) x;have m:0<=a*((2 ^ k:Nat):Rat):=bB b (mh _);have y:a*((2 ^ (k+1):Nat):Rat)=a*((2 ^ k:Nat):Rat)+a*((2 ^ k:Nat):Rat):=by rw [iC];push_cast;grind
  obtain ⟨F,H⟩:=U5 l (dF h1 (by decide));have I:=abt b r F H v h2;have z:=QB m m (by rw [<- y];grind) l l h3;rw [<- y] at z;have A:=build_ok b n (k+1) _ _ _ _ _ _ K I z (by rw [show k+1+n=k+(n+1) by omega];exact x) D;rw [show k+1+n=k+(n+1) by omega] at A;exact A
theorem aoZ {a:Rat}:Vec a 0 0 (2 ^ 80) 0:=by
 refine ⟨fun _=>2 ^ 80,fun _=>0,by simp [bX],by simp [bX],fun j b=>?_⟩;have:j=0:=by omega
 subst this;have e:a*((0:Nat):Rat)=0:=by simp
 rw [e,S0,C0];have z:((0:Nat):Rat)=0:=by simp
 rw [z,wY];unfold nr;refine ⟨⟨?_,?_⟩,⟨?_,?_⟩⟩ <;> grind
def agk (x:Rat) (k:Int):Prop:=(k:Rat)+dl<=4294967296*S 64 x/\4294967296*S 64 x<=(k:Rat)+1 - dl
def agl (b a c:Nat):Nat:=match Nat.beq b a with|true=>c|false=>0
def tst (f g EE MM KK HH h i b s c E:Nat):Bool:=
 l7 (s >>> 80) fun a=>l7 (c >>> 80) fun d=>
 Nat.ble E (2 ^ 80)&&Nat.ble (a+d) (2 ^ 82)&&far 164 65536 128 0 (a*f+d*g+agl b h i) EE MM KK HH
def run (d f a cL g EE MM KK HH h i:Nat) (fin:Nat->Nat->Nat->Nat->Bool):Nat->Nat->Nat->Nat->Nat->Bool
 | 0,b,s,c,E=>fin b s c E
 | n+1,b,s,c,E=>
  tst d f EE MM KK HH h i b s c E&&Nat.ble (s*a) (c*cL) &&
  l7 (b+1) fun j=>l7 ((s*cL+c*a) >>> 160) fun s'=>l7 ((c*cL - s*a) >>> 160) fun c'=>l7 (oz 160 (s+c) E cL a g) fun k=>
  run d f a cL g EE MM KK HH h i fin n j s' c' k
structure Cst (N EE MM KK HH:Nat):Prop where
 e:EE=bX 164 (fun _=>2 ^ 94) N
 m:MM=bX 164 (fun _=>2 ^ 128 - 1) N
 k:KK=bX 164 (fun _=>2 ^ 128 - 2*2 ^ 94) N
 h:HH=bX 164 (fun _=>2 ^ 128) N
def wZ (a:Rat) (c d b:Nat):Prop:=∀ j,j<65536->¬(b=c/\j=d)->∃ k:Int,agk (a*((b*65536+j:Nat):Rat)) k
theorem abu {x:Nat} {T:Rat} (h:2*2 ^ 94<=(x+2 ^ 94) % 2 ^ 128) (hn:nr (x:Rat) ((2:Rat) ^ 160*T) ((2 ^ 92:Nat):Rat)):∃ k:Int,(k:Rat)+dl<=4294967296*T/\4294967296*T<=(k:Rat)+1 - dl:=by
 have h1:=oO (x+2 ^ 94) (2 ^ 128);have h2:=jQ (x+2 ^ 94) (show 2 ^ 128>0 by decide);refine ⟨((x+2 ^ 94) / 2 ^ 128:Nat),?_⟩;generalize (x+2 ^ 94) / 2 ^ 128=k at *
 have a:k*2 ^ 128+2 ^ 94<=x:=by omega
 have b:x+2 ^ 94<=(k+1)*2 ^ 128:=by omega
 have c:((k*2 ^ 128+2 ^ 94:Nat):Rat)<=(x:Rat):=by exact_mod_cast a
 have d:((x+2 ^ 94:Nat):Rat)<=(((k+1)*2 ^ 128:Nat):Rat):=by exact_mod_cast b
 rw [rQ,zq] at c;rw [rQ,zq,rQ] at d;have f:((2 ^ 128:Nat):Rat)=340282366920938463463374607431768211456:=by decide +kernel
 have g:((2 ^ 94:Nat):Rat)=19807040628566084398385987584:=by decide +kernel
 have e3:((2 ^ 92:Nat):Rat)=4951760157141521099596496896:=by decide +kernel
 have i:(2:Rat) ^ 160=4294967296*340282366920938463463374607431768211456:=by decide +kernel
 have j:((1:Nat):Rat)=1:=by decide +kernel
 have l:(((k:Nat):Int):Rat)=(k:Rat):=Rat.intCast_natCast k;rw [f,g] at c;rw [f,g,j] at d;rw [e3,i] at hn;rw [l];unfold nr at hn;unfold dl;constructor <;> grind
theorem mix {P x b c T F t B:Rat} (p:0<P) (a:nr x (P*b+P*c) F) (d:-t<=b+c - T/\b+c - T<=t) (tl:P*t<=1) (f:F+1<=B):nr x (P*T) B:=by
 have k2:=bA d.1 (show 0<=P by grind);have g:=bA d.2 (show 0<=P by grind);unfold nr at *
 constructor <;> grind
theorem abv {N:Nat} (hN:2 ^ 16=N) {a:Rat} (q:0<=a) {l O P EE MM KK HH f o L b s c E:Nat} (t:Vec a 16 l O P) (hE:l<=512) (hx:a*65536<=1 / 500) (M:Cst N EE MM KK HH) (ac:o<65536) (Q:L=2 ^ 127*2 ^ (164*o))
  (hb:a*((b*65536:Nat):Rat)+a*65536<=8 / 5) (hs:yP (a*((b*65536:Nat):Rat)) s c E) (h:tst O P EE MM KK HH f L b s c E=true):wZ a f o b:=by
 unfold tst at h;simp only [CW,aF,iT] at h;obtain ⟨⟨h1,h2⟩,h3⟩:=h;obtain ⟨g1,g2⟩:=U5 hs h1;obtain ⟨p,u,eC,eS,t⟩:=t;have I:N=65536:=by rw [<- hN]
 rw [hN] at eC eS t;have J:∀ j:Nat,j<N->0<=a*(j:Rat)/\a*(j:Rat)<=a*65536:=fun j J=>by
  refine ⟨bB q (mh j),bA ?_ q⟩;have:(j:Rat)<=((65536:Nat):Rat):=by exact_mod_cast Nat.le_of_lt (I ▸ J)
  have e:((65536:Nat):Rat)=65536:=by decide +kernel
  rw [e] at this;exact this
 have K:∀ j,j<N->2 ^ 80 - 2 ^ 74<=p j/\p j<=2 ^ 80+2 ^ 76/\u j<=2 ^ 76:=fun j h=>SB (J j h).1 (df (J j h).2 hx) (dF hE (by decide)) (t j h).1 (t j h).2;generalize s >>> 80=D at *
 generalize c >>> 80=F at *
 have hX:D*O+F*P+agl b f L=bX 164 (fun i=>D*p i+F*u i+(if i=o then (if b=f then 2 ^ 127 else 0) else 0)) N:=by
  rw [eC,eS,pQ,pQ,sK];have:agl b f L=bX 164 (fun i=>if i=o then (if b=f then 2 ^ 127 else 0) else 0) N:=by
   rw [K7,aC (show o<N by omega)];unfold agl;by_cases hb:b=f
   .rw [aC hb,show Nat.beq b f=true by rw [nA];exact hb];exact Q
   .rw [aB hb,show Nat.beq b f=false from kQ.2 (fun h=>hb (aP h))];simp
  rw [this,sK]
 have W:∀ i,i<N->D*p i+F*u i<=2 ^ 163:=fun i hi=>by
  obtain ⟨a1,a2,a3⟩:=K i hi;have b1:=mU D (show p i<=2 ^ 81 by omega);have b2:=mU F (show u i<=2 ^ 81 by omega);have b3:=jI (2 ^ 81) h2;rw [dR] at b3;have e:2 ^ 82*2 ^ 81=2 ^ 163:=by rw [<- kV]
  omega
 have X:=akR (w:=164) (n:=N) (v:=128) (e:=2 ^ 94) hX M.e M.m M.k M.h (fun i hi=>by
  have:=W i hi;have Y:(if i=o then (if b=f then 2 ^ 127 else 0) else 0)<=2 ^ 127:=by split <;> (try split) <;> decide
  omega) (by decide) (by decide) h3
 intro j d aa;rw [<- I] at d;have kj:=X j d;have z:(if j=o then (if b=f then 2 ^ 127 else 0) else 0)=0:=by
  by_cases h1:j=o
  .rw [aC h1,aB (fun h=>aa ⟨h,h1⟩)]
  .rw [aB h1]
 obtain ⟨x,H⟩:∃ x,x=D*p j+F*u j+(if j=o then (if b=f then 2 ^ 127 else 0) else 0):=⟨_,rfl⟩;rw [<- H] at kj;rw [z,gP] at H;have b0:0<=a*((b*65536:Nat):Rat):=bB q (mh _);obtain ⟨j0,j1⟩:=J j d;have e:a*((b*65536+j:Nat):Rat)=a*((b*65536:Nat):Rat)+a*(j:Rat):=by push_cast;grind
 unfold agk;rw [e];refine abu kj ?_;rw [H];have sn:=(Ag b0 j0 64);have a1:=abq (E9 g1 (t j d).1 (mh _) (mh _)) (E9 g2 (t j d).2 (mh _) (mh _));have tl:=Jm (r:=160) (by decide) (show 0<=a*((b*65536:Nat):Rat)+a*(j:Rat) by grind) (by grind);obtain ⟨d1,d2,d3⟩:=K j d;clear e;generalize a*((b*65536:Nat):Rat)=A at *
 have ab:(D*l+2*(p j+l))+(F*l+2*(u j+l))+1<=2 ^ 92:=by have m1:=rU h2 hE;rw [dR] at m1;omega
 have g:(((D*l+2*(p j+l))+(F*l+2*(u j+l))+1:Nat):Rat)<=((2 ^ 92:Nat):Rat):=by exact_mod_cast ab
 have Y:((2:Nat):Rat)=2:=by decide +kernel
 have e2:((1:Nat):Rat)=1:=by decide +kernel
 simp only [rQ,zq] at g;rw [Y] at a1;simp only [rQ,zq];rw [Y,e2] at g;have e4:∀ x y:Rat,(2:Rat) ^ 80*x*((2:Rat) ^ 80*y)=(2:Rat) ^ 160*(x*y):=fun x y=>by
  rw [show (2:Rat) ^ 160=(2:Rat) ^ 80*(2:Rat) ^ 80 by decide +kernel];grind
 rw [e4,e4] at a1;exact mix (pw_pos 160) a1 sn tl g
theorem run_ok {N:Nat} (hN:2 ^ 16=N) {a:Rat} (d:0<=a) {q r u v cL w EE MM KK HH x k y:Nat} (D:Vec a 16 q r u) (F:q<=512) (H:a*65536<=1 / 500) (I:Cst N EE MM KK HH) (l:k<65536) (o:y=2 ^ 127*2 ^ (164*k)) (J:yP (a*((2 ^ 16:Nat):Rat)) v cL w) (fin:Nat->Nat->Nat->Nat->Bool):
  ∀ (n b s c E:Nat),a*(((b+n)*65536:Nat):Rat)<=8 / 5->yP (a*((b*65536:Nat):Rat)) s c E->run r u v cL w EE MM KK HH x y fin n b s c E=true ->
  (∀ i,i<n->wZ a x k (b+i))/\∃ s' c' z,yP (a*(((b+n)*65536:Nat):Rat)) s' c' z/\fin (b+n) s' c' z=true:=by
 intro n
 induction n with
 | zero=>
  intro b s c E _ j h;exact ⟨fun i hi=>absurd hi (rM i),s,c,E,j,h⟩
 | succ n f=>
  intro b s c E hb j h;rw [run] at h;simp only [CW,aF,iT] at h;obtain ⟨⟨h1,h2⟩,h3⟩:=h;have p:((2 ^ 16:Nat):Rat)=65536:=by decide +kernel
  have m:a*(((b+1)*65536:Nat):Rat)<=a*(((b+(n+1))*65536:Nat):Rat):=bA (by exact_mod_cast jI 65536 (by omega)) d;have e:a*(((b+1)*65536:Nat):Rat)=a*((b*65536:Nat):Rat)+a*65536:=by rw [dR,rQ,show ((1*65536:Nat):Rat)=65536 by decide +kernel];grind
  have K:0<=a*((b*65536:Nat):Rat):=bB d (mh _);have t:=abv hN d D F H I l o (by rw [<- e];grind) j h1;have g:=J;rw [p] at g;have A:=QB K (show 0<=a*65536 by grind) (by rw [<- e];grind) j g h2;rw [<- e] at A;have f:=f (b+1) _ _ _ (by rw [show b+1+n=b+(n+1) by omega];exact hb) A h3;rw [show b+1+n=b+(n+1) by omega] at f;refine ⟨fun i hi=>?_,f.2⟩
  cases i with
  | zero=>exact t
  | succ i=>
   have:=f.1 i (by omega);rw [show b+1+i=b+(i+1) by omega] at this;exact this
def abw (s0 c0 j f k n b s c E:Nat) (a:Bool) (l c1 m:Nat):Bool:=
 build 16 0 (2 ^ 80) 0 0 s0 c0 j fun g h o p cL q=>
  Nat.ble o 512&&l7 (CU 164 16) fun d=>l7 (2 ^ 94*d) fun EE=>l7 ((2 ^ 128 - 1)*d) fun MM=>l7 ((2 ^ 128 - 2*2 ^ 94)*d) fun KK=>l7 (2 ^ 128*d) fun HH=>l7 (2 ^ 127*2 ^ (164*k)) fun i=>
  run g h p cL q EE MM KK HH f i (fun b s c E=>match a with|true=>tst g h EE MM KK HH f i b s c E|false=>Nat.beq s l&&Nat.beq c c1&&Nat.beq E m) n b s c E
theorem abx {d:Rat} (g:0<=d) (l:d*65536<=1 / 500) {s0 c0 r m k n b s c E t c1 u:Nat} {f:Bool} (z:yP d s0 c0 r) (j:k<65536) (hb:d*(((b+n)*65536:Nat):Rat)+d*65536<=8 / 5)
  (A:yP (d*((b*65536:Nat):Rat)) s c E) (h:abw s0 c0 r m k n b s c E f t c1 u=true):
  (∀ i,i<n->wZ d m k (b+i))/\(f=true->wZ d m k (b+n))/\(f=false->yP (d*(((b+n)*65536:Nat):Rat)) t c1 u):=by
 unfold abw at h;have D:d*((2 ^ 0:Nat):Rat)=d:=by rw [show ((2 ^ 0:Nat):Rat)=1 by decide +kernel];grind
 have F:d*((2 ^ (0+16):Nat):Rat)=d*65536:=by rw [show ((2 ^ (0+16):Nat):Rat)=65536 by decide +kernel]
 obtain ⟨H,I,J,K,cL,L,o,v,h⟩:=build_ok g 16 0 _ _ _ _ _ _ _ aoZ (by rw [D];exact z) (by rw [F];exact l) h;rw [show 0+16=16 from rfl] at o v;simp only [CW,aF,iT] at h;obtain ⟨w,h⟩:=h;obtain ⟨N,hN⟩:∃ N,2 ^ 16=N:=⟨_,rfl⟩;have x:Cst N (2 ^ 94*CU 164 16) ((2 ^ 128 - 1)*CU 164 16) ((2 ^ 128 - 2*2 ^ 94)*CU 164 16) (2 ^ 128*CU 164 16):=by rw [GI,hN];constructor <;> exact (yI _ _ _).symm
 obtain ⟨r1,s',c',M,y,p⟩:=run_ok hN g o w l x j rfl v _ n b s c E (by grind) A h;refine ⟨r1,fun q=>?_,fun q=>?_⟩
 .subst q;exact abv hN g o w l x j rfl hb y p
 .subst q;simp only [aF] at p;obtain ⟨⟨a,b⟩,c⟩:=p;rw [<- aP a,<- aP b,<- aP c];exact y
def Am:Rat:=hp / 1073741824
def ao0:Nat:=2138057168129933494956740945523582396803
def ao1:Nat:=1461501637330902916639783589834270518403524363581
theorem asg:yP Am ao0 ao1 2:=⟨⟨by decide +kernel,by decide +kernel⟩,⟨by decide +kernel,by decide +kernel⟩⟩
theorem akV:0<=Am/\Am*65536<=1 / 500:=by decide +kernel
def ash:List (Nat×Nat×Nat):=[(0,1461501637330902918203684832716283019655932542976,0),(42030118834347106919661514900790441301447543400,1460897157582175851837315167319187796831622743376,101141608),(84025470200737963373061442103349177692251075454,1459084218363852696672718258861722206071315639461,208019199),(125951315390992917505119173145795282583022691754,1456064319345882712304688662513777303966978552843,320714158),(167772973192695322338858111700712351782376002836,1451839958599773909368526416776263279215679895391,439308017),(209455848577617236687893737096930426858441830508,1446414630532179165499178607514547361892213365935,563882519),(250965461318853250093654425280860952744038204557,1439792822994310266988710147911996909011376820699,694519734),(292267474512990234066943033964077935033594630971,1431980013569570979414439372644098791643327393254,831302082),(333327722983719376542384227495723995225300033841,1422982665042480030733630546150653882619171527486,974312491),(374112241543394927831059932800882266357442655543,1412808220052632130318137346236670730355104624491,1123634432),(414587293089161593356211791002142029494248979920,1401465094938119286918453517194352001891981315146,1279352058),(454719396510409353877065360598846146309351383934,1388962672773505169950576940938848652462240334426,1441550288),(494475354384470564547574279313459655642251376428,1375311295608111527166262812697943253302720097069,1610314905),(533822280437649350917988179405950636313935925798,1360522255911037176557753158125747022323351166465,1785732686),(572727626748867437969030702672815296026021450483,1344607787229986284062742507357068005957667488345,1967891524),(611159210673423456896029193928859045125807860455,1327581054071632978468333415095012619016166120585,2156880503),(649085241464594297514770486435756780375773555144,1309456141011893302900563276573592262205421685046,2352790080),(686474346571057020325367865043809048176281360609,1290248041045112525752615818540953679637527173173,2555712169),(723295597588378004688631749862484412084779316998,1269972643181805405901926354681772341726557580927,2765740304),(759518535843102166416408178020393405686084072042,1248646719305208606809791757767234569499066042459,2982969768),(795113197588278992643094807601661501008863157229,1226287910297517567397223888956836451044452455746,3207497729),(830050138789583562730824070454714436114526873560,1202914711447284257278075612360158552951911648866,3439423400),(864300459481529385285085884069331196994275204685,1178546457150046870274907603021260024488413017819,3678848192),(897835827673625502978962450000274330034736433911,1153203304914847151267565934725949411642416914434,3925875860),(930628502786702604631159790242171236948194550186,1126906218689865223711729353026719539775088084946,4180612701),(962651358600021529897859441019558064167217220512,1099676951520965013657346056347592107741544680924,4443167646),(993877905690182234531757543668978977793827140623,1071538027557495184890244507016059707365415988313,4713652532),(1024282313343271668678586765352267699105312721277,1042512723420230452447748027778896284428902436311,4992182234),(1053839430922124759378319775826797893095428227281,1012625048946865781570061207972738279201202294444,5278874832),(1082524808671023420870488319758565671736226280415,981899727330990869677946858506911568591152612672,5573851817),(1110314717940623869623103494713867736881930132045,950362174670974024294447662853344353669862267085,5877238310),(1137186170816382110270563057008049833805388321292,918038478945672674933373879236867899088316791570,6189163239),(1163116939134240887139686364323058696318103869100,884955378434361888081106108374409516270833857485,6509759561),(1188085572867848255598772983061587769093378527246,851140239598731999297967805445649691486459393308,6839164459),(1212071417872097798806259508331985354243991048174,816621034445251454858344082260077701321877942302,7177519570),(1235054632968312968523676348868722754940728789696,781426317386620799147108009511113931959098934580,7524971198),(1257016206356942623045041042172323436327007445546,745585201621458097665401614494959637913938864323,7881670589),(1277937971344191120491098836568435495558856871505,709127335051754606216563981383222432397157240196,8247774099),(1297802621369573841560786744659625078345393841840,672082875758021854985208641929538505300886136028,8623443506),(1316593724321967292872773146714551592444685165148,634482467052417195501073708334096931554652006984,9008846233),(1334295736132311501914029317946993889292411218916,596357212130483956237624065795702406449689913596,9404155564),(1350894013631720770481234143293683052055183596515,557738648342474380058533443483398452107699743208,9809551007),(1366374826664366510392236549890807937233797192858,518658721105538199238783954935603090260529918248,10225218450),(1380725369445112340502799733535389679147907122971,479149757478356781044666047167328553782965830057,10651350517),(1393933771152506367754383986013658979841748329775,439244439420082003115049205905487461026128164211,11088146821),(1405989105748368090311526057450151200731159625731,398975776755700162167941728717064928296861183626,11535814272),(1416881401015847124603446827444749787372573901896,358377079870184065842061910672708436032173282110,11994567366),(1426601646808477441048947695935473229149339084840,317481932154020804889567740766362551024860326973,12464628477),(1435141802503403460643367909054239770828293527834,276324162222908365882242902999184375509311902222,12946228192),(1442494803652612676532510900630999250867088993691,234937815934601052954172581824353452882124466906,13439605640),(1448654567826672876632959112660191105715076986537,193357128226051486350704340645437903114404763318,13945008781),(1453615999646140006504306085082652750129228285220,151616494794145596882126801383823745198294167047,14462694796),(1457374994996474673494985431327133333812472900858,109750443643456415826089504549517750430350501957,14992930390),(1459928444422980697820297718940238184005041901350,67793606524552462361353582617395468166128541377,15535992172),(1461274235702957404991743404141508098911451655524,25780690286487064252502678292404199716264716444,16092167022)]
def Bv (q:Nat):Nat×Nat×Nat:=ash.getD q (0,0,0)
def QC (q:Nat):Nat:=match Nat.beq q 54 with
 | true=>183
 | false=>300
def aby (q:Nat):Nat:=match q with
 | 0=>0
 | _+1=>1099511627776
def gJ (q:Nat):Bool:=abw ao0 ao1 2 (aby q) 0 (QC q) (300*q) (Bv q).1 (Bv q).2.1 (Bv q).2.2 (Nat.beq q 54) (Bv (q+1)).1 (Bv (q+1)).2.1 (Bv (q+1)).2.2
end Go.Ln
