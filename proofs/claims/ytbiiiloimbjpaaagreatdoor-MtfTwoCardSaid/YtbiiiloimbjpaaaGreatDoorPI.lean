/- What is proved: MtfTwo returns true, whatever the input (part 9). No conditions beyond those of the row. -/
import Derived.Test.YtbiiiloimbjpaaaGreatDoorPG
import Derived.Test.YtbiiiloimbjpaaaGreatDoorPH
import Derived.KernelRfl
open Go.IntKind (i64 u64)
set_option linter.unusedVariables false
set_option linter.unusedSimpArgs false
set_option linter.unusedSectionVars false
namespace Go.Vc
open Go Go.Eng Go.Ar
end Go.Vc
namespace Go.Proofs.YtbiiiloimbjpaaaGreatDoor.K
open Go Go.Eng Go.Ar Go.Vc
noncomputable section
end
end Go.Proofs.YtbiiiloimbjpaaaGreatDoor.K
namespace Go.Dg
def val:List Int->Int
 | []=>0
 | x :: l=>x+1000000000*val l
def Dig (xs:List Int):Prop:=∀ x∈xs,0<=x/\x<1000000000
def pw:Nat->Int
 | 0=>1
 | n+1=>(1000000000:Int)*pw n
theorem pw_pos:∀ n,0<pw n
 | 0=>by decide
 | n+1=>Int.mul_pos (by decide) (pw_pos n)
theorem yz:∀ m n,pw (m+n)=pw m*pw n
 | 0,n=>by simp [pw]
 | m+1,n=>by rw [Nat.succ_add];simp only [pw];rw [yz m n,dM]
theorem jF:Dig []:=fun _ h=>by cases h
theorem fA {x:Int} {l:List Int}:Dig (x :: l) ↔ (0<=x/\x<1000000000)/\Dig l:=by
 constructor
 .intro h;exact ⟨h x (by simp),fun y a=>h y (by simp [a])⟩
 .rintro ⟨h1,h2⟩ y a
  rcases aN.1 a with rfl|a
  .exact h1
  .exact h2 y a
theorem CB {l m:List Int}:Dig (l++m) ↔ Dig l/\Dig m:=by
 constructor
 .intro h;exact ⟨fun y a=>h y (by simp [a]),fun y a=>h y (by simp [a])⟩
 .rintro ⟨h1,h2⟩ y a
  rcases lW.1 a with a|a
  .exact h1 y a
  .exact h2 y a
theorem Dig.take {l:List Int} (h:Dig l) (n:Nat):Dig (l.take n):=fun x E=>h x (List.mem_of_mem_take E)
theorem Dig.drop {l:List Int} (h:Dig l) (n:Nat):Dig (l.drop n):=fun x E=>h x (List.mem_of_mem_drop E)
theorem Dig.get {l:List Int} (h:Dig l) (i:Nat):0<=l.getD i 0/\l.getD i 0<1000000000:=by
 rw [bY]
 cases e:l[i]? with
 | none=>exact ⟨dO _,by decide⟩
 | some x=>exact h x (jg e)
theorem Dig.set {l:List Int} (h:Dig l) (i:Nat) {x:Int} (E:0<=x/\x<1000000000):Dig (l.set i x):=fun y J=>by
 rcases List.mem_or_eq_of_mem_set J with h1|rfl
 .exact h y h1
 .exact E
theorem um:∀ (l m:List Int),val (l++m)=val l+pw l.length*val m
 | [],m=>by simp [val,pw]
 | x :: l,m=>by
  simp only [zf,val,il,pw];rw [um l m,dU,dM];omega
theorem aO:∀ {l:List Int},Dig l->0<=val l
 | [],_=>dO _
 | x :: l,h=>by
  have h:=fA.1 h;have:=aO h.2;simp only [val];omega
theorem eF:∀ {l:List Int},Dig l->val l<pw l.length
 | [],_=>by decide
 | x :: l,h=>by
  have h:=fA.1 h;have:=eF h.2;simp only [val,il,pw];have h3:(1000000000:Int)*val l+1000000000<=1000000000*pw l.length:=by have:(1000000000:Int)*(val l+1)<=1000000000*pw l.length:=bq (by omega) (by decide);rw [dU] at this;simpa using this
  have:=h.1.2;omega
theorem om:∀ (l:List Int) (i:Nat) (x:Int),i<l.length->val (l.set i x)=val l+pw i*(x - l.getD i 0)
 | [],i,x,h=>by simp at h
 | y :: l,0,x,h=>by simp [val,pw];omega
 | y :: l,i+1,x,h=>by
  simp only [List.set_cons_succ,val,pw,List.getD_cons_succ];rw [om l i x (by simpa using h),dU,dM];omega
theorem PR:∀ n,val (List.replicate n 0)=0
 | 0=>rfl
 | n+1=>by simp [Dv,val,PR n]
theorem ZL (n:Nat):Dig (List.replicate n 0):=fun x a=>by
 obtain rfl:=List.eq_of_mem_replicate a;decide
theorem gX {l:List Int} {n:Nat} (h:n<l.length):val (l.take (n+1))=val (l.take n)+pw n*l.getD n 0:=by rw [List.take_add_one,dh h,um,dD,iP (by omega),bY,dh h];simp [val]
def aA (n:Nat):List Int:=
 if h:n=0 then [] else ((n % 1000000000:Nat):Int) :: aA (n / 1000000000)
termination_by n
decreasing_by exact zn (za h) (by decide)
theorem gU:aA 0=[]:=by rw [aA];simp
theorem kE {n:Nat} (h:n≠0):aA n=((n % 1000000000:Nat):Int) :: aA (n / 1000000000):=by rw [aA];simp [h]
theorem jZ (n:Nat):val (aA n)=n:=by
 induction n using Nat.strongRecOn with
 | _ n a=>
  by_cases h:n=0
  .subst h;rw [gU];rfl
  .rw [kE h,val,a _ (zn (za h) (by decide))];omega
theorem bU (n:Nat):Dig (aA n):=by
 induction n using Nat.strongRecOn with
 | _ n a=>
  by_cases h:n=0
  .subst h;rw [gU];exact jF
  .rw [kE h];exact fA.2 ⟨by omega,a _ (zn (za h) (by decide))⟩
def Top (l:List Int):Prop:=l=[]\/l.getD (l.length - 1) 0≠0
theorem I5 {x y:Int} {l:List Int}:Top (x :: y :: l) ↔ Top (y :: l):=by
 constructor
 .intro h;rcases h with h|h
  .cases h
  .exact .inr (by simpa using h)
 .intro h;rcases h with h|h
  .cases h
  .exact .inr (by simpa using h)
theorem EQ {l:List Int}:Dig l->Top l->l≠[]->val l≠0:=by
 induction l with
 | nil=>intro _ _ h;exact absurd rfl h
 | cons x l b=>
  intro hd a _;have h:=fA.1 hd;have h2:=aO h.2;simp only [val]
  cases l with
  | nil=>
   rcases a with a|a
   .cases a
   .have:x≠0:=by simpa using a
    simp only [val];omega
  | cons y l=>
   have:=b h.2 (I5.1 a) (by simp);omega
theorem kF:∀ {l:List Int},Dig l->Top l->aA (val l).toNat=l
 | [],_,_=>gU
 | x :: l,hd,b=>by
  have h:=fA.1 hd;have h2:=aO h.2;have f:val (x :: l)≠0:=EQ hd b (by simp);have h1:0<=val (x :: l):=aO hd;have a:Top l:=by
   cases l with
   | nil=>exact .inl rfl
   | cons y l=>exact I5.1 b
  rw [kE (by omega)];simp only [val] at h1 ⊢;have c:(x+1000000000*val l).toNat % 1000000000=x.toNat:=by omega
  have d:(x+1000000000*val l).toNat / 1000000000=(val l).toNat:=by omega
  rw [c,d,kF h.2 a,iN h.1.1]
theorem mD (n:Nat):Top (aA n):=by
 induction n using Nat.strongRecOn with
 | _ n a=>
  by_cases h:n=0
  .subst h;rw [gU];exact .inl rfl
  .by_cases h2:n / 1000000000=0
   .rw [kE h,h2,gU];right;simp;omega
   .have:=a (n / 1000000000) (zn (za h) (by decide));rw [kE h];rw [kE h2] at this ⊢;exact I5.2 this
theorem wU {n:Nat} (h:n≠0):0<(aA n).length:=by rw [kE h];simp
theorem I6 {n:Nat}:aA n=[] ↔ n=0:=by
 constructor
 .intro h;by_cases a:n=0
  .exact a
  .rw [kE a] at h;cases h
 .rintro rfl;exact gU
def tl (l:List Int):Nat->Nat
 | 0=>0
 | n+1=>if l.getD n 0=0 then tl l n else n+1
theorem ZM (l:List Int):∀ n,tl l n<=n
 | 0=>bD _
 | n+1=>by
  simp only [tl];split
  .exact DD (ZM l n)
  .exact bD _
theorem ZN {l:List Int}:∀ {n},n<=l.length->val (l.take (tl l n))=val (l.take n)
 | 0,_=>rfl
 | n+1,h=>by
  simp only [tl];split
  .rename_i a;rw [ZN (by omega),gX (by omega),a];simp
  .rfl
theorem ZO {l:List Int}:∀ {n},n<=l.length->Top (l.take (tl l n))
 | 0,_=>.inl rfl
 | n+1,h=>by
  simp only [tl];split
  .exact ZO (by omega)
  .rename_i a;right;rw [dD,iP (by omega)];simpa [bY,jL] using a
theorem UG {l:List Int} (h:Dig l):l.take (tl l l.length)=aA (val l).toNat:=by have h1:=kF (h.take (tl l l.length)) (ZO (bD _));rw [ZN (bD _),gp] at h1;exact h1.symm
theorem aeR {l:List Int} (h:Dig l):tl l l.length=0 ↔ val l=0:=by
 have e:=UG h;have d:=aO h;have a:=ZM l l.length;constructor
 .intro b;rw [b,uS] at e;have:=I6.1 e.symm;omega
 .intro c;rw [c] at e;have e:l.take (tl l l.length)=[]:=by rw [e];exact gU
  have:=bL List.length e;rw [dD,iP a] at this;exact this
def vG (a b:List Int):Nat->Bool
 | 0=>false
 | n+1=>if a.getD n 0=b.getD n 0 then vG a b n else decide (a.getD n 0<b.getD n 0)
theorem KS {a b:List Int} (ha:Dig a) (hb:Dig b):∀ {n:Nat},n<=a.length->n<=b.length->(vG a b n=true ↔ val (a.take n)<val (b.take n))
 | 0,_,_=>by simp [vG,val]
 | n+1,h1,h2=>by
  have f:=KS ha hb (n:=n) (by omega) (by omega);simp only [vG];rw [gX (by omega),gX (by omega)];split
  .rename_i d;rw [f,d];omega
  .rename_i d;have x1:=eF (ha.take n);have g:=eF (hb.take n);have i:=aO (ha.take n);have j:=aO (hb.take n);rw [dD,iP (by omega)] at x1 g;have hp:=pw_pos n;simp only [aT];constructor
   .intro c;have:pw n*(a.getD n 0+1)<=pw n*b.getD n 0:=bq (by omega) (by omega);rw [dU] at this;omega
   .intro c;rcases (show a.getD n 0<b.getD n 0\/b.getD n 0<=a.getD n 0 by omega) with h|h
    .exact h
    .have:pw n*(b.getD n 0+1)<=pw n*a.getD n 0:=bq (by omega) (by omega);rw [dU] at this;omega
theorem gF {m n:Nat} (h:m<=n):pw m<=pw n:=by
 obtain ⟨k,rfl⟩:=Nat.le.dest h;rw [yz];have h1:=pw_pos m;have h2:=pw_pos k
 calc pw m=pw m*1:=(kW _).symm
  _<=pw m*pw k:=bq h2 (fK h1)
theorem I7 {l:List Int} (h:Dig l) (b:Top l) (a:l≠[]):pw (l.length - 1)<=val l:=by
 have c:0<l.length:=eU.2 a;have h1:val l=val (l.take (l.length - 1))+pw (l.length - 1)*l.getD (l.length - 1) 0:=by have:=gX (l:=l) (n:=l.length - 1) (by omega);rw [show l.length - 1+1=l.length by omega,gp] at this;exact this
 have h2:=aO (h.take (l.length - 1));have h3:1<=l.getD (l.length - 1) 0:=by
  rcases b with b|b
  .exact absurd b a
  .have:=h.get (l.length - 1);omega
 have d:pw (l.length - 1)*1<=pw (l.length - 1)*l.getD (l.length - 1) 0:=bq h3 (fK (pw_pos _));omega
theorem wV {a b:List Int} (ha:Dig a) (hb:Dig b) (tb:Top b) (h:a.length<b.length):val a<val b:=by have h1:=eF ha;have h2:=I7 hb tb (by rintro rfl;simp at h);have h3:=gF (show a.length<=b.length - 1 by omega);omega
def ja (a b:List Int):Bool:=if a.length=b.length then vG a b a.length else decide (a.length<b.length)
theorem pO {a b:List Int} (ha:Dig a) (hb:Dig b) (ta:Top a) (tb:Top b):ja a b=true ↔ val a<val b:=by
 unfold ja;split
 .rename_i h;rw [KS ha hb (bD _) (by omega),gp,h,gp]
 .rename_i h;simp only [aT];constructor
  .exact fun c=>wV ha hb tb c
  .intro d;rcases aX a.length b.length with h1|h1
   .exact h1
   .have:=wV hb ha ta (by omega);omega
def ll (a b:List Int):Nat->Nat->Int->List Int->List Int
 | 0,_,_,d=>d
 | n+1,i,c,d=>if i<a.length\/i<b.length\/0<c then ll a b n (i+1) ((a.getD i 0+b.getD i 0+c).tdiv (1000000000:Int)) (d++[(a.getD i 0+b.getD i 0+c).tmod (1000000000:Int)]) else d
theorem GA {l:List Int} {i:Nat} (h:l.length<=i):l.getD i 0=0:=by rw [bY,dB h];rfl
theorem val_take_succ' (l:List Int) (n:Nat):val (l.take (n+1))=val (l.take n)+pw n*l.getD n 0:=by
 rcases aX n l.length with h|h
 .exact gX h
 .rw [ib (by omega),ib (by omega),GA h];simp
theorem CE {a b:List Int} (ha:Dig a) (hb:Dig b) {c:Int} (f:0<=c/\c<=1) (i:Nat):
  0<=(a.getD i 0+b.getD i 0+c).tmod (1000000000:Int)/\(a.getD i 0+b.getD i 0+c).tmod (1000000000:Int)<1000000000/\0<=(a.getD i 0+b.getD i 0+c).tdiv (1000000000:Int)/\(a.getD i 0+b.getD i 0+c).tdiv (1000000000:Int)<=1 /\
  (a.getD i 0+b.getD i 0+c).tmod (1000000000:Int)+1000000000*(a.getD i 0+b.getD i 0+c).tdiv (1000000000:Int)=a.getD i 0+b.getD i 0+c:=by
 have h1:=ha.get i;have h2:=hb.get i;generalize a.getD i 0=x at *
 generalize b.getD i 0=y at *
 have d:0<=x+y+c:=by omega
 rw [cO d,bV d];omega
theorem PS {a b:List Int} (ha:Dig a) (hb:Dig b):∀ (n i:Nat) (c:Int) (d:List Int),Dig d->d.length=i->0<=c/\c<=1->val d+pw i*c=val (a.take i)+val (b.take i)->a.length+1<=i+n->b.length+1<=i+n ->
  Dig (ll a b n i c d)/\val (ll a b n i c d)=val a+val b
 | 0,i,c,d,hd,j,k,g,h1,h2=>by
  simp only [ll];rw [ib (by omega),ib (by omega)] at g;have t:=eF ha;have u:=eF hb;have l:=gF (show a.length+1<=i by omega);have q4:=gF (show b.length+1<=i by omega);simp only [pw] at l q4;have v:=pw_pos i;have w:=aO hd;have x:=aO ha;have y:=aO hb;have f:c=0:=by
   rcases (show c=0\/c=1 by omega) with h|h
   .exact h
   .subst h;have r1:=pw_pos a.length;have z:=pw_pos b.length;omega
  subst f;exact ⟨hd,by simpa using g⟩
 | n+1,i,c,d,hd,j,k,g,h1,h2=>by
  simp only [ll];split
  .obtain ⟨m,o,p,q,r⟩:=CE ha hb k i;refine PS ha hb n (i+1) _ _ (CB.2 ⟨hd,fA.2 ⟨⟨m,o⟩,jF⟩⟩) (by simp [j]) ⟨p,q⟩ ?_ (by omega) (by omega);rw [um,j,val_take_succ',val_take_succ'];simp only [val,pw];have e:pw i*((a.getD i 0+b.getD i 0+c).tmod (1000000000:Int)+1000000000*(a.getD i 0+b.getD i 0+c).tdiv (1000000000:Int))=pw i*(a.getD i 0+b.getD i 0+c):=by rw [r]
   rw [dU,dU,dU] at e;have s:(1000000000:Int)*pw i*(a.getD i 0+b.getD i 0+c).tdiv (1000000000:Int)=pw i*((1000000000:Int)*(a.getD i 0+b.getD i 0+c).tdiv (1000000000:Int)):=by rw [eO (1000000000:Int),dM]
   rw [s];simp only [Ec,Ed];omega
  .rename_i hn;have f:c=0:=by omega
   subst f;rw [ib (by omega),ib (by omega)] at g;exact ⟨hd,by simpa using g⟩
def lF (a b:List Int):Nat->Nat->Int->List Int->List Int
 | 0,_,_,d=>d
 | n+1,i,c,d=>lF a b n (i+1) (if a.getD i 0 - b.getD i 0 - c<0 then 1 else 0) (d++[if a.getD i 0 - b.getD i 0 - c<0 then a.getD i 0 - b.getD i 0 - c+1000000000 else a.getD i 0 - b.getD i 0 - c])
theorem PT {a b:List Int} (ha:Dig a) (hb:Dig b):∀ (n i:Nat) (c:Int) (d:List Int),Dig d->d.length=i->0<=c/\c<=1->val d - pw i*c=val (a.take i) - val (b.take i) ->
  ∃ c',Dig (lF a b n i c d)/\(lF a b n i c d).length=i+n/\0<=c'/\c'<=1/\val (lF a b n i c d) - pw (i+n)*c'=val (a.take (i+n)) - val (b.take (i+n))
 | 0,i,c,d,hd,f,g,k=>⟨c,hd,f,g.1,g.2,k⟩
 | n+1,i,c,d,hd,f,g,k=>by
  have h1:=ha.get i;have h2:=hb.get i;have h:∃ c' x:Int,c'=(if a.getD i 0 - b.getD i 0 - c<0 then 1 else 0)/\x=(if a.getD i 0 - b.getD i 0 - c<0 then a.getD i 0 - b.getD i 0 - c+1000000000 else a.getD i 0 - b.getD i 0 - c)/\0<=c'/\c'<=1/\0<=x/\x<1000000000/\x - (1000000000:Int)*c'=a.getD i 0 - b.getD i 0 - c:=by
   refine ⟨_,_,rfl,rfl,?_⟩;generalize a.getD i 0=x at *
   generalize b.getD i 0=y at *
   split <;> omega
  obtain ⟨c',x,l,j,k1,k2,m,k4,o⟩:=h;simp only [lF];rw [<- l,<- j];have:=PT ha hb n (i+1) c' (d++[x]) (CB.2 ⟨hd,fA.2 ⟨⟨m,k4⟩,jF⟩⟩) (by simp [f]) ⟨k1,k2⟩ (by
   rw [um,f,val_take_succ',val_take_succ'];simp only [val,pw];have e:pw i*(x - (1000000000:Int)*c')=pw i*(a.getD i 0 - b.getD i 0 - c):=by rw [o]
   rw [uY,uY,uY] at e;have j:(1000000000:Int)*pw i*c'=pw i*((1000000000:Int)*c'):=by rw [eO (1000000000:Int),dM]
   rw [j];simp only [Ec,Ed];omega)
  rw [show i+1+n=i+(n+1) by omega] at this;exact this
theorem aeS {a b:List Int} (ha:Dig a) (hb:Dig b) (d:val b<=val a) (f:b.length<=a.length):Dig (lF a b a.length 0 0 [])/\val (lF a b a.length 0 0 [])=val a - val b:=by
 obtain ⟨c',h1,h2,h3,j,c⟩:=PT ha hb a.length 0 0 [] jF rfl (by omega) (by simp [val]);rw [fJ,gp,ib f] at c;rw [fJ] at h2;have g:=eF h1;have k:=aO h1;rw [h2] at g;have i:c'=0:=by
  rcases (show c'=0\/c'=1 by omega) with h|h
  .exact h
  .subst h;omega
 subst i;exact ⟨h1,by simpa using c⟩
theorem aik {m n:Nat} (h:pw m<pw n):m<n:=by
 rcases aX m n with h1|h1
 .exact h1
 .have:=gF h1;omega
theorem ZP {d:List Int} (hd:Dig d) {j:Nat} {n:Int} (a:0<n) (b:val d+pw j*n<pw d.length):j<d.length:=by have h1:=aO hd;have h2:pw j*1<=pw j*n:=bq a (fK (pw_pos j));exact aik (by omega)
theorem RV {d:List Int} (hd:Dig d) {j:Nat} {n:Int} (g:0<=n) (c:j<d.length):
  Dig (d.set j ((n+d.getD j 0).tmod (1000000000:Int)))/\0<=(n+d.getD j 0).tdiv (1000000000:Int)/\val (d.set j ((n+d.getD j 0).tmod (1000000000:Int)))+pw (j+1)*(n+d.getD j 0).tdiv (1000000000:Int)=val d+pw j*n/\0<=(n+d.getD j 0).tmod (1000000000:Int)/\(n+d.getD j 0).tmod (1000000000:Int)<1000000000:=by
 have h1:=hd.get j;have a:0<=(n+d.getD j 0).tmod (1000000000:Int)/\(n+d.getD j 0).tmod (1000000000:Int)<1000000000/\0<=(n+d.getD j 0).tdiv (1000000000:Int)/\(n+d.getD j 0).tmod (1000000000:Int)+1000000000*(n+d.getD j 0).tdiv (1000000000:Int)=n+d.getD j 0:=by
  have b:0<=n+d.getD j 0:=by omega
  rw [cO b,bV b];omega
 obtain ⟨k1,k2,f,k4⟩:=a;refine ⟨hd.set j ⟨k1,k2⟩,f,?_,k1,k2⟩;rw [om d j _ c];simp only [pw];have e:pw j*((n+d.getD j 0).tmod (1000000000:Int)+1000000000*(n+d.getD j 0).tdiv (1000000000:Int))=pw j*(n+d.getD j 0):=by rw [k4]
 rw [dU,dU] at e;rw [uY,eO (1000000000:Int),dM];omega
theorem JG (x:Int) (b:List Int) (i k:Nat):pw i*(x*val (b.take (k+1)))=pw i*(x*val (b.take k))+pw (i+k)*(x*b.getD k 0):=by
 rw [val_take_succ',dU,dU,yz,dM (pw i) (pw k)]
 congr 2
 rw [ze]
theorem UH (a b:List Int) (i:Nat):val (a.take (i+1))*val b=val (a.take i)*val b+pw i*(a.getD i 0*val b):=by rw [val_take_succ',iQ,dM]
theorem ajy {a b:List Int} (ha:Dig a) (hb:Dig b):val a*val b<pw (a.length+b.length)\/(a.length+b.length=0/\val a*val b=0):=by left;rw [yz];have h1:=eF ha;have h2:=eF hb;have h3:=aO ha;have d:=aO hb;have f:val a*val b<=val a*pw b.length:=bq (by omega) h3;have c:(val a+1)*pw b.length<=pw a.length*pw b.length:=bG (by omega) (fK (pw_pos _));rw [iQ] at c;have:=pw_pos b.length;omega
def fr (x:Int):Int:=if x.tmod (1000000000:Int)<0 then x.tmod (1000000000:Int)+1000000000 else x.tmod (1000000000:Int)
def fq (x:Int):Int:=if x.tmod (1000000000:Int)<0 then x.tdiv (1000000000:Int) - 1 else x.tdiv (1000000000:Int)
theorem ajz (x:Int):0<=fr x/\fr x<1000000000/\fr x+1000000000*fq x=x:=by
 have h1:=Int.mul_tdiv_add_tmod x (1000000000:Int);have h2:-(1000000000:Int)<x.tmod (1000000000:Int)/\x.tmod (1000000000:Int)<1000000000:=by
  have:=DV x (1000000000:Int);have h3:x.natAbs % 1000000000<1000000000:=jQ _ (by decide);have a:(x.tmod (1000000000:Int)).natAbs<1000000000:=by rw [this];exact h3
  omega
 unfold fr fq;split <;> omega
def ML (d b:List Int):Int:=(d.getD b.length 0*1000000000+d.getD (b.length - 1) 0).tdiv (b.getD (b.length - 1) 0+1)
theorem aeT {l:List Int} (a:l≠[]):val l=val (l.take (l.length - 1))+pw (l.length - 1)*l.getD (l.length - 1) 0:=by have b:0<l.length:=eU.2 a;have:=gX (l:=l) (n:=l.length - 1) (by omega);rw [show l.length - 1+1=l.length by omega,gp] at this;exact this
theorem ZQ {d b:List Int} (hd:Dig d) (hb:Dig b) (td:Top d) (tb:Top b) (a:b≠[]) (p:val b<=val d) (q:val d<1000000000*val b):
  b.length<=d.length/\d.length<=b.length+1/\0<=ML d b/\ML d b<1000000000/\ML d b*val b<=val d:=by
 have n:0<b.length:=eU.2 a;have hp:=pw_pos (b.length - 1);have c:b.length<=d.length:=by
  rcases aX d.length b.length with h|h
  .have:=wV hd hb tb h;omega
  .exact h
 have i:d≠[]:=by rintro rfl;exact a (by simpa using c)
 have f:d.length<=b.length+1:=by
  rcases aX (b.length+1) d.length with h|h
  .have A:=I7 hd td i;have D:=eF hb;have r:=gF (show b.length+1<=d.length - 1 by omega);simp only [pw] at r;omega
  .exact h
 have s:=hb.get (b.length - 1);have u:=aeT a;have j:=eF (hb.take (b.length - 1));rw [dD,iP (by omega)] at j;have E:pw (b.length - 1)*(d.getD b.length 0*1000000000+d.getD (b.length - 1) 0)<=val d:=by
  have v:=val_take_succ' d (b.length - 1);rw [show b.length - 1+1=b.length by omega] at v;have o:=val_take_succ' d b.length;rw [ib f] at o;have e3:=aO (hd.take (b.length - 1));have w:pw b.length=1000000000*pw (b.length - 1):=by
   conv=>lhs;rw [show b.length=b.length - 1+1 by omega]
   rfl
  rw [w] at o;rw [dU,<- dM,Int.mul_right_comm,eO (pw (b.length - 1)) (1000000000:Int)];omega
 have x:=hd.get b.length;have y:=hd.get (b.length - 1);generalize k:d.getD b.length 0*1000000000+d.getD (b.length - 1) 0=T at *
 have g:0<=T:=by omega
 generalize l:b.getD (b.length - 1) 0=t at *
 have m:ML d b=T / (t+1):=by unfold ML;rw [k,l,bV g]
 have k0:0<=T / (t+1):=bu g (by omega);have k1:T / (t+1)*(t+1)<=T:=oP T (by omega);have k2:pw (b.length - 1)*(T / (t+1)*(t+1))<=pw (b.length - 1)*T:=bq k1 (fK hp);have F:T / (t+1)*val b<=T / (t+1)*(pw (b.length - 1)*(t+1)):=by refine bq ?_ k0;rw [dU];omega
 have k4:T / (t+1)*(pw (b.length - 1)*(t+1))=pw (b.length - 1)*(T / (t+1)*(t+1)):=ze ..;refine ⟨c,f,by rw [m];exact k0,?_,by rw [m];omega⟩;rw [m];have z:pw (b.length - 1)*T<pw (b.length - 1)*((1000000000:Int)*(t+1)):=by
  have:(1000000000:Int)*val b<1000000000*(pw (b.length - 1)*(t+1)):=by rw [dU (pw (b.length - 1))];omega
  rw [ze];omega
 have k6:T<1000000000*(t+1):=Int.lt_of_mul_lt_mul_left z (fK hp);exact rE (by omega) k6
end Go.Dg
namespace Go.Dg
open Go Go.Eng
theorem bt {p:Prop} [Decidable p] {b:Bool}:(bif decide p then b else false)=true ↔ p/\b=true:=by by_cases h:p <;> simp [h]
theorem bo {p:Prop} [Decidable p] {b:Bool}:(bif decide p then true else b)=true ↔ p\/b=true:=by by_cases h:p <;> simp [h]
theorem nbt {p:Prop} [Decidable p] {b:Bool}:(!bif decide p then b else false)=true ↔ (p->b=false):=by by_cases h:p <;> simp [h]
theorem nbo {p:Prop} [Decidable p] {b:Bool}:(!bif decide p then true else b)=true ↔ ¬p/\b=false:=by by_cases h:p <;> simp [h]
theorem eb {x y:Int}:(x==y)=true ↔ x=y:=⟨eq_of_beq,fun h=>by rw [h];exact beq_self_eq_true y⟩
theorem neb {x y:Int}:(x==y)=false ↔ x≠y:=by
 constructor
 .intro h e;rw [eb.2 e] at h;cases h
 .intro h
  cases e:(x==y) with
  | false=>rfl
  | true=>exact absurd (eb.1 e) h
theorem dt {p:Prop} [Decidable p]:decide p=true ↔ p:=decide_eq_true_iff
theorem ndt {p:Prop} [Decidable p]:(!decide p)=true ↔ ¬p:=by by_cases h:p <;> simp [h]
def Sm (d:List Int):Prop:=d.length<=500000
theorem Sm.le {d:List Int} (h:Sm d):d.length<=500000:=h
theorem iw {n:Int} (a:-9223372036854775808<=n) (h1:n<9223372036854775808):i64.wrap n=n:=Go.Ar.i64w a h1
end Go.Dg
namespace Go.Proofs.YtbiiiloimbjpaaaGreatDoor.K
open Go Go.Eng
noncomputable section
def cL:Ctx:=mkN Tryz.prog (fun _=>none) hG0 [] [] lw
def mdH (d:List Int):Hp:=iZ true hG0 [(.i64,d)]
def ER (neg:Bool) (d:List Int):List AV:=[.bool true neg,.lslice 0 d.length]
noncomputable def mdS (neg:Bool) (d:List Int):St:=qM cL 300 80 (ER neg d) (mdH d)
def Bp:AFr:=⟨80,none⟩
def mdA:Code:=fP Tryz.prog 80 0
def mdP (i:Int):Patch:=⟨(5,.int true .i64 i) :: bS 10 12,[],[]⟩
def tlI (d:List Int) (y:Int):Int:=(Go.Dg.tl d y.toNat:Nat)
def mdU (d:List Int):SumL Int:=
 {
  S:=fun y=>mdP y
  I:=fun y=>0<=y/\y<=d.length
  μ:=fun y=>y.toNat
  F:=fun y=>(.exit 0,mdP (tlI d y))
  next:=fun y=>i64.wrap (y - 1)
  ids:=fun _=>[]
  X:=fun y _=>some (mdP y,[]) }
end
end Go.Proofs.YtbiiiloimbjpaaaGreatDoor.K
namespace Go.Proofs.YtbiiiloimbjpaaaGreatDoor.K
open Go Go.Eng Go.Dg
noncomputable section
def PU (neg:Bool) (d:List Int):Prop:=(↑d.length:Int)=(↑d.length:Int)
theorem ZR (neg:Bool) (d:List Int):fit (mdS neg d) (mdS neg d) (aJ (mdS neg d) ((mdU d).S (d.length:Int))) ([])=some (.p (PU neg d)):=by kernel_rfl
def RX (neg:Bool) (d:List Int) (i:Int):Prop:=(decide (i>0)=true->((0:Int)<=i64.wrap (i - (1:Int))/\i64.wrap (i - (1:Int))<(↑d.length:Int))/\(i64.wrap (i - (1:Int))).toNat<d.length)/\((!bif decide (i>0) then d.getD (i64.wrap (i - (1:Int))).toNat (0:Int)==0 else false)=true->i=i/\(mdU d).F i=(Ex.exit (0:Nat),mdP i))/\((bif decide (i>0) then d.getD (i64.wrap (i - (1:Int))).toNat (0:Int)==0 else false)=true->i64.wrap (i - (1:Int))=(mdU d).next i/\(mdU d).I ((mdU d).next i)/\(mdU d).μ ((mdU d).next i)<(mdU d).μ i/\(mdU d).F ((mdU d).next i)=(mdU d).F i)
theorem aeU (neg:Bool) (d:List Int) (i:Int):dQ (mdS neg d) ((mdU d).way (i)) ((run cL 300).code Bp mdA (aJ (mdS neg d) ((mdU d).S i)))=some (.p (RX neg d i)):=by kernel_rfl
theorem kv:CtxOk cL:=mf prog_ok (iY _) (fun x h=>by cases h) (fun x h=>by cases h)
theorem CF {d:List Int} {i:Int} (h:0<i):tlI d i=if d.getD (i - 1).toNat 0=0 then tlI d (i - 1) else i:=by
 unfold tlI;obtain ⟨n,rfl⟩:∃ n:Nat,i=(n+1:Nat):=⟨(i - 1).toNat,by omega⟩;have a:((n+1:Nat):Int).toNat=n+1:=by omega
 have b:(((n+1:Nat):Int) - 1).toNat=n:=by omega
 rw [a,b];simp only [tl];split <;> rfl
theorem aeV (neg:Bool) (d:List Int) (b:Sm d):CodeOk cL Bp (.loop mdA) (mdS neg d) ⟨.tt,[⟨.tt,.exit 0,aJ (mdS neg d) (mdP (tlI d d.length))⟩]⟩:=by
 refine jX (dw kv 300) (mdU d) (y0:=(d.length:Int)) ⟨by omega,by omega⟩ ⟨_,ZR neg d,rfl⟩ (by kernel_rfl) (fun i hi=>⟨_,aeU neg d i,?_⟩) rfl;have b:d.length<=500000:=b;have hi:0<=i/\i<=d.length:=hi;refine ⟨fun h=>?_,fun h=>⟨rfl,?_⟩,fun h=>?_⟩
 .have h:=bK h;rw [iw (by omega) (by omega)];omega
 .show (Ex.exit 0,mdP (tlI d i))=(Ex.exit 0,mdP i);rw [iw (by omega) (by omega)] at h;have h:=nbt.1 h;by_cases a:0<i
  .rw [CF a,aB (neb.1 (h a))]
  .have:i=0:=by omega
   subst this;rfl
 .have e:i64.wrap (i - 1)=i - 1:=iw (by omega) (by omega);rw [e] at h ⊢;obtain ⟨a,h⟩:=bt.1 h;have h:=eb.1 h;have a:0<i:=a;refine ⟨e.symm,?_,?_,?_⟩
  .show 0<=i64.wrap (i - 1)/\i64.wrap (i - 1)<=d.length;rw [e];omega
  .show (i64.wrap (i - 1)).toNat<i.toNat;rw [e];omega
  .show (Ex.exit 0,mdP (tlI d (i64.wrap (i - 1))))=(Ex.exit 0,mdP (tlI d i));rw [e,CF a,aC h]
noncomputable def cMd (neg:Bool) (d:List Int):Ctx:=bN cL [dK 80 7 Bp mdA (mdS neg d) (.exit 0) (mdP (tlI d d.length))]
theorem RY (neg:Bool) (d:List Int) (a:Sm d):CtxOk (cMd neg d):=bE kv (aeV neg d a) (bJ kv)
noncomputable def mfS (neg:Bool) (d:List Int):St:=qM (cMd neg d) 300 80 (ER neg d) (mdH d)
def mfA:Code:=fP Tryz.prog 80 1
def mfN (neg:Bool) (n:Int):Bool:=bif neg then decide (n>0) else false
def mfP (neg:Bool) (d:List Int) (n:Int):Option Int->Patch
 | none=>⟨(7,.int true .i64 0) :: bS 28 15,[],[]⟩
 | some i=>⟨(7,.int true .i64 i) :: bS 28 15,[(2,.cells [.bool true (mfN neg n),.islice true 3 0 i])],[.ints .i64 (d.take i.toNat)]⟩
def mfU (pos:Bool) (neg:Bool) (d:List Int):SumL (Option Int):=
 {
  S:=mfP neg d (tlI d d.length)
  I:=fun y=>match y with
   | none=>(pos=true->0<tlI d d.length)/\(pos=false->tlI d d.length=0)
   | some i=>pos=true/\1<=i/\i<=tlI d d.length
  μ:=fun y=>match y with
   | none=>(tlI d d.length).toNat
   | some i=>(tlI d d.length - i).toNat
  F:=fun _=>(.exit 2,mfP neg d (tlI d d.length) (bif pos then some (tlI d d.length) else none))
  next:=fun y=>match y with
   | none=>some (i64.wrap (0+1))
   | some i=>some (i64.wrap (i+1))
  ids:=fun y=>match y with
   | none=>[4]
   | some _=>[5]
  X:=fun y _=>some (mfP neg d (tlI d d.length) y,match y with|none=>[]|some _=>[3]) }
def PW (pos neg:Bool) (d:List Int):Prop:=(0:Int)=0
theorem ZT (pos neg:Bool) (d:List Int):fit (mfS neg d) (mfS neg d) (aJ (mfS neg d) ((mfU pos neg d).S none)) ([])=some (.p (PW pos neg d)):=by kernel_rfl
def ZU (pos neg:Bool) (d:List Int):Prop:=(decide ((0:Int)<tlI d (↑d.length:Int))=true->((0:Int)<=0/\(0:Int)<(↑d.length:Int))/\Int.toNat (0:Int)<d.length)/\((!decide ((0:Int)<tlI d (↑d.length:Int)))=true->(0:Int)=0/\(mfU pos neg d).F none=(Ex.exit (2:Nat),mfP neg d (tlI d (↑d.length:Int)) none))/\(decide ((0:Int)<tlI d (↑d.length:Int))=true->(i64.wrap ((0:Int)+1)=i64.wrap ((0:Int)+1)/\((bif neg then decide (tlI d (↑d.length:Int)>0) else false)=mfN neg (tlI d (↑d.length:Int))/\(0:Nat)<nat_lit 0+(1:Nat)/\(↑(0:Nat):Int)=0/\(↑(nat_lit 0+(1:Nat)):Int)=i64.wrap ((0:Int)+1))/\[d.getD (Int.toNat (0:Int)) (0:Int)]=List.take (i64.wrap ((0:Int)+1)).toNat d)/\(mfU pos neg d).I ((mfU pos neg d).next none)/\(mfU pos neg d).μ ((mfU pos neg d).next none)<(mfU pos neg d).μ none/\(mfU pos neg d).F ((mfU pos neg d).next none)=(mfU pos neg d).F none)
theorem aos (pos neg:Bool) (d:List Int):dQ (mfS neg d) ((mfU pos neg d).way (none)) ((run (cMd neg d) 300).code Bp mfA (aJ (mfS neg d) ((mfU pos neg d).S none)))=some (.p (ZU pos neg d)):=by kernel_rfl
def ZV (pos neg:Bool) (d:List Int) (i:Int):Prop:=(decide (i<tlI d (↑d.length:Int))=true->((0:Int)<=i/\i<(↑d.length:Int))/\i.toNat<d.length/\((0:Int)=0/\i=i)/\(0:Int)=0/\(0:Int)<i/\i=(↑(List.take i.toNat d).length:Int)/\i+(↑(1:Nat):Int)<=1048576)/\((!decide (i<tlI d (↑d.length:Int)))=true->(i=i/\(mfN neg (tlI d (↑d.length:Int))=mfN neg (tlI d (↑d.length:Int))/\(0:Int)=0/\i=i)/\List.take i.toNat d=List.take i.toNat d)/\(mfU pos neg d).F (some i)=(Ex.exit (2:Nat),mfP neg d (tlI d (↑d.length:Int)) (some i)))/\(decide (i<tlI d (↑d.length:Int))=true->(i64.wrap (i+1)=i64.wrap (i+1)/\(mfN neg (tlI d (↑d.length:Int))=mfN neg (tlI d (↑d.length:Int))/\(0:Int)=0/\i+(↑(1:Nat):Int)=i64.wrap (i+1))/\List.take i.toNat d++[d.getD i.toNat (0:Int)]=List.take (i64.wrap (i+1)).toNat d)/\(mfU pos neg d).I ((mfU pos neg d).next (some i))/\(mfU pos neg d).μ ((mfU pos neg d).next (some i))<(mfU pos neg d).μ (some i)/\(mfU pos neg d).F ((mfU pos neg d).next (some i))=(mfU pos neg d).F (some i))
theorem aot (pos neg:Bool) (d:List Int) (i:Int):dQ (mfS neg d) ((mfU pos neg d).way (some i)) ((run (cMd neg d) 300).code Bp mfA (aJ (mfS neg d) ((mfU pos neg d).S (some i))))=some (.p (ZV pos neg d i)):=by kernel_rfl
theorem MN (d:List Int):0<=tlI d d.length/\tlI d d.length<=d.length:=by have:=ZM d d.length;unfold tlI;rw [show ((d.length:Int)).toNat=d.length by omega];omega
theorem ail {d:List Int} {i:Int} (a:0<=i) (h:i<d.length):d.take i.toNat++[d.getD i.toNat 0]=d.take (i+1).toNat:=by rw [show (i+1).toNat=i.toNat+1 by omega,List.take_add_one,bY,dh (by omega)];rfl
theorem aeW (pos neg:Bool) (d:List Int) (b:Sm d) (hp:pos=decide (0<tlI d d.length)):CodeOk (cMd neg d) Bp (.loop mfA) (mfS neg d) ⟨.tt,[⟨.tt,.exit 2,aJ (mfS neg d) (mfP neg d (tlI d d.length) (bif pos then some (tlI d d.length) else none))⟩]⟩:=by
 obtain ⟨j,k⟩:=MN d;have f:=b.le;refine jX (dw (RY neg d b) 300) (mfU pos neg d) (y0:=none) ?_ ⟨_,ZT pos neg d,rfl⟩ (by kernel_rfl) (fun y c=>?_) rfl
 .refine ⟨fun h=>?_,fun h=>?_⟩
  .rw [hp] at h;exact bK h
  .rw [hp] at h;have:=dJ h;omega
 .cases y with
  | none=>
   refine ⟨_,aos pos neg d,?_⟩;obtain ⟨g,p2⟩:=(show (pos=true->0<tlI d d.length)/\(pos=false->tlI d d.length=0) from c);refine ⟨fun h=>?_,fun h=>⟨rfl,?_⟩,fun h=>?_⟩
   .have h:=dt.1 h;exact ⟨⟨by omega,by omega⟩,by show 0<d.length;omega⟩
   .have h:=ndt.1 h
    cases pos with
    | true=>exact absurd (g rfl) h
    | false=>rfl
   .have h:=dt.1 h;have e:i64.wrap ((0:Int)+1)=1:=by decide
    have a:pos=true:=by
     cases pos with
     | true=>rfl
     | false=>have:=p2 rfl;omega
    refine ⟨⟨rfl,⟨rfl,by decide,rfl,by decide⟩,?_⟩,?_,?_,rfl⟩
    .rw [e];exact ail (i:=0) (by omega) (by omega)
    .show pos=true/\1<=i64.wrap ((0:Int)+1)/\i64.wrap ((0:Int)+1)<=tlI d d.length;rw [e];exact ⟨a,by omega,by omega⟩
    .show (tlI d d.length - i64.wrap ((0:Int)+1)).toNat<(tlI d d.length).toNat;rw [e];omega
  | some i=>
   refine ⟨_,aot pos neg d i,?_⟩;obtain ⟨a,i1,l⟩:=(show pos=true/\1<=i/\i<=tlI d d.length from c);have e:i64.wrap (i+1)=i+1:=iw (by omega) (by omega);refine ⟨fun h=>?_,fun h=>⟨⟨rfl,⟨rfl,rfl,rfl⟩,rfl⟩,?_⟩,fun h=>?_⟩
   .have h:=dt.1 h;refine ⟨⟨by omega,by omega⟩,by omega,⟨rfl,rfl⟩,rfl,by omega,?_,by omega⟩;rw [dD];omega
   .have h:=ndt.1 h;have:i=tlI d d.length:=by omega
    rw [a];show (Ex.exit 2,mfP neg d (tlI d d.length) (some (tlI d d.length)))=_;rw [<- this]
   .have h:=dt.1 h;refine ⟨⟨rfl,⟨rfl,rfl,?_⟩,?_⟩,?_,?_,rfl⟩
    .rw [e];rfl
    .rw [e];exact ail (by omega) (by omega)
    .show pos=true/\1<=i64.wrap (i+1)/\i64.wrap (i+1)<=tlI d d.length;rw [e];exact ⟨a,by omega,by omega⟩
    .show (tlI d d.length - i64.wrap (i+1)).toNat<(tlI d d.length - i).toNat;rw [e];omega
noncomputable def cMe (pos neg:Bool) (d:List Int):Ctx:=bN (cMd neg d) [dK 80 18 Bp mfA (mfS neg d) (.exit 2) (mfP neg d (tlI d d.length) (bif pos then some (tlI d d.length) else none))]
theorem ZW (pos neg:Bool) (d:List Int) (a:Sm d) (hp:pos=decide (0<tlI d d.length)):CtxOk (cMe pos neg d):=bE (RY neg d a) (aeW pos neg d a hp) (bJ (RY neg d a))
def aeX (neg:Bool) (d:List Int):Prop:=(At (Bp) (Bp) (mdA) (mdA) (mdS neg d) (mdS neg d)/\At (Bp) (Bp) (mfA) (mfA) (mfS neg d) (mfS neg d))
def ajA (neg:Bool) (d:List Int):AV:=(AV.agg [AV.bool true (mfN neg (tlI d (↑d.length:Int))),AV.islice true 1 (0:Int) (tlI d (↑d.length:Int))])
def ajB (neg:Bool) (d:List Int):Hp:=⟨[{ wr:=18,body:=ABody.ints i64 (List.take (tlI d (↑d.length:Int)).toNat d) },{ wr:=(0:Nat),body:=ABody.rows i64 d }],2,21⟩
theorem arL (neg:Bool) (d:List Int):(run (cMe true neg d) 300).call 80 (ER neg d) (mdH d)=some ⟨.p (aeX neg d),[⟨.tt,ajA neg d,ajB neg d⟩]⟩:=by kernel_rfl
def aeY (neg:Bool) (d:List Int):Prop:=(At (Bp) (Bp) (mdA) (mdA) (mdS neg d) (mdS neg d)/\At (Bp) (Bp) (mfA) (mfA) (mfS neg d) (mfS neg d))
def ajC (neg:Bool) (d:List Int):AV:=(AV.agg [AV.bool true (bif neg then decide (tlI d (↑d.length:Int)>0) else false),AV.nilslice])
def ajD (neg:Bool) (d:List Int):Hp:=⟨[{ wr:=(0:Nat),body:=ABody.rows i64 d }],1,21⟩
theorem arM (neg:Bool) (d:List Int):(run (cMe false neg d) 300).call 80 (ER neg d) (mdH d)=some ⟨.p (aeY neg d),[⟨.tt,ajC neg d,ajD neg d⟩]⟩:=by kernel_rfl
def mdV:List Nu->List (List Int)->Option (Prop×To)
 | [.t neg],[d]=>some (Dig d/\Sm d,.st [.bo (neg&&decide (val d≠0)),.li true (aA (val d).toNat)])
 | _,_=>none
theorem UI {d:List Int} (h:Dig d):0<tlI d d.length ↔ val d≠0:=by
 have h1:=aeR h;have e:tlI d d.length=(tl d d.length:Nat):=by unfold tlI;rw [show ((d.length:Int)).toNat=d.length by omega]
 rw [e];constructor
 .intro h h2;have:=h1.2 h2;omega
 .intro h2;have:=mt h1.1 h2;omega
theorem PX {d:List Int} (h:Dig d):d.take (tlI d d.length).toNat=aA (val d).toNat:=by
 rw [<- UG h];have e:(tlI d d.length).toNat=tl d d.length:=by unfold tlI;rw [show ((d.length:Int)).toNat=d.length by omega];omega
 rw [e]
theorem aeZ:NOk Tryz.prog (fun _=>none) hG0 80 (bQ hG0 .i64 [.nu .b,.li] mdV):=by
 refine Bi (show hG0.ok from rfl) rfl (fun _ _ h=>by cases h) (fun xs ys p t e h=>?_) ⟨_,Tryz.func80,rfl⟩;unfold mdV at e;split at e
 .rename_i neg d;cases e;obtain ⟨hd,a⟩:=h;obtain ⟨f,g⟩:=MN d;have hN:mfN neg (tlI d d.length)=(neg&&decide (val d≠0)):=by
   unfold mfN;rw [DL.2 (UI hd)];cases neg <;> rfl
  by_cases hp:0<tlI d d.length
  .refine ⟨cMe true neg d,300,ER neg d,_,_,_,_,_,ZW true neg d a (by simp [hp]),rfl,rfl,⟨rfl,rfl,trivial⟩,arL neg d,rfl,⟨⟨rfl,rfl,rfl⟩,rfl,rfl,rfl⟩,rfl,rfl,⟨hN,⟨rfl,?_⟩,PX hd⟩⟩;show tlI d d.length=((d.take (tlI d d.length).toNat).length:Int);rw [dD];omega
  .have c:val d=0:=by
    have:=mt (UI hd).2 hp;omega
   refine ⟨cMe false neg d,300,ER neg d,_,_,_,_,_,ZW false neg d a (by simp [hp]),rfl,rfl,⟨rfl,rfl,trivial⟩,arM neg d,rfl,⟨⟨rfl,rfl,rfl⟩,rfl,rfl,rfl⟩,rfl,rfl,⟨hN,?_⟩⟩;rw [c];exact gU.symm
 .cases e
end
end Go.Proofs.YtbiiiloimbjpaaaGreatDoor.K
namespace Go.Dg
def MO (a b:List Int):Nat->Bool
 | 0=>false
 | n+1=>if a.getD n 0=b.getD n 0 then MO a b n else true
def tQ (a b:List Int) (i:Int):Bool:=MO a b (i+1).toNat
def Gh (a b:List Int) (i:Int):Bool:=vG a b (i+1).toNat
def RZ (a b:List Int):Nat->Nat->Bool
 | 0,_=>false
 | n+1,i=>if a.getD i 0=b.getD i 0 then RZ a b n (i+1) else true
def yA (a b:List Int) (i:Int):Bool:=RZ a b (a.length - i).toNat i.toNat
theorem CG {a b:List Int} {i:Int} (h:0<=i):tQ a b i=if a.getD i.toNat 0=b.getD i.toNat 0 then tQ a b (i - 1) else true:=by unfold tQ;rw [show (i+1).toNat=i.toNat+1 by omega,show (i - 1+1).toNat=i.toNat by omega,MO]
theorem PY {a b:List Int} {i:Int} (h:0<=i):Gh a b i=if a.getD i.toNat 0=b.getD i.toNat 0 then Gh a b (i - 1) else decide (a.getD i.toNat 0<b.getD i.toNat 0):=by unfold Gh;rw [show (i+1).toNat=i.toNat+1 by omega,show (i - 1+1).toNat=i.toNat by omega,vG]
theorem ZX {a b:List Int}:∀ n,MO a b n=false->vG a b n=false
 | 0,_=>rfl
 | n+1,h=>by
  simp only [MO] at h;simp only [vG];split at h
  .rename_i e;rw [aC e];exact ZX n h
  .cases h
theorem PZ {a b:List Int} {i:Int} (h:0<=i) (h2:i<a.length):yA a b i=if a.getD i.toNat 0=b.getD i.toNat 0 then yA a b (i+1) else true:=by unfold yA;rw [show (a.length - i).toNat=(a.length - (i+1)).toNat+1 by omega,show (i+1).toNat=i.toNat+1 by omega,RZ]
theorem I8 {a b:List Int}:∀ (n i:Nat),RZ a b n i=false->∀ j,i<=j->j<i+n->a.getD j 0=b.getD j 0
 | 0,i,_,j,h1,h2=>by omega
 | n+1,i,h,j,h1,h2=>by
  simp only [RZ] at h;split at h
  .rename_i e;rcases aX i j with h3|h3
   .exact I8 n (i+1) h j (by omega) (by omega)
   .rw [show j=i by omega];exact e
  .cases h
theorem KT {a:List Int}:∀ (n i:Nat),RZ a a n i=false
 | 0,i=>rfl
 | n+1,i=>by rw [RZ,aC rfl];exact KT n (i+1)
theorem ae0 {a b:List Int} (h:a.length=b.length):yA a b 0=false ↔ a=b:=by
 unfold yA;rw [show ((a.length:Int) - 0).toNat=a.length by omega];constructor
 .intro e;apply List.ext_getElem h;intro j h1 h2;have:=I8 _ _ e j (by omega) (by show j<0+a.length;omega);rw [bY,bY,dh h1,dh h2] at this;exact this
 .rintro rfl;exact KT _ _
theorem vH {x y:Int}:(x != y)=true ↔ x≠y:=by simp
theorem KU {x y:Int}:(x != y)=false ↔ x=y:=by simp
theorem ZY {x y:Int}:(!x != y)=true ↔ x=y:=by
 have:(!x != y)=(x==y):=by simp [bne]
 rw [this];exact eb
theorem FU {p:Prop} [Decidable p] {b:Bool}:(decide p&&b)=true ↔ p/\b=true:=by by_cases h:p <;> simp [h]
end Go.Dg
namespace Go.Dg
open Go.Eng
def okL (neg:Bool) (d:List Int):Prop:=Dig d/\Top d/\(neg=true->d≠[])/\Sm d
def zv (neg:Bool) (d:List Int):Int:=bif neg then -val d else val d
def lgT (own:Bool) (z:Int):To:=.st [.bo (decide (z<0)),.li own (aA z.natAbs)]
theorem okL.val_pos {neg:Bool} {d:List Int} (h:okL neg d) (hn:neg=true):0<val d:=by have h1:=aO h.1;have h2:=EQ h.1 h.2.1 (h.2.2.1 hn);omega
theorem okL.neg_eq {neg:Bool} {d:List Int} (h:okL neg d):neg=decide (zv neg d<0):=by
 cases neg with
 | true=>have:=h.val_pos rfl;exact (aI (show -val d<0 by omega)).symm
 | false=>have:=aO h.1;exact (aG (show ¬ val d<0 by omega)).symm
theorem okL.digs_eq {neg:Bool} {d:List Int} (h:okL neg d):aA (zv neg d).natAbs=d:=by
 have E:=aO h.1;have e:(zv neg d).natAbs=(val d).toNat:=by cases neg <;> simp [zv] <;> omega
 rw [e,kF h.1 h.2.1]
theorem ae1 {n:Nat} (h:(n:Int)<pw 500000):Sm (aA n):=by
 rcases aX 500000 (aA n).length with h1|h1
 .have:=I7 (bU n) (mD n) (by intro e;rw [e] at h1;simp at h1);rw [jZ] at this;have:=gF (show 500000<=(aA n).length - 1 by omega);omega
 .exact h1
theorem yB {z:Int} (h:(z.natAbs:Int)<pw 500000):okL (decide (z<0)) (aA z.natAbs):=by refine ⟨bU _,mD _,fun hn=>?_,ae1 h⟩;intro e;have:=I6.1 e;have:=bK hn;omega
theorem qc (z:Int):zv (decide (z<0)) (aA z.natAbs)=z:=by
 unfold zv;rw [jZ];by_cases h:z<0
 .rw [aI h];simp only [aQ];omega
 .rw [aG h];simp only [aR];omega
theorem lL {n k:Nat} (h:(n:Int)<pw k):(aA n).length<=k:=by
 rcases aX k (aA n).length with h1|h1
 .have:=I7 (bU n) (mD n) (by intro e;rw [e] at h1;simp at h1);rw [jZ] at this;have:=gF (show k<=(aA n).length - 1 by omega);omega
 .exact h1
end Go.Dg
namespace Go.Dg
open Go Go.Eng
def ofD (m:Int):Int:=bif decide (m.tmod 1000000000<0) then i64.wrap (0 - m.tmod 1000000000) else m.tmod 1000000000
theorem ZZ (m:Int):ofD m=(m.natAbs % 1000000000:Nat):=by
 have h:=DV m 1000000000;have h3:m.natAbs % 1000000000<1000000000:=jQ _ (by decide);have e:(1000000000:Int).natAbs=1000000000:=rfl;rw [e] at h;unfold ofD;by_cases a:m.tmod 1000000000<0
 .rw [aI a,aQ,iw (by omega) (by omega)];omega
 .rw [aG a,aR];omega
theorem P5 (m:Int) (h:m.natAbs<=9223372036854775808):i64.wrap (m.tdiv 1000000000)=m.tdiv 1000000000/\(m.tdiv 1000000000).natAbs=m.natAbs / 1000000000:=by have h2:(m.tdiv 1000000000).natAbs=m.natAbs / 1000000000:=Int.natAbs_tdiv m 1000000000;exact ⟨iw (by omega) (by omega),h2⟩
def ofI (n:Int) (m:Int) (ds:List Int):Prop:=ds≠[]/\Dig ds/\val ds+pw ds.length*m.natAbs=n.natAbs/\(m=0->Top ds)/\m.natAbs<=9223372036854775808
theorem UJ {l:List Int} {x:Int} (h:x≠0):Top (l++[x]):=by right;simpa [bY] using h
theorem Z0 {n:Int} (h:n≠0) (hb:n.natAbs<=9223372036854775808):ofI n (n.tdiv 1000000000) [ofD n]:=by
 obtain ⟨_,h2⟩:=P5 n hb;have h1:=ZZ n;refine ⟨by simp,fA.2 ⟨by rw [h1];omega,jF⟩,?_,fun a=>?_,by omega⟩
 .rw [h2,h1];simp only [val,pw,il,mY];omega
 .rw [a] at h2;refine UJ (l:=[]) ?_;rw [h1];have:(0:Int).natAbs=0:=rfl;omega
theorem ae2 {n m:Int} {ds:List Int} (h:m≠0) (a:ofI n m ds):ofI n (m.tdiv 1000000000) (ds++[ofD m]):=by
 obtain ⟨i1,b,c,i,d⟩:=a;obtain ⟨_,h2⟩:=P5 m d;have h1:=ZZ m;refine ⟨by simp,CB.2 ⟨b,fA.2 ⟨by rw [h1];omega,jF⟩⟩,?_,fun f=>?_,by omega⟩
 .rw [um,h2,h1,jM,<- c];simp only [val,il,mY,fJ];have e:(m.natAbs:Int)=((m.natAbs % 1000000000:Nat):Int)+1000000000*((m.natAbs / 1000000000:Nat):Int):=by omega
  have g:pw ds.length*(m.natAbs:Int)=pw ds.length*((m.natAbs % 1000000000:Nat):Int)+1000000000*pw ds.length*((m.natAbs / 1000000000:Nat):Int):=by
   conv=>lhs;rw [e]
   rw [dU,<- dM,eO (pw ds.length) (1000000000:Int)]
  rw [show pw (ds.length+1)=1000000000*pw ds.length from rfl,g];simp only [Ec,Ed];omega
 .rw [f] at h2;refine UJ ?_;rw [h1];have:(0:Int).natAbs=0:=rfl;omega
theorem ajE {n:Int} {ds:List Int} (a:ofI n 0 ds):ds=aA n.natAbs:=by
 obtain ⟨i1,b,c,d,_⟩:=a;have:val ds=n.natAbs:=by rw [<- c];simp
 rw [<- kF b (d rfl),this]
 congr 1
theorem ajF {n m:Int} {ds:List Int} (h:m≠0) (a:ofI n m ds) (hn:n.natAbs<=9223372036854775808):ds.length<8:=by
 obtain ⟨i1,b,c,d,_⟩:=a;have h1:=aO b;have h2:pw ds.length*1<=pw ds.length*m.natAbs:=bq (by omega) (fK (pw_pos _));have h3:pw 8=1000000000000000000000000000000000000000000000000000000000000000000000000:=by decide
 exact aik (by omega)
def suD (a b:List Int) (i c:Int):Int:=i64.wrap (i64.wrap ((bif decide (i<a.length) then a.getD i.toNat 0 else 0)+(bif decide (i<b.length) then b.getD i.toNat 0 else 0))+c)
theorem P6 {a:List Int} {i:Int} (h:0<=i):(bif decide (i<a.length) then a.getD i.toNat 0 else 0)=a.getD i.toNat 0:=by
 by_cases b:i<a.length
 .rw [aI b];rfl
 .rw [aG b,GA (by omega)];rfl
theorem R3 {a b:List Int} (ha:Dig a) (hb:Dig b) {i c:Int} (hi:0<=i) (f:0<=c/\c<=1):suD a b i c=a.getD i.toNat 0+b.getD i.toNat 0+c:=by have h1:=ha.get i.toNat;have h2:=hb.get i.toNat;unfold suD;rw [P6 hi,P6 hi];have d:i64.wrap (a.getD i.toNat 0+b.getD i.toNat 0)=a.getD i.toNat 0+b.getD i.toNat 0:=iw (by omega) (by omega);rw [d,iw (by omega) (by omega)]
def diD (a b:List Int) (i c:Int):Int:=i64.wrap (i64.wrap (a.getD i.toNat 0 - (bif decide (i<b.length) then b.getD i.toNat 0 else 0)) - c)
def diC (a b:List Int) (i c:Int):Int:=bif decide (diD a b i c<0) then 1 else 0
def diR (a b:List Int) (i c:Int):Int:=bif decide (diD a b i c<0) then i64.wrap (diD a b i c+1000000000) else diD a b i c
theorem Z4 {a b:List Int} (ha:Dig a) (hb:Dig b) {i c:Int} (hi:0<=i) (f:0<=c/\c<=1):diD a b i c=a.getD i.toNat 0 - b.getD i.toNat 0 - c:=by have h1:=ha.get i.toNat;have h2:=hb.get i.toNat;unfold diD;rw [P6 hi];have d:i64.wrap (a.getD i.toNat 0 - b.getD i.toNat 0)=a.getD i.toNat 0 - b.getD i.toNat 0:=iw (by omega) (by omega);rw [d,iw (by omega) (by omega)]
theorem Z6 {a b:List Int} (ha:Dig a) (hb:Dig b) {i c:Int} (hi:0<=i) (d:0<=c/\c<=1):diC a b i c=if a.getD i.toNat 0 - b.getD i.toNat 0 - c<0 then 1 else 0:=by
 unfold diC;rw [Z4 ha hb hi d];by_cases h:a.getD i.toNat 0 - b.getD i.toNat 0 - c<0
 .rw [aC h,aI h];rfl
 .rw [aB h,aG h];rfl
theorem Z7 {a b:List Int} (ha:Dig a) (hb:Dig b) {i c:Int} (hi:0<=i) (d:0<=c/\c<=1):diR a b i c=if a.getD i.toNat 0 - b.getD i.toNat 0 - c<0 then a.getD i.toNat 0 - b.getD i.toNat 0 - c+1000000000 else a.getD i.toNat 0 - b.getD i.toNat 0 - c:=by
 have h1:=ha.get i.toNat;have h2:=hb.get i.toNat;unfold diR;rw [Z4 ha hb hi d];by_cases h:a.getD i.toNat 0 - b.getD i.toNat 0 - c<0
 .rw [aC h,aI h,aQ,iw (by omega) (by omega)]
 .rw [aB h,aG h];rfl
theorem td (l:List Int):List.take (l.length:Int).toNat (List.drop (Int.toNat (0:Int)) l)=l:=by rw [show ((l.length:Int)).toNat=l.length by omega,show (Int.toNat (0:Int))=0 from rfl,iA,gp]
theorem xu {l:List Int}:(0:Int)<=0/\(0:Int)<=(l.length:Int)/\(0:Int)+(l.length:Int)<=(l.length:Int):=by omega
end Go.Dg
namespace Go.Dg
theorem uB {p:Bool} {v z:Int} (b:0<=v) (a:z=bif p then -v else v):(p&&decide (v≠0))=decide (z<0):=by
 subst a
 cases p with
 | false=>rw [rV,aR];exact (aG (by omega)).symm
 | true=>rw [uV,aQ];exact DL.2 (by omega)
theorem uC {p:Bool} {v z:Int} (b:0<=v) (a:z=bif p then -v else v):v.toNat=z.natAbs:=by
 subst a
 cases p with
 | false=>rw [aR];omega
 | true=>rw [aQ];omega
end Go.Dg
namespace Go.Dg
open Go Go.Eng
def cB:Nat->Int->List Int
 | 0,_=>[]
 | n+1,v=>v % 1000000000 :: cB n (v / 1000000000)
theorem eD:∀ (n:Nat) (v:Int),(cB n v).length=n
 | 0,_=>rfl
 | n+1,v=>by simp [cB,eD n]
theorem j3:∀ (n:Nat) (v:Int),Dig (cB n v)
 | 0,_=>jF
 | n+1,v=>fA.2 ⟨by omega,j3 n _⟩
theorem kG:∀ {n:Nat} {v:Int},0<=v->v<pw n->val (cB n v)=v
 | 0,v,a,h1=>by
  have:pw 0=1:=rfl;simp only [cB,val];omega
 | n+1,v,a,h1=>by
  simp only [cB,val];have h2:pw (n+1)=1000000000*pw n:=rfl;rw [kG (by omega) (by omega)];omega
theorem UK:∀ {d:List Int},Dig d->d=cB d.length (val d)
 | [],_=>rfl
 | x :: l,h=>by
  have h:=fA.1 h;simp only [il,cB,val];rw [show (x+1000000000*val l) % (1000000000:Int)=x by omega,show (x+1000000000*val l) / (1000000000:Int)=val l by omega,<- UK h.2]
theorem CJ:∀ n,List.replicate n (0:Int)=cB n 0
 | 0=>rfl
 | n+1=>by simp [Dv,cB,<- CJ n]
theorem qF {d:List Int} (h:Dig d) {n:Nat} {v:Int} (a:d.length=n) (b:val d=v):d=cB n v:=by subst a b;exact UK h
theorem ndf {p:Prop} [Decidable p] (h:¬p):decide p=false:=aG h
def prV (a b:List Int) (i k:Int):Int:=val (a.take i.toNat)*val b+pw i.toNat*(a.getD i.toNat 0*val (b.take k.toNat))
def prL (a b:List Int) (i k:Int):List Int:=cB (a.length+b.length) (prV a b i k)
theorem UL {b:List Int} (hb:Dig b) (k:Nat):val (b.take k)<=val b:=by
 have e:val b=val (b.take k)+pw (b.take k).length*val (b.drop k):=by rw [<- um,yU]
 have:=aV (fK (pw_pos (b.take k).length)) (aO (hb.drop k));omega
theorem R4 {a b:List Int} (ha:Dig a) (hb:Dig b) (i k:Int):0<=prV a b i k/\prV a b i k<pw (a.length+b.length):=by
 have h1:=ha.get i.toNat;have h2:=aO hb;have h3:=aO (ha.take i.toNat);have c:=aO (hb.take k.toNat);have f:=aV h3 h2;have g:=aV (fK (pw_pos i.toNat)) (aV h1.1 c);refine ⟨by unfold prV;omega,?_⟩;have j:pw i.toNat*(a.getD i.toNat 0*val (b.take k.toNat))<=pw i.toNat*(a.getD i.toNat 0*val b):=bq (bq (UL hb _) h1.1) (fK (pw_pos _));have l:=UH a b i.toNat;have m:val (a.take (i.toNat+1))*val b<=val a*val b:=bG (UL ha _) h2;have q4:val a*val b<pw (a.length+b.length):=by
  rcases ajy ha hb with h|⟨h,d⟩
  .exact h
  .rw [d,h];decide
 unfold prV;omega
theorem Z8 {a b:List Int} {i k:Int} (c:0<=k):prV a b i (k+1)=prV a b i k+pw (i.toNat+k.toNat)*(a.getD i.toNat 0*b.getD k.toNat 0):=by unfold prV;rw [show (k+1).toNat=k.toNat+1 by omega,JG];omega
theorem ae3 {a b:List Int} {i:Int} (hi:0<=i):prV a b i b.length=prV a b (i+1) 0:=by unfold prV;rw [show (i+1).toNat=i.toNat+1 by omega,UH,show ((b.length:Int)).toNat=b.length by omega,gp,show (0:Int).toNat=0 from rfl];simp [val]
def prI (a b:List Int) (i k:Int) (j n:Int) (d:List Int):Prop:=
 Dig d/\d.length=a.length+b.length/\0<=j/\0<=n/\n<=1000000000000000000/\val d+pw j.toNat*n=prV a b i (k+1)
theorem ae4 {a b:List Int} {i k j n:Int} {d:List Int} (h:prI a b i k j n d) (f:¬ n>0):d=prL a b i (k+1):=by
 obtain ⟨h1,h2,h3,g,l,c⟩:=h;have:n=0:=by omega
 subst this;exact qF h1 h2 (by rw [<- c];simp)
theorem R5 {a b:List Int} {i k j n:Int} {d:List Int} (ha:Dig a) (hb:Dig b) (h:prI a b i k j n d) (c:n>0):j.toNat<d.length:=by obtain ⟨h1,h2,h3,g,l,f⟩:=h;have:=R4 ha hb i (k+1);exact ZP h1 c (by rw [f,h2];exact this.2)
theorem Z9 {a b:List Int} {i k j n:Int} {d:List Int} (ha:Dig a) (hb:Dig b) (h:prI a b i k j n d) (c:n>0):prI a b i k (j+1) ((n+d.getD j.toNat 0).tdiv 1000000000) (d.set j.toNat ((n+d.getD j.toNat 0).tmod 1000000000)):=by
 have f:=R5 ha hb h c;obtain ⟨h1,h2,h3,g,q,l⟩:=h;obtain ⟨m,o,p,_⟩:=RV h1 g f;have r:=h1.get j.toNat;refine ⟨m,by rw [jh,h2],by omega,o,?_,?_⟩
 .rw [bV (by omega)];omega
 .rw [show (j+1).toNat=j.toNat+1 by omega,p,l]
theorem Wu {a b:List Int} (ha:Dig a) (hb:Dig b) {i k:Int} (hi:0<=i) (c:0<=k):prI a b i k (i+k) (a.getD i.toNat 0*b.getD k.toNat 0) (prL a b i k):=by have h1:=ha.get i.toNat;have h2:=hb.get k.toNat;have h3:=R4 ha hb i k;have d:=aV h1.1 h2.1;have f:a.getD i.toNat 0*b.getD k.toNat 0<=1000000000*1000000000:=bC (by omega) (by omega) h2.1 (by decide);refine ⟨j3 _ _,eD _ _,by omega,d,by omega,?_⟩;unfold prL;rw [kG h3.1 h3.2,Z8 c,show (i+k).toNat=i.toNat+k.toNat by omega]
def tkQ (D b:List Int):Int:=i64.wrap ((i64.wrap (i64.wrap ((bif decide (i64.wrap (i64.wrap ((b.length:Int) - 1)+1)<(D.length:Int)) then D.getD (0+i64.wrap (i64.wrap ((b.length:Int) - 1)+1)).toNat 0 else 0)*1000000000)+D.getD (0+i64.wrap ((b.length:Int) - 1)).toNat 0)).tdiv (i64.wrap (b.getD (i64.wrap ((b.length:Int) - 1)).toNat 0+1)))
def tkK (D b:List Int):Int:=bif tkQ D b==0 then 1 else tkQ D b
theorem ajG {D b:List Int} (hD:Dig D) (hb:Dig b) (sb:b.length<=500000) (c:b≠[]):tkQ D b=ML D b:=by
 have f:=eU.2 c;have g:i64.wrap ((b.length:Int) - 1)=b.length - 1:=iw (by omega) (by omega);have h:i64.wrap ((b.length:Int) - 1+1)=b.length:=by rw [iw (by omega) (by omega)];omega
 have m:=hD.get b.length;have n:=hD.get (b.length - 1);have g3:=hb.get (b.length - 1);have e3:(bif decide ((b.length:Int)<(D.length:Int)) then D.getD (0+(b.length:Int)).toNat 0 else 0)=D.getD b.length 0:=by
  have:=P6 (a:=D) (i:=(b.length:Int)) (by omega);rw [show (0+(b.length:Int))=b.length by omega,this]
  congr 1
 unfold tkQ ML;rw [g,h,e3,show (0+((b.length:Int) - 1)).toNat=b.length - 1 by omega,show ((b.length:Int) - 1).toNat=b.length - 1 by omega];have j:i64.wrap (D.getD b.length 0*1000000000)=D.getD b.length 0*1000000000:=iw (by omega) (by omega);have k:i64.wrap (D.getD b.length 0*1000000000+D.getD (b.length - 1) 0)=D.getD b.length 0*1000000000+D.getD (b.length - 1) 0:=iw (by omega) (by omega);have l:i64.wrap (b.getD (b.length - 1) 0+1)=b.getD (b.length - 1) 0+1:=iw (by omega) (by omega);rw [j,k,l];have d:0<=D.getD b.length 0*1000000000+D.getD (b.length - 1) 0:=by omega
 rw [bV d];have h1:0<=(D.getD b.length 0*1000000000+D.getD (b.length - 1) 0) / (b.getD (b.length - 1) 0+1):=bu d (by omega);have h2:(D.getD b.length 0*1000000000+D.getD (b.length - 1) 0) / (b.getD (b.length - 1) 0+1)<=D.getD b.length 0*1000000000+D.getD (b.length - 1) 0:=kS _ d;exact iw (by omega) (by omega)
theorem aaa {D b:List Int} (hD:Dig D) (tD:Top D) (hb:Dig b) (tb:Top b) (sb:b.length<=500000) (a:b≠[]) (c:val b<=val D) (d:val D<1000000000*val b):
  1<=tkK D b/\tkK D b<1000000000/\tkK D b*val b<=val D/\b.length<=D.length:=by
 obtain ⟨h1,h2,h3,g,h⟩:=ZQ hD hb tD tb a c d;unfold tkK;rw [ajG hD hb sb a];by_cases f:ML D b=0
 .rw [f];exact ⟨by decide,by decide,by show 1*val b<=val D;omega,h1⟩
 .have:(ML D b==0)=false:=neb.2 f;rw [this,aR];exact ⟨by omega,g,h,h1⟩
def tjI (D b:List Int) (k j c:Int) (d:List Int):Prop:=
 Dig d/\d.length=D.length/\0<=j/\j<=D.length/\-1000000000<=c/\c<=1/\val d+pw j.toNat*c=val D - k*val (b.take j.toNat)
def tjX (b:List Int) (k j c:Int) (d:List Int):Int:=i64.wrap (i64.wrap (d.getD j.toNat 0 - i64.wrap ((bif decide (j<b.length) then b.getD j.toNat 0 else 0)*k))+c)
theorem ajH {D b:List Int} {k j c:Int} {d:List Int} (hb:Dig b) (a:0<=k/\k<1000000000) (h:tjI D b k j c d):tjX b k j c d=d.getD j.toNat 0 - b.getD j.toNat 0*k+c/\-1000000000000000000+999999999<=d.getD j.toNat 0 - b.getD j.toNat 0*k+c/\d.getD j.toNat 0 - b.getD j.toNat 0*k+c<=1000000000:=by obtain ⟨h1,h2,h3,l,m,n,o⟩:=h;have p:=h1.get j.toNat;have f:=hb.get j.toNat;have q:=aV f.1 a.1;have r:b.getD j.toNat 0*k<=999999999*999999999:=bC (by omega) (by omega) a.1 (by decide);unfold tjX;rw [P6 h3];have g:i64.wrap (b.getD j.toNat 0*k)=b.getD j.toNat 0*k:=iw (by omega) (by omega);have i:i64.wrap (d.getD j.toNat 0 - b.getD j.toNat 0*k)=d.getD j.toNat 0 - b.getD j.toNat 0*k:=iw (by omega) (by omega);rw [g,i];exact ⟨iw (by omega) (by omega),by omega,by omega⟩
def tjR (x:Int):Int:=bif decide (x.tmod 1000000000<0) then i64.wrap (x.tmod 1000000000+1000000000) else x.tmod 1000000000
def tjC (x:Int):Int:=bif decide (x.tmod 1000000000<0) then i64.wrap (i64.wrap (x.tdiv 1000000000) - 1) else i64.wrap (x.tdiv 1000000000)
theorem ae5 (x:Int):-(1000000000:Int)<x.tmod (1000000000:Int)/\x.tmod (1000000000:Int)<1000000000:=by
 have:=DV x (1000000000:Int);have h3:x.natAbs % 1000000000<1000000000:=jQ _ (by decide);have a:(x.tmod (1000000000:Int)).natAbs<1000000000:=by rw [this];exact h3
 omega
theorem aou {x:Int} (h:-4000000000000000000<=x/\x<=4000000000000000000):tjR x=fr x/\tjC x=fq x:=by
 have h1:=ae5 x;have h2:=Int.mul_tdiv_add_tmod x (1000000000:Int);have e:i64.wrap (x.tdiv 1000000000)=x.tdiv 1000000000:=iw (by omega) (by omega);unfold tjR tjC fr fq;rw [e];by_cases a:x.tmod 1000000000<0
 .rw [aI a,aC a,aC a,aQ,aQ,iw (by omega) (by omega),iw (by omega) (by omega)];exact ⟨rfl,rfl⟩
 .rw [aG a,aB a,aB a];exact ⟨rfl,rfl⟩
theorem aab {D b:List Int} {k j c:Int} {d:List Int} (hb:Dig b) (a:0<=k/\k<1000000000) (h:tjI D b k j c d) (m:j<D.length):tjI D b k (j+1) (tjC (tjX b k j c d)) (d.set j.toNat (tjR (tjX b k j c d))):=by
 obtain ⟨x1,n,o⟩:=ajH hb a h;obtain ⟨h1,h2,h3,p,q,r,s⟩:=h;rw [x1];obtain ⟨t1,f⟩:=aou (x:=d.getD j.toNat 0 - b.getD j.toNat 0*k+c) (by omega);rw [t1,f];obtain ⟨g,i,l⟩:=ajz (d.getD j.toNat 0 - b.getD j.toNat 0*k+c);refine ⟨h1.set _ ⟨g,i⟩,by rw [jh,h2],by omega,by omega,by omega,by omega,?_⟩;rw [om d _ _ (by omega),show (j+1).toNat=j.toNat+1 by omega,val_take_succ' b];have e:pw j.toNat*(fr (d.getD j.toNat 0 - b.getD j.toNat 0*k+c)+1000000000*fq (d.getD j.toNat 0 - b.getD j.toNat 0*k+c))=pw j.toNat*(d.getD j.toNat 0 - b.getD j.toNat 0*k+c):=by rw [l]
 generalize fr (d.getD j.toNat 0 - b.getD j.toNat 0*k+c)=R at *
 generalize fq (d.getD j.toNat 0 - b.getD j.toNat 0*k+c)=Q at *
 have e3:pw (j.toNat+1)=1000000000*pw j.toNat:=rfl;rw [e3];grind
theorem ae6 {D b:List Int} {k c:Int} {d:List Int} (hD:Dig D) (g:b.length<=D.length) (i:k*val b<=val D) (m:0<=k*val b) (h:tjI D b k D.length c d):d=cB D.length (val D - k*val b):=by
 obtain ⟨h1,h2,h3,n,o,p,a⟩:=h;rw [show ((D.length:Int)).toNat=D.length by omega,ib g] at a;have q:=aO h1;have j:=eF h1;rw [h2] at j;have r:=eF hD;have f:=pw_pos D.length;have l:c=0:=by
  rcases (show c=0\/1<=c\/c<=-1 by omega) with h|h|h
  .exact h
  .have:pw D.length*1<=pw D.length*c:=bq h (fK f);omega
  .have:pw D.length*c<=pw D.length*(-1):=bq h (fK f);omega
 subst l;exact qF h1 h2 (by rw [<- a];simp)
theorem Wv {D b:List Int} {k:Int} (hD:Dig D):tjI D b k 0 0 D:=by refine ⟨hD,rfl,by omega,by omega,by omega,by omega,?_⟩;simp [val]
def paQ (a b:List Int) (i:Int):List Int:=cB a.length (pw (i+1).toNat*(val (a.drop (i+1).toNat) / val b))
def paR (a b:List Int) (i:Int):List Int:=aA (val (a.drop (i+1).toNat) % val b).toNat
def dA (a:List Int) (i:Int):Int:=val (a.drop (i+1).toNat)
theorem ae7 {a:List Int} {i:Int} (b:0<=i) (h1:i<a.length):dA a (i - 1)=a.getD i.toNat 0+1000000000*dA a i:=by unfold dA;rw [show (i - 1+1).toNat=i.toNat by omega,show (i+1).toNat=i.toNat+1 by omega,Dn (by omega)];rw [bY,dh (by omega)];rfl
theorem aac (a:List Int):dA a (a.length - 1)=0:=by unfold dA;rw [List.drop_of_length_le (by omega)];rfl
theorem aim {a:List Int} (h:Dig a) (i:Int):0<=dA a i:=aO (h.drop _)
theorem ain {a:List Int} (h:Dig a) {i:Int} (b:-1<=i) (h1:i<a.length):pw (i+1).toNat*dA a i<=val a:=by
 have e:val a=val (a.take (i+1).toNat)+pw (a.take (i+1).toNat).length*val (a.drop (i+1).toNat):=by rw [<- um,yU]
 rw [dD,iP (by omega)] at e;have:=aO (h.take (i+1).toNat);unfold dA;omega
theorem I9:∀ (n:Nat) (v:Int) (i:Nat),i<n->(cB n v).getD i 0=v / pw i % (1000000000:Int)
 | 0,_,_,h=>by omega
 | n+1,v,0,_=>by simp [cB,pw]
 | n+1,v,i+1,h=>by
  simp only [cB,List.getD_cons_succ];rw [I9 n _ i (by omega),JU (by decide)];rfl
def paV (a b:List Int) (i:Int):Int:=a.getD i.toNat 0+1000000000*(dA a i % val b)
theorem MP {a b:List Int} (ha:Dig a) (c:0<val b) (i:Int):0<=paV a b i/\paV a b i<1000000000*val b:=by have h1:=ha.get i.toNat;have h2:=dE (dA a i) (show val b≠0 by omega);have h3:=d9 (dA a i) c;unfold paV;omega
theorem P7 {a b:List Int} (d:0<val b) {i:Int} (c:0<=i) (h1:i<a.length):dA a (i - 1) % val b=paV a b i % val b/\dA a (i - 1) / val b=1000000000*(dA a i / val b)+paV a b i / val b:=by
 have e:dA a (i - 1)=paV a b i+1000000000*(dA a i / val b)*val b:=by rw [ae7 c h1];unfold paV;have:=gL (dA a i) (val b);grind
 rw [e];constructor
 .rw [Dl]
 .rw [Dr _ _ (by omega)];omega
theorem aad {a b:List Int} (c:0<val b) {i:Int} (d:0<=i) (h1:i<a.length):paR a b (i - 1)=aA (paV a b i % val b).toNat:=by show aA (dA a (i - 1) % val b).toNat=_;rw [(P7 c d h1).1]
theorem aae {a b:List Int} (ha:Dig a) (d:0<val b) {i:Int} (j:0<=i) (h1:i<a.length):(paQ a b i).set i.toNat (paV a b i / val b)=paQ a b (i - 1):=by
 have hb:=MP ha d i;have f:0<=paV a b i / val b:=bu hb.1 (by omega);have g:paV a b i / val b<1000000000:=rE d hb.2;have hn:=aim ha i;have c:=aim ha (i - 1);have k:0<=dA a i / val b:=bu hn (by omega);have l:0<=dA a (i - 1) / val b:=bu c (by omega);have hp:=pw_pos (i+1).toNat;have m:=pw_pos i.toNat;have n:pw (i+1).toNat*(dA a i / val b)<pw a.length:=by have h2:=ain ha (i:=i) (by omega) h1;have h3:pw (i+1).toNat*(dA a i / val b)<=pw (i+1).toNat*dA a i:=bq (kS _ hn) (by omega);have:=eF ha;omega
 have h:(i - 1+1).toNat=i.toNat:=by omega
 have p:pw i.toNat*(dA a (i - 1) / val b)<pw a.length:=by have h2:=ain ha (i:=i - 1) (by omega) (by omega);rw [h] at h2;have h3:pw i.toNat*(dA a (i - 1) / val b)<=pw i.toNat*dA a (i - 1):=bq (kS _ c) (by omega);have:=eF ha;omega
 show (cB a.length (pw (i+1).toNat*(dA a i / val b))).set i.toNat (paV a b i / val b)=cB a.length (pw (i - 1+1).toNat*(dA a (i - 1) / val b));rw [h];refine qF ((j3 _ _).set _ ⟨f,g⟩) (by rw [jh,eD]) ?_;rw [om _ _ _ (by rw [eD];omega),kG (aV (by omega) k) n,I9 _ _ _ (by omega),(P7 d j h1).2];have e3:pw (i+1).toNat=1000000000*pw i.toNat:=by rw [show (i+1).toNat=i.toNat+1 by omega];rfl
 have o:pw (i+1).toNat*(dA a i / val b) / pw i.toNat % (1000000000:Int)=0:=by rw [e3,show (1000000000:Int)*pw i.toNat*(dA a i / val b)=pw i.toNat*((1000000000:Int)*(dA a i / val b)) by rw [eO (1000000000:Int),dM],Int.mul_ediv_cancel_left _ (by omega)];omega
 rw [o,e3];grind
theorem ae8 (a b:List Int):List.replicate a.length (0:Int)=paQ a b (a.length - 1):=by show _=cB a.length (pw ((a.length:Int) - 1+1).toNat*(dA a (a.length - 1) / val b));rw [aac,CJ];simp
theorem ae9 {a b:List Int} (ha:Dig a) (c:0<val b):(paQ a b (-1)).length=a.length/\Dig (paQ a b (-1))/\val (paQ a b (-1))=val a / val b:=by
 refine ⟨eD _ _,j3 _ _,?_⟩;have h:=aO ha;have h1:=eF ha;have h2:val a / val b<=val a:=kS _ h;have h3:0<=val a / val b:=bu h (by omega);have e:pw ((-1:Int)+1).toNat*(val (a.drop ((-1:Int)+1).toNat) / val b)=val a / val b:=by rw [show ((-1:Int)+1).toNat=0 from rfl,iA];simp [pw]
 unfold paQ;rw [e,kG h3 (by omega)]
theorem afa (a b:List Int):paR a b (-1)=aA (val a % val b).toNat:=by unfold paR;rw [show ((-1:Int)+1).toNat=0 from rfl,iA]
structure OkQ (p q:Bool) (n d:List Int):Prop where
 hn:okL p n
 hd:okL q d
 hq:q=false
 ne:d≠[]
 ln:n.length<=600
 ld:d.length<=600
 cop:Int.gcd (zv p n) (zv q d)=1
theorem UM {p:Bool} {n:List Int} (h:okL p n):((zv p n).natAbs:Int)<pw n.length:=by have:=eF h.1;have:=aO h.1;cases p <;> simp only [zv,aQ,aR] <;> omega
theorem afb {x y:Int} {k l:Nat} (a:(x.natAbs:Int)<pw k) (c:(y.natAbs:Int)<pw l):((x*y).natAbs:Int)<pw (k+l):=by
 rw [D5,yz,gu];have b:(0:Int)<=x.natAbs:=by omega
 have h1:(0:Int)<=y.natAbs:=by omega
 have h2:=pw_pos k
 calc (x.natAbs:Int)*y.natAbs<=x.natAbs*pw l:=bq (by omega) b
  _<pw k*pw l:=JM a (pw_pos l)
theorem len_mul {x y:Int} {k l:Nat} (a:(x.natAbs:Int)<pw k) (b:(y.natAbs:Int)<pw l):(aA (x*y).natAbs).length<=k+l:=lL (afb a b)
end Go.Dg
namespace Go.Dg
theorem oo (n:Nat):pw (n+1)=1000000000*pw n:=rfl
end Go.Dg
namespace Go.Dg
open Go Go.Eng
theorem P8 {a:List Int} {i:Nat} (h:i<a.length):val (a.drop i)=a.getD i 0+1000000000*val (a.drop (i+1)):=by
 rw [Dn h];show a[i]+1000000000*val (a.drop (i+1))=_
 congr 1
 simp [bY,dh h]
theorem getD_set {l:List Int} {i j:Nat} {x:Int} (h:i≠j):(l.set i x).getD j 0=l.getD j 0:=by simp [bY,iM h]
theorem mE {l:List Int} {i:Nat} {x:Int} (h:i<l.length):(l.set i x).getD i 0=x:=by simp [bY,h]
structure PaI (a:List Int) (n i r:Int) (d:List Int):Prop where
 l:d.length=a.length
 dg:Dig d
 i0:-1<=i
 i1:i<a.length
 z:∀ j:Nat,(j:Int)<=i->d.getD j 0=0
 v:val d*n+pw (i+1).toNat*r=pw (i+1).toNat*val (a.drop (i+1).toNat)
 r0:0<=r
 r1:r<n
theorem PaI.start {a:List Int} {n:Int} (hn:0<n):PaI a n (a.length - 1) 0 (List.replicate a.length 0):=by
 refine ⟨by simp,ZL _,by omega,by omega,fun j E=>?_,?_,dO _,hn⟩
 .simp [bY,List.getElem?_replicate];split <;> rfl
 .rw [PR,show ((a.length:Int) - 1+1).toNat=a.length by omega,DN];simp [val]
theorem PaI.step {a:List Int} {n i r:Int} {d:List Int} (ha:Dig a) (h:PaI a n i r d) (hi:0<=i):PaI a n (i - 1) ((r*1000000000+a.getD i.toNat 0).tmod n) (d.set i.toNat ((r*1000000000+a.getD i.toNat 0).tdiv n)):=by
 obtain ⟨l,dg,i0,i1,z,v,r0,r1⟩:=h;have ga:=ha.get i.toNat;have E:0<=r*1000000000+a.getD i.toNat 0:=by omega
 have hn:0<n:=by omega
 have J:(r*1000000000+a.getD i.toNat 0).tmod n=(r*1000000000+a.getD i.toNat 0) % n:=cO E;have O:(r*1000000000+a.getD i.toNat 0).tdiv n=(r*1000000000+a.getD i.toNat 0) / n:=bV E;rw [J,O];have Y:0<=(r*1000000000+a.getD i.toNat 0) / n:=bu E (by omega);have q1:(r*1000000000+a.getD i.toNat 0) / n<1000000000:=by apply rE hn;have:(r+1)*1000000000<=n*1000000000:=bG (by omega) (by decide);omega
 have Q:i.toNat<d.length:=by omega
 have e0:(i - 1+1).toNat=i.toNat:=by omega
 have e1:(i+1).toNat=i.toNat+1:=by omega
 have ed:=gL (r*1000000000+a.getD i.toNat 0) n;refine ⟨by simp [l],dg.set _ ⟨Y,q1⟩,by omega,by omega,fun j hj=>?_,?_,dE _ (by omega),d9 _ hn⟩
 .rw [getD_set (by omega)];exact z j (by omega)
 .rw [e0,om _ _ _ Q,z i.toNat (by omega),P8 (by omega)];rw [e1,oo] at v;generalize (r*1000000000+a.getD i.toNat 0) / n=q at *
  generalize (r*1000000000+a.getD i.toNat 0) % n=r' at *
  generalize val (a.drop (i.toNat+1))=V at *
  generalize a.getD i.toNat 0=x at *
  generalize pw i.toNat=p at *
  generalize val d=D at *
  grind
theorem PaI.fin {a:List Int} {n i r:Int} {d:List Int} (h:PaI a n i r d) (hi:¬ 0<=i):i=-1/\r=val a % n/\d=cB a.length (val a / n):=by
 obtain ⟨l,dg,i0,i1,z,v,r0,r1⟩:=h;have e:i=-1:=by omega
 subst e;have v:val d*n+1*r=1*val (a.drop 0):=v;rw [iA] at v;have h1:val a / n=val d:=by rw [show val a=r+val d*n by omega,Dr _ _ (by omega),oH r0 r1];omega
 have h2:val a % n=r:=by rw [show val a=r+val d*n by omega,Dl];exact mV r0 r1
 exact ⟨rfl,h2.symm,qF dg l h1.symm⟩
end Go.Dg
namespace Go.Proofs.YtbiiiloimbjpaaaGreatDoor.K
open Go Go.Eng Go.Dg
noncomputable section
def zA (a:List Int) (n:Int):List AV:=[.lslice 0 a.length,.int true .i64 n]
def zH (a:List Int):Hp:=iZ true hG0 [(.i64,a)]
def P9:AFr:=⟨139,none⟩
def aaf:Code:=fP Tryz.prog 139 0
noncomputable def Ja (a:List Int) (n:Int):St:=qM cL 300 139 (zA a n) (zH a)
def R6 (i r:Int) (d:List Int):Patch:=⟨(7,.int true .i64 r) :: (8,.int true .i64 i) :: bS 15 20,[(1,.ints .i64 d)],[]⟩
def ES (a:List Int) (n:Int):SumL (Int×Int×List Int):=
 {
  S:=fun (i,r,d)=>R6 i r d
  I:=fun (i,r,d)=>PaI a n i r d
  μ:=fun (i,_,_)=>(i+1).toNat
  F:=fun _=>(.exit 0,R6 (-1) (val a % n) (cB a.length (val a / n)))
  next:=fun (i,r,d)=>(i - 1,(r*1000000000+a.getD i.toNat 0).tmod n,d.set i.toNat ((r*1000000000+a.getD i.toNat 0).tdiv n))
  ids:=fun _=>[]
  X:=fun (i,r,d) _=>some (R6 i r d,[]) }
def MQ (a:List Int) (n:Int):Prop:=((0:Int)=0/\i64.wrap ((↑a.length:Int) - (1:Int))=(↑a.length:Int) - (1:Int))/\List.replicate (↑a.length:Int).toNat (0:Int)=List.replicate a.length (0:Int)
theorem Ww (a:List Int) (n:Int):fit (Ja a n) (Ja a n) (aJ (Ja a n) ((ES a n).S (a.length - 1,0,List.replicate a.length 0))) ([])=some (.p (MQ a n)):=by kernel_rfl
def R7 (a:List Int) (n i r:Int) (d:List Int):Prop:=(decide (i>=0)=true->(((0:Int)<=i/\i<(↑a.length:Int))/\i.toNat<a.length)/\n≠0/\n≠0/\((0:Int)<=i/\i<(↑a.length:Int))/\((0:Int)+i).toNat<d.length)/\((!decide (i>=0))=true->((r=r/\i=i)/\d=d)/\(ES a n).F (i,r,d)=(Ex.exit (0:Nat),R6 i r d))/\(decide (i>=0)=true->(((i64.wrap (i64.wrap (r*1000000000)+a.getD i.toNat (0:Int))).tmod n=(r*1000000000+a.getD i.toNat (0:Int)).tmod n/\i64.wrap (i - (1:Int))=i - (1:Int))/\d.set ((0:Int)+i).toNat (i64.wrap ((i64.wrap (i64.wrap (r*1000000000)+a.getD i.toNat (0:Int))).tdiv n))=d.set i.toNat ((r*1000000000+a.getD i.toNat (0:Int)).tdiv n))/\(ES a n).I ((ES a n).next (i,r,d))/\(ES a n).μ ((ES a n).next (i,r,d))<(ES a n).μ (i,r,d)/\(ES a n).F ((ES a n).next (i,r,d))=(ES a n).F (i,r,d))
theorem afc (a:List Int) (n i r:Int) (d:List Int):dQ (Ja a n) ((ES a n).way ((i,r,d))) ((run cL 300).code P9 aaf (aJ (Ja a n) ((ES a n).S (i,r,d))))=some (.p (R7 a n i r d)):=by kernel_rfl
theorem aag {a:List Int} {n:Int} (ha:Dig a) (k:Sm a) (o:1<=n) (h1:n<=1000000000):CodeOk cL P9 (.loop aaf) (Ja a n) ⟨.tt,[⟨.tt,.exit 0,aJ (Ja a n) (R6 (-1) (val a % n) (cB a.length (val a / n)))⟩]⟩:=by
 have k:=k.le;refine jX (dw kv 300) (ES a n) (y0:=((a.length:Int) - 1,0,List.replicate a.length 0)) (PaI.start (by omega)) ⟨_,Ww a n,⟨⟨rfl,iw (by omega) (by omega)⟩,by rw [show ((a.length:Int)).toNat=a.length by omega]⟩⟩ (by kernel_rfl) (fun y m=>?_) rfl;obtain ⟨i,r,d⟩:=y;have f:PaI a n i r d:=m;obtain ⟨l,dg,i0,i1,z,v,r0,r1⟩:=id f;refine ⟨_,afc a n i r d,fun h=>?_,fun h=>⟨⟨⟨rfl,rfl⟩,rfl⟩,?_⟩,fun h=>?_⟩
 .have h:i>=0:=dt.1 h;exact ⟨⟨⟨by omega,i1⟩,by omega⟩,by omega,by omega,⟨by omega,i1⟩,by omega⟩
 .obtain ⟨b,c,e3⟩:=f.fin (ndt.1 h);show (Ex.exit 0,R6 (-1) (val a % n) (cB a.length (val a / n)))=_;rw [b,c,<- e3]
 .have h:i>=0:=dt.1 h;have g:=ha.get i.toNat;have b:i64.wrap (r*1000000000)=r*1000000000:=iw (by omega) (by omega);have c:i64.wrap (r*1000000000+a.getD i.toNat 0)=r*1000000000+a.getD i.toNat 0:=iw (by omega) (by omega);have j:0<=r*1000000000+a.getD i.toNat 0:=by omega
  have e3:i64.wrap ((r*1000000000+a.getD i.toNat 0).tdiv n)=(r*1000000000+a.getD i.toNat 0).tdiv n:=by rw [bV j];have:=bu j (show 0<=n by omega);have:=kS n j;exact iw (by omega) (by omega)
  refine ⟨⟨⟨by rw [b,c],iw (by omega) (by omega)⟩,by rw [b,c,e3,show ((0:Int)+i).toNat=i.toNat by omega]⟩,f.step ha h,?_,rfl⟩;show (i - 1+1).toNat<(i+1).toNat;omega
def rz:AFr:=⟨138,none⟩
def trA:Code:=fP Tryz.prog 138 0
def trP (id:Nat) (y:Int):Patch:=⟨(0,.islice true id 0 y) :: bS 3 17,[],[]⟩
def trU (id:Nat) (d:List Int) (N:Int):SumL Int:=
 {
  S:=fun y=>trP id y
  I:=fun y=>0<=y/\y<=N
  μ:=fun y=>y.toNat
  F:=fun y=>(.exit 0,trP id (tlI d y))
  next:=fun y=>y - 1
  ids:=fun _=>[]
  X:=fun y _=>some (trP id y,[]) }
def trN (id:Nat) (d:List Int) (N y:Int):Prop:=((decide (y>0)=true->((0:Int)<=i64.wrap (y - (1:Int))/\i64.wrap (y - (1:Int))<y)/\((0:Int)+i64.wrap (y - (1:Int))).toNat<d.length)/\((bif decide (y>0) then d.getD ((0:Int)+i64.wrap (y - (1:Int))).toNat (0:Int)==0 else false)=true->(0:Int)<=0/\(0:Int)<=i64.wrap (y - (1:Int))/\i64.wrap (y - (1:Int))<=y))/\((!bif decide (y>0) then d.getD ((0:Int)+i64.wrap (y - (1:Int))).toNat (0:Int)==0 else false)=true->((0:Int)=0/\y=y)/\(trU id d N).F y=(Ex.exit (0:Nat),trP id y))/\((bif decide (y>0) then d.getD ((0:Int)+i64.wrap (y - (1:Int))).toNat (0:Int)==0 else false)=true->((0:Int)+0=0/\i64.wrap (y - (1:Int)) - (0:Int)=(trU id d N).next y)/\(trU id d N).I ((trU id d N).next y)/\(trU id d N).μ ((trU id d N).next y)<(trU id d N).μ y/\(trU id d N).F ((trU id d N).next y)=(trU id d N).F y)
theorem ajI {id:Nat} {d:List Int} {N y:Int} (hN:N=d.length) (ld:Sm d) (b:0<=y) (h1:y<=N):trN id d N y:=by
 have ld:=ld.le;have a:∀ z:Int,(0+z).toNat=z.toNat:=fun z=>by rw [oW]
 refine ⟨⟨fun h=>?_,fun h=>?_⟩,fun h=>⟨⟨rfl,rfl⟩,?_⟩,fun h=>?_⟩
 .have h:=bK h;rw [iw (by omega) (by omega)];omega
 .obtain ⟨h2,_⟩:=bt.1 h;rw [iw (by omega) (by omega)];omega
 .show (Ex.exit 0,trP id (tlI d y))=_;have h:=nbt.1 h;by_cases h2:0<y
  .have h3:=neb.1 (h h2);rw [iw (by omega) (by omega),a] at h3;rw [CF h2,aB h3]
  .have:y=0:=by omega
   subst this;rfl
 .obtain ⟨h2,h3⟩:=bt.1 h;have h2:0<y:=h2;have h3:=eb.1 h3;rw [iw (by omega) (by omega),a] at h3;rw [iw (by omega) (by omega)];refine ⟨⟨rfl,by show y - 1 - 0=y - 1;omega⟩,?_,?_,?_⟩
  .show 0<=y - 1/\y - 1<=N;omega
  .show (y - 1).toNat<y.toNat;omega
  .show (Ex.exit 0,trP id (tlI d (y - 1)))=(Ex.exit 0,trP id (tlI d y));rw [CF h2,aC h3]
theorem GD {S:St} {id:Nat} {d:List Int} {N:Int} (hN:N=d.length) (ld:Sm d) (b:fit S S (aJ S ((trU id d N).S N)) []=some (.p ((0:Int)=0/\N=N))) (c:kz S.hp (((trU id d N).S N).old)=true)
  (hb:∀ y,dQ S ((trU id d N).way y) ((run cL 300).code rz trA (aJ S ((trU id d N).S y)))=some (.p (trN id d N y))):CodeOk cL rz (.loop trA) S ⟨.tt,[⟨.tt,.exit 0,aJ S (trP id (tlI d N))⟩]⟩:=
 jX (dw kv 300) (trU id d N) (y0:=N) ⟨by omega,by omega⟩ ⟨_,b,rfl,rfl⟩ c (fun y a=>⟨_,hb y,ajI hN ld a.1 a.2⟩) rfl
noncomputable def ptS (a d:List Int) (N:Int):St:=qM cL 300 138 [.islice true 1 0 N] ⟨[⟨14,.ints .i64 d⟩,⟨0,.rows .i64 a⟩],2,17⟩
theorem aah (a d:List Int) (N:Int):fit (ptS a d N) (ptS a d N) (aJ (ptS a d N) ((trU 1 d N).S N)) []=some (.p ((0:Int)=0/\N=N)):=by kernel_rfl
theorem afd (a d:List Int) (N y:Int):dQ (ptS a d N) ((trU 1 d N).way y) ((run cL 300).code rz trA (aJ (ptS a d N) ((trU 1 d N).S y)))=some (.p (trN 1 d N y)):=by kernel_rfl
theorem afe (a:List Int) {d:List Int} {N:Int} (hN:N=d.length) (ld:Sm d):CodeOk cL rz (.loop trA) (ptS a d N) ⟨.tt,[⟨.tt,.exit 0,aJ (ptS a d N) (trP 1 (tlI d N))⟩]⟩:=GD hN ld (aah a d N) (by kernel_rfl) (fun y=>afd a d N y)
noncomputable def cPt (a:List Int) (n:Int):Ctx:=bN cL [dK 139 (Ja a n).hp.clock P9 aaf (Ja a n) (.exit 0) (R6 (-1) (val a % n) (cB a.length (val a / n))),dK 138 20 rz trA (ptS a (cB a.length (val a / n)) a.length) (.exit 0) (trP 1 (tlI (cB a.length (val a / n)) a.length))]
theorem ajJ {a:List Int} {n:Int} (ha:Dig a) (b:Sm a) (c:1<=n) (h1:n<=1000000000):CtxOk (cPt a n):=
 bE kv (aag ha b c h1) (bE kv (afe a (eD _ _ ▸ rfl) (by show (cB _ _).length<=500000;rw [eD];exact b)) (bJ kv))
def aff (a:List Int) (n:Int):Prop:=(((↑a.length:Int)=(↑a.length:Int)/\(0:Int)<=(↑a.length:Int)/\(↑a.length:Int)<=1048576)/\At (P9) (P9) (aaf) (aaf) (Ja a n) (Ja a n)/\At (rz) (rz) (trA) (trA) (ptS a (cB a.length (val a / n)) a.length) (ptS a (cB a.length (val a / n)) a.length))
def ajK (a:List Int) (n:Int):AV:=(AV.tuple [AV.islice true 1 (0:Int) (tlI (cB a.length (val a / n)) (↑a.length:Int)),AV.int true i64 (val a % n)])
def ajL (a:List Int) (n:Int):Hp:=⟨[{ wr:=14,body:=ABody.ints i64 (cB a.length (val a / n)) },{ wr:=(0:Nat),body:=ABody.rows i64 a }],2,26⟩
theorem arN (a:List Int) (n:Int):(run (cPt a n) 300).call 139 (zA a n) (zH a)=some ⟨.p (aff a n),[⟨.tt,ajK a n,ajL a n⟩]⟩:=by kernel_rfl
def ajM:List Nu->List (List Int)->Option (Prop×To)
 | [.n n],[a]=>some (Dig a/\a.length<=500000/\1<=n/\n<=1000000000,.tu [.li false (aA (val a / n).toNat),.nu .i64 (val a % n)])
 | _,_=>none
theorem ajN {a:List Int} {n:Int} (ha:Dig a) (b:1<=n):val (cB a.length (val a / n))=val a / n:=by have h1:=aO ha;have h2:=eF ha;have h3:=kS n h1;exact kG (bu h1 (by omega)) (by omega)
theorem UN {d:List Int} {N:Int} (h:Dig d) (hN:N=d.length):List.take (tlI d N).toNat (List.drop (Int.toNat 0) d)=aA (val d).toNat:=by rw [show Int.toNat 0=0 from rfl,iA,hN];exact PX h
theorem part_ok:NOk Tryz.prog (fun _=>none) hG0 139 (bQ hG0 .i64 [.li,.nu (.i .i64)] ajM):=by
 refine fw (fun xs ys p t e h=>?_) ⟨_,Tryz.func139,rfl⟩;unfold ajM at e;split at e
 .rename_i n a;cases e;obtain ⟨ha,c,b,h1⟩:=h;refine ⟨cPt a n,300,zA a n,_,_,_,_,_,ajJ ha c b h1,rfl,rfl,⟨rfl,⟨rfl,rfl⟩,trivial⟩,arN a n,rfl,⟨⟨rfl,by omega,by omega⟩,⟨rfl,rfl,rfl⟩,⟨rfl,rfl,rfl⟩⟩,rfl,rfl,?_⟩;have d:=MN (cB a.length (val a / n));rw [eD] at d;refine ⟨⟨⟨by omega,by omega,by rw [eD];omega⟩,?_⟩,rfl⟩;show List.take _ (List.drop _ (cB a.length (val a / n)))=aA (val a / n).toNat;rw [UN (j3 _ _) (by rw [eD]),ajN ha b]
 .cases e
end
end Go.Proofs.YtbiiiloimbjpaaaGreatDoor.K
namespace Go.Dg
open Go Go.Eng
theorem KV {n j k:Nat} {v:Int} (a:0<=v) (h:v<pw k) (b:k<=j):(cB n v).getD j 0=0:=by
 rcases aX j n with h1|h1
 .rw [I9 n v j h1];have:=gF b;rw [oH a (by omega)];rfl
 .rw [bY,dB (by rw [eD];exact h1)];rfl
theorem MR:∀ {d:List Int} {k:Nat},Dig d->(∀ j,k<=j->d.getD j 0=0)->val d<pw k
 | [],k,_,_=>pw_pos k
 | x :: l,0,h,z=>by
  have a:=fA.1 h;have b:x=0:=z 0 (bD _);have:=MR (k:=0) a.2 (fun j _=>z (j+1) (by omega));have e:pw 0=1:=rfl;show x+1000000000*val l<pw 0;omega
 | x :: l,k+1,h,z=>by
  have a:=fA.1 h;have:=MR (k:=k) a.2 (fun j c=>z (j+1) (by omega));rw [oo];show x+1000000000*val l<_;omega
def tmV (a b:List Int) (i:Int):Int:=val (a.take i.toNat)*val b
theorem R8 {a b:List Int} (ha:Dig a) (hb:Dig b) {i:Int} (f:0<=i) (h1:i<=a.length):0<=tmV a b i/\tmV a b i<pw (i.toNat+b.length):=by
 have t0:=aO (ha.take i.toNat);have t1:=eF (ha.take i.toNat);have c:=aO hb;have d:=eF hb;rw [dD,iP (by omega)] at t1;refine ⟨aV t0 c,?_⟩;rw [yz];have p:=pw_pos i.toNat
 calc val (a.take i.toNat)*val b<=pw i.toNat*val b:=bG (by omega) c
  _<pw i.toNat*pw b.length:=Int.mul_lt_mul_of_pos_left d p
structure TmI (a b:List Int) (i k c:Int) (d:List Int):Prop where
 l:d.length=a.length+b.length
 dg:Dig d
 k0:0<=k
 k1:k<=b.length
 c0:0<=c
 c1:c<1000000000
 v:val d+pw (i.toNat+k.toNat)*c=tmV a b i+pw i.toNat*(a.getD i.toNat 0*val (b.take k.toNat))
 z:∀ j:Nat,i.toNat+b.length<=j->d.getD j 0=0
theorem TmI.start {a b:List Int} (ha:Dig a) (hb:Dig b) {i:Int} (E:0<=i) (h1:i<a.length):TmI a b i 0 0 (cB (a.length+b.length) (tmV a b i)):=by obtain ⟨t0,t1⟩:=R8 ha hb E (fK h1);have O:=gF (show i.toNat+b.length<=a.length+b.length by omega);refine ⟨eD _ _,j3 _ _,dO _,by omega,dO _,by decide,?_,fun j J=>KV t0 t1 J⟩;rw [kG t0 (by omega)];simp [val]
theorem TmI.num {a b:List Int} (ha:Dig a) (hb:Dig b) {i k c:Int} {d:List Int} (h:TmI a b i k c d) (O:k<b.length):0<=a.getD i.toNat 0*b.getD k.toNat 0/\a.getD i.toNat 0*b.getD k.toNat 0<=999999998000000001/\0<=d.getD (i.toNat+k.toNat) 0/\d.getD (i.toNat+k.toNat) 0<1000000000:=by have J:=ha.get i.toNat;have E:=hb.get k.toNat;have g3:=h.dg.get (i.toNat+k.toNat);refine ⟨aV J.1 E.1,?_,g3⟩;exact bC (show a.getD i.toNat 0<=999999999 by omega) (show b.getD k.toNat 0<=999999999 by omega) E.1 (by decide)
theorem TmI.step {a b:List Int} (ha:Dig a) (hb:Dig b) {i k c:Int} {d:List Int} (h:TmI a b i k c d) (hi:i<a.length) (J:k<b.length):
  TmI a b i (k+1) ((d.getD (i.toNat+k.toNat) 0+a.getD i.toNat 0*b.getD k.toNat 0+c).tdiv 1000000000) (d.set (i.toNat+k.toNat) ((d.getD (i.toNat+k.toNat) 0+a.getD i.toNat 0*b.getD k.toNat 0+c).tmod 1000000000)):=by
 obtain ⟨m0,m1,m2,m3⟩:=h.num ha hb J;obtain ⟨l,dg,k0,k1,c0,c1,v,z⟩:=h;have E:0<=d.getD (i.toNat+k.toNat) 0+a.getD i.toNat 0*b.getD k.toNat 0+c:=by omega
 rw [bV E,cO E];have O:(k+1).toNat=k.toNat+1:=by omega
 have Y:i.toNat+k.toNat<d.length:=by omega
 refine ⟨by simp [l],dg.set _ (by omega),by omega,by omega,by omega,by omega,?_,fun j hj=>?_⟩
 .rw [O,om _ _ _ Y,gX (by omega),<- rW,oo];have ed:=gL (d.getD (i.toNat+k.toNat) 0+a.getD i.toNat 0*b.getD k.toNat 0+c) 1000000000;rw [yz] at v ⊢;generalize (d.getD (i.toNat+k.toNat) 0+a.getD i.toNat 0*b.getD k.toNat 0+c) / 1000000000=Q at *
  generalize (d.getD (i.toNat+k.toNat) 0+a.getD i.toNat 0*b.getD k.toNat 0+c) % 1000000000=R at *
  generalize d.getD (i.toNat+k.toNat) 0=x at *
  generalize a.getD i.toNat 0=y at *
  generalize b.getD k.toNat 0=w at *
  generalize pw i.toNat=p at *
  generalize pw k.toNat=q at *
  generalize tmV a b i=V at *
  generalize val (b.take k.toNat)=u at *
  generalize val d=D at *
  grind
 .rw [getD_set (by omega)];exact z j hj
def tmW (a b:List Int) (i:Int):Int:=tmV a b i+pw i.toNat*(a.getD i.toNat 0*val b)
theorem ajO {a b:List Int} {i:Int} (c:0<=i) (h1:i<a.length):tmW a b i=tmV a b (i+1):=by unfold tmW tmV;rw [show (i+1).toNat=i.toNat+1 by omega,gX (by omega)];grind
theorem TmI.fin {a b:List Int} {i k c:Int} {d:List Int} (h:TmI a b i k c d) (Q:¬ k<b.length):k=b.length/\c=tmW a b i / pw (i.toNat+b.length)/\d=cB (a.length+b.length) (tmW a b i % pw (i.toNat+b.length)):=by
 obtain ⟨l,dg,k0,k1,c0,c1,v,z⟩:=h;have e:k=b.length:=by omega
 subst e;have E:=aO dg;have J:=MR dg z;have p:=pw_pos (i.toNat+b.length);rw [show ((b.length:Int)).toNat=b.length by omega,gp] at v;have O:tmW a b i=val d+pw (i.toNat+b.length)*c:=v.symm;refine ⟨rfl,?_,qF dg l ?_⟩
 .rw [O,Int.add_mul_ediv_left _ _ (by omega),oH E J];omega
 .rw [O,JN,mV E J]
theorem ajP {a b:List Int} (ha:Dig a) (hb:Dig b) {i:Int} (d:0<=i) (h1:i<a.length):
  (cB (a.length+b.length) (tmW a b i % pw (i.toNat+b.length))).set (i.toNat+b.length) (tmW a b i / pw (i.toNat+b.length))=cB (a.length+b.length) (tmV a b (i+1)):=by
 obtain ⟨t0,t1⟩:=R8 ha hb (show 0<=i+1 by omega) (show i+1<=a.length by omega);have p:=pw_pos (i.toNat+b.length);rw [ajO d h1];rw [show (i+1).toNat+b.length=(i.toNat+b.length)+1 by omega,oo] at t1;have c:=dE (tmV a b (i+1)) (show pw (i.toNat+b.length)≠0 by omega);have f:=d9 (tmV a b (i+1)) p;have j:=gF (show i.toNat+b.length<=a.length+b.length by omega);have g:=bu t0 (show 0<=pw (i.toNat+b.length) by omega);have h:tmV a b (i+1) / pw (i.toNat+b.length)<1000000000:=rE p (by omega);have k:=gL (tmV a b (i+1)) (pw (i.toNat+b.length));apply qF ((j3 _ _).set _ ⟨g,h⟩)
 .rw [jh,eD]
 .rw [om _ _ _ (by rw [eD];omega),KV c f (bD _),kG c (by omega)];rw [Int.sub_zero];omega
theorem ajQ {a b:List Int} (ha:Dig a) (hb:Dig b):val (cB (a.length+b.length) (tmV a b a.length))=val a*val b:=by obtain ⟨t0,t1⟩:=R8 ha hb (show 0<=(a.length:Int) by omega) (dO _);rw [show ((a.length:Int)).toNat=a.length by omega] at t1;rw [kG t0 t1];unfold tmV;rw [show ((a.length:Int)).toNat=a.length by omega,gp]
end Go.Dg
namespace Go.Proofs.YtbiiiloimbjpaaaGreatDoor.K
open Go Go.Eng Go.Dg
noncomputable section
def zB (a b:List Int):List AV:=[.lslice 0 a.length,.lslice 1 b.length]
def zG (a b:List Int):Hp:=iZ true hG0 [(.i64,a),(.i64,b)]
def Gi:AFr:=⟨121,none⟩
def R9:Code:=fP Tryz.prog 121 0
def aai:Code:=fP Tryz.prog 121 1
noncomputable def toS (a b:List Int):St:=qM cL 300 121 (zB a b) (zG a b)
def tmL (a b:List Int):Nat:=a.length+b.length
def toP (i:Int) (d:List Int):Patch:=⟨bS 6 6++(20,.int true .i64 i) :: bS 21 41,[(2,.ints .i64 d)],[]⟩
def toU (a b:List Int):SumL Int:=
 {
  S:=fun i=>toP i (cB (tmL a b) (tmV a b i))
  I:=fun i=>0<=i/\i<=a.length
  μ:=fun i=>(a.length - i).toNat
  F:=fun _=>(.exit 0,toP a.length (cB (tmL a b) (tmV a b a.length)))
  next:=fun i=>i+1
  ids:=fun _=>[]
  X:=fun i _=>some (toP i (cB (tmL a b) (tmV a b i)),[]) }
noncomputable def Jb (a b:List Int) (i:Int):St:=ad6 cL 300 Gi R9 (aJ (toS a b) ((toU a b).S i))
def tiP (k c:Int) (d:List Int):Patch:=⟨(8,.int true .i64 c) :: bS 9 3++(27,.int true .i64 k) :: bS 28 26,[(2,.ints .i64 d)],[]⟩
def tiX (a b:List Int) (i:Int):Patch:=tiP b.length (tmW a b i / pw (i.toNat+b.length)) (cB (tmL a b) (tmW a b i % pw (i.toNat+b.length)))
def tiU (a b:List Int) (i:Int):SumL (Int×Int×List Int):=
 {
  S:=fun (k,c,d)=>tiP k c d
  I:=fun (k,c,d)=>TmI a b i k c d
  μ:=fun (k,_,_)=>(b.length - k).toNat
  F:=fun _=>(.exit 2,tiX a b i)
  next:=fun (k,c,d)=>(k+1,(d.getD (i.toNat+k.toNat) 0+a.getD i.toNat 0*b.getD k.toNat 0+c).tdiv 1000000000,d.set (i.toNat+k.toNat) ((d.getD (i.toNat+k.toNat) 0+a.getD i.toNat 0*b.getD k.toNat 0+c).tmod 1000000000))
  ids:=fun _=>[]
  X:=fun (k,c,d) _=>some (tiP k c d,[]) }
noncomputable def ajR (a b:List Int) (i:Int):Ctx:=bN cL [dK 121 (Jb a b i).hp.clock Gi aai (Jb a b i) (.exit 2) (tiX a b i)]
def hZ (l:List (Nat×AV)):Nat->Nat->Option AV:=fun _ t=>match l with
 | []=>none
 | x :: l=>match Nat.beq t x.1 with
  | true=>some x.2
  | false=>hZ l 0 t
termination_by structural l
def cHz (t:Nat):Ctx:=eZ cL (hZ [(t,.bool false false)])
theorem ajS (t:Nat):CtxOk (cHz t):=bW kv _
def Qa (a b:List Int):Prop:=(0:Int)=0/\List.replicate (i64.wrap ((↑a.length:Int)+(↑b.length:Int))).toNat (0:Int)=cB (tmL a b) (tmV a b (0:Int))
theorem aaj (a b:List Int):fit (toS a b) (toS a b) (aJ (toS a b) ((toU a b).S 0)) ([])=some (.p (Qa a b)):=by kernel_rfl
def Qb (a b:List Int) (i:Int):Prop:=((0:Int)=0/\(0:Int)=0)/\cB (tmL a b) (tmV a b i)=cB (tmL a b) (tmV a b i)
theorem aak (a b:List Int) (i:Int):fit (Jb a b i) (Jb a b i) (aJ (Jb a b i) ((tiU a b i).S (0,0,cB (tmL a b) (tmV a b i)))) ([])=some (.p (Qb a b i)):=by kernel_rfl
def Sa (a b:List Int) (i k c:Int) (d:List Int):Prop:=(decide (k<(↑b.length:Int))=true->(((0:Int)<=k/\k<(↑b.length:Int))/\k.toNat<b.length)/\(((0:Int)<=i64.wrap (i+k)/\i64.wrap (i+k)<i64.wrap ((↑a.length:Int)+(↑b.length:Int)))/\((0:Int)+i64.wrap (i+k)).toNat<d.length)/\((0:Int)<=i64.wrap (i+k)/\i64.wrap (i+k)<i64.wrap ((↑a.length:Int)+(↑b.length:Int)))/\((0:Int)+i64.wrap (i+k)).toNat<d.length)/\((!decide (k<(↑b.length:Int)))=true->((c=c/\k=k)/\d=d)/\(tiU a b i).F (k,c,d)=(Ex.exit (2:Nat),tiP k c d))/\(decide (k<(↑b.length:Int))=true->((i64.wrap ((i64.wrap (i64.wrap (d.getD ((0:Int)+i64.wrap (i+k)).toNat (0:Int)+i64.wrap (a.getD i.toNat (0:Int)*b.getD k.toNat (0:Int)))+c)).tdiv (1000000000:Int))=(d.getD (i.toNat+k.toNat) (0:Int)+a.getD i.toNat (0:Int)*b.getD k.toNat (0:Int)+c).tdiv (1000000000:Int)/\i64.wrap (k+1)=k+1)/\d.set ((0:Int)+i64.wrap (i+k)).toNat ((i64.wrap (i64.wrap (d.getD ((0:Int)+i64.wrap (i+k)).toNat (0:Int)+i64.wrap (a.getD i.toNat (0:Int)*b.getD k.toNat (0:Int)))+c)).tmod (1000000000:Int))=d.set (i.toNat+k.toNat) ((d.getD (i.toNat+k.toNat) (0:Int)+a.getD i.toNat (0:Int)*b.getD k.toNat (0:Int)+c).tmod (1000000000:Int)))/\(tiU a b i).I ((tiU a b i).next (k,c,d))/\(tiU a b i).μ ((tiU a b i).next (k,c,d))<(tiU a b i).μ (k,c,d)/\(tiU a b i).F ((tiU a b i).next (k,c,d))=(tiU a b i).F (k,c,d))
theorem afg (a b:List Int) (i k c:Int) (d:List Int):dQ (Jb a b i) ((tiU a b i).way ((k,c,d))) ((run cL 300).code Gi aai (aJ (Jb a b i) ((tiU a b i).S (k,c,d))))=some (.p (Sa a b i k c d)):=by kernel_rfl
def Sb (a b:List Int) (i:Int):Prop:=(decide (i<(↑a.length:Int))=true->(((0:Int)<=i/\i<(↑a.length:Int))/\i.toNat<a.length)/\At (Gi) (Gi) (aai) (aai) (Jb a b i) (Jb a b i)/\((0:Int)<=i64.wrap (i+(↑b.length:Int))/\i64.wrap (i+(↑b.length:Int))<i64.wrap ((↑a.length:Int)+(↑b.length:Int)))/\((0:Int)+i64.wrap (i+(↑b.length:Int))).toNat<(cB (tmL a b) (tmW a b i % pw (i.toNat+b.length))).length)/\((!decide (i<(↑a.length:Int)))=true->(i=i/\cB (tmL a b) (tmV a b i)=cB (tmL a b) (tmV a b i))/\(toU a b).F i=(Ex.exit (0:Nat),toP i (cB (tmL a b) (tmV a b i))))/\(decide (i<(↑a.length:Int))=true->(i64.wrap (i+1)=(toU a b).next i/\(cB (tmL a b) (tmW a b i % pw (i.toNat+b.length))).set ((0:Int)+i64.wrap (i+(↑b.length:Int))).toNat (tmW a b i / pw (i.toNat+b.length))=cB (tmL a b) (tmV a b ((toU a b).next i)))/\(toU a b).I ((toU a b).next i)/\(toU a b).μ ((toU a b).next i)<(toU a b).μ i/\(toU a b).F ((toU a b).next i)=(toU a b).F i)
theorem afh (a b:List Int) (i:Int):dQ (toS a b) ((toU a b).way (i)) ((run (ajR a b i) 300).code Gi R9 (aJ (toS a b) ((toU a b).S i)))=some (.p (Sb a b i)):=by kernel_rfl
def Wx (a b:List Int) (i:Int):Prop:=decide (i<(↑a.length:Int))=false/\(true=true->(i=i/\cB (tmL a b) (tmV a b i)=cB (tmL a b) (tmV a b i))/\(toU a b).F i=(Ex.exit (0:Nat),toP i (cB (tmL a b) (tmV a b i))))
theorem ajT (a b:List Int) (i:Int):dQ (toS a b) ((toU a b).way (i)) ((run (cHz 21) 300).code Gi R9 (aJ (toS a b) ((toU a b).S i)))=some (.p (Wx a b i)):=by kernel_rfl
theorem aal {a b:List Int} (ha:Dig a) (hb:Dig b) (u:a.length+b.length<=500000) {i:Int} (m:0<=i) (h1:i<a.length):CodeOk cL Gi (.loop aai) (Jb a b i) ⟨.tt,[⟨.tt,.exit 2,aJ (Jb a b i) (tiX a b i)⟩]⟩:=by
 refine jX (dw kv 300) (tiU a b i) (y0:=(0,0,cB (tmL a b) (tmV a b i))) (TmI.start ha hb m h1) ⟨_,aak a b i,⟨rfl,rfl⟩,rfl⟩ (by kernel_rfl) (fun y n=>?_) rfl;obtain ⟨k,c,d⟩:=y;have f:TmI a b i k c d:=n;obtain ⟨l,dg,k0,k1,c0,c1,v,z⟩:=id f;have o:i64.wrap ((a.length:Int)+b.length)=a.length+b.length:=iw (by omega) (by omega);have g:i64.wrap (i+k)=i+k:=iw (by omega) (by omega);have j:(0+(i+k)).toNat=i.toNat+k.toNat:=by omega
 refine ⟨_,afg a b i k c d,fun h=>?_,fun h=>⟨⟨⟨rfl,rfl⟩,rfl⟩,?_⟩,fun h=>?_⟩
 .have h:=dt.1 h;rw [g,o,j];exact ⟨⟨⟨k0,h⟩,by omega⟩,⟨⟨by omega,by omega⟩,by omega⟩,⟨by omega,by omega⟩,by omega⟩
 .obtain ⟨p,q,f3⟩:=f.fin (ndt.1 h);show (Ex.exit 2,tiX a b i)=(Ex.exit 2,tiP k c d);unfold tiX tmL;rw [p,q,<- f3]
 .have h:=dt.1 h;obtain ⟨w,x,A,D⟩:=f.num ha hb h;rw [g,j];have e3:i64.wrap (a.getD i.toNat 0*b.getD k.toNat 0)=a.getD i.toNat 0*b.getD k.toNat 0:=iw (by omega) (by omega);rw [e3];have r:i64.wrap (d.getD (i.toNat+k.toNat) 0+a.getD i.toNat 0*b.getD k.toNat 0)=d.getD (i.toNat+k.toNat) 0+a.getD i.toNat 0*b.getD k.toNat 0:=iw (by omega) (by omega);rw [r];have s:i64.wrap (d.getD (i.toNat+k.toNat) 0+a.getD i.toNat 0*b.getD k.toNat 0+c)=d.getD (i.toNat+k.toNat) 0+a.getD i.toNat 0*b.getD k.toNat 0+c:=iw (by omega) (by omega);rw [s];have st:=f.step ha hb h1 h;have t:i64.wrap ((d.getD (i.toNat+k.toNat) 0+a.getD i.toNat 0*b.getD k.toNat 0+c).tdiv 1000000000)=(d.getD (i.toNat+k.toNat) 0+a.getD i.toNat 0*b.getD k.toNat 0+c).tdiv 1000000000:=by
   have:=st.c0;have:=st.c1;exact iw (by omega) (by omega)
  refine ⟨⟨⟨t,iw (by omega) (by omega)⟩,rfl⟩,st,?_,rfl⟩;show (b.length - (k+1)).toNat<(b.length - k).toNat;omega
theorem afi {a b:List Int} (ha:Dig a) (hb:Dig b) (c:a.length+b.length<=500000) {i:Int} (d:0<=i) (h1:i<a.length):CtxOk (ajR a b i):=bE kv (aal ha hb c d h1) (bJ kv)
theorem afj {a b:List Int} (ha:Dig a) (hb:Dig b) (j:a.length+b.length<=500000):CodeOk cL Gi (.loop R9) (toS a b) ⟨.tt,[⟨.tt,.exit 0,aJ (toS a b) (toP a.length (cB (tmL a b) (tmV a b a.length)))⟩]⟩:=by
 have d:i64.wrap ((a.length:Int)+b.length)=a.length+b.length:=iw (by omega) (by omega);refine jm (toU a b) (y0:=0) ⟨by omega,by omega⟩ ⟨_,aaj a b,rfl,?_⟩ (by kernel_rfl) (fun i hi=>?_) rfl
 .rw [d,show ((a.length:Int)+b.length).toNat=tmL a b by unfold tmL;omega,CJ]
  congr 1
  unfold tmV;simp [val]
 obtain ⟨i0,i1⟩:=(show 0<=i/\i<=a.length from hi);by_cases c:i<a.length
 .have f:i64.wrap (i+b.length)=i+b.length:=iw (by omega) (by omega);have g:(0+(i+(b.length:Int))).toNat=i.toNat+b.length:=by omega
  refine ⟨ajR a b i,300,afi ha hb j i0 c,rfl,rfl,_,afh a b i,fun h=>?_,fun h=>absurd c (ndt.1 h),fun h=>⟨⟨iw (by omega) (by omega),?_⟩,?_,?_,rfl⟩⟩
  .rw [f,d,g];refine ⟨⟨⟨i0,c⟩,by omega⟩,⟨rfl,rfl,rfl⟩,⟨by omega,by omega⟩,?_⟩;rw [eD];unfold tmL;omega
  .rw [f,g];exact ajP ha hb i0 c
  .show 0<=i+1/\i+1<=a.length;omega
  .show (a.length - (i+1)).toNat<(a.length - i).toNat;omega
 .obtain rfl:i=a.length:=by omega
  exact ⟨cHz 21,300,ajS 21,rfl,rfl,_,ajT a b a.length,ndf c,fun _=>⟨⟨rfl,rfl⟩,rfl⟩⟩
noncomputable def ttS (a b d:List Int) (N:Int):St:=qM cL 300 138 [.islice true 2 0 N] ⟨[⟨14,.ints .i64 d⟩,⟨0,.rows .i64 b⟩,⟨0,.rows .i64 a⟩],3,17⟩
theorem aam (a b d:List Int) (N:Int):fit (ttS a b d N) (ttS a b d N) (aJ (ttS a b d N) ((trU 2 d N).S N)) []=some (.p ((0:Int)=0/\N=N)):=by kernel_rfl
theorem afk (a b d:List Int) (N y:Int):dQ (ttS a b d N) ((trU 2 d N).way y) ((run cL 300).code rz trA (aJ (ttS a b d N) ((trU 2 d N).S y)))=some (.p (trN 2 d N y)):=by kernel_rfl
theorem afl (a b:List Int) {d:List Int} {N:Int} (hN:N=d.length) (ld:Sm d):CodeOk cL rz (.loop trA) (ttS a b d N) ⟨.tt,[⟨.tt,.exit 0,aJ (ttS a b d N) (trP 2 (tlI d N))⟩]⟩:=GD hN ld (aam a b d N) (by kernel_rfl) (fun y=>afk a b d N y)
def tmN (a b:List Int):Int:=i64.wrap ((a.length:Int)+b.length)
def tmD (a b:List Int):List Int:=cB (tmL a b) (tmV a b a.length)
noncomputable def cTt (a b:List Int):Ctx:=bN cL [dK 121 (toS a b).hp.clock Gi R9 (toS a b) (.exit 0) (toP a.length (tmD a b)),dK 138 20 rz trA (ttS a b (tmD a b) (tmN a b)) (.exit 0) (trP 2 (tlI (tmD a b) (tmN a b)))]
theorem UO {a b:List Int} (c:a.length+b.length<=500000):tmN a b=(tmD a b).length:=by unfold tmN tmD tmL;rw [iw (by omega) (by omega),eD];omega
theorem ajU {a b:List Int} (ha:Dig a) (hb:Dig b) (c:a.length+b.length<=500000):CtxOk (cTt a b):=
 bE kv (afj ha hb c) (bE kv (afl a b (UO c) (by show (tmD a b).length<=500000;unfold tmD tmL;rw [eD];exact c)) (bJ kv))
def afm (a b:List Int):Prop:=((i64.wrap ((↑a.length:Int)+(↑b.length:Int))=i64.wrap ((↑a.length:Int)+(↑b.length:Int))/\(0:Int)<=i64.wrap ((↑a.length:Int)+(↑b.length:Int))/\i64.wrap ((↑a.length:Int)+(↑b.length:Int))<=1048576)/\At (Gi) (Gi) (R9) (R9) (toS a b) (toS a b)/\At (rz) (rz) (trA) (trA) (ttS a b (tmD a b) (tmN a b)) (ttS a b (tmD a b) (tmN a b)))
def ajV (a b:List Int):AV:=(AV.islice true 2 (0:Int) (tlI (tmD a b) (tmN a b)))
def ajW (a b:List Int):Hp:=⟨[{ wr:=14,body:=ABody.ints i64 (tmD a b) },{ wr:=(0:Nat),body:=ABody.rows i64 b },{ wr:=(0:Nat),body:=ABody.rows i64 a }],3,24⟩
theorem arO (a b:List Int):(run (cTt a b) 300).call 121 (zB a b) (zG a b)=some ⟨.p (afm a b),[⟨.tt,ajV a b,ajW a b⟩]⟩:=by kernel_rfl
def ajX:List Nu->List (List Int)->Option (Prop×To)
 | [],[a,b]=>some (Dig a/\Dig b/\a.length+b.length<=500000,.li false (aA (val a*val b).toNat))
 | _,_=>none
theorem MS {d:List Int} {N v:Int} (h:Dig d) (hN:N=d.length) (a:val d=v):((0:Int)<=0/\0<=tlI d N/\0+tlI d N<=d.length)/\List.take (tlI d N).toNat (List.drop (Int.toNat 0) d)=aA v.toNat:=by have b:=MN d;rw [UN h hN,a,hN];exact ⟨⟨by omega,by omega,by omega⟩,rfl⟩
theorem aan:NOk Tryz.prog (fun _=>none) hG0 121 (bQ hG0 .i64 [.li,.li] ajX):=by
 refine fw (fun xs ys p t e h=>?_) ⟨_,Tryz.func121,rfl⟩;unfold ajX at e;split at e
 .rename_i a b;cases e;obtain ⟨ha,hb,c⟩:=h;have d:tmN a b=a.length+b.length:=iw (by omega) (by omega);exact ⟨cTt a b,300,zB a b,_,_,_,_,_,ajU ha hb c,rfl,rfl,⟨rfl,rfl,trivial⟩,arO a b,rfl,⟨⟨rfl,by show 0<=tmN a b;omega,by show tmN a b<=_;omega⟩,⟨rfl,rfl,rfl⟩,⟨rfl,rfl,rfl⟩⟩,rfl,rfl,MS (j3 _ _) (UO c) (ajQ ha hb)⟩
 .cases e
end
end Go.Proofs.YtbiiiloimbjpaaaGreatDoor.K
namespace Go.Dg
open Go Go.Eng
def lM:List Int->List Int->List Int
 | x :: a,y :: b=>(x - y) :: lM a b
 | a,[]=>a
 | [],_ :: _=>[]
def uD:List Int->List Int->List Int
 | x :: a,y :: b=>(x+y) :: uD a b
 | a,[]=>a
 | [],_ :: _=>[]
theorem Jc (a:List Int):lM a []=a:=by cases a <;> rfl
theorem Jd (a:List Int):uD a []=a:=by cases a <;> rfl
theorem CK:∀ a b:List Int,(lM a b).length=a.length
 | [],[]=>rfl
 | x :: a,[]=>rfl
 | [],_ :: _=>rfl
 | x :: a,y :: b=>by simp [lM,CK a b]
theorem CL:∀ a b:List Int,(uD a b).length=a.length
 | [],[]=>rfl
 | x :: a,[]=>rfl
 | [],_ :: _=>rfl
 | x :: a,y :: b=>by simp [uD,CL a b]
theorem Je:∀ (a b:List Int) (i:Nat),i<a.length->(lM a b).getD i 0=a.getD i 0 - b.getD i 0
 | [],_,i,h=>by simp at h
 | x :: a,[],i,h=>by simp [lM]
 | x :: a,y :: b,0,h=>by simp [lM]
 | x :: a,y :: b,i+1,h=>by
  have:=Je a b i (by simpa using h);simpa [lM] using this
theorem CO:∀ (a b:List Int) (i:Nat),i<a.length->(uD a b).getD i 0=a.getD i 0+b.getD i 0
 | [],_,i,h=>by simp at h
 | x :: a,[],i,h=>by simp [uD]
 | x :: a,y :: b,0,h=>by simp [uD]
 | x :: a,y :: b,i+1,h=>by
  have:=CO a b i (by simpa using h);simpa [uD] using this
theorem KW:∀ (a b:List Int) (i:Nat),i<b.length->b.length<=a.length->(lM a (b.take i)).set i ((lM a (b.take i)).getD i 0 - b.getD i 0)=lM a (b.take (i+1))
 | _,[],i,h,_=>by simp at h
 | [],y :: b,i,h,h2=>by simp at h2
 | x :: a,y :: b,0,h,_=>by simp [lM,Jc]
 | x :: a,y :: b,i+1,h,h2=>by
  have:=KW a b i (by simpa using h) (by simpa using h2);simpa [lM] using this
theorem KX:∀ (a b:List Int) (i:Nat),i<b.length->b.length<=a.length->(uD a (b.take i)).set i ((uD a (b.take i)).getD i 0+b.getD i 0)=uD a (b.take (i+1))
 | _,[],i,h,_=>by simp at h
 | [],y :: b,i,h,h2=>by simp at h2
 | x :: a,y :: b,0,h,_=>by simp [uD,Jd]
 | x :: a,y :: b,i+1,h,h2=>by
  have:=KX a b i (by simpa using h) (by simpa using h2);simpa [uD] using this
theorem Qc:∀ (a b:List Int),b.length<=a.length->val (lM a b)=val a - val b
 | a,[],_=>by simp [Jc,val]
 | [],y :: b,h=>by simp at h
 | x :: a,y :: b,h=>by
  have:=Qc a b (by simpa using h);simp only [lM,val];omega
theorem Qd:∀ (a b:List Int),b.length<=a.length->val (uD a b)=val a+val b
 | a,[],_=>by simp [Jd,val]
 | [],y :: b,h=>by simp at h
 | x :: a,y :: b,h=>by
  have:=Qd a b (by simpa using h);simp only [uD,val];omega
theorem Sc {d:List Int} (h:∀ j,j<d.length->0<=d.getD j 0/\d.getD j 0<1000000000):Dig d:=by intro x b;obtain ⟨j,a,rfl⟩:=List.getElem_of_mem b;have:=h j a;simpa [bY,dh a] using this
structure NbI (L:Nat) (V:Int) (i:Nat) (d:List Int):Prop where
 l:d.length=L
 i1:i<=L
 lo:∀ j,j<i->0<=d.getD j 0/\d.getD j 0<1000000000
 me:-1000000000<=d.getD i 0/\d.getD i 0<1000000000
 hi:∀ j,i<j->-1000000000<d.getD j 0/\d.getD j 0<1000000000
 v:val d=V
theorem NbI.start {a b:List Int} (ha:Dig a) (hb:Dig b) (E:b.length<=a.length):NbI a.length (val a - val b) 0 (lM a b):=by
 have g:∀ j,-1000000000<(lM a b).getD j 0/\(lM a b).getD j 0<1000000000:=by
  intro j;rcases aX j a.length with h|h
  .rw [Je a b j h];have:=ha.get j;have:=hb.get j;omega
  .rw [bY,dB (by rw [CK];exact h)];simp
 exact ⟨CK a b,kU _,fun j J=>by omega,⟨by have:=g 0;omega,(g 0).2⟩,fun j _=>g j,Qc a b E⟩
theorem afn {d:List Int} {i:Nat} (a:d.length=i+1) (lo:∀ j,j<i->0<=d.getD j 0/\d.getD j 0<1000000000) (hn:d.getD i 0<0):val d<0:=by
 have e:val d=val (d.take i)+pw i*d.getD i 0:=by rw [<- gX (by omega),<- a,gp]
 have dg:Dig (d.take i):=by apply Sc;intro j b;rw [dD] at b;have:=lo j (by omega);simpa [bY,jL,show j<i by omega] using this
 have h1:=eF dg;rw [dD,iP (by omega)] at h1;have h2:pw i*d.getD i 0<=pw i * -1:=bq (by omega) (fK (pw_pos i));omega
theorem NbI.in {L:Nat} {V:Int} {i:Nat} {d:List Int} (h:NbI L V i d) (E:0<=V) (hi:i<L) (hn:d.getD i 0<0):i+1<L:=by
 rcases aX (i+1) L with h1|h1
 .exact h1
 .have:=afn (i:=i) (by rw [h.l];omega) h.lo hn;rw [h.v] at this;omega
theorem NbI.skip {L:Nat} {V:Int} {i:Nat} {d:List Int} (h:NbI L V i d) (hi:i<L) (hn:¬ d.getD i 0<0):NbI L V (i+1) d:=by
 obtain ⟨l,i1,lo,me,E,v⟩:=h;refine ⟨l,hi,fun j J=>?_,?_,fun j J=>E j (by omega),v⟩
 .rcases aX j i with h1|h1
  .exact lo j h1
  .have:j=i:=by omega
   subst this;omega
 .have:=E (i+1) (by omega);omega
theorem NbI.step {L:Nat} {V:Int} {i:Nat} {d:List Int} (h:NbI L V i d) (O:0<=V) (hi:i<L) (hn:d.getD i 0<0):
  NbI L V (i+1) ((d.set i (d.getD i 0+1000000000)).set (i+1) ((d.set i (d.getD i 0+1000000000)).getD (i+1) 0 - 1)):=by
 have h1:=h.in O hi hn;obtain ⟨l,i1,lo,me,E,v⟩:=h;have J:(d.set i (d.getD i 0+1000000000)).getD (i+1) 0=d.getD (i+1) 0:=getD_set (by omega);rw [J];have Q:=E (i+1) (by omega);refine ⟨by simp [l],hi,fun j Y=>?_,?_,fun j Y=>?_,?_⟩
 .rw [getD_set (by omega)];rcases aX j i with h2|h2
  .rw [getD_set (by omega)];exact lo j h2
  .have:j=i:=by omega
   subst this;rw [mE (by omega)];omega
 .rw [mE (by rw [jh];omega)];omega
 .rw [getD_set (by omega),getD_set (by omega)];exact E j (by omega)
 .rw [om _ _ _ (by rw [jh];omega),om _ _ _ (by omega),J,oo];grind
theorem NbI.fin {L:Nat} {V:Int} {d:List Int} (h:NbI L V L d):d=cB L V:=by exact qF (Sc fun j E=>h.lo j (by rw [<- h.l];exact E)) h.l h.v
structure NcI (L:Nat) (V:Int) (i:Nat) (d:List Int):Prop where
 l:d.length=L+1
 i1:i<=L
 lo:∀ j,j<i->0<=d.getD j 0/\d.getD j 0<1000000000
 me:0<=d.getD i 0/\d.getD i 0<2000000000
 hi:∀ j,i<j->0<=d.getD j 0/\d.getD j 0<1999999999
 t0:i<L->d.getD L 0=0
 t1:d.getD L 0<=1
 v:val d=V
theorem NcI.start {a b:List Int} (ha:Dig a) (hb:Dig b) (O:b.length<=a.length):NcI a.length (val a+val b) 0 (uD (a++[0]) b):=by
 have Q:Dig (a++[0]):=CB.2 ⟨ha,fA.2 ⟨by omega,jF⟩⟩;have J:(a++[(0:Int)]).length=a.length+1:=by simp
 have g:∀ j,0<=(uD (a++[0]) b).getD j 0/\(uD (a++[0]) b).getD j 0<1999999999:=by
  intro j;rcases aX j (a++[(0:Int)]).length with h|h
  .rw [CO _ b j h];have:=Q.get j;have:=hb.get j;omega
  .rw [bY,dB (by rw [CL];exact h)];simp
 have E:(uD (a++[0]) b).getD a.length 0=0:=by
  rw [CO _ b _ (by omega)];have Y:(a++[(0:Int)]).getD a.length 0=0:=by simp [bY]
  have e2:b.getD a.length 0=0:=by rw [bY,dB O];rfl
  omega
 refine ⟨by rw [CL,J],kU _,fun j hj=>by omega,⟨(g 0).1,by have:=(g 0).2;omega⟩,fun j _=>g j,fun _=>E,by omega,?_⟩;rw [Qd _ b (by rw [J];omega),um];simp [val]
theorem NcI.skip {L:Nat} {V:Int} {i:Nat} {d:List Int} (h:NcI L V i d) (hi:i<L) (hn:¬ 1000000000<=d.getD i 0):NcI L V (i+1) d:=by
 obtain ⟨l,i1,lo,me,E,t0,t1,v⟩:=h;refine ⟨l,hi,fun j J=>?_,?_,fun j J=>E j (by omega),fun _=>t0 hi,t1,v⟩
 .rcases aX j i with h1|h1
  .exact lo j h1
  .have:j=i:=by omega
   subst this;omega
 .have:=E (i+1) (by omega);omega
theorem NcI.step {L:Nat} {V:Int} {i:Nat} {d:List Int} (h:NcI L V i d) (hi:i<L) (hn:1000000000<=d.getD i 0):
  NcI L V (i+1) ((d.set i (d.getD i 0 - 1000000000)).set (i+1) ((d.set i (d.getD i 0 - 1000000000)).getD (i+1) 0+1)):=by
 obtain ⟨l,i1,lo,me,E,t0,t1,v⟩:=h;have J:(d.set i (d.getD i 0 - 1000000000)).getD (i+1) 0=d.getD (i+1) 0:=getD_set (by omega);rw [J];have O:=E (i+1) (by omega);refine ⟨by simp [l],hi,fun j Q=>?_,?_,fun j Q=>?_,fun h2=>?_,?_,?_⟩
 .rw [getD_set (by omega)];rcases aX j i with h2|h2
  .rw [getD_set (by omega)];exact lo j h2
  .have:j=i:=by omega
   subst this;rw [mE (by omega)];omega
 .rw [mE (by rw [jh];omega)];omega
 .rw [getD_set (by omega),getD_set (by omega)];exact E j (by omega)
 .rw [getD_set (by omega),getD_set (by omega)];exact t0 hi
 .rcases aX (i+1) L with h2|h2
  .rw [getD_set (by omega),getD_set (by omega),t0 hi];decide
  .have Y:i+1=L:=by omega
   have z:=t0 hi;rw [<- Y] at z ⊢;rw [mE (by rw [jh];omega),z];decide
 .rw [om _ _ _ (by rw [jh];omega),om _ _ _ (by omega),J,oo];grind
theorem NcI.fin {L:Nat} {V:Int} {d:List Int} (h:NcI L V L d):d=cB (L+1) V:=by
 refine qF (Sc fun j E=>?_) h.l h.v;rw [h.l] at E;rcases aX j L with h1|h1
 .exact h.lo j h1
 .have e:j=L:=by omega
  have h2:=h.t1;have h3:=h.me;subst e;omega
end Go.Dg
namespace Go.Proofs.YtbiiiloimbjpaaaGreatDoor.K
open Go Go.Eng Go.Dg
noncomputable section
def ET:AFr:=⟨127,none⟩
def Wy:Code:=fP Tryz.prog 127 0
def Sd:Code:=fP Tryz.prog 127 1
noncomputable def m1S (a b:List Int):St:=qM cL 300 127 (zB a b) (zG a b)
def m1P (i:Int) (d:List Int):Patch:=⟨bS 6 2++(13,.int true .i64 i) :: bS 14 12,[(2,.ints .i64 d)],[]⟩
def m1X (a b:List Int):Patch:=m1P b.length (lM a (b.take ((b.length:Int)).toNat))
def m1U (a b:List Int):SumL Int:=
 {
  S:=fun i=>m1P i (lM a (b.take i.toNat))
  I:=fun i=>0<=i/\i<=b.length
  μ:=fun i=>(b.length - i).toNat
  F:=fun _=>(.exit 0,m1X a b)
  next:=fun i=>i+1
  ids:=fun _=>[]
  X:=fun i _=>some (m1P i (lM a (b.take i.toNat)),[]) }
noncomputable def cM1 (a b:List Int):Ctx:=bN cL [dK 127 (m1S a b).hp.clock ET Wy (m1S a b) (.exit 0) (m1X a b)]
noncomputable def m2S (a b:List Int):St:=qM (cM1 a b) 300 127 (zB a b) (zG a b)
def m2P (i:Int) (d:List Int):Patch:=⟨(8,.any false) :: (28,.int true .i64 i) :: bS 29 21,[(2,.ints .i64 d)],[]⟩
def Jf (a b:List Int):Int:=val a - val b
def m2U (a b:List Int):SumL (Int×List Int):=
 {
  S:=fun (i,d)=>m2P i d
  I:=fun (i,d)=>0<=i/\NbI a.length (Jf a b) i.toNat d
  μ:=fun (i,_)=>(a.length - i).toNat
  F:=fun _=>(.exit 2,m2P a.length (cB a.length (Jf a b)))
  next:=fun (i,d)=>(i+1,bif decide (d.getD i.toNat 0<0) then (d.set i.toNat (d.getD i.toNat 0+1000000000)).set (i.toNat+1) ((d.set i.toNat (d.getD i.toNat 0+1000000000)).getD (i.toNat+1) 0 - 1) else d)
  ids:=fun _=>[]
  X:=fun (i,d) _=>some (m2P i d,[]) }
def cHb (l:List (Nat×Bool)):Ctx:=eZ cL (hZ (l.map fun x=>(x.1,match x.2 with|true=>.bool false true|false=>.bool false false)))
theorem yC (l:List (Nat×Bool)):CtxOk (cHb l):=bW kv _
def Qe (a b:List Int):Prop:=(0:Int)=0/\a=lM a (List.take (Int.toNat (0:Int)) b)
theorem aao (a b:List Int):fit (m1S a b) (m1S a b) (aJ (m1S a b) ((m1U a b).S 0)) ([])=some (.p (Qe a b)):=by kernel_rfl
def Si (a b:List Int) (i:Int):Prop:=(decide (i<(↑b.length:Int))=true->(((0:Int)<=i/\i<(↑b.length:Int))/\i.toNat<b.length)/\((0:Int)<=i/\i<(↑a.length:Int))/\((0:Int)+i).toNat<(lM a (List.take i.toNat b)).length/\((0:Int)<=i/\i<(↑a.length:Int))/\((0:Int)+i).toNat<(lM a (List.take i.toNat b)).length)/\((!decide (i<(↑b.length:Int)))=true->(i=i/\lM a (List.take i.toNat b)=lM a (List.take i.toNat b))/\(m1U a b).F i=(Ex.exit (0:Nat),m1P i (lM a (List.take i.toNat b))))/\(decide (i<(↑b.length:Int))=true->(i64.wrap (i+1)=(m1U a b).next i/\(lM a (List.take i.toNat b)).set ((0:Int)+i).toNat (i64.wrap ((lM a (List.take i.toNat b)).getD ((0:Int)+i).toNat (0:Int) - b.getD i.toNat (0:Int)))=lM a (List.take ((m1U a b).next i).toNat b))/\(m1U a b).I ((m1U a b).next i)/\(m1U a b).μ ((m1U a b).next i)<(m1U a b).μ i/\(m1U a b).F ((m1U a b).next i)=(m1U a b).F i)
theorem afo (a b:List Int) (i:Int):dQ (m1S a b) ((m1U a b).way (i)) ((run cL 300).code ET Wy (aJ (m1S a b) ((m1U a b).S i)))=some (.p (Si a b i)):=by kernel_rfl
def Qf (a b:List Int):Prop:=(0:Int)=0/\lM a (List.take (↑b.length:Int).toNat b)=lM a (List.take (↑b.length:Int).toNat b)
theorem aap (a b:List Int):fit (m2S a b) (m2S a b) (aJ (m2S a b) ((m2U a b).S (0,lM a (b.take ((b.length:Int)).toNat)))) ([])=some (.p (Qf a b)):=by kernel_rfl
def Wz (a b:List Int) (i:Int) (d:List Int):Prop:=decide (i<(↑a.length:Int))=false/\(true=true->(i=i/\d=d)/\(m2U a b).F (i,d)=(Ex.exit (2:Nat),m2P i d))
theorem ajY (a b:List Int) (i:Int) (d:List Int):dQ (m2S a b) ((m2U a b).way ((i,d))) ((run (cHb [(29,false)]) 300).code ET Sd (aJ (m2S a b) ((m2U a b).S (i,d))))=some (.p (Wz a b i d)):=by kernel_rfl
def Sj (a b:List Int) (i:Int) (d:List Int):Prop:=(decide (i<(↑a.length:Int))=true/\((0:Int)<=i/\i<(↑a.length:Int))/\((0:Int)+i).toNat<d.length/\decide (d.getD ((0:Int)+i).toNat (0:Int)<0)=false)/\(true=true->(i64.wrap (i+1)=i+1/\d=bif decide (d.getD i.toNat (0:Int)<0) then (d.set i.toNat (d.getD i.toNat (0:Int)+1000000000)).set (i.toNat+(1:Nat)) ((d.set i.toNat (d.getD i.toNat (0:Int)+1000000000)).getD (i.toNat+(1:Nat)) (0:Int) - (1:Int)) else d)/\(m2U a b).I ((m2U a b).next (i,d))/\(m2U a b).μ ((m2U a b).next (i,d))<(m2U a b).μ (i,d)/\(m2U a b).F ((m2U a b).next (i,d))=(m2U a b).F (i,d))
theorem afp (a b:List Int) (i:Int) (d:List Int):dQ (m2S a b) ((m2U a b).way ((i,d))) ((run (cHb [(29,true),(35,false)]) 300).code ET Sd (aJ (m2S a b) ((m2U a b).S (i,d))))=some (.p (Sj a b i d)):=by kernel_rfl
def Sk (a b:List Int) (i:Int) (d:List Int):Prop:=(decide (i<(↑a.length:Int))=true/\(((0:Int)<=i/\i<(↑a.length:Int))/\((0:Int)+i).toNat<d.length/\decide (d.getD ((0:Int)+i).toNat (0:Int)<0)=true)/\(((0:Int)<=i/\i<(↑a.length:Int))/\((0:Int)+i).toNat<d.length/\((0:Int)<=i/\i<(↑a.length:Int))/\((0:Int)+i).toNat<d.length)/\((0:Int)<=i64.wrap (i+1)/\i64.wrap (i+1)<(↑a.length:Int))/\((0:Int)+i64.wrap (i+1)).toNat<(d.set ((0:Int)+i).toNat (i64.wrap (d.getD ((0:Int)+i).toNat (0:Int)+1000000000))).length/\((0:Int)<=i64.wrap (i+1)/\i64.wrap (i+1)<(↑a.length:Int))/\((0:Int)+i64.wrap (i+1)).toNat<(d.set ((0:Int)+i).toNat (i64.wrap (d.getD ((0:Int)+i).toNat (0:Int)+1000000000))).length)/\(true=true->(i64.wrap (i+1)=i+1/\(d.set ((0:Int)+i).toNat (i64.wrap (d.getD ((0:Int)+i).toNat (0:Int)+1000000000))).set ((0:Int)+i64.wrap (i+1)).toNat (i64.wrap ((d.set ((0:Int)+i).toNat (i64.wrap (d.getD ((0:Int)+i).toNat (0:Int)+1000000000))).getD ((0:Int)+i64.wrap (i+1)).toNat (0:Int) - (1:Int)))=bif decide (d.getD i.toNat (0:Int)<0) then (d.set i.toNat (d.getD i.toNat (0:Int)+1000000000)).set (i.toNat+(1:Nat)) ((d.set i.toNat (d.getD i.toNat (0:Int)+1000000000)).getD (i.toNat+(1:Nat)) (0:Int) - (1:Int)) else d)/\(m2U a b).I ((m2U a b).next (i,d))/\(m2U a b).μ ((m2U a b).next (i,d))<(m2U a b).μ (i,d)/\(m2U a b).F ((m2U a b).next (i,d))=(m2U a b).F (i,d))
theorem afq (a b:List Int) (i:Int) (d:List Int):dQ (m2S a b) ((m2U a b).way ((i,d))) ((run (cHb [(29,true),(35,true)]) 300).code ET Sd (aJ (m2S a b) ((m2U a b).S (i,d))))=some (.p (Sk a b i d)):=by kernel_rfl
theorem zt (i:Int):(0+i).toNat=i.toNat:=by rw [oW]
theorem afr {a b:List Int} (ha:Dig a) (hb:Dig b) (c:Sm a) (d:b.length<=a.length):CodeOk cL ET (.loop Wy) (m1S a b) ⟨.tt,[⟨.tt,.exit 0,aJ (m1S a b) (m1X a b)⟩]⟩:=by
 have c:=c.le;refine jX (dw kv 300) (m1U a b) (y0:=0) ⟨by omega,by omega⟩ ⟨_,aao a b,rfl,(Jc a).symm⟩ (by kernel_rfl) (fun i hi=>⟨_,afo a b i,?_⟩) rfl;obtain ⟨i0,i1⟩:=(show 0<=i/\i<=b.length from hi);have f:=CK a (b.take i.toNat);refine ⟨fun h=>?_,fun h=>⟨⟨rfl,rfl⟩,?_⟩,fun h=>?_⟩
 .have h:i<b.length:=dt.1 h;rw [zt,f];exact ⟨⟨⟨i0,h⟩,by omega⟩,⟨i0,by omega⟩,by omega,⟨i0,by omega⟩,by omega⟩
 .have h:=ndt.1 h;obtain rfl:i=b.length:=by omega
  rfl
 .have h:i<b.length:=dt.1 h;have k:=ha.get i.toNat;have l:=hb.get i.toNat;have g:(b.take i.toNat).getD i.toNat 0=0:=by rw [bY,dB (by rw [dD];omega)];rfl
  have j:=Je a (b.take i.toNat) i.toNat (by omega);rw [g] at j;refine ⟨⟨iw (by omega) (by omega),?_⟩,?_,?_,rfl⟩
  .rw [zt,iw (by omega) (by omega),KW a b i.toNat (by omega) d];show _=lM a (b.take (i+1).toNat);rw [show (i+1).toNat=i.toNat+1 by omega]
  .show 0<=i+1/\i+1<=b.length;omega
  .show (b.length - (i+1)).toNat<(b.length - i).toNat;omega
theorem afs {a b:List Int} (ha:Dig a) (hb:Dig b) (m:Sm a) (p:b.length<=a.length) (n:0<=Jf a b):CodeOk cL ET (.loop Sd) (m2S a b) ⟨.tt,[⟨.tt,.exit 2,aJ (m2S a b) (m2P a.length (cB a.length (Jf a b)))⟩]⟩:=by
 have m:=m.le;refine jm (m2U a b) (y0:=(0,lM a (b.take ((b.length:Int)).toNat))) ?_ ⟨_,aap a b,rfl,rfl⟩ (by kernel_rfl) (fun y q=>?_) rfl
 .show 0<=0/\NbI _ _ _ _;rw [show ((b.length:Int)).toNat=b.length by omega,gp];exact ⟨by decide,NbI.start ha hb p⟩
 obtain ⟨i,d⟩:=y;obtain ⟨i0,h⟩:=(show 0<=i/\NbI a.length (Jf a b) i.toNat d from q);obtain ⟨l,i1,lo,me,k,v⟩:=id h;have j:(i+1).toNat=i.toNat+1:=by omega
 by_cases c:i<a.length
 .have g:i64.wrap (i+1)=i+1:=iw (by omega) (by omega);have mu:(a.length - (i+1)).toNat<(a.length - i).toNat:=by omega
  by_cases hn:d.getD i.toNat 0<0
  .have h1:=h.in n (by omega) hn;have h2:=k (i.toNat+1) (by omega);have e3:(d.set i.toNat (d.getD i.toNat 0+1000000000)).getD (i.toNat+1) 0=d.getD (i.toNat+1) 0:=getD_set (by omega);have o:i64.wrap (d.getD i.toNat 0+1000000000)=d.getD i.toNat 0+1000000000:=iw (by omega) (by omega);have r:i64.wrap (d.getD (i.toNat+1) 0 - 1)=d.getD (i.toNat+1) 0 - 1:=iw (by omega) (by omega);have f:(bif decide (d.getD i.toNat 0<0) then (d.set i.toNat (d.getD i.toNat 0+1000000000)).set (i.toNat+1) ((d.set i.toNat (d.getD i.toNat 0+1000000000)).getD (i.toNat+1) 0 - 1) else d)=(d.set i.toNat (d.getD i.toNat 0+1000000000)).set (i.toNat+1) ((d.set i.toNat (d.getD i.toNat 0+1000000000)).getD (i.toNat+1) 0 - 1):=by rw [aI hn];rfl
   refine ⟨cHb [(29,true),(35,true)],300,yC _,rfl,rfl,_,afq a b i d,?_,fun _=>?_⟩
   .rw [zt,g,zt,j,o,jh];exact ⟨aI c,⟨⟨i0,c⟩,by omega,aI hn⟩,⟨⟨i0,c⟩,by omega,⟨i0,c⟩,by omega⟩,⟨by omega,by omega⟩,by omega,⟨by omega,by omega⟩,by omega⟩
   .refine ⟨⟨g,?_⟩,?_,mu,rfl⟩
    .rw [zt,g,zt,j,o,f,e3,r]
    .show 0<=i+1/\NbI _ _ (i+1).toNat _;rw [j,f];exact ⟨by omega,h.step n (by omega) hn⟩
  .have f:(bif decide (d.getD i.toNat 0<0) then (d.set i.toNat (d.getD i.toNat 0+1000000000)).set (i.toNat+1) ((d.set i.toNat (d.getD i.toNat 0+1000000000)).getD (i.toNat+1) 0 - 1) else d)=d:=by rw [aG hn];rfl
   refine ⟨cHb [(29,true),(35,false)],300,yC _,rfl,rfl,_,afp a b i d,?_,fun _=>⟨⟨g,f.symm⟩,?_,mu,rfl⟩⟩
   .rw [zt];exact ⟨aI c,⟨i0,c⟩,by omega,aG hn⟩
   .show 0<=i+1/\NbI _ _ (i+1).toNat _;rw [j,f];exact ⟨by omega,h.skip (by omega) hn⟩
 .refine ⟨cHb [(29,false)],300,yC _,rfl,rfl,_,ajY a b i d,aG c,fun _=>⟨⟨rfl,rfl⟩,?_⟩⟩;have e:i.toNat=a.length:=by omega
  rw [e] at h;show (Ex.exit 2,m2P a.length (cB a.length (Jf a b)))=(Ex.exit 2,m2P i d);rw [<- h.fin,show i=a.length by omega]
noncomputable def mtS (a b d:List Int) (N:Int):St:=qM cL 300 138 [.islice true 2 0 N] ⟨[⟨23,.ints .i64 d⟩,⟨0,.rows .i64 b⟩,⟨0,.rows .i64 a⟩],3,26⟩
theorem aaq (a b d:List Int) (N:Int):fit (mtS a b d N) (mtS a b d N) (aJ (mtS a b d N) ((trU 2 d N).S N)) []=some (.p ((0:Int)=0/\N=N)):=by kernel_rfl
theorem aft (a b d:List Int) (N y:Int):dQ (mtS a b d N) ((trU 2 d N).way y) ((run cL 300).code rz trA (aJ (mtS a b d N) ((trU 2 d N).S y)))=some (.p (trN 2 d N y)):=by kernel_rfl
theorem afu (a b:List Int) {d:List Int} {N:Int} (hN:N=d.length) (ld:Sm d):CodeOk cL rz (.loop trA) (mtS a b d N) ⟨.tt,[⟨.tt,.exit 0,aJ (mtS a b d N) (trP 2 (tlI d N))⟩]⟩:=GD hN ld (aaq a b d N) (by kernel_rfl) (fun y=>aft a b d N y)
def miD (a b:List Int):List Int:=cB a.length (Jf a b)
noncomputable def cMt (a b:List Int):Ctx:=bN cL [dK 127 (m1S a b).hp.clock ET Wy (m1S a b) (.exit 0) (m1X a b),dK 127 (m2S a b).hp.clock ET Sd (m2S a b) (.exit 2) (m2P a.length (miD a b)),
 dK 138 29 rz trA (mtS a b (miD a b) a.length) (.exit 0) (trP 2 (tlI (miD a b) a.length))]
theorem MU (a b:List Int):(miD a b).length=a.length:=eD _ _
theorem ajZ {a b:List Int} (ha:Dig a) (hb:Dig b) (c:Sm a) (d:b.length<=a.length) (f:0<=Jf a b):CtxOk (cMt a b):=
 bE kv (afr ha hb c d) (bE kv (afs ha hb c d f) (bE kv (afu a b (by rw [MU]) (by show (miD a b).length<=500000;rw [MU];exact c)) (bJ kv)))
def aar (a b:List Int):Prop:=(((0:Int)<(↑a.length:Int)/\(↑a.length:Int)=(↑a.length:Int)/\(0:Int)<(↑a.length:Int)/\(↑a.length:Int)<=1048576)/\At (ET) (ET) (Wy) (Wy) (m1S a b) (m1S a b)/\At (ET) (ET) (Sd) (Sd) (m2S a b) (m2S a b)/\At (rz) (rz) (trA) (trA) (mtS a b (miD a b) a.length) (mtS a b (miD a b) a.length))
def afv (a b:List Int):AV:=(AV.islice true 2 (0:Int) (tlI (miD a b) (↑a.length:Int)))
def afw (a b:List Int):Hp:=⟨[{ wr:=23,body:=ABody.ints i64 (miD a b) },{ wr:=(0:Nat),body:=ABody.rows i64 b },{ wr:=(0:Nat),body:=ABody.rows i64 a }],3,33⟩
theorem aov (a b:List Int):(run (cMt a b) 300).call 127 (zB a b) (zG a b)=some ⟨.p (aar a b),[⟨.tt,afv a b,afw a b⟩]⟩:=by kernel_rfl
end
end Go.Proofs.YtbiiiloimbjpaaaGreatDoor.K
