/- What is proved: TurnProducts returns true, whatever the input (part 9). No conditions beyond those of the row. -/
import Derived.Test.YtmnhhlnbfkfkaaaGreatPG
import Derived.Test.YtmnhhlnbfkfkaaaGreatPH
import Derived.KernelRfl
set_option linter.unusedVariables false
set_option linter.unusedSimpArgs false
set_option linter.unusedSectionVars false
namespace Go.Dg
def val:List Int->Int
 | []=>0
 | x :: l=>x+1000000000*val l
def Dig (xs:List Int):Prop:=∀ x∈xs,0<=x/\x<1000000000
def pw:Nat->Int
 | 0=>1
 | n+1=>1000000000*pw n
theorem pw_pos:∀ n,0<pw n
 | 0=>by decide
 | n+1=>Int.mul_pos (by decide) (pw_pos n)
theorem nX:∀ m n,pw (m+n)=pw m*pw n
 | 0,n=>by simp [pw]
 | m+1,n=>by rw [Nat.succ_add]; simp only [pw]; rw [nX m n,Int.mul_assoc]
theorem b9:Dig []:=fun _ h=>by cases h
theorem bB {x:Int} {l:List Int}:Dig (x :: l) ↔ (0<=x/\x<1000000000)/\Dig l:=by
 constructor
 .intro h; exact ⟨h x (by simp),fun y hy=>h y (by simp [hy])⟩
 .rintro ⟨h1,h2⟩ y hy
  rcases List.mem_cons.1 hy with rfl|hy
  .exact h1
  .exact h2 y hy
theorem ph {l m:List Int}:Dig (l++m) ↔ Dig l/\Dig m:=by
 constructor
 .intro h; exact ⟨fun y hy=>h y (by simp [hy]),fun y hy=>h y (by simp [hy])⟩
 .rintro ⟨h1,h2⟩ y hy
  rcases List.mem_append.1 hy with hy|hy
  .exact h1 y hy
  .exact h2 y hy
theorem Dig.take {l:List Int} (h:Dig l) (n:Nat):Dig (l.take n):=fun x hx=>h x (List.mem_of_mem_take hx)
theorem Dig.drop {l:List Int} (h:Dig l) (n:Nat):Dig (l.drop n):=fun x hx=>h x (List.mem_of_mem_drop hx)
theorem Dig.get {l:List Int} (h:Dig l) (i:Nat):0<=l.getD i 0/\l.getD i 0<1000000000:=by
 rw [List.getD_eq_getElem?_getD]
 cases e:l[i]? with
 | none=>exact ⟨Int.le_refl _,by decide⟩
 | some x=>exact h x (List.mem_of_getElem? e)
theorem Dig.set {l:List Int} (h:Dig l) (i:Nat) {x:Int} (hx:0<=x/\x<1000000000):Dig (l.set i x):=fun y hy=>by
 rcases List.mem_or_eq_of_mem_set hy with h1|rfl
 .exact h y h1
 .exact hx
theorem jb:∀ (l m:List Int),val (l++m)=val l+pw l.length*val m
 | [],m=>by simp [val,pw]
 | x :: l,m=>by
  simp only [List.cons_append,val,List.length_cons,pw]
  rw [jb l m,Int.mul_add,Int.mul_assoc]; omega
theorem af:∀ {l:List Int},Dig l->0<=val l
 | [],_=>Int.le_refl _
 | x :: l,h=>by
  have h:=bB.1 h
  have:=af h.2
  simp only [val]
  omega
theorem bc:∀ {l:List Int},Dig l->val l<pw l.length
 | [],_=>by decide
 | x :: l,h=>by
  have h:=bB.1 h
  have:=bc h.2
  simp only [val,List.length_cons,pw]
  have h3:(1000000000:Int)*val l+1000000000<=1000000000*pw l.length:=by
   have:(1000000000:Int)*(val l+1)<=1000000000*pw l.length:=Int.mul_le_mul_of_nonneg_left (by omega) (by decide)
   rw [Int.mul_add] at this
   simpa using this
  have:=h.1.2
  omega
theorem fS:∀ (l:List Int) (i:Nat) (x:Int),i<l.length->val (l.set i x)=val l+pw i*(x - l.getD i 0)
 | [],i,x,h=>by simp at h
 | y :: l,0,x,h=>by simp [val,pw]; omega
 | y :: l,i+1,x,h=>by
  simp only [List.set_cons_succ,val,pw,List.getD_cons_succ]
  rw [fS l i x (by simpa using h),Int.mul_add,Int.mul_assoc]
  omega
theorem AS:∀ n,val (List.replicate n 0)=0
 | 0=>rfl
 | n+1=>by simp [List.replicate_succ,val,AS n]
theorem J6 (n:Nat):Dig (List.replicate n 0):=fun x hx=>by
 obtain rfl:=List.eq_of_mem_replicate hx
 decide
theorem bU {l:List Int} {n:Nat} (h:n<l.length):val (l.take (n+1))=val (l.take n)+pw n*l.getD n 0:=by
 rw [List.take_add_one,List.getElem?_eq_getElem h,jb,List.length_take,Nat.min_eq_left (by omega),List.getD_eq_getElem?_getD,List.getElem?_eq_getElem h]
 simp [val]
def aa (n:Nat):List Int:=
 if h:n=0 then [] else ((n % 1000000000:Nat):Int) :: aa (n / 1000000000)
termination_by n
decreasing_by exact Nat.div_lt_self (Nat.pos_of_ne_zero h) (by decide)
theorem bS:aa 0=[]:=by rw [aa]; simp
theorem dk {n:Nat} (h:n≠0):aa n=((n % 1000000000:Nat):Int) :: aa (n / 1000000000):=by rw [aa]; simp [h]
theorem dn (n:Nat):val (aa n)=n:=by
 induction n using Nat.strongRecOn with
 | _ n ih=>
  by_cases h:n=0
  .subst h; rw [bS]; rfl
  .rw [dk h,val,ih _ (Nat.div_lt_self (Nat.pos_of_ne_zero h) (by decide))]
   omega
theorem ay (n:Nat):Dig (aa n):=by
 induction n using Nat.strongRecOn with
 | _ n ih=>
  by_cases h:n=0
  .subst h; rw [bS]; exact b9
  .rw [dk h]
   exact bB.2 ⟨by omega,ih _ (Nat.div_lt_self (Nat.pos_of_ne_zero h) (by decide))⟩
def Top (l:List Int):Prop:=l=[]\/l.getD (l.length - 1) 0≠0
theorem uD {x y:Int} {l:List Int}:Top (x :: y :: l) ↔ Top (y :: l):=by
 constructor
 .intro h
  rcases h with h|h
  .cases h
  .exact .inr (by simpa using h)
 .intro h
  rcases h with h|h
  .cases h
  .exact .inr (by simpa using h)
theorem qx {l:List Int}:Dig l->Top l->l≠[]->val l≠0:=by
 induction l with
 | nil=>intro _ _ h; exact absurd rfl h
 | cons x l ih=>
  intro hd ht _
  have h:=bB.1 hd
  have h2:=af h.2
  simp only [val]
  cases l with
  | nil=>
   rcases ht with ht|ht
   .cases ht
   .have:x≠0:=by simpa using ht
    simp only [val]; omega
  | cons y l=>
   have:=ih h.2 (uD.1 ht) (by simp)
   omega
theorem du:∀ {l:List Int},Dig l->Top l->aa (val l).toNat=l
 | [],_,_=>bS
 | x :: l,hd,ht=>by
  have h:=bB.1 hd
  have h2:=af h.2
  have h0:val (x :: l)≠0:=qx hd ht (by simp)
  have h1:0<=val (x :: l):=af hd
  have ht':Top l:=by
   cases l with
   | nil=>exact .inl rfl
   | cons y l=>exact uD.1 ht
  rw [dk (by omega)]
  simp only [val] at h1 ⊢
  have e1:(x+1000000000*val l).toNat % 1000000000=x.toNat:=by omega
  have e2:(x+1000000000*val l).toNat / 1000000000=(val l).toNat:=by omega
  rw [e1,e2,du h.2 ht',Int.toNat_of_nonneg h.1.1]
theorem fa (n:Nat):Top (aa n):=by
 induction n using Nat.strongRecOn with
 | _ n ih=>
  by_cases h:n=0
  .subst h; rw [bS]; exact .inl rfl
  .by_cases h2:n / 1000000000=0
   .rw [dk h,h2,bS]
    right
    simp
    omega
   .have:=ih (n / 1000000000) (Nat.div_lt_self (Nat.pos_of_ne_zero h) (by decide))
    rw [dk h]
    rw [dk h2] at this ⊢
    exact uD.2 this
theorem kA {n:Nat} (h:n≠0):0<(aa n).length:=by rw [dk h]; simp
theorem uE {n:Nat}:aa n=[] ↔ n=0:=by
 constructor
 .intro h
  by_cases h0:n=0
  .exact h0
  .rw [dk h0] at h; cases h
 .rintro rfl; exact bS
def tl (l:List Int):Nat->Nat
 | 0=>0
 | n+1=>if l.getD n 0=0 then tl l n else n+1
theorem J7 (l:List Int):∀ n,tl l n<=n
 | 0=>Nat.le_refl _
 | n+1=>by
  simp only [tl]
  split
  .exact Nat.le_succ_of_le (J7 l n)
  .exact Nat.le_refl _
theorem J8 {l:List Int}:∀ {n},n<=l.length->val (l.take (tl l n))=val (l.take n)
 | 0,_=>rfl
 | n+1,h=>by
  simp only [tl]
  split
  .rename_i h0
   rw [J8 (by omega),bU (by omega),h0]
   simp
  .rfl
theorem J9 {l:List Int}:∀ {n},n<=l.length->Top (l.take (tl l n))
 | 0,_=>.inl rfl
 | n+1,h=>by
  simp only [tl]
  split
  .exact J9 (by omega)
  .rename_i h0
   right
   rw [List.length_take,Nat.min_eq_left (by omega)]
   simpa [List.getD_eq_getElem?_getD,List.getElem?_take] using h0
theorem EZ {l:List Int} (h:Dig l):l.take (tl l l.length)=aa (val l).toNat:=by
 have h1:=du (h.take (tl l l.length)) (J9 (Nat.le_refl _))
 rw [J8 (Nat.le_refl _),List.take_length] at h1
 exact h1.symm
theorem OV {l:List Int} (h:Dig l):tl l l.length=0 ↔ val l=0:=by
 have e:=EZ h
 have h0:=af h
 have hle:=J7 l l.length
 constructor
 .intro ht
  rw [ht,List.take_zero] at e
  have:=uE.1 e.symm
  omega
 .intro hv
  rw [hv] at e
  have e:l.take (tl l l.length)=[]:=by rw [e]; exact bS
  have:=congrArg List.length e
  rw [List.length_take,Nat.min_eq_left hle] at this
  exact this
def jI (a b:List Int):Nat->Bool
 | 0=>false
 | n+1=>if a.getD n 0=b.getD n 0 then jI a b n else decide (a.getD n 0<b.getD n 0)
theorem wj {a b:List Int} (ha:Dig a) (hb:Dig b):∀ {n:Nat},n<=a.length->n<=b.length->(jI a b n=true ↔ val (a.take n)<val (b.take n))
 | 0,_,_=>by simp [jI,val]
 | n+1,h1,h2=>by
  have ih:=wj ha hb (n:=n) (by omega) (by omega)
  simp only [jI]
  rw [bU (by omega),bU (by omega)]
  split
  .rename_i he
   rw [ih,he]
   omega
  .rename_i he
   have x1:=bc (ha.take n)
   have x2:=bc (hb.take n)
   have y1:=af (ha.take n)
   have y2:=af (hb.take n)
   rw [List.length_take,Nat.min_eq_left (by omega)] at x1 x2
   have hp:=pw_pos n
   simp only [decide_eq_true_eq]
   constructor
   .intro hlt
    have:pw n*(a.getD n 0+1)<=pw n*b.getD n 0:=Int.mul_le_mul_of_nonneg_left (by omega) (by omega)
    rw [Int.mul_add] at this
    omega
   .intro hlt
    rcases (show a.getD n 0<b.getD n 0\/b.getD n 0<=a.getD n 0 by omega) with h|h
    .exact h
    .have:pw n*(b.getD n 0+1)<=pw n*a.getD n 0:=Int.mul_le_mul_of_nonneg_left (by omega) (by omega)
     rw [Int.mul_add] at this
     omega
theorem bN {m n:Nat} (h:m<=n):pw m<=pw n:=by
 obtain ⟨k,rfl⟩:=Nat.le.dest h
 rw [nX]
 have h1:=pw_pos m
 have h2:=pw_pos k
 calc pw m=pw m*1:=(Int.mul_one _).symm
  _<=pw m*pw k:=Int.mul_le_mul_of_nonneg_left h2 (Int.le_of_lt h1)
theorem xT {l:List Int} (h:Dig l) (ht:Top l) (hne:l≠[]):pw (l.length - 1)<=val l:=by
 have hpos:0<l.length:=List.length_pos_iff.2 hne
 have h1:val l=val (l.take (l.length - 1))+pw (l.length - 1)*l.getD (l.length - 1) 0:=by
  have:=bU (l:=l) (n:=l.length - 1) (by omega)
  rw [show l.length - 1+1=l.length by omega,List.take_length] at this
  exact this
 have h2:=af (h.take (l.length - 1))
 have h3:1<=l.getD (l.length - 1) 0:=by
  rcases ht with ht|ht
  .exact absurd ht hne
  .have:=h.get (l.length - 1); omega
 have h4:pw (l.length - 1)*1<=pw (l.length - 1)*l.getD (l.length - 1) 0:=Int.mul_le_mul_of_nonneg_left h3 (Int.le_of_lt (pw_pos _))
 omega
theorem kB {a b:List Int} (ha:Dig a) (hb:Dig b) (tb:Top b) (h:a.length<b.length):val a<val b:=by
 have h1:=bc ha
 have h2:=xT hb tb (by rintro rfl; simp at h)
 have h3:=bN (show a.length<=b.length - 1 by omega)
 omega
def cz (a b:List Int):Bool:=if a.length=b.length then jI a b a.length else decide (a.length<b.length)
theorem gC {a b:List Int} (ha:Dig a) (hb:Dig b) (ta:Top a) (tb:Top b):cz a b=true ↔ val a<val b:=by
 unfold cz
 split
 .rename_i h
  rw [wj ha hb (Nat.le_refl _) (by omega),List.take_length,h,List.take_length]
 .rename_i h
  simp only [decide_eq_true_eq]
  constructor
  .exact fun hl=>kB ha hb tb hl
  .intro hv
   rcases Nat.lt_or_ge a.length b.length with h1|h1
   .exact h1
   .have:=kB hb ha ta (by omega)
    omega
def dG (a b:List Int):Nat->Nat->Int->List Int->List Int
 | 0,_,_,d=>d
 | n+1,i,c,d=>if i<a.length\/i<b.length\/0<c then dG a b n (i+1) ((a.getD i 0+b.getD i 0+c).tdiv (1000000000:Int)) (d++[(a.getD i 0+b.getD i 0+c).tmod (1000000000:Int)]) else d
theorem sB {l:List Int} {i:Nat} (h:l.length<=i):l.getD i 0=0:=by
 rw [List.getD_eq_getElem?_getD,List.getElem?_eq_none h]; rfl
theorem val_take_succ' (l:List Int) (n:Nat):val (l.take (n+1))=val (l.take n)+pw n*l.getD n 0:=by
 rcases Nat.lt_or_ge n l.length with h|h
 .exact bU h
 .rw [List.take_of_length_le (by omega),List.take_of_length_le (by omega),sB h]; simp
theorem pi {a b:List Int} (ha:Dig a) (hb:Dig b) {c:Int} (hc:0<=c/\c<=1) (i:Nat):
  0<=(a.getD i 0+b.getD i 0+c).tmod (1000000000:Int)/\(a.getD i 0+b.getD i 0+c).tmod (1000000000:Int)<1000000000/\0<=(a.getD i 0+b.getD i 0+c).tdiv (1000000000:Int)/\(a.getD i 0+b.getD i 0+c).tdiv (1000000000:Int)<=1 /\
  (a.getD i 0+b.getD i 0+c).tmod (1000000000:Int)+1000000000*(a.getD i 0+b.getD i 0+c).tdiv (1000000000:Int)=a.getD i 0+b.getD i 0+c:=by
 have h1:=ha.get i
 have h2:=hb.get i
 generalize a.getD i 0=x at *
 generalize b.getD i 0=y at *
 have hs:0<=x+y+c:=by omega
 rw [Int.tmod_eq_emod_of_nonneg hs,Int.tdiv_eq_ediv_of_nonneg hs]
 omega
theorem AU {a b:List Int} (ha:Dig a) (hb:Dig b):∀ (n i:Nat) (c:Int) (d:List Int),Dig d->d.length=i->(0:Int)<=c/\c<=1->val d+pw i*c=val (a.take i)+val (b.take i)->a.length+1<=i+n->b.length+1<=i+n ->
  Dig (dG a b n i c d)/\val (dG a b n i c d)=val a+val b
 | 0,i,c,d,hd,hl,hc,hv,h1,h2=>by
  simp only [dG]
  rw [List.take_of_length_le (by omega),List.take_of_length_le (by omega)] at hv
  have q1:=bc ha
  have q2:=bc hb
  have q3:=bN (show a.length+1<=i by omega)
  have q4:=bN (show b.length+1<=i by omega)
  simp only [pw] at q3 q4
  have q5:=pw_pos i
  have q6:=af hd
  have q7:=af ha
  have q8:=af hb
  have hc0:c=0:=by
   rcases (show c=0\/c=1 by omega) with h|h
   .exact h
   .subst h
    have r1:=pw_pos a.length
    have r2:=pw_pos b.length
    omega
  subst hc0
  exact ⟨hd,by simpa using hv⟩
 | n+1,i,c,d,hd,hl,hc,hv,h1,h2=>by
  simp only [dG]
  split
  .obtain ⟨s1,s2,s3,s4,s5⟩:=pi ha hb hc i
   refine AU ha hb n (i+1) _ _ (ph.2 ⟨hd,bB.2 ⟨⟨s1,s2⟩,b9⟩⟩) (by simp [hl]) ⟨s3,s4⟩ ?_ (by omega) (by omega)
   rw [jb,hl,val_take_succ',val_take_succ']
   simp only [val,pw]
   have e:pw i*((a.getD i 0+b.getD i 0+c).tmod (1000000000:Int)+1000000000*(a.getD i 0+b.getD i 0+c).tdiv (1000000000:Int))=pw i*(a.getD i 0+b.getD i 0+c):=by rw [s5]
   rw [Int.mul_add,Int.mul_add,Int.mul_add] at e
   have e2:(1000000000:Int)*pw i*(a.getD i 0+b.getD i 0+c).tdiv (1000000000:Int)=pw i*((1000000000:Int)*(a.getD i 0+b.getD i 0+c).tdiv (1000000000:Int)):=by rw [Int.mul_comm (1000000000:Int),Int.mul_assoc]
   rw [e2]
   simp only [Int.mul_zero,Int.add_zero]
   omega
  .rename_i hn
   have hc0:c=0:=by omega
   subst hc0
   rw [List.take_of_length_le (by omega),List.take_of_length_le (by omega)] at hv
   exact ⟨hd,by simpa using hv⟩
def dL (a b:List Int):Nat->Nat->Int->List Int->List Int
 | 0,_,_,d=>d
 | n+1,i,c,d=>dL a b n (i+1) (if a.getD i 0 - b.getD i 0 - c<0 then 1 else 0) (d++[if a.getD i 0 - b.getD i 0 - c<0 then a.getD i 0 - b.getD i 0 - c+1000000000 else a.getD i 0 - b.getD i 0 - c])
theorem AW {a b:List Int} (ha:Dig a) (hb:Dig b):∀ (n i:Nat) (c:Int) (d:List Int),Dig d->d.length=i->(0:Int)<=c/\c<=1->val d - pw i*c=val (a.take i) - val (b.take i) ->
  ∃ c',Dig (dL a b n i c d)/\(dL a b n i c d).length=i+n/\0<=c'/\c'<=1/\val (dL a b n i c d) - pw (i+n)*c'=val (a.take (i+n)) - val (b.take (i+n))
 | 0,i,c,d,hd,hl,hc,hv=>⟨c,hd,hl,hc.1,hc.2,hv⟩
 | n+1,i,c,d,hd,hl,hc,hv=>by
  have h1:=ha.get i
  have h2:=hb.get i
  have key:∃ c' x:Int,c'=(if a.getD i 0 - b.getD i 0 - c<0 then 1 else 0)/\x=(if a.getD i 0 - b.getD i 0 - c<0 then a.getD i 0 - b.getD i 0 - c+1000000000 else a.getD i 0 - b.getD i 0 - c)/\0<=c'/\c'<=1/\0<=x/\x<1000000000/\x - (1000000000:Int)*c'=a.getD i 0 - b.getD i 0 - c:=by
   refine ⟨_,_,rfl,rfl,?_⟩
   generalize a.getD i 0=x at *
   generalize b.getD i 0=y at *
   split <;> omega
  obtain ⟨c',x,e1,e2,k1,k2,k3,k4,k5⟩:=key
  simp only [dL]
  rw [<- e1,<- e2]
  have:=AW ha hb n (i+1) c' (d++[x]) (ph.2 ⟨hd,bB.2 ⟨⟨k3,k4⟩,b9⟩⟩) (by simp [hl]) ⟨k1,k2⟩ (by
   rw [jb,hl,val_take_succ',val_take_succ']
   simp only [val,pw]
   have e:pw i*(x - (1000000000:Int)*c')=pw i*(a.getD i 0 - b.getD i 0 - c):=by rw [k5]
   rw [Int.mul_sub,Int.mul_sub,Int.mul_sub] at e
   have e2:(1000000000:Int)*pw i*c'=pw i*((1000000000:Int)*c'):=by rw [Int.mul_comm (1000000000:Int),Int.mul_assoc]
   rw [e2]
   simp only [Int.mul_zero,Int.add_zero]
   omega)
  rw [show i+1+n=i+(n+1) by omega] at this
  exact this
theorem OW {a b:List Int} (ha:Dig a) (hb:Dig b) (hle:val b<=val a) (hl:b.length<=a.length):Dig (dL a b a.length 0 0 [])/\val (dL a b a.length 0 0 [])=val a - val b:=by
 obtain ⟨c',h1,h2,h3,h4,h5⟩:=AW ha hb a.length 0 0 [] b9 rfl (by omega) (by simp [val])
 rw [Nat.zero_add,List.take_length,List.take_of_length_le hl] at h5
 rw [Nat.zero_add] at h2
 have h6:=bc h1
 have h7:=af h1
 rw [h2] at h6
 have hc:c'=0:=by
  rcases (show c'=0\/c'=1 by omega) with h|h
  .exact h
  .subst h; omega
 subst hc
 exact ⟨h1,by simpa using h5⟩
theorem SQ {m n:Nat} (h:pw m<pw n):m<n:=by
 rcases Nat.lt_or_ge m n with h1|h1
 .exact h1
 .have:=bN h1; omega
theorem Ka {d:List Int} (hd:Dig d) {j:Nat} {n:Int} (h0:0<n) (hlt:val d+pw j*n<pw d.length):j<d.length:=by
 have h1:=af hd
 have h2:pw j*1<=pw j*n:=Int.mul_le_mul_of_nonneg_left h0 (Int.le_of_lt (pw_pos j))
 exact SQ (by omega)
theorem CN {d:List Int} (hd:Dig d) {j:Nat} {n:Int} (h0:0<=n) (hj:j<d.length):
  Dig (d.set j ((n+d.getD j 0).tmod (1000000000:Int)))/\0<=(n+d.getD j 0).tdiv (1000000000:Int)/\val (d.set j ((n+d.getD j 0).tmod (1000000000:Int)))+pw (j+1)*(n+d.getD j 0).tdiv (1000000000:Int)=val d+pw j*n/\0<=(n+d.getD j 0).tmod (1000000000:Int)/\(n+d.getD j 0).tmod (1000000000:Int)<1000000000:=by
 have h1:=hd.get j
 have key:0<=(n+d.getD j 0).tmod (1000000000:Int)/\(n+d.getD j 0).tmod (1000000000:Int)<1000000000/\0<=(n+d.getD j 0).tdiv (1000000000:Int)/\(n+d.getD j 0).tmod (1000000000:Int)+1000000000*(n+d.getD j 0).tdiv (1000000000:Int)=n+d.getD j 0:=by
  have hs:0<=n+d.getD j 0:=by omega
  rw [Int.tmod_eq_emod_of_nonneg hs,Int.tdiv_eq_ediv_of_nonneg hs]
  omega
 obtain ⟨k1,k2,k3,k4⟩:=key
 refine ⟨hd.set j ⟨k1,k2⟩,k3,?_,k1,k2⟩
 rw [fS d j _ hj]
 simp only [pw]
 have e:pw j*((n+d.getD j 0).tmod (1000000000:Int)+1000000000*(n+d.getD j 0).tdiv (1000000000:Int))=pw j*(n+d.getD j 0):=by rw [k4]
 rw [Int.mul_add,Int.mul_add] at e
 rw [Int.mul_sub,Int.mul_comm (1000000000:Int),Int.mul_assoc]
 omega
theorem vi (x:Int) (b:List Int) (i k:Nat):pw i*(x*val (b.take (k+1)))=pw i*(x*val (b.take k))+pw (i+k)*(x*b.getD k 0):=by
 rw [val_take_succ',Int.mul_add,Int.mul_add,nX,Int.mul_assoc (pw i) (pw k)]
 congr 2
 rw [Int.mul_left_comm]
theorem E4 (a b:List Int) (i:Nat):val (a.take (i+1))*val b=val (a.take i)*val b+pw i*(a.getD i 0*val b):=by
 rw [val_take_succ',Int.add_mul,Int.mul_assoc]
theorem Ub {a b:List Int} (ha:Dig a) (hb:Dig b):val a*val b<pw (a.length+b.length)\/(a.length+b.length=0/\val a*val b=0):=by
 left
 rw [nX]
 have h1:=bc ha
 have h2:=bc hb
 have h3:=af ha
 have h4:=af hb
 have q1:val a*val b<=val a*pw b.length:=Int.mul_le_mul_of_nonneg_left (by omega) h3
 have q2:(val a+1)*pw b.length<=pw a.length*pw b.length:=Int.mul_le_mul_of_nonneg_right (by omega) (Int.le_of_lt (pw_pos _))
 rw [Int.add_mul] at q2
 have:=pw_pos b.length
 omega
def fr (x:Int):Int:=if x.tmod (1000000000:Int)<0 then x.tmod (1000000000:Int)+1000000000 else x.tmod (1000000000:Int)
def fq (x:Int):Int:=if x.tmod (1000000000:Int)<0 then x.tdiv (1000000000:Int) - 1 else x.tdiv (1000000000:Int)
theorem Uc (x:Int):0<=fr x/\fr x<1000000000/\fr x+1000000000*fq x=x:=by
 have h1:=Int.mul_tdiv_add_tmod x (1000000000:Int)
 have h2:-(1000000000:Int)<x.tmod (1000000000:Int)/\x.tmod (1000000000:Int)<1000000000:=by
  have:=Int.natAbs_tmod x (1000000000:Int)
  have h3:x.natAbs % 1000000000<1000000000:=Nat.mod_lt _ (by decide)
  have h4:(x.tmod (1000000000:Int)).natAbs<1000000000:=by rw [this]; exact h3
  omega
 unfold fr fq
 split <;> omega
def xU (d b:List Int):Int:=(d.getD b.length 0*1000000000+d.getD (b.length - 1) 0).tdiv (b.getD (b.length - 1) 0+1)
theorem OX {l:List Int} (hne:l≠[]):val l=val (l.take (l.length - 1))+pw (l.length - 1)*l.getD (l.length - 1) 0:=by
 have hpos:0<l.length:=List.length_pos_iff.2 hne
 have:=bU (l:=l) (n:=l.length - 1) (by omega)
 rw [show l.length - 1+1=l.length by omega,List.take_length] at this
 exact this
theorem Kb {d b:List Int} (hd:Dig d) (hb:Dig b) (td:Top d) (tb:Top b) (hbn:b≠[]) (hge:val b<=val d) (hlt:val d<1000000000*val b):
  b.length<=d.length/\d.length<=b.length+1/\0<=xU d b/\xU d b<1000000000/\xU d b*val b<=val d:=by
 have hpos:0<b.length:=List.length_pos_iff.2 hbn
 have hp:=pw_pos (b.length - 1)
 have hl1:b.length<=d.length:=by
  rcases Nat.lt_or_ge d.length b.length with h|h
  .have:=kB hd hb tb h; omega
  .exact h
 have hdn:d≠[]:=by rintro rfl; exact hbn (by simpa using hl1)
 have hl2:d.length<=b.length+1:=by
  rcases Nat.lt_or_ge (b.length+1) d.length with h|h
  .have q1:=xT hd td hdn
   have q2:=bc hb
   have q3:=bN (show b.length+1<=d.length - 1 by omega)
   simp only [pw] at q3
   omega
  .exact h
 have hbt:=hb.get (b.length - 1)
 have hbv:=OX hbn
 have hbl:=bc (hb.take (b.length - 1))
 rw [List.length_take,Nat.min_eq_left (by omega)] at hbl
 have hT:pw (b.length - 1)*(d.getD b.length 0*1000000000+d.getD (b.length - 1) 0)<=val d:=by
  have e1:=val_take_succ' d (b.length - 1)
  rw [show b.length - 1+1=b.length by omega] at e1
  have e2:=val_take_succ' d b.length
  rw [List.take_of_length_le hl2] at e2
  have e3:=af (hd.take (b.length - 1))
  have e4:pw b.length=1000000000*pw (b.length - 1):=by
   conv=>lhs; rw [show b.length=b.length - 1+1 by omega]
   rfl
  rw [e4] at e2
  rw [Int.mul_add,<- Int.mul_assoc,Int.mul_right_comm,Int.mul_comm (pw (b.length - 1)) (1000000000:Int)]
  omega
 have hd1:=hd.get b.length
 have hd2:=hd.get (b.length - 1)
 generalize hTT:d.getD b.length 0*1000000000+d.getD (b.length - 1) 0=T at *
 have hT0:0<=T:=by omega
 generalize hbb:b.getD (b.length - 1) 0=t at *
 have hk:xU d b=T / (t+1):=by
  unfold xU
  rw [hTT,hbb,Int.tdiv_eq_ediv_of_nonneg hT0]
 have k0:0<=T / (t+1):=Int.ediv_nonneg hT0 (by omega)
 have k1:T / (t+1)*(t+1)<=T:=Int.ediv_mul_le T (by omega)
 have k2:pw (b.length - 1)*(T / (t+1)*(t+1))<=pw (b.length - 1)*T:=Int.mul_le_mul_of_nonneg_left k1 (Int.le_of_lt hp)
 have k3:T / (t+1)*val b<=T / (t+1)*(pw (b.length - 1)*(t+1)):=by
  refine Int.mul_le_mul_of_nonneg_left ?_ k0
  rw [Int.mul_add]
  omega
 have k4:T / (t+1)*(pw (b.length - 1)*(t+1))=pw (b.length - 1)*(T / (t+1)*(t+1)):=Int.mul_left_comm ..
 refine ⟨hl1,hl2,by rw [hk]; exact k0,?_,by rw [hk]; omega⟩
 rw [hk]
 have k5:pw (b.length - 1)*T<pw (b.length - 1)*((1000000000:Int)*(t+1)):=by
  have:(1000000000:Int)*val b<1000000000*(pw (b.length - 1)*(t+1)):=by
   rw [Int.mul_add (pw (b.length - 1))]
   omega
  rw [Int.mul_left_comm]
  omega
 have k6:T<1000000000*(t+1):=Int.lt_of_mul_lt_mul_left k5 (Int.le_of_lt hp)
 exact Int.ediv_lt_of_lt_mul (by omega) k6
end Go.Dg
namespace Go.Dg
open Go Go.Eng
theorem bt {p:Prop} [Decidable p] {b:Bool}:(bif decide p then b else false)=true ↔ p/\b=true:=by
 by_cases h:p <;> simp [h]
theorem bo {p:Prop} [Decidable p] {b:Bool}:(bif decide p then true else b)=true ↔ p\/b=true:=by
 by_cases h:p <;> simp [h]
theorem nbt {p:Prop} [Decidable p] {b:Bool}:(!bif decide p then b else false)=true ↔ (p->b=false):=by
 by_cases h:p <;> simp [h]
theorem nbo {p:Prop} [Decidable p] {b:Bool}:(!bif decide p then true else b)=true ↔ ¬p/\b=false:=by
 by_cases h:p <;> simp [h]
theorem eb {x y:Int}:(x==y)=true ↔ x=y:=⟨eq_of_beq,fun h=>by rw [h]; exact beq_self_eq_true y⟩
theorem neb {x y:Int}:(x==y)=false ↔ x≠y:=by
 constructor
 .intro h e; rw [eb.2 e] at h; cases h
 .intro h
  cases e:(x==y) with
  | false=>rfl
  | true=>exact absurd (eb.1 e) h
theorem dt {p:Prop} [Decidable p]:decide p=true ↔ p:=decide_eq_true_iff
theorem ndt {p:Prop} [Decidable p]:(!decide p)=true ↔ ¬p:=by by_cases h:p <;> simp [h]
def Sm (d:List Int):Prop:=d.length<=500000
theorem Sm.le {d:List Int} (h:Sm d):d.length<=500000:=h
theorem iw {n:Int} (h0:-9223372036854775808<=n) (h1:n<9223372036854775808):IntKind.i64.wrap n=n:=Go.Ar.i64w h0 h1
end Go.Dg
namespace Go.Proofs.YtmnhhlnbfkfkaaaGreat.K
open Go Go.Eng
noncomputable section
def cL:Ctx:=mkN Tryz.prog (fun _=>none) hG0 [] [] dK
def mdH (d:List Int):Hp:=dW true hG0 [(.i64,d)]
def qy (neg:Bool) (d:List Int):List AV:=[.bool true neg,.lslice 0 d.length]
noncomputable def mdS (neg:Bool) (d:List Int):St:=ib cL 300 81 (qy neg d) (mdH d)
def nY:AFr:=⟨81,none⟩
def mdA:Code:=bJ Tryz.prog 81 0
def mdP (i:Int):Patch:=⟨(5,.int true .i64 i) :: aC 10 12,[],[]⟩
def tlI (d:List Int) (y:Int):Int:=(Go.Dg.tl d y.toNat:Nat)
def mdU (d:List Int):SumL Int:=
 {
  S:=fun y=>mdP y
  I:=fun y=>0<=y/\y<=d.length
  μ:=fun y=>y.toNat
  F:=fun y=>(.exit 0,mdP (tlI d y))
  next:=fun y=>IntKind.i64.wrap (y - 1)
  ids:=fun _=>[]
  X:=fun y _=>some (mdP y,[]) }
end
end Go.Proofs.YtmnhhlnbfkfkaaaGreat.K
namespace Go.Proofs.YtmnhhlnbfkfkaaaGreat.K
open Go Go.Eng Go.Dg
noncomputable section
def AX (neg:Bool) (d:List Int):Prop:=(↑d.length:Int)=(↑d.length:Int)
theorem Kc (neg:Bool) (d:List Int):fit (mdS neg d) (mdS neg d) (ac (mdS neg d) ((mdU d).S (d.length:Int))) ([])=some (.p (AX neg d)):=by kernel_rfl
def CO (neg:Bool) (d:List Int) (i:Int):Prop:=(decide (i>0)=true->((0:Int)<=IntKind.i64.wrap (i - (1:Int))/\IntKind.i64.wrap (i - (1:Int))<(↑d.length:Int))/\(IntKind.i64.wrap (i - (1:Int))).toNat<d.length)/\((!bif decide (i>0) then d.getD (IntKind.i64.wrap (i - (1:Int))).toNat (0:Int)==0 else false)=true->i=i/\(mdU d).F i=(Ex.exit (0:Nat),mdP i))/\((bif decide (i>0) then d.getD (IntKind.i64.wrap (i - (1:Int))).toNat (0:Int)==0 else false)=true->IntKind.i64.wrap (i - (1:Int))=(mdU d).next i/\(mdU d).I ((mdU d).next i)/\(mdU d).μ ((mdU d).next i)<(mdU d).μ i/\(mdU d).F ((mdU d).next i)=(mdU d).F i)
theorem OY (neg:Bool) (d:List Int) (i:Int):aW (mdS neg d) ((mdU d).way (i)) ((run cL 300).code nY mdA (ac (mdS neg d) ((mdU d).S i)))=some (.p (CO neg d i)):=by kernel_rfl
theorem de:CtxOk cL:=fP aM (cw _) (fun x h=>by cases h) (fun x h=>by cases h)
theorem pj {d:List Int} {i:Int} (h:0<i):tlI d i=if d.getD (i - 1).toNat 0=0 then tlI d (i - 1) else i:=by
 unfold tlI
 obtain ⟨n,rfl⟩:∃ n:Nat,i=(n+1:Nat):=⟨(i - 1).toNat,by omega⟩
 have e1:((n+1:Nat):Int).toNat=n+1:=by omega
 have e2:(((n+1:Nat):Int) - 1).toNat=n:=by omega
 rw [e1,e2]
 simp only [tl]
 split <;> rfl
theorem OZ (neg:Bool) (d:List Int) (hs:Sm d):CodeOk cL nY (.loop mdA) (mdS neg d) ⟨.tt,[⟨.tt,.exit 0,ac (mdS neg d) (mdP (tlI d d.length))⟩]⟩:=by
 refine cY (aQ de 300) (mdU d) (y0:=(d.length:Int)) ⟨by omega,by omega⟩ ⟨_,Kc neg d,rfl⟩ (by kernel_rfl) (fun i hi=>⟨_,OY neg d i,?_⟩) rfl
 have hs:d.length<=500000:=hs
 have hi:0<=i/\i<=d.length:=hi
 refine ⟨fun h=>?_,fun h=>⟨rfl,?_⟩,fun h=>?_⟩
 .have h:=of_decide_eq_true h
  rw [iw (by omega) (by omega)]
  omega
 .show (Ex.exit 0,mdP (tlI d i))=(Ex.exit 0,mdP i)
  rw [iw (by omega) (by omega)] at h
  have h:=nbt.1 h
  by_cases h0:0<i
  .rw [pj h0,if_neg (neb.1 (h h0))]
  .have:i=0:=by omega
   subst this; rfl
 .have e:IntKind.i64.wrap (i - 1)=i - 1:=iw (by omega) (by omega)
  rw [e] at h ⊢
  obtain ⟨h0,h⟩:=bt.1 h
  have h:=eb.1 h
  have h0:0<i:=h0
  refine ⟨e.symm,?_,?_,?_⟩
  .show 0<=IntKind.i64.wrap (i - 1)/\IntKind.i64.wrap (i - 1)<=d.length
   rw [e]; omega
  .show (IntKind.i64.wrap (i - 1)).toNat<i.toNat
   rw [e]; omega
  .show (Ex.exit 0,mdP (tlI d (IntKind.i64.wrap (i - 1))))=(Ex.exit 0,mdP (tlI d i))
   rw [e,pj h0,if_pos h]
noncomputable def cMd (neg:Bool) (d:List Int):Ctx:=aw cL [aR 81 7 nY mdA (mdS neg d) (.exit 0) (mdP (tlI d d.length))]
theorem CP (neg:Bool) (d:List Int) (hs:Sm d):CtxOk (cMd neg d):=ak de (OZ neg d hs) (aq de)
noncomputable def mfS (neg:Bool) (d:List Int):St:=ib (cMd neg d) 300 81 (qy neg d) (mdH d)
def mfA:Code:=bJ Tryz.prog 81 1
def mfN (neg:Bool) (n:Int):Bool:=bif neg then decide (n>0) else false
def mfP (neg:Bool) (d:List Int) (n:Int):Option Int->Patch
 | none=>⟨(7,.int true .i64 0) :: aC 28 15,[],[]⟩
 | some i=>⟨(7,.int true .i64 i) :: aC 28 15,[(2,.cells [.bool true (mfN neg n),.islice true 3 0 i])],[.ints .i64 (d.take i.toNat)]⟩
def mfU (pos:Bool) (neg:Bool) (d:List Int):SumL (Option Int):=
 {
  S:=mfP neg d (tlI d d.length)
  I:=fun y=>match y with
   | none=>(pos=true->0<tlI d d.length)/\(pos=false->tlI d d.length=0)
   | some i=>pos=true/\1<=i/\i<=tlI d d.length
  μ:=fun y=>match y with
   | none=>(tlI d d.length).toNat
   | some i=>(tlI d d.length - i).toNat
  F:=fun _=>(.exit 2,mfP neg d (tlI d d.length) (bif pos then some (tlI d d.length) else none))
  next:=fun y=>match y with
   | none=>some (IntKind.i64.wrap (0+1))
   | some i=>some (IntKind.i64.wrap (i+1))
  ids:=fun y=>match y with
   | none=>[4]
   | some _=>[5]
  X:=fun y _=>some (mfP neg d (tlI d d.length) y,match y with|none=>[]|some _=>[3]) }
def AY (pos neg:Bool) (d:List Int):Prop:=(0:Int)=0
theorem Kd (pos neg:Bool) (d:List Int):fit (mfS neg d) (mfS neg d) (ac (mfS neg d) ((mfU pos neg d).S none)) ([])=some (.p (AY pos neg d)):=by kernel_rfl
def Ke (pos neg:Bool) (d:List Int):Prop:=(decide ((0:Int)<tlI d (↑d.length:Int))=true->((0:Int)<=0/\(0:Int)<(↑d.length:Int))/\Int.toNat (0:Int)<d.length)/\((!decide ((0:Int)<tlI d (↑d.length:Int)))=true->(0:Int)=0/\(mfU pos neg d).F none=(Ex.exit (2:Nat),mfP neg d (tlI d (↑d.length:Int)) none))/\(decide ((0:Int)<tlI d (↑d.length:Int))=true->(IntKind.i64.wrap ((0:Int)+1)=IntKind.i64.wrap ((0:Int)+1)/\((bif neg then decide (tlI d (↑d.length:Int)>0) else false)=mfN neg (tlI d (↑d.length:Int))/\(0:Nat)<nat_lit 0+(1:Nat)/\(↑(0:Nat):Int)=0/\(↑(nat_lit 0+(1:Nat)):Int)=IntKind.i64.wrap ((0:Int)+1))/\[d.getD (Int.toNat (0:Int)) (0:Int)]=List.take (IntKind.i64.wrap ((0:Int)+1)).toNat d)/\(mfU pos neg d).I ((mfU pos neg d).next none)/\(mfU pos neg d).μ ((mfU pos neg d).next none)<(mfU pos neg d).μ none/\(mfU pos neg d).F ((mfU pos neg d).next none)=(mfU pos neg d).F none)
theorem Ys (pos neg:Bool) (d:List Int):aW (mfS neg d) ((mfU pos neg d).way (none)) ((run (cMd neg d) 300).code nY mfA (ac (mfS neg d) ((mfU pos neg d).S none)))=some (.p (Ke pos neg d)):=by kernel_rfl
def Kf (pos neg:Bool) (d:List Int) (i:Int):Prop:=(decide (i<tlI d (↑d.length:Int))=true->((0:Int)<=i/\i<(↑d.length:Int))/\i.toNat<d.length/\((0:Int)=0/\i=i)/\(0:Int)=0/\(0:Int)<i/\i=(↑(List.take i.toNat d).length:Int)/\i+(↑(1:Nat):Int)<=1048576)/\((!decide (i<tlI d (↑d.length:Int)))=true->(i=i/\(mfN neg (tlI d (↑d.length:Int))=mfN neg (tlI d (↑d.length:Int))/\(0:Int)=0/\i=i)/\List.take i.toNat d=List.take i.toNat d)/\(mfU pos neg d).F (some i)=(Ex.exit (2:Nat),mfP neg d (tlI d (↑d.length:Int)) (some i)))/\(decide (i<tlI d (↑d.length:Int))=true->(IntKind.i64.wrap (i+1)=IntKind.i64.wrap (i+1)/\(mfN neg (tlI d (↑d.length:Int))=mfN neg (tlI d (↑d.length:Int))/\(0:Int)=0/\i+(↑(1:Nat):Int)=IntKind.i64.wrap (i+1))/\List.take i.toNat d++[d.getD i.toNat (0:Int)]=List.take (IntKind.i64.wrap (i+1)).toNat d)/\(mfU pos neg d).I ((mfU pos neg d).next (some i))/\(mfU pos neg d).μ ((mfU pos neg d).next (some i))<(mfU pos neg d).μ (some i)/\(mfU pos neg d).F ((mfU pos neg d).next (some i))=(mfU pos neg d).F (some i))
theorem Yt (pos neg:Bool) (d:List Int) (i:Int):aW (mfS neg d) ((mfU pos neg d).way (some i)) ((run (cMd neg d) 300).code nY mfA (ac (mfS neg d) ((mfU pos neg d).S (some i))))=some (.p (Kf pos neg d i)):=by kernel_rfl
theorem xW (d:List Int):0<=tlI d d.length/\tlI d d.length<=d.length:=by
 have:=J7 d d.length
 unfold tlI
 rw [show ((d.length:Int)).toNat=d.length by omega]
 omega
theorem SR {d:List Int} {i:Int} (h0:0<=i) (h:i<d.length):d.take i.toNat++[d.getD i.toNat 0]=d.take (i+1).toNat:=by
 rw [show (i+1).toNat=i.toNat+1 by omega,List.take_add_one,List.getD_eq_getElem?_getD,List.getElem?_eq_getElem (by omega)]
 rfl
theorem O0 (pos neg:Bool) (d:List Int) (hs:Sm d) (hp:pos=decide (0<tlI d d.length)):CodeOk (cMd neg d) nY (.loop mfA) (mfS neg d) ⟨.tt,[⟨.tt,.exit 2,ac (mfS neg d) (mfP neg d (tlI d d.length) (bif pos then some (tlI d d.length) else none))⟩]⟩:=by
 obtain ⟨n0,n1⟩:=xW d
 have hs2:=hs.le
 refine cY (aQ (CP neg d hs) 300) (mfU pos neg d) (y0:=none) ?_ ⟨_,Kd pos neg d,rfl⟩ (by kernel_rfl) (fun y hy=>?_) rfl
 .refine ⟨fun h=>?_,fun h=>?_⟩
  .rw [hp] at h; exact of_decide_eq_true h
  .rw [hp] at h; have:=of_decide_eq_false h; omega
 .cases y with
  | none=>
   refine ⟨_,Ys pos neg d,?_⟩
   obtain ⟨p1,p2⟩:=(show (pos=true->0<tlI d d.length)/\(pos=false->tlI d d.length=0) from hy)
   refine ⟨fun h=>?_,fun h=>⟨rfl,?_⟩,fun h=>?_⟩
   .have h:=dt.1 h
    exact ⟨⟨by omega,by omega⟩,by show 0<d.length; omega⟩
   .have h:=ndt.1 h
    cases pos with
    | true=>exact absurd (p1 rfl) h
    | false=>rfl
   .have h:=dt.1 h
    have e:IntKind.i64.wrap ((0:Int)+1)=1:=by decide
    have hpos:pos=true:=by
     cases pos with
     | true=>rfl
     | false=>have:=p2 rfl; omega
    refine ⟨⟨rfl,⟨rfl,by decide,rfl,by decide⟩,?_⟩,?_,?_,rfl⟩
    .rw [e]; exact SR (i:=0) (by omega) (by omega)
    .show pos=true/\1<=IntKind.i64.wrap ((0:Int)+1)/\IntKind.i64.wrap ((0:Int)+1)<=tlI d d.length
     rw [e]; exact ⟨hpos,by omega,by omega⟩
    .show (tlI d d.length - IntKind.i64.wrap ((0:Int)+1)).toNat<(tlI d d.length).toNat
     rw [e]; omega
  | some i=>
   refine ⟨_,Yt pos neg d i,?_⟩
   obtain ⟨hpos,i1,i2⟩:=(show pos=true/\1<=i/\i<=tlI d d.length from hy)
   have e:IntKind.i64.wrap (i+1)=i+1:=iw (by omega) (by omega)
   refine ⟨fun h=>?_,fun h=>⟨⟨rfl,⟨rfl,rfl,rfl⟩,rfl⟩,?_⟩,fun h=>?_⟩
   .have h:=dt.1 h
    refine ⟨⟨by omega,by omega⟩,by omega,⟨rfl,rfl⟩,rfl,by omega,?_,by omega⟩
    rw [List.length_take]; omega
   .have h:=ndt.1 h
    have:i=tlI d d.length:=by omega
    rw [hpos]
    show (Ex.exit 2,mfP neg d (tlI d d.length) (some (tlI d d.length)))=_
    rw [<- this]
   .have h:=dt.1 h
    refine ⟨⟨rfl,⟨rfl,rfl,?_⟩,?_⟩,?_,?_,rfl⟩
    .rw [e]; rfl
    .rw [e]; exact SR (by omega) (by omega)
    .show pos=true/\1<=IntKind.i64.wrap (i+1)/\IntKind.i64.wrap (i+1)<=tlI d d.length
     rw [e]; exact ⟨hpos,by omega,by omega⟩
    .show (tlI d d.length - IntKind.i64.wrap (i+1)).toNat<(tlI d d.length - i).toNat
     rw [e]; omega
noncomputable def cMe (pos neg:Bool) (d:List Int):Ctx:=aw (cMd neg d) [aR 81 18 nY mfA (mfS neg d) (.exit 2) (mfP neg d (tlI d d.length) (bif pos then some (tlI d d.length) else none))]
theorem Kg (pos neg:Bool) (d:List Int) (hs:Sm d) (hp:pos=decide (0<tlI d d.length)):CtxOk (cMe pos neg d):=ak (CP neg d hs) (O0 pos neg d hs hp) (aq (CP neg d hs))
def O1 (neg:Bool) (d:List Int):Prop:=(At (nY) (nY) (mdA) (mdA) (mdS neg d) (mdS neg d)/\At (nY) (nY) (mfA) (mfA) (mfS neg d) (mfS neg d))
def Ud (neg:Bool) (d:List Int):AV:=(AV.agg [AV.bool true (mfN neg (tlI d (↑d.length:Int))),AV.islice true 1 (0:Int) (tlI d (↑d.length:Int))])
def Ue (neg:Bool) (d:List Int):Hp:=⟨[{ wr:=18,body:=ABody.ints IntKind.i64 (List.take (tlI d (↑d.length:Int)).toNat d) },{ wr:=(0:Nat),body:=ABody.rows IntKind.i64 d }],2,21⟩
theorem abz (neg:Bool) (d:List Int):(run (cMe true neg d) 300).call 81 (qy neg d) (mdH d)=some ⟨.p (O1 neg d),[⟨.tt,Ud neg d,Ue neg d⟩]⟩:=by kernel_rfl
def O2 (neg:Bool) (d:List Int):Prop:=(At (nY) (nY) (mdA) (mdA) (mdS neg d) (mdS neg d)/\At (nY) (nY) (mfA) (mfA) (mfS neg d) (mfS neg d))
def Uf (neg:Bool) (d:List Int):AV:=(AV.agg [AV.bool true (bif neg then decide (tlI d (↑d.length:Int)>0) else false),AV.nilslice])
def Ug (neg:Bool) (d:List Int):Hp:=⟨[{ wr:=(0:Nat),body:=ABody.rows IntKind.i64 d }],1,21⟩
theorem abB (neg:Bool) (d:List Int):(run (cMe false neg d) 300).call 81 (qy neg d) (mdH d)=some ⟨.p (O2 neg d),[⟨.tt,Uf neg d,Ug neg d⟩]⟩:=by kernel_rfl
def mdV:List Nu->List (List Int)->Option (Prop×To)
 | [.t neg],[d]=>some (Dig d/\Sm d,.st [.bo (neg&&decide (val d≠0)),.li true (aa (val d).toNat)])
 | _,_=>none
theorem E5 {d:List Int} (h:Dig d):0<tlI d d.length ↔ val d≠0:=by
 have h1:=OV h
 have e:tlI d d.length=(tl d d.length:Nat):=by
  unfold tlI
  rw [show ((d.length:Int)).toNat=d.length by omega]
 rw [e]
 constructor
 .intro h h2; have:=h1.2 h2; omega
 .intro h2; have:=mt h1.1 h2; omega
theorem AZ {d:List Int} (h:Dig d):d.take (tlI d d.length).toNat=aa (val d).toNat:=by
 rw [<- EZ h]
 have e:(tlI d d.length).toNat=tl d d.length:=by
  unfold tlI
  rw [show ((d.length:Int)).toNat=d.length by omega]
  omega
 rw [e]
theorem O3:NOk Tryz.prog (fun _=>none) hG0 81 (au hG0 .i64 [.nu .b,.li] mdV):=by
 refine nP (show hG0.ok from rfl) rfl (fun _ _ h=>by cases h) (fun xs ys p t e h=>?_) ⟨_,Tryz.func81,rfl⟩
 unfold mdV at e
 split at e
 .rename_i neg d
  cases e
  obtain ⟨hd,hs⟩:=h
  obtain ⟨n0,n1⟩:=xW d
  have hN:mfN neg (tlI d d.length)=(neg&&decide (val d≠0)):=by
   unfold mfN
   rw [decide_eq_decide.2 (E5 hd)]
   cases neg <;> rfl
  by_cases hp:0<tlI d d.length
  .refine ⟨cMe true neg d,300,qy neg d,_,_,_,_,_,Kg true neg d hs (by simp [hp]),rfl,rfl,⟨rfl,rfl,trivial⟩,abz neg d,rfl,⟨⟨rfl,rfl,rfl⟩,rfl,rfl,rfl⟩,rfl,rfl,⟨hN,⟨rfl,?_⟩,AZ hd⟩⟩
   show tlI d d.length=((d.take (tlI d d.length).toNat).length:Int)
   rw [List.length_take]; omega
  .have hv:val d=0:=by
    have:=mt (E5 hd).2 hp
    omega
   refine ⟨cMe false neg d,300,qy neg d,_,_,_,_,_,Kg false neg d hs (by simp [hp]),rfl,rfl,⟨rfl,rfl,trivial⟩,abB neg d,rfl,⟨⟨rfl,rfl,rfl⟩,rfl,rfl,rfl⟩,rfl,rfl,⟨hN,?_⟩⟩
   rw [hv]; exact bS.symm
 .cases e
end
end Go.Proofs.YtmnhhlnbfkfkaaaGreat.K
namespace Go.Dg
def xX (a b:List Int):Nat->Bool
 | 0=>false
 | n+1=>if a.getD n 0=b.getD n 0 then xX a b n else true
def iV (a b:List Int) (i:Int):Bool:=xX a b (i+1).toNat
def r8 (a b:List Int) (i:Int):Bool:=jI a b (i+1).toNat
def CQ (a b:List Int):Nat->Nat->Bool
 | 0,_=>false
 | n+1,i=>if a.getD i 0=b.getD i 0 then CQ a b n (i+1) else true
def lN (a b:List Int) (i:Int):Bool:=CQ a b (a.length - i).toNat i.toNat
theorem pk {a b:List Int} {i:Int} (h:0<=i):iV a b i=if a.getD i.toNat 0=b.getD i.toNat 0 then iV a b (i - 1) else true:=by
 unfold iV
 rw [show (i+1).toNat=i.toNat+1 by omega,show (i - 1+1).toNat=i.toNat by omega,xX]
theorem A0 {a b:List Int} {i:Int} (h:0<=i):r8 a b i=if a.getD i.toNat 0=b.getD i.toNat 0 then r8 a b (i - 1) else decide (a.getD i.toNat 0<b.getD i.toNat 0):=by
 unfold r8
 rw [show (i+1).toNat=i.toNat+1 by omega,show (i - 1+1).toNat=i.toNat by omega,jI]
theorem Kh {a b:List Int}:∀ n,xX a b n=false->jI a b n=false
 | 0,_=>rfl
 | n+1,h=>by
  simp only [xX] at h
  simp only [jI]
  split at h
  .rename_i e; rw [if_pos e]; exact Kh n h
  .cases h
theorem A3 {a b:List Int} {i:Int} (h:0<=i) (h2:i<a.length):lN a b i=if a.getD i.toNat 0=b.getD i.toNat 0 then lN a b (i+1) else true:=by
 unfold lN
 rw [show (a.length - i).toNat=(a.length - (i+1)).toNat+1 by omega,show (i+1).toNat=i.toNat+1 by omega,CQ]
theorem uF {a b:List Int}:∀ (n i:Nat),CQ a b n i=false->∀ j,i<=j->j<i+n->a.getD j 0=b.getD j 0
 | 0,i,_,j,h1,h2=>by omega
 | n+1,i,h,j,h1,h2=>by
  simp only [CQ] at h
  split at h
  .rename_i e
   rcases Nat.lt_or_ge i j with h3|h3
   .exact uF n (i+1) h j (by omega) (by omega)
   .rw [show j=i by omega]; exact e
  .cases h
theorem wl {a:List Int}:∀ (n i:Nat),CQ a a n i=false
 | 0,i=>rfl
 | n+1,i=>by rw [CQ,if_pos rfl]; exact wl n (i+1)
theorem O4 {a b:List Int} (h:a.length=b.length):lN a b 0=false ↔ a=b:=by
 unfold lN
 rw [show ((a.length:Int) - 0).toNat=a.length by omega]
 constructor
 .intro e
  apply List.ext_getElem h
  intro j h1 h2
  have:=uF _ _ e j (by omega) (by show j<0+a.length; omega)
  rw [List.getD_eq_getElem?_getD,List.getD_eq_getElem?_getD,List.getElem?_eq_getElem h1,List.getElem?_eq_getElem h2] at this
  exact this
 .rintro rfl; exact wl _ _
theorem jJ {x y:Int}:(x != y)=true ↔ x≠y:=by simp
theorem wm {x y:Int}:(x != y)=false ↔ x=y:=by simp
theorem Ki {x y:Int}:(!x != y)=true ↔ x=y:=by
 have:(!x != y)=(x==y):=by simp [bne]
 rw [this]; exact eb
theorem rI {p:Prop} [Decidable p] {b:Bool}:(decide p&&b)=true ↔ p/\b=true:=by
 by_cases h:p <;> simp [h]
end Go.Dg
namespace Go.Dg
open Go.Eng
def okL (neg:Bool) (d:List Int):Prop:=Dig d/\Top d/\(neg=true->d≠[])/\Sm d
def zv (neg:Bool) (d:List Int):Int:=bif neg then -val d else val d
def lgT (own:Bool) (z:Int):To:=.st [.bo (decide (z<0)),.li own (aa z.natAbs)]
theorem okL.val_pos {neg:Bool} {d:List Int} (h:okL neg d) (hn:neg=true):0<val d:=by
 have h1:=af h.1
 have h2:=qx h.1 h.2.1 (h.2.2.1 hn)
 omega
theorem okL.neg_eq {neg:Bool} {d:List Int} (h:okL neg d):neg=decide (zv neg d<0):=by
 cases neg with
 | true=>have:=h.val_pos rfl; exact (decide_eq_true (show -val d<0 by omega)).symm
 | false=>have:=af h.1; exact (decide_eq_false (show ¬ val d<0 by omega)).symm
theorem okL.digs_eq {neg:Bool} {d:List Int} (h:okL neg d):aa (zv neg d).natAbs=d:=by
 have h0:=af h.1
 have e:(zv neg d).natAbs=(val d).toNat:=by
  cases neg <;> simp [zv] <;> omega
 rw [e,du h.1 h.2.1]
theorem O5 {n:Nat} (h:(n:Int)<pw 500000):Sm (aa n):=by
 rcases Nat.lt_or_ge 500000 (aa n).length with h1|h1
 .have:=xT (ay n) (fa n) (by intro e; rw [e] at h1; simp at h1)
  rw [dn] at this
  have:=bN (show 500000<=(aa n).length - 1 by omega)
  omega
 .exact h1
theorem lO {z:Int} (h:(z.natAbs:Int)<pw 500000):okL (decide (z<0)) (aa z.natAbs):=by
 refine ⟨ay _,fa _,fun hn=>?_,O5 h⟩
 intro e
 have:=uE.1 e
 have:=of_decide_eq_true hn
 omega
theorem gI (z:Int):zv (decide (z<0)) (aa z.natAbs)=z:=by
 unfold zv
 rw [dn]
 by_cases h:z<0
 .rw [decide_eq_true h]; simp only [cond_true]; omega
 .rw [decide_eq_false h]; simp only [cond_false]; omega
theorem dX {n k:Nat} (h:(n:Int)<pw k):(aa n).length<=k:=by
 rcases Nat.lt_or_ge k (aa n).length with h1|h1
 .have:=xT (ay n) (fa n) (by intro e; rw [e] at h1; simp at h1)
  rw [dn] at this
  have:=bN (show k<=(aa n).length - 1 by omega)
  omega
 .exact h1
end Go.Dg
namespace Go.Dg
open Go Go.Eng
def ofD (m:Int):Int:=bif decide (m.tmod 1000000000<0) then IntKind.i64.wrap (0 - m.tmod 1000000000) else m.tmod 1000000000
theorem Kj (m:Int):ofD m=(m.natAbs % 1000000000:Nat):=by
 have h:=Int.natAbs_tmod m 1000000000
 have h3:m.natAbs % 1000000000<1000000000:=Nat.mod_lt _ (by decide)
 have e:(1000000000:Int).natAbs=1000000000:=rfl
 rw [e] at h
 unfold ofD
 by_cases h0:m.tmod 1000000000<0
 .rw [decide_eq_true h0,cond_true,iw (by omega) (by omega)]; omega
 .rw [decide_eq_false h0,cond_false]; omega
theorem A4 (m:Int) (h:m.natAbs<=9223372036854775808):IntKind.i64.wrap (m.tdiv 1000000000)=m.tdiv 1000000000/\(m.tdiv 1000000000).natAbs=m.natAbs / 1000000000:=by
 have h2:(m.tdiv 1000000000).natAbs=m.natAbs / 1000000000:=Int.natAbs_tdiv m 1000000000
 exact ⟨iw (by omega) (by omega),h2⟩
def ofI (n:Int) (m:Int) (ds:List Int):Prop:=ds≠[]/\Dig ds/\val ds+pw ds.length*m.natAbs=n.natAbs/\(m=0->Top ds)/\m.natAbs<=9223372036854775808
theorem E6 {l:List Int} {x:Int} (h:x≠0):Top (l++[x]):=by
 right
 simpa [List.getD_eq_getElem?_getD] using h
theorem Kk {n:Int} (h:n≠0) (hb:n.natAbs<=9223372036854775808):ofI n (n.tdiv 1000000000) [ofD n]:=by
 obtain ⟨_,h2⟩:=A4 n hb
 have h1:=Kj n
 refine ⟨by simp,bB.2 ⟨by rw [h1]; omega,b9⟩,?_,fun h0=>?_,by omega⟩
 .rw [h2,h1]; simp only [val,pw,List.length_cons,List.length_nil]; omega
 .rw [h0] at h2
  refine E6 (l:=[]) ?_
  rw [h1]
  have:(0:Int).natAbs=0:=rfl
  omega
theorem O6 {n m:Int} {ds:List Int} (h:m≠0) (hI:ofI n m ds):ofI n (m.tdiv 1000000000) (ds++[ofD m]):=by
 obtain ⟨i1,i2,i3,i4,i5⟩:=hI
 obtain ⟨_,h2⟩:=A4 m i5
 have h1:=Kj m
 refine ⟨by simp,ph.2 ⟨i2,bB.2 ⟨by rw [h1]; omega,b9⟩⟩,?_,fun h0=>?_,by omega⟩
 .rw [jb,h2,h1,List.length_append,<- i3]
  simp only [val,List.length_cons,List.length_nil,Nat.zero_add]
  have e:(m.natAbs:Int)=((m.natAbs % 1000000000:Nat):Int)+1000000000*((m.natAbs / 1000000000:Nat):Int):=by omega
  have e2:pw ds.length*(m.natAbs:Int)=pw ds.length*((m.natAbs % 1000000000:Nat):Int)+1000000000*pw ds.length*((m.natAbs / 1000000000:Nat):Int):=by
   conv=>lhs; rw [e]
   rw [Int.mul_add,<- Int.mul_assoc,Int.mul_comm (pw ds.length) (1000000000:Int)]
  rw [show pw (ds.length+1)=1000000000*pw ds.length from rfl,e2]
  simp only [Int.mul_zero,Int.add_zero]
  omega
 .rw [h0] at h2
  refine E6 ?_
  rw [h1]
  have:(0:Int).natAbs=0:=rfl
  omega
theorem Uh {n:Int} {ds:List Int} (hI:ofI n 0 ds):ds=aa n.natAbs:=by
 obtain ⟨i1,i2,i3,i4,_⟩:=hI
 have:val ds=n.natAbs:=by rw [<- i3]; simp
 rw [<- du i2 (i4 rfl),this]
 congr 1
theorem Ui {n m:Int} {ds:List Int} (h:m≠0) (hI:ofI n m ds) (hn:n.natAbs<=9223372036854775808):ds.length<8:=by
 obtain ⟨i1,i2,i3,i4,_⟩:=hI
 have h1:=af i2
 have h2:pw ds.length*1<=pw ds.length*m.natAbs:=Int.mul_le_mul_of_nonneg_left (by omega) (Int.le_of_lt (pw_pos _))
 have h3:pw 8=1000000000000000000000000000000000000000000000000000000000000000000000000:=by decide
 exact SQ (by omega)
def suD (a b:List Int) (i c:Int):Int:=IntKind.i64.wrap (IntKind.i64.wrap ((bif decide (i<a.length) then a.getD i.toNat 0 else 0)+(bif decide (i<b.length) then b.getD i.toNat 0 else 0))+c)
theorem A5 {a:List Int} {i:Int} (h:0<=i):(bif decide (i<a.length) then a.getD i.toNat 0 else 0)=a.getD i.toNat 0:=by
 by_cases h0:i<a.length
 .rw [decide_eq_true h0]; rfl
 .rw [decide_eq_false h0,sB (by omega)]; rfl
theorem CS {a b:List Int} (ha:Dig a) (hb:Dig b) {i c:Int} (hi:0<=i) (hc:0<=c/\c<=1):suD a b i c=a.getD i.toNat 0+b.getD i.toNat 0+c:=by
 have h1:=ha.get i.toNat
 have h2:=hb.get i.toNat
 unfold suD
 rw [A5 hi,A5 hi]
 have e1:IntKind.i64.wrap (a.getD i.toNat 0+b.getD i.toNat 0)=a.getD i.toNat 0+b.getD i.toNat 0:=iw (by omega) (by omega)
 rw [e1,iw (by omega) (by omega)]
def diD (a b:List Int) (i c:Int):Int:=IntKind.i64.wrap (IntKind.i64.wrap (a.getD i.toNat 0 - (bif decide (i<b.length) then b.getD i.toNat 0 else 0)) - c)
def diC (a b:List Int) (i c:Int):Int:=bif decide (diD a b i c<0) then 1 else 0
def diR (a b:List Int) (i c:Int):Int:=bif decide (diD a b i c<0) then IntKind.i64.wrap (diD a b i c+1000000000) else diD a b i c
theorem Kl {a b:List Int} (ha:Dig a) (hb:Dig b) {i c:Int} (hi:0<=i) (hc:0<=c/\c<=1):diD a b i c=a.getD i.toNat 0 - b.getD i.toNat 0 - c:=by
 have h1:=ha.get i.toNat
 have h2:=hb.get i.toNat
 unfold diD
 rw [A5 hi]
 have e1:IntKind.i64.wrap (a.getD i.toNat 0 - b.getD i.toNat 0)=a.getD i.toNat 0 - b.getD i.toNat 0:=iw (by omega) (by omega)
 rw [e1,iw (by omega) (by omega)]
theorem Km {a b:List Int} (ha:Dig a) (hb:Dig b) {i c:Int} (hi:0<=i) (hc:0<=c/\c<=1):diC a b i c=if a.getD i.toNat 0 - b.getD i.toNat 0 - c<0 then 1 else 0:=by
 unfold diC
 rw [Kl ha hb hi hc]
 by_cases h:a.getD i.toNat 0 - b.getD i.toNat 0 - c<0
 .rw [if_pos h,decide_eq_true h]; rfl
 .rw [if_neg h,decide_eq_false h]; rfl
theorem Kn {a b:List Int} (ha:Dig a) (hb:Dig b) {i c:Int} (hi:0<=i) (hc:0<=c/\c<=1):diR a b i c=if a.getD i.toNat 0 - b.getD i.toNat 0 - c<0 then a.getD i.toNat 0 - b.getD i.toNat 0 - c+1000000000 else a.getD i.toNat 0 - b.getD i.toNat 0 - c:=by
 have h1:=ha.get i.toNat
 have h2:=hb.get i.toNat
 unfold diR
 rw [Kl ha hb hi hc]
 by_cases h:a.getD i.toNat 0 - b.getD i.toNat 0 - c<0
 .rw [if_pos h,decide_eq_true h,cond_true,iw (by omega) (by omega)]
 .rw [if_neg h,decide_eq_false h]; rfl
theorem td (l:List Int):List.take (l.length:Int).toNat (List.drop (Int.toNat (0:Int)) l)=l:=by
 rw [show ((l.length:Int)).toNat=l.length by omega,show (Int.toNat (0:Int))=0 from rfl,List.drop_zero,List.take_length]
theorem kK {l:List Int}:(0:Int)<=0/\(0:Int)<=(l.length:Int)/\(0:Int)+(l.length:Int)<=(l.length:Int):=by omega
end Go.Dg
namespace Go.Dg
theorem jl {p:Bool} {v z:Int} (h0:0<=v) (hz:z=bif p then -v else v):(p&&decide (v≠0))=decide (z<0):=by
 subst hz
 cases p with
 | false=>rw [Bool.false_and,cond_false]; exact (decide_eq_false (by omega)).symm
 | true=>rw [Bool.true_and,cond_true]; exact decide_eq_decide.2 (by omega)
theorem jm {p:Bool} {v z:Int} (h0:0<=v) (hz:z=bif p then -v else v):v.toNat=z.natAbs:=by
 subst hz
 cases p with
 | false=>rw [cond_false]; omega
 | true=>rw [cond_true]; omega
end Go.Dg
namespace Go.Dg
open Go Go.Eng
def aG:Nat->Int->List Int
 | 0,_=>[]
 | n+1,v=>v % 1000000000 :: aG n (v / 1000000000)
theorem a6:∀ (n:Nat) (v:Int),(aG n v).length=n
 | 0,_=>rfl
 | n+1,v=>by simp [aG,a6 n]
theorem c5:∀ (n:Nat) (v:Int),Dig (aG n v)
 | 0,_=>b9
 | n+1,v=>bB.2 ⟨by omega,c5 n _⟩
theorem dw:∀ {n:Nat} {v:Int},0<=v->v<pw n->val (aG n v)=v
 | 0,v,h0,h1=>by
  have:pw 0=1:=rfl
  simp only [aG,val]; omega
 | n+1,v,h0,h1=>by
  simp only [aG,val]
  have h2:pw (n+1)=1000000000*pw n:=rfl
  rw [dw (by omega) (by omega)]
  omega
theorem E7:∀ {d:List Int},Dig d->d=aG d.length (val d)
 | [],_=>rfl
 | x :: l,h=>by
  have h:=bB.1 h
  simp only [List.length_cons,aG,val]
  rw [show (x+1000000000*val l) % (1000000000:Int)=x by omega,show (x+1000000000*val l) / (1000000000:Int)=val l by omega,<- E7 h.2]
theorem pm:∀ n,List.replicate n (0:Int)=aG n 0
 | 0=>rfl
 | n+1=>by simp [List.replicate_succ,aG,<- pm n]
theorem gU {d:List Int} (h:Dig d) {n:Nat} {v:Int} (hl:d.length=n) (hv:val d=v):d=aG n v:=by
 subst hl hv; exact E7 h
theorem ndf {p:Prop} [Decidable p] (h:¬p):decide p=false:=decide_eq_false h
def prV (a b:List Int) (i k:Int):Int:=val (a.take i.toNat)*val b+pw i.toNat*(a.getD i.toNat 0*val (b.take k.toNat))
def prL (a b:List Int) (i k:Int):List Int:=aG (a.length+b.length) (prV a b i k)
theorem E8 {b:List Int} (hb:Dig b) (k:Nat):val (b.take k)<=val b:=by
 have e:val b=val (b.take k)+pw (b.take k).length*val (b.drop k):=by rw [<- jb,List.take_append_drop]
 have:=Int.mul_nonneg (Int.le_of_lt (pw_pos (b.take k).length)) (af (hb.drop k))
 omega
theorem CT {a b:List Int} (ha:Dig a) (hb:Dig b) (i k:Int):0<=prV a b i k/\prV a b i k<pw (a.length+b.length):=by
 have h1:=ha.get i.toNat
 have h2:=af hb
 have h3:=af (ha.take i.toNat)
 have h4:=af (hb.take k.toNat)
 have h5:=Int.mul_nonneg h3 h2
 have h6:=Int.mul_nonneg (Int.le_of_lt (pw_pos i.toNat)) (Int.mul_nonneg h1.1 h4)
 refine ⟨by unfold prV; omega,?_⟩
 have q1:pw i.toNat*(a.getD i.toNat 0*val (b.take k.toNat))<=pw i.toNat*(a.getD i.toNat 0*val b):=Int.mul_le_mul_of_nonneg_left (Int.mul_le_mul_of_nonneg_left (E8 hb _) h1.1) (Int.le_of_lt (pw_pos _))
 have q2:=E4 a b i.toNat
 have q3:val (a.take (i.toNat+1))*val b<=val a*val b:=Int.mul_le_mul_of_nonneg_right (E8 ha _) h2
 have q4:val a*val b<pw (a.length+b.length):=by
  rcases Ub ha hb with h|⟨h,h'⟩
  .exact h
  .rw [h',h]; decide
 unfold prV
 omega
theorem Ko {a b:List Int} {i k:Int} (hk:0<=k):prV a b i (k+1)=prV a b i k+pw (i.toNat+k.toNat)*(a.getD i.toNat 0*b.getD k.toNat 0):=by
 unfold prV
 rw [show (k+1).toNat=k.toNat+1 by omega,vi]
 omega
theorem O7 {a b:List Int} {i:Int} (hi:0<=i):prV a b i b.length=prV a b (i+1) 0:=by
 unfold prV
 rw [show (i+1).toNat=i.toNat+1 by omega,E4,show ((b.length:Int)).toNat=b.length by omega,List.take_length,show (0:Int).toNat=0 from rfl]
 simp [val]
def prI (a b:List Int) (i k:Int) (j n:Int) (d:List Int):Prop:=
 Dig d/\d.length=a.length+b.length/\0<=j/\0<=n/\n<=1000000000000000000/\val d+pw j.toNat*n=prV a b i (k+1)
theorem O8 {a b:List Int} {i k j n:Int} {d:List Int} (h:prI a b i k j n d) (h0:¬ n>0):d=prL a b i (k+1):=by
 obtain ⟨h1,h2,h3,h4,h5,h6⟩:=h
 have:n=0:=by omega
 subst this
 exact gU h1 h2 (by rw [<- h6]; simp)
theorem CU {a b:List Int} {i k j n:Int} {d:List Int} (ha:Dig a) (hb:Dig b) (h:prI a b i k j n d) (h0:n>0):j.toNat<d.length:=by
 obtain ⟨h1,h2,h3,h4,h5,h6⟩:=h
 have:=CT ha hb i (k+1)
 exact Ka h1 h0 (by rw [h6,h2]; exact this.2)
theorem Kp {a b:List Int} {i k j n:Int} {d:List Int} (ha:Dig a) (hb:Dig b) (h:prI a b i k j n d) (h0:n>0):prI a b i k (j+1) ((n+d.getD j.toNat 0).tdiv 1000000000) (d.set j.toNat ((n+d.getD j.toNat 0).tmod 1000000000)):=by
 have hj:=CU ha hb h h0
 obtain ⟨h1,h2,h3,h4,h5,h6⟩:=h
 obtain ⟨s1,s2,s3,_⟩:=CN h1 h4 hj
 have hg:=h1.get j.toNat
 refine ⟨s1,by rw [List.length_set,h2],by omega,s2,?_,?_⟩
 .rw [Int.tdiv_eq_ediv_of_nonneg (by omega)]; omega
 .rw [show (j+1).toNat=j.toNat+1 by omega,s3,h6]
theorem GO {a b:List Int} (ha:Dig a) (hb:Dig b) {i k:Int} (hi:0<=i) (hk:0<=k):prI a b i k (i+k) (a.getD i.toNat 0*b.getD k.toNat 0) (prL a b i k):=by
 have h1:=ha.get i.toNat
 have h2:=hb.get k.toNat
 have h3:=CT ha hb i k
 have hm:=Int.mul_nonneg h1.1 h2.1
 have hu:a.getD i.toNat 0*b.getD k.toNat 0<=1000000000*1000000000:=Int.mul_le_mul (by omega) (by omega) h2.1 (by decide)
 refine ⟨c5 _ _,a6 _ _,by omega,hm,by omega,?_⟩
 unfold prL
 rw [dw h3.1 h3.2,Ko hk,show (i+k).toNat=i.toNat+k.toNat by omega]
def tkQ (D b:List Int):Int:=IntKind.i64.wrap ((IntKind.i64.wrap (IntKind.i64.wrap ((bif decide (IntKind.i64.wrap (IntKind.i64.wrap ((b.length:Int) - 1)+1)<(D.length:Int)) then D.getD (0+IntKind.i64.wrap (IntKind.i64.wrap ((b.length:Int) - 1)+1)).toNat 0 else 0)*1000000000)+D.getD (0+IntKind.i64.wrap ((b.length:Int) - 1)).toNat 0)).tdiv (IntKind.i64.wrap (b.getD (IntKind.i64.wrap ((b.length:Int) - 1)).toNat 0+1)))
def tkK (D b:List Int):Int:=bif tkQ D b==0 then 1 else tkQ D b
theorem Uj {D b:List Int} (hD:Dig D) (hb:Dig b) (sb:b.length<=500000) (hne:b≠[]):tkQ D b=xU D b:=by
 have hpos:=List.length_pos_iff.2 hne
 have e1:IntKind.i64.wrap ((b.length:Int) - 1)=b.length - 1:=iw (by omega) (by omega)
 have e2:IntKind.i64.wrap ((b.length:Int) - 1+1)=b.length:=by rw [iw (by omega) (by omega)]; omega
 have g1:=hD.get b.length
 have g2:=hD.get (b.length - 1)
 have g3:=hb.get (b.length - 1)
 have e3:(bif decide ((b.length:Int)<(D.length:Int)) then D.getD (0+(b.length:Int)).toNat 0 else 0)=D.getD b.length 0:=by
  have:=A5 (a:=D) (i:=(b.length:Int)) (by omega)
  rw [show (0+(b.length:Int))=b.length by omega,this]
  congr 1
 unfold tkQ xU
 rw [e1,e2,e3,show (0+((b.length:Int) - 1)).toNat=b.length - 1 by omega,show ((b.length:Int) - 1).toNat=b.length - 1 by omega]
 have e4:IntKind.i64.wrap (D.getD b.length 0*1000000000)=D.getD b.length 0*1000000000:=iw (by omega) (by omega)
 have e5:IntKind.i64.wrap (D.getD b.length 0*1000000000+D.getD (b.length - 1) 0)=D.getD b.length 0*1000000000+D.getD (b.length - 1) 0:=iw (by omega) (by omega)
 have e6:IntKind.i64.wrap (b.getD (b.length - 1) 0+1)=b.getD (b.length - 1) 0+1:=iw (by omega) (by omega)
 rw [e4,e5,e6]
 have h0:0<=D.getD b.length 0*1000000000+D.getD (b.length - 1) 0:=by omega
 rw [Int.tdiv_eq_ediv_of_nonneg h0]
 have h1:0<=(D.getD b.length 0*1000000000+D.getD (b.length - 1) 0) / (b.getD (b.length - 1) 0+1):=Int.ediv_nonneg h0 (by omega)
 have h2:(D.getD b.length 0*1000000000+D.getD (b.length - 1) 0) / (b.getD (b.length - 1) 0+1)<=D.getD b.length 0*1000000000+D.getD (b.length - 1) 0:=Int.ediv_le_self _ h0
 exact iw (by omega) (by omega)
theorem Kq {D b:List Int} (hD:Dig D) (tD:Top D) (hb:Dig b) (tb:Top b) (sb:b.length<=500000) (hne:b≠[]) (hge:val b<=val D) (hlt:val D<1000000000*val b):
  1<=tkK D b/\tkK D b<1000000000/\tkK D b*val b<=val D/\b.length<=D.length:=by
 obtain ⟨h1,h2,h3,h4,h5⟩:=Kb hD hb tD tb hne hge hlt
 unfold tkK
 rw [Uj hD hb sb hne]
 by_cases h0:xU D b=0
 .rw [h0]
  exact ⟨by decide,by decide,by show 1*val b<=val D; omega,h1⟩
 .have:(xU D b==0)=false:=neb.2 h0
  rw [this,cond_false]
  exact ⟨by omega,h4,h5,h1⟩
def tjI (D b:List Int) (k j c:Int) (d:List Int):Prop:=
 Dig d/\d.length=D.length/\0<=j/\j<=D.length/\-1000000000<=c/\c<=1/\val d+pw j.toNat*c=val D - k*val (b.take j.toNat)
def tjX (b:List Int) (k j c:Int) (d:List Int):Int:=IntKind.i64.wrap (IntKind.i64.wrap (d.getD j.toNat 0 - IntKind.i64.wrap ((bif decide (j<b.length) then b.getD j.toNat 0 else 0)*k))+c)
theorem Uk {D b:List Int} {k j c:Int} {d:List Int} (hb:Dig b) (hk:0<=k/\k<1000000000) (h:tjI D b k j c d):tjX b k j c d=d.getD j.toNat 0 - b.getD j.toNat 0*k+c/\-1000000000000000000+999999999<=d.getD j.toNat 0 - b.getD j.toNat 0*k+c/\d.getD j.toNat 0 - b.getD j.toNat 0*k+c<=1000000000:=by
 obtain ⟨h1,h2,h3,h4,h5,h6,h7⟩:=h
 have g1:=h1.get j.toNat
 have g2:=hb.get j.toNat
 have m0:=Int.mul_nonneg g2.1 hk.1
 have m1:b.getD j.toNat 0*k<=999999999*999999999:=Int.mul_le_mul (by omega) (by omega) hk.1 (by decide)
 unfold tjX
 rw [A5 h3]
 have e1:IntKind.i64.wrap (b.getD j.toNat 0*k)=b.getD j.toNat 0*k:=iw (by omega) (by omega)
 have e2:IntKind.i64.wrap (d.getD j.toNat 0 - b.getD j.toNat 0*k)=d.getD j.toNat 0 - b.getD j.toNat 0*k:=iw (by omega) (by omega)
 rw [e1,e2]
 exact ⟨iw (by omega) (by omega),by omega,by omega⟩
def tjR (x:Int):Int:=bif decide (x.tmod 1000000000<0) then IntKind.i64.wrap (x.tmod 1000000000+1000000000) else x.tmod 1000000000
def tjC (x:Int):Int:=bif decide (x.tmod 1000000000<0) then IntKind.i64.wrap (IntKind.i64.wrap (x.tdiv 1000000000) - 1) else IntKind.i64.wrap (x.tdiv 1000000000)
theorem O9 (x:Int):-(1000000000:Int)<x.tmod (1000000000:Int)/\x.tmod (1000000000:Int)<1000000000:=by
 have:=Int.natAbs_tmod x (1000000000:Int)
 have h3:x.natAbs % 1000000000<1000000000:=Nat.mod_lt _ (by decide)
 have h4:(x.tmod (1000000000:Int)).natAbs<1000000000:=by rw [this]; exact h3
 omega
theorem Yu {x:Int} (h:-4000000000000000000<=x/\x<=4000000000000000000):tjR x=fr x/\tjC x=fq x:=by
 have h1:=O9 x
 have h2:=Int.mul_tdiv_add_tmod x (1000000000:Int)
 have e:IntKind.i64.wrap (x.tdiv 1000000000)=x.tdiv 1000000000:=iw (by omega) (by omega)
 unfold tjR tjC fr fq
 rw [e]
 by_cases h0:x.tmod 1000000000<0
 .rw [decide_eq_true h0,if_pos h0,if_pos h0,cond_true,cond_true,iw (by omega) (by omega),iw (by omega) (by omega)]
  exact ⟨rfl,rfl⟩
 .rw [decide_eq_false h0,if_neg h0,if_neg h0]
  exact ⟨rfl,rfl⟩
theorem Kr {D b:List Int} {k j c:Int} {d:List Int} (hb:Dig b) (hk:0<=k/\k<1000000000) (h:tjI D b k j c d) (hj:j<D.length):tjI D b k (j+1) (tjC (tjX b k j c d)) (d.set j.toNat (tjR (tjX b k j c d))):=by
 obtain ⟨x1,x2,x3⟩:=Uk hb hk h
 obtain ⟨h1,h2,h3,h4,h5,h6,h7⟩:=h
 rw [x1]
 obtain ⟨t1,t2⟩:=Yu (x:=d.getD j.toNat 0 - b.getD j.toNat 0*k+c) (by omega)
 rw [t1,t2]
 obtain ⟨s1,s2,s3⟩:=Uc (d.getD j.toNat 0 - b.getD j.toNat 0*k+c)
 refine ⟨h1.set _ ⟨s1,s2⟩,by rw [List.length_set,h2],by omega,by omega,by omega,by omega,?_⟩
 rw [fS d _ _ (by omega),show (j+1).toNat=j.toNat+1 by omega,val_take_succ' b]
 have e:pw j.toNat*(fr (d.getD j.toNat 0 - b.getD j.toNat 0*k+c)+1000000000*fq (d.getD j.toNat 0 - b.getD j.toNat 0*k+c))=pw j.toNat*(d.getD j.toNat 0 - b.getD j.toNat 0*k+c):=by rw [s3]
 generalize fr (d.getD j.toNat 0 - b.getD j.toNat 0*k+c)=R at *
 generalize fq (d.getD j.toNat 0 - b.getD j.toNat 0*k+c)=Q at *
 have e3:pw (j.toNat+1)=1000000000*pw j.toNat:=rfl
 rw [e3]
 grind
theorem Pb {D b:List Int} {k c:Int} {d:List Int} (hD:Dig D) (hl:b.length<=D.length) (hle:k*val b<=val D) (hk:0<=k*val b) (h:tjI D b k D.length c d):d=aG D.length (val D - k*val b):=by
 obtain ⟨h1,h2,h3,h4,h5,h6,h7⟩:=h
 rw [show ((D.length:Int)).toNat=D.length by omega,List.take_of_length_le hl] at h7
 have q1:=af h1
 have q2:=bc h1
 rw [h2] at q2
 have q3:=bc hD
 have q5:=pw_pos D.length
 have hc:c=0:=by
  rcases (show c=0\/1<=c\/c<=-1 by omega) with h|h|h
  .exact h
  .have:pw D.length*1<=pw D.length*c:=Int.mul_le_mul_of_nonneg_left h (Int.le_of_lt q5)
   omega
  .have:pw D.length*c<=pw D.length*(-1):=Int.mul_le_mul_of_nonneg_left h (Int.le_of_lt q5)
   omega
 subst hc
 exact gU h1 h2 (by rw [<- h7]; simp)
theorem GP {D b:List Int} {k:Int} (hD:Dig D):tjI D b k 0 0 D:=by
 refine ⟨hD,rfl,by omega,by omega,by omega,by omega,?_⟩
 simp [val]
def paQ (a b:List Int) (i:Int):List Int:=aG a.length (pw (i+1).toNat*(val (a.drop (i+1).toNat) / val b))
def paR (a b:List Int) (i:Int):List Int:=aa (val (a.drop (i+1).toNat) % val b).toNat
def dA (a:List Int) (i:Int):Int:=val (a.drop (i+1).toNat)
theorem Pc {a:List Int} {i:Int} (h0:0<=i) (h1:i<a.length):dA a (i - 1)=a.getD i.toNat 0+1000000000*dA a i:=by
 unfold dA
 rw [show (i - 1+1).toNat=i.toNat by omega,show (i+1).toNat=i.toNat+1 by omega,List.drop_eq_getElem_cons (by omega)]
 rw [List.getD_eq_getElem?_getD,List.getElem?_eq_getElem (by omega)]
 rfl
theorem Ks (a:List Int):dA a (a.length - 1)=0:=by
 unfold dA
 rw [List.drop_of_length_le (by omega)]; rfl
theorem SS {a:List Int} (h:Dig a) (i:Int):0<=dA a i:=af (h.drop _)
theorem ST {a:List Int} (h:Dig a) {i:Int} (h0:-1<=i) (h1:i<a.length):pw (i+1).toNat*dA a i<=val a:=by
 have e:val a=val (a.take (i+1).toNat)+pw (a.take (i+1).toNat).length*val (a.drop (i+1).toNat):=by rw [<- jb,List.take_append_drop]
 rw [List.length_take,Nat.min_eq_left (by omega)] at e
 have:=af (h.take (i+1).toNat)
 unfold dA
 omega
theorem uG:∀ (n:Nat) (v:Int) (i:Nat),i<n->(aG n v).getD i 0=v / pw i % (1000000000:Int)
 | 0,_,_,h=>by omega
 | n+1,v,0,_=>by simp [aG,pw]
 | n+1,v,i+1,h=>by
  simp only [aG,List.getD_cons_succ]
  rw [uG n _ i (by omega),Int.ediv_ediv_of_nonneg (by decide)]
  rfl
def paV (a b:List Int) (i:Int):Int:=a.getD i.toNat 0+1000000000*(dA a i % val b)
theorem xY {a b:List Int} (ha:Dig a) (hv:0<val b) (i:Int):0<=paV a b i/\paV a b i<1000000000*val b:=by
 have h1:=ha.get i.toNat
 have h2:=Int.emod_nonneg (dA a i) (show val b≠0 by omega)
 have h3:=Int.emod_lt_of_pos (dA a i) hv
 unfold paV
 omega
theorem A6 {a b:List Int} (hv:0<val b) {i:Int} (h0:0<=i) (h1:i<a.length):dA a (i - 1) % val b=paV a b i % val b/\dA a (i - 1) / val b=1000000000*(dA a i / val b)+paV a b i / val b:=by
 have e:dA a (i - 1)=paV a b i+1000000000*(dA a i / val b)*val b:=by
  rw [Pc h0 h1]
  unfold paV
  have:=Int.mul_ediv_add_emod (dA a i) (val b)
  grind
 rw [e]
 constructor
 .rw [Int.add_mul_emod_self_right]
 .rw [Int.add_mul_ediv_right _ _ (by omega)]; omega
theorem Kt {a b:List Int} (hv:0<val b) {i:Int} (h0:0<=i) (h1:i<a.length):paR a b (i - 1)=aa (paV a b i % val b).toNat:=by
 show aa (dA a (i - 1) % val b).toNat=_
 rw [(A6 hv h0 h1).1]
theorem Ku {a b:List Int} (ha:Dig a) (hv:0<val b) {i:Int} (h0:0<=i) (h1:i<a.length):(paQ a b i).set i.toNat (paV a b i / val b)=paQ a b (i - 1):=by
 have hb:=xY ha hv i
 have hq0:0<=paV a b i / val b:=Int.ediv_nonneg hb.1 (by omega)
 have hq1:paV a b i / val b<1000000000:=Int.ediv_lt_of_lt_mul hv hb.2
 have hn:=SS ha i
 have hn1:=SS ha (i - 1)
 have hQ:0<=dA a i / val b:=Int.ediv_nonneg hn (by omega)
 have hQ1:0<=dA a (i - 1) / val b:=Int.ediv_nonneg hn1 (by omega)
 have hp:=pw_pos (i+1).toNat
 have hp1:=pw_pos i.toNat
 have b1:pw (i+1).toNat*(dA a i / val b)<pw a.length:=by
  have h2:=ST ha (i:=i) (by omega) h1
  have h3:pw (i+1).toNat*(dA a i / val b)<=pw (i+1).toNat*dA a i:=Int.mul_le_mul_of_nonneg_left (Int.ediv_le_self _ hn) (by omega)
  have:=bc ha
  omega
 have e2:(i - 1+1).toNat=i.toNat:=by omega
 have b2:pw i.toNat*(dA a (i - 1) / val b)<pw a.length:=by
  have h2:=ST ha (i:=i - 1) (by omega) (by omega)
  rw [e2] at h2
  have h3:pw i.toNat*(dA a (i - 1) / val b)<=pw i.toNat*dA a (i - 1):=Int.mul_le_mul_of_nonneg_left (Int.ediv_le_self _ hn1) (by omega)
  have:=bc ha
  omega
 show (aG a.length (pw (i+1).toNat*(dA a i / val b))).set i.toNat (paV a b i / val b)=aG a.length (pw (i - 1+1).toNat*(dA a (i - 1) / val b))
 rw [e2]
 refine gU ((c5 _ _).set _ ⟨hq0,hq1⟩) (by rw [List.length_set,a6]) ?_
 rw [fS _ _ _ (by rw [a6]; omega),dw (Int.mul_nonneg (by omega) hQ) b1,uG _ _ _ (by omega),(A6 hv h0 h1).2]
 have e3:pw (i+1).toNat=1000000000*pw i.toNat:=by rw [show (i+1).toNat=i.toNat+1 by omega]; rfl
 have e4:pw (i+1).toNat*(dA a i / val b) / pw i.toNat % (1000000000:Int)=0:=by
  rw [e3,show (1000000000:Int)*pw i.toNat*(dA a i / val b)=pw i.toNat*((1000000000:Int)*(dA a i / val b)) by rw [Int.mul_comm (1000000000:Int),Int.mul_assoc],Int.mul_ediv_cancel_left _ (by omega)]
  omega
 rw [e4,e3]
 grind
theorem Pd (a b:List Int):List.replicate a.length (0:Int)=paQ a b (a.length - 1):=by
 show _=aG a.length (pw ((a.length:Int) - 1+1).toNat*(dA a (a.length - 1) / val b))
 rw [Ks,pm]; simp
theorem Pe {a b:List Int} (ha:Dig a) (hv:0<val b):(paQ a b (-1)).length=a.length/\Dig (paQ a b (-1))/\val (paQ a b (-1))=val a / val b:=by
 refine ⟨a6 _ _,c5 _ _,?_⟩
 have h:=af ha
 have h1:=bc ha
 have h2:val a / val b<=val a:=Int.ediv_le_self _ h
 have h3:0<=val a / val b:=Int.ediv_nonneg h (by omega)
 have e:pw ((-1:Int)+1).toNat*(val (a.drop ((-1:Int)+1).toNat) / val b)=val a / val b:=by
  rw [show ((-1:Int)+1).toNat=0 from rfl,List.drop_zero]; simp [pw]
 unfold paQ
 rw [e,dw h3 (by omega)]
theorem Pf (a b:List Int):paR a b (-1)=aa (val a % val b).toNat:=by
 unfold paR
 rw [show ((-1:Int)+1).toNat=0 from rfl,List.drop_zero]
structure OkQ (p q:Bool) (n d:List Int):Prop where
 hn:okL p n
 hd:okL q d
 hq:q=false
 ne:d≠[]
 ln:n.length<=600
 ld:d.length<=600
 cop:Int.gcd (zv p n) (zv q d)=1
theorem E9 {p:Bool} {n:List Int} (h:okL p n):((zv p n).natAbs:Int)<pw n.length:=by
 have:=bc h.1
 have:=af h.1
 cases p <;> simp only [zv,cond_true,cond_false] <;> omega
theorem Pg {x y:Int} {k l:Nat} (hx:(x.natAbs:Int)<pw k) (hy:(y.natAbs:Int)<pw l):((x*y).natAbs:Int)<pw (k+l):=by
 rw [Int.natAbs_mul,nX,Int.natCast_mul]
 have h0:(0:Int)<=x.natAbs:=by omega
 have h1:(0:Int)<=y.natAbs:=by omega
 have h2:=pw_pos k
 calc (x.natAbs:Int)*y.natAbs<=x.natAbs*pw l:=Int.mul_le_mul_of_nonneg_left (by omega) h0
  _<pw k*pw l:=Int.mul_lt_mul_of_pos_right hx (pw_pos l)
theorem len_mul {x y:Int} {k l:Nat} (hx:(x.natAbs:Int)<pw k) (hy:(y.natAbs:Int)<pw l):(aa (x*y).natAbs).length<=k+l:=dX (Pg hx hy)
end Go.Dg
namespace Go.Dg
theorem fT (n:Nat):pw (n+1)=1000000000*pw n:=rfl
end Go.Dg
namespace Go.Dg
open Go Go.Eng
theorem A7 {a:List Int} {i:Nat} (h:i<a.length):val (a.drop i)=a.getD i 0+1000000000*val (a.drop (i+1)):=by
 rw [List.drop_eq_getElem_cons h]
 show a[i]+1000000000*val (a.drop (i+1))=_
 congr 1
 simp [List.getD_eq_getElem?_getD,List.getElem?_eq_getElem h]
theorem getD_set {l:List Int} {i j:Nat} {x:Int} (h:i≠j):(l.set i x).getD j 0=l.getD j 0:=by
 simp [List.getD_eq_getElem?_getD,List.getElem?_set_ne h]
theorem fg {l:List Int} {i:Nat} {x:Int} (h:i<l.length):(l.set i x).getD i 0=x:=by
 simp [List.getD_eq_getElem?_getD,h]
structure PaI (a:List Int) (n i r:Int) (d:List Int):Prop where
 l:d.length=a.length
 dg:Dig d
 i0:-1<=i
 i1:i<a.length
 z:∀ j:Nat,(j:Int)<=i->d.getD j 0=0
 v:val d*n+pw (i+1).toNat*r=pw (i+1).toNat*val (a.drop (i+1).toNat)
 r0:0<=r
 r1:r<n
theorem PaI.start {a:List Int} {n:Int} (hn:0<n):PaI a n (a.length - 1) 0 (List.replicate a.length 0):=by
 refine ⟨by simp,J6 _,by omega,by omega,fun j hj=>?_,?_,Int.le_refl _,hn⟩
 .simp [List.getD_eq_getElem?_getD,List.getElem?_replicate]
  split <;> rfl
 .rw [AS,show ((a.length:Int) - 1+1).toNat=a.length by omega,List.drop_length]
  simp [val]
theorem PaI.step {a:List Int} {n i r:Int} {d:List Int} (ha:Dig a) (h:PaI a n i r d) (hi:0<=i):PaI a n (i - 1) ((r*1000000000+a.getD i.toNat 0).tmod n) (d.set i.toNat ((r*1000000000+a.getD i.toNat 0).tdiv n)):=by
 obtain ⟨l,dg,i0,i1,z,v,r0,r1⟩:=h
 have ga:=ha.get i.toNat
 have m0:0<=r*1000000000+a.getD i.toNat 0:=by omega
 have hn:0<n:=by omega
 have eq1:(r*1000000000+a.getD i.toNat 0).tmod n=(r*1000000000+a.getD i.toNat 0) % n:=Int.tmod_eq_emod_of_nonneg m0
 have eq2:(r*1000000000+a.getD i.toNat 0).tdiv n=(r*1000000000+a.getD i.toNat 0) / n:=Int.tdiv_eq_ediv_of_nonneg m0
 rw [eq1,eq2]
 have q0:0<=(r*1000000000+a.getD i.toNat 0) / n:=Int.ediv_nonneg m0 (by omega)
 have q1:(r*1000000000+a.getD i.toNat 0) / n<1000000000:=by
  apply Int.ediv_lt_of_lt_mul hn
  have:(r+1)*1000000000<=n*1000000000:=Int.mul_le_mul_of_nonneg_right (by omega) (by decide)
  omega
 have hil:i.toNat<d.length:=by omega
 have e0:(i - 1+1).toNat=i.toNat:=by omega
 have e1:(i+1).toNat=i.toNat+1:=by omega
 have ed:=Int.mul_ediv_add_emod (r*1000000000+a.getD i.toNat 0) n
 refine ⟨by simp [l],dg.set _ ⟨q0,q1⟩,by omega,by omega,fun j hj=>?_,?_,Int.emod_nonneg _ (by omega),Int.emod_lt_of_pos _ hn⟩
 .rw [getD_set (by omega)]
  exact z j (by omega)
 .rw [e0,fS _ _ _ hil,z i.toNat (by omega),A7 (by omega)]
  rw [e1,fT] at v
  generalize (r*1000000000+a.getD i.toNat 0) / n=q at *
  generalize (r*1000000000+a.getD i.toNat 0) % n=r' at *
  generalize val (a.drop (i.toNat+1))=V at *
  generalize a.getD i.toNat 0=x at *
  generalize pw i.toNat=p at *
  generalize val d=D at *
  grind
theorem PaI.fin {a:List Int} {n i r:Int} {d:List Int} (h:PaI a n i r d) (hi:¬ 0<=i):i=-1/\r=val a % n/\d=aG a.length (val a / n):=by
 obtain ⟨l,dg,i0,i1,z,v,r0,r1⟩:=h
 have e:i=-1:=by omega
 subst e
 have v:val d*n+1*r=1*val (a.drop 0):=v
 rw [List.drop_zero] at v
 have h1:val a / n=val d:=by
  rw [show val a=r+val d*n by omega,Int.add_mul_ediv_right _ _ (by omega),Int.ediv_eq_zero_of_lt r0 r1]
  omega
 have h2:val a % n=r:=by
  rw [show val a=r+val d*n by omega,Int.add_mul_emod_self_right]
  exact Int.emod_eq_of_lt r0 r1
 exact ⟨rfl,h2.symm,gU dg l h1.symm⟩
end Go.Dg
namespace Go.Proofs.YtmnhhlnbfkfkaaaGreat.K
open Go Go.Eng Go.Dg
noncomputable section
def zA (a:List Int) (n:Int):List AV:=[.lslice 0 a.length,.int true .i64 n]
def zH (a:List Int):Hp:=dW true hG0 [(.i64,a)]
def A8:AFr:=⟨118,none⟩
def Kv:Code:=bJ Tryz.prog 118 0
noncomputable def uH (a:List Int) (n:Int):St:=ib cL 300 118 (zA a n) (zH a)
def CW (i r:Int) (d:List Int):Patch:=⟨(7,.int true .i64 r) :: (8,.int true .i64 i) :: aC 15 20,[(1,.ints .i64 d)],[]⟩
def qz (a:List Int) (n:Int):SumL (Int×Int×List Int):=
 {
  S:=fun (i,r,d)=>CW i r d
  I:=fun (i,r,d)=>PaI a n i r d
  μ:=fun (i,_,_)=>(i+1).toNat
  F:=fun _=>(.exit 0,CW (-1) (val a % n) (aG a.length (val a / n)))
  next:=fun (i,r,d)=>(i - 1,(r*1000000000+a.getD i.toNat 0).tmod n,d.set i.toNat ((r*1000000000+a.getD i.toNat 0).tdiv n))
  ids:=fun _=>[]
  X:=fun (i,r,d) _=>some (CW i r d,[]) }
def xZ (a:List Int) (n:Int):Prop:=((0:Int)=0/\IntKind.i64.wrap ((↑a.length:Int) - (1:Int))=(↑a.length:Int) - (1:Int))/\List.replicate (↑a.length:Int).toNat (0:Int)=List.replicate a.length (0:Int)
theorem GQ (a:List Int) (n:Int):fit (uH a n) (uH a n) (ac (uH a n) ((qz a n).S (a.length - 1,0,List.replicate a.length 0))) ([])=some (.p (xZ a n)):=by kernel_rfl
def CX (a:List Int) (n i r:Int) (d:List Int):Prop:=(decide (i>=0)=true->(((0:Int)<=i/\i<(↑a.length:Int))/\i.toNat<a.length)/\n≠0/\n≠0/\((0:Int)<=i/\i<(↑a.length:Int))/\((0:Int)+i).toNat<d.length)/\((!decide (i>=0))=true->((r=r/\i=i)/\d=d)/\(qz a n).F (i,r,d)=(Ex.exit (0:Nat),CW i r d))/\(decide (i>=0)=true->(((IntKind.i64.wrap (IntKind.i64.wrap (r*1000000000)+a.getD i.toNat (0:Int))).tmod n=(r*1000000000+a.getD i.toNat (0:Int)).tmod n/\IntKind.i64.wrap (i - (1:Int))=i - (1:Int))/\d.set ((0:Int)+i).toNat (IntKind.i64.wrap ((IntKind.i64.wrap (IntKind.i64.wrap (r*1000000000)+a.getD i.toNat (0:Int))).tdiv n))=d.set i.toNat ((r*1000000000+a.getD i.toNat (0:Int)).tdiv n))/\(qz a n).I ((qz a n).next (i,r,d))/\(qz a n).μ ((qz a n).next (i,r,d))<(qz a n).μ (i,r,d)/\(qz a n).F ((qz a n).next (i,r,d))=(qz a n).F (i,r,d))
theorem Ph (a:List Int) (n i r:Int) (d:List Int):aW (uH a n) ((qz a n).way ((i,r,d))) ((run cL 300).code A8 Kv (ac (uH a n) ((qz a n).S (i,r,d))))=some (.p (CX a n i r d)):=by kernel_rfl
theorem Kw {a:List Int} {n:Int} (ha:Dig a) (la:Sm a) (h0:1<=n) (h1:n<=1000000000):CodeOk cL A8 (.loop Kv) (uH a n) ⟨.tt,[⟨.tt,.exit 0,ac (uH a n) (CW (-1) (val a % n) (aG a.length (val a / n)))⟩]⟩:=by
 have la:=la.le
 refine cY (aQ de 300) (qz a n) (y0:=((a.length:Int) - 1,0,List.replicate a.length 0)) (PaI.start (by omega)) ⟨_,GQ a n,⟨⟨rfl,iw (by omega) (by omega)⟩,by rw [show ((a.length:Int)).toNat=a.length by omega]⟩⟩ (by kernel_rfl) (fun y hy=>?_) rfl
 obtain ⟨i,r,d⟩:=y
 have hI:PaI a n i r d:=hy
 obtain ⟨l,dg,i0,i1,z,v,r0,r1⟩:=id hI
 refine ⟨_,Ph a n i r d,fun h=>?_,fun h=>⟨⟨⟨rfl,rfl⟩,rfl⟩,?_⟩,fun h=>?_⟩
 .have h:i>=0:=dt.1 h
  exact ⟨⟨⟨by omega,i1⟩,by omega⟩,by omega,by omega,⟨by omega,i1⟩,by omega⟩
 .obtain ⟨e1,e2,e3⟩:=hI.fin (ndt.1 h)
  show (Ex.exit 0,CW (-1) (val a % n) (aG a.length (val a / n)))=_
  rw [e1,e2,<- e3]
 .have h:i>=0:=dt.1 h
  have g:=ha.get i.toNat
  have e1:IntKind.i64.wrap (r*1000000000)=r*1000000000:=iw (by omega) (by omega)
  have e2:IntKind.i64.wrap (r*1000000000+a.getD i.toNat 0)=r*1000000000+a.getD i.toNat 0:=iw (by omega) (by omega)
  have m0:0<=r*1000000000+a.getD i.toNat 0:=by omega
  have e3:IntKind.i64.wrap ((r*1000000000+a.getD i.toNat 0).tdiv n)=(r*1000000000+a.getD i.toNat 0).tdiv n:=by
   rw [Int.tdiv_eq_ediv_of_nonneg m0]
   have:=Int.ediv_nonneg m0 (show 0<=n by omega)
   have:=Int.ediv_le_self n m0
   exact iw (by omega) (by omega)
  refine ⟨⟨⟨by rw [e1,e2],iw (by omega) (by omega)⟩,by rw [e1,e2,e3,show ((0:Int)+i).toNat=i.toNat by omega]⟩,hI.step ha h,?_,rfl⟩
  show (i - 1+1).toNat<(i+1).toNat
  omega
def iB:AFr:=⟨117,none⟩
def trA:Code:=bJ Tryz.prog 117 0
def trP (id:Nat) (y:Int):Patch:=⟨(0,.islice true id 0 y) :: aC 3 17,[],[]⟩
def trU (id:Nat) (d:List Int) (N:Int):SumL Int:=
 {
  S:=fun y=>trP id y
  I:=fun y=>0<=y/\y<=N
  μ:=fun y=>y.toNat
  F:=fun y=>(.exit 0,trP id (tlI d y))
  next:=fun y=>y - 1
  ids:=fun _=>[]
  X:=fun y _=>some (trP id y,[]) }
def trN (id:Nat) (d:List Int) (N y:Int):Prop:=((decide (y>0)=true->((0:Int)<=IntKind.i64.wrap (y - (1:Int))/\IntKind.i64.wrap (y - (1:Int))<y)/\((0:Int)+IntKind.i64.wrap (y - (1:Int))).toNat<d.length)/\((bif decide (y>0) then d.getD ((0:Int)+IntKind.i64.wrap (y - (1:Int))).toNat (0:Int)==0 else false)=true->(0:Int)<=0/\(0:Int)<=IntKind.i64.wrap (y - (1:Int))/\IntKind.i64.wrap (y - (1:Int))<=y))/\((!bif decide (y>0) then d.getD ((0:Int)+IntKind.i64.wrap (y - (1:Int))).toNat (0:Int)==0 else false)=true->((0:Int)=0/\y=y)/\(trU id d N).F y=(Ex.exit (0:Nat),trP id y))/\((bif decide (y>0) then d.getD ((0:Int)+IntKind.i64.wrap (y - (1:Int))).toNat (0:Int)==0 else false)=true->((0:Int)+0=0/\IntKind.i64.wrap (y - (1:Int)) - (0:Int)=(trU id d N).next y)/\(trU id d N).I ((trU id d N).next y)/\(trU id d N).μ ((trU id d N).next y)<(trU id d N).μ y/\(trU id d N).F ((trU id d N).next y)=(trU id d N).F y)
theorem Ul {id:Nat} {d:List Int} {N y:Int} (hN:N=d.length) (ld:Sm d) (h0:0<=y) (h1:y<=N):trN id d N y:=by
 have ld:=ld.le
 have ez:∀ z:Int,(0+z).toNat=z.toNat:=fun z=>by rw [Int.zero_add]
 refine ⟨⟨fun h=>?_,fun h=>?_⟩,fun h=>⟨⟨rfl,rfl⟩,?_⟩,fun h=>?_⟩
 .have h:=of_decide_eq_true h
  rw [iw (by omega) (by omega)]
  omega
 .obtain ⟨h2,_⟩:=bt.1 h
  rw [iw (by omega) (by omega)]
  omega
 .show (Ex.exit 0,trP id (tlI d y))=_
  have h:=nbt.1 h
  by_cases h2:0<y
  .have h3:=neb.1 (h h2)
   rw [iw (by omega) (by omega),ez] at h3
   rw [pj h2,if_neg h3]
  .have:y=0:=by omega
   subst this; rfl
 .obtain ⟨h2,h3⟩:=bt.1 h
  have h2:0<y:=h2
  have h3:=eb.1 h3
  rw [iw (by omega) (by omega),ez] at h3
  rw [iw (by omega) (by omega)]
  refine ⟨⟨rfl,by show y - 1 - 0=y - 1; omega⟩,?_,?_,?_⟩
  .show 0<=y - 1/\y - 1<=N
   omega
  .show (y - 1).toNat<y.toNat
   omega
  .show (Ex.exit 0,trP id (tlI d (y - 1)))=(Ex.exit 0,trP id (tlI d y))
   rw [pj h2,if_pos h3]
theorem sC {S:St} {id:Nat} {d:List Int} {N:Int} (hN:N=d.length) (ld:Sm d) (hs:fit S S (ac S ((trU id d N).S N)) []=some (.p ((0:Int)=0/\N=N))) (ho:dU S.hp (((trU id d N).S N).old)=true)
  (hb:∀ y,aW S ((trU id d N).way y) ((run cL 300).code iB trA (ac S ((trU id d N).S y)))=some (.p (trN id d N y))):CodeOk cL iB (.loop trA) S ⟨.tt,[⟨.tt,.exit 0,ac S (trP id (tlI d N))⟩]⟩:=
 cY (aQ de 300) (trU id d N) (y0:=N) ⟨by omega,by omega⟩ ⟨_,hs,rfl,rfl⟩ ho (fun y hy=>⟨_,hb y,Ul hN ld hy.1 hy.2⟩) rfl
noncomputable def ptS (a d:List Int) (N:Int):St:=ib cL 300 117 [.islice true 1 0 N] ⟨[⟨14,.ints .i64 d⟩,⟨0,.rows .i64 a⟩],2,17⟩
theorem Kx (a d:List Int) (N:Int):fit (ptS a d N) (ptS a d N) (ac (ptS a d N) ((trU 1 d N).S N)) []=some (.p ((0:Int)=0/\N=N)):=by kernel_rfl
theorem Pi (a d:List Int) (N y:Int):aW (ptS a d N) ((trU 1 d N).way y) ((run cL 300).code iB trA (ac (ptS a d N) ((trU 1 d N).S y)))=some (.p (trN 1 d N y)):=by kernel_rfl
theorem Pj (a:List Int) {d:List Int} {N:Int} (hN:N=d.length) (ld:Sm d):CodeOk cL iB (.loop trA) (ptS a d N) ⟨.tt,[⟨.tt,.exit 0,ac (ptS a d N) (trP 1 (tlI d N))⟩]⟩:=sC hN ld (Kx a d N) (by kernel_rfl) (fun y=>Pi a d N y)
noncomputable def cPt (a:List Int) (n:Int):Ctx:=aw cL [aR 118 (uH a n).hp.clock A8 Kv (uH a n) (.exit 0) (CW (-1) (val a % n) (aG a.length (val a / n))),aR 117 20 iB trA (ptS a (aG a.length (val a / n)) a.length) (.exit 0) (trP 1 (tlI (aG a.length (val a / n)) a.length))]
theorem Um {a:List Int} {n:Int} (ha:Dig a) (la:Sm a) (h0:1<=n) (h1:n<=1000000000):CtxOk (cPt a n):=
 ak de (Kw ha la h0 h1) (ak de (Pj a (a6 _ _ ▸ rfl) (by show (aG _ _).length<=500000; rw [a6]; exact la)) (aq de))
def Pk (a:List Int) (n:Int):Prop:=(((↑a.length:Int)=(↑a.length:Int)/\(0:Int)<=(↑a.length:Int)/\(↑a.length:Int)<=1048576)/\At (A8) (A8) (Kv) (Kv) (uH a n) (uH a n)/\At (iB) (iB) (trA) (trA) (ptS a (aG a.length (val a / n)) a.length) (ptS a (aG a.length (val a / n)) a.length))
def Un (a:List Int) (n:Int):AV:=(AV.tuple [AV.islice true 1 (0:Int) (tlI (aG a.length (val a / n)) (↑a.length:Int)),AV.int true IntKind.i64 (val a % n)])
def Uo (a:List Int) (n:Int):Hp:=⟨[{ wr:=14,body:=ABody.ints IntKind.i64 (aG a.length (val a / n)) },{ wr:=(0:Nat),body:=ABody.rows IntKind.i64 a }],2,26⟩
theorem abC (a:List Int) (n:Int):(run (cPt a n) 300).call 118 (zA a n) (zH a)=some ⟨.p (Pk a n),[⟨.tt,Un a n,Uo a n⟩]⟩:=by kernel_rfl
def zpaV:List Nu->List (List Int)->Option (Prop×To)
 | [.n n],[a]=>some (Dig a/\a.length<=500000/\1<=n/\n<=1000000000,.tu [.li false (aa (val a / n).toNat),.nu .i64 (val a % n)])
 | _,_=>none
theorem Up {a:List Int} {n:Int} (ha:Dig a) (h0:1<=n):val (aG a.length (val a / n))=val a / n:=by
 have h1:=af ha
 have h2:=bc ha
 have h3:=Int.ediv_le_self n h1
 exact dw (Int.ediv_nonneg h1 (by omega)) (by omega)
theorem Fa {d:List Int} {N:Int} (h:Dig d) (hN:N=d.length):List.take (tlI d N).toNat (List.drop (Int.toNat 0) d)=aa (val d).toNat:=by
 rw [show Int.toNat 0=0 from rfl,List.drop_zero,hN]
 exact AZ h
theorem part_ok:NOk Tryz.prog (fun _=>none) hG0 118 (au hG0 .i64 [.li,.nu (.i .i64)] zpaV):=by
 refine bg (fun xs ys p t e h=>?_) ⟨_,Tryz.func118,rfl⟩
 unfold zpaV at e
 split at e
 .rename_i n a
  cases e
  obtain ⟨ha,la,h0,h1⟩:=h
  refine ⟨cPt a n,300,zA a n,_,_,_,_,_,Um ha la h0 h1,rfl,rfl,⟨rfl,⟨rfl,rfl⟩,trivial⟩,abC a n,rfl,⟨⟨rfl,by omega,by omega⟩,⟨rfl,rfl,rfl⟩,⟨rfl,rfl,rfl⟩⟩,rfl,rfl,?_⟩
  have hl:=xW (aG a.length (val a / n))
  rw [a6] at hl
  refine ⟨⟨⟨by omega,by omega,by rw [a6]; omega⟩,?_⟩,rfl⟩
  show List.take _ (List.drop _ (aG a.length (val a / n)))=aa (val a / n).toNat
  rw [Fa (c5 _ _) (by rw [a6]),Up ha h0]
 .cases e
end
end Go.Proofs.YtmnhhlnbfkfkaaaGreat.K
namespace Go.Dg
open Go Go.Eng
theorem wn {n j k:Nat} {v:Int} (h0:0<=v) (h:v<pw k) (hj:k<=j):(aG n v).getD j 0=0:=by
 rcases Nat.lt_or_ge j n with h1|h1
 .rw [uG n v j h1]
  have:=bN hj
  rw [Int.ediv_eq_zero_of_lt h0 (by omega)]
  rfl
 .rw [List.getD_eq_getElem?_getD,List.getElem?_eq_none (by rw [a6]; exact h1)]
  rfl
theorem x7:∀ {d:List Int} {k:Nat},Dig d->(∀ j,k<=j->d.getD j 0=0)->val d<pw k
 | [],k,_,_=>pw_pos k
 | x :: l,0,h,z=>by
  have h':=bB.1 h
  have z0:x=0:=z 0 (Nat.le_refl _)
  have:=x7 (k:=0) h'.2 (fun j _=>z (j+1) (by omega))
  have e:pw 0=1:=rfl
  show x+1000000000*val l<pw 0
  omega
 | x :: l,k+1,h,z=>by
  have h':=bB.1 h
  have:=x7 (k:=k) h'.2 (fun j hj=>z (j+1) (by omega))
  rw [fT]
  show x+1000000000*val l<_
  omega
def tmV (a b:List Int) (i:Int):Int:=val (a.take i.toNat)*val b
theorem CY {a b:List Int} (ha:Dig a) (hb:Dig b) {i:Int} (h0:0<=i) (h1:i<=a.length):0<=tmV a b i/\tmV a b i<pw (i.toNat+b.length):=by
 have t0:=af (ha.take i.toNat)
 have t1:=bc (ha.take i.toNat)
 have b0:=af hb
 have b1:=bc hb
 rw [List.length_take,Nat.min_eq_left (by omega)] at t1
 refine ⟨Int.mul_nonneg t0 b0,?_⟩
 rw [nX]
 have p:=pw_pos i.toNat
 calc val (a.take i.toNat)*val b<=pw i.toNat*val b:=Int.mul_le_mul_of_nonneg_right (by omega) b0
  _<pw i.toNat*pw b.length:=Int.mul_lt_mul_of_pos_left b1 p
structure TmI (a b:List Int) (i k c:Int) (d:List Int):Prop where
 l:d.length=a.length+b.length
 dg:Dig d
 k0:0<=k
 k1:k<=b.length
 c0:0<=c
 c1:c<1000000000
 v:val d+pw (i.toNat+k.toNat)*c=tmV a b i+pw i.toNat*(a.getD i.toNat 0*val (b.take k.toNat))
 z:∀ j:Nat,i.toNat+b.length<=j->d.getD j 0=0
theorem TmI.start {a b:List Int} (ha:Dig a) (hb:Dig b) {i:Int} (h0:0<=i) (h1:i<a.length):TmI a b i 0 0 (aG (a.length+b.length) (tmV a b i)):=by
 obtain ⟨t0,t1⟩:=CY ha hb h0 (Int.le_of_lt h1)
 have t2:=bN (show i.toNat+b.length<=a.length+b.length by omega)
 refine ⟨a6 _ _,c5 _ _,Int.le_refl _,by omega,Int.le_refl _,by decide,?_,fun j hj=>wn t0 t1 hj⟩
 rw [dw t0 (by omega)]
 simp [val]
theorem TmI.num {a b:List Int} (ha:Dig a) (hb:Dig b) {i k c:Int} {d:List Int} (h:TmI a b i k c d) (hk:k<b.length):0<=a.getD i.toNat 0*b.getD k.toNat 0/\a.getD i.toNat 0*b.getD k.toNat 0<=999999998000000001/\0<=d.getD (i.toNat+k.toNat) 0/\d.getD (i.toNat+k.toNat) 0<1000000000:=by
 have g1:=ha.get i.toNat
 have g2:=hb.get k.toNat
 have g3:=h.dg.get (i.toNat+k.toNat)
 refine ⟨Int.mul_nonneg g1.1 g2.1,?_,g3⟩
 exact Int.mul_le_mul (show a.getD i.toNat 0<=999999999 by omega) (show b.getD k.toNat 0<=999999999 by omega) g2.1 (by decide)
theorem TmI.step {a b:List Int} (ha:Dig a) (hb:Dig b) {i k c:Int} {d:List Int} (h:TmI a b i k c d) (hi:i<a.length) (hk:k<b.length):
  TmI a b i (k+1) ((d.getD (i.toNat+k.toNat) 0+a.getD i.toNat 0*b.getD k.toNat 0+c).tdiv 1000000000) (d.set (i.toNat+k.toNat) ((d.getD (i.toNat+k.toNat) 0+a.getD i.toNat 0*b.getD k.toNat 0+c).tmod 1000000000)):=by
 obtain ⟨m0,m1,m2,m3⟩:=h.num ha hb hk
 obtain ⟨l,dg,k0,k1,c0,c1,v,z⟩:=h
 have n0:0<=d.getD (i.toNat+k.toNat) 0+a.getD i.toNat 0*b.getD k.toNat 0+c:=by omega
 rw [Int.tdiv_eq_ediv_of_nonneg n0,Int.tmod_eq_emod_of_nonneg n0]
 have ek:(k+1).toNat=k.toNat+1:=by omega
 have hl:i.toNat+k.toNat<d.length:=by omega
 refine ⟨by simp [l],dg.set _ (by omega),by omega,by omega,by omega,by omega,?_,fun j hj=>?_⟩
 .rw [ek,fS _ _ _ hl,bU (by omega),<- Nat.add_assoc,fT]
  have ed:=Int.mul_ediv_add_emod (d.getD (i.toNat+k.toNat) 0+a.getD i.toNat 0*b.getD k.toNat 0+c) 1000000000
  rw [nX] at v ⊢
  generalize (d.getD (i.toNat+k.toNat) 0+a.getD i.toNat 0*b.getD k.toNat 0+c) / 1000000000=Q at *
  generalize (d.getD (i.toNat+k.toNat) 0+a.getD i.toNat 0*b.getD k.toNat 0+c) % 1000000000=R at *
  generalize d.getD (i.toNat+k.toNat) 0=x at *
  generalize a.getD i.toNat 0=y at *
  generalize b.getD k.toNat 0=w at *
  generalize pw i.toNat=p at *
  generalize pw k.toNat=q at *
  generalize tmV a b i=V at *
  generalize val (b.take k.toNat)=u at *
  generalize val d=D at *
  grind
 .rw [getD_set (by omega)]
  exact z j hj
def tmW (a b:List Int) (i:Int):Int:=tmV a b i+pw i.toNat*(a.getD i.toNat 0*val b)
theorem Uq {a b:List Int} {i:Int} (h0:0<=i) (h1:i<a.length):tmW a b i=tmV a b (i+1):=by
 unfold tmW tmV
 rw [show (i+1).toNat=i.toNat+1 by omega,bU (by omega)]
 grind
theorem TmI.fin {a b:List Int} {i k c:Int} {d:List Int} (h:TmI a b i k c d) (hk:¬ k<b.length):k=b.length/\c=tmW a b i / pw (i.toNat+b.length)/\d=aG (a.length+b.length) (tmW a b i % pw (i.toNat+b.length)):=by
 obtain ⟨l,dg,k0,k1,c0,c1,v,z⟩:=h
 have e:k=b.length:=by omega
 subst e
 have d0:=af dg
 have d1:=x7 dg z
 have p:=pw_pos (i.toNat+b.length)
 rw [show ((b.length:Int)).toNat=b.length by omega,List.take_length] at v
 have hW:tmW a b i=val d+pw (i.toNat+b.length)*c:=v.symm
 refine ⟨rfl,?_,gU dg l ?_⟩
 .rw [hW,Int.add_mul_ediv_left _ _ (by omega),Int.ediv_eq_zero_of_lt d0 d1]; omega
 .rw [hW,Int.add_mul_emod_self_left,Int.emod_eq_of_lt d0 d1]
theorem Ur {a b:List Int} (ha:Dig a) (hb:Dig b) {i:Int} (h0:0<=i) (h1:i<a.length):
  (aG (a.length+b.length) (tmW a b i % pw (i.toNat+b.length))).set (i.toNat+b.length) (tmW a b i / pw (i.toNat+b.length))=aG (a.length+b.length) (tmV a b (i+1)):=by
 obtain ⟨t0,t1⟩:=CY ha hb (show 0<=i+1 by omega) (show i+1<=a.length by omega)
 have p:=pw_pos (i.toNat+b.length)
 rw [Uq h0 h1]
 rw [show (i+1).toNat+b.length=(i.toNat+b.length)+1 by omega,fT] at t1
 have m0:=Int.emod_nonneg (tmV a b (i+1)) (show pw (i.toNat+b.length)≠0 by omega)
 have m1:=Int.emod_lt_of_pos (tmV a b (i+1)) p
 have m2:=bN (show i.toNat+b.length<=a.length+b.length by omega)
 have q0:=Int.ediv_nonneg t0 (show 0<=pw (i.toNat+b.length) by omega)
 have q1:tmV a b (i+1) / pw (i.toNat+b.length)<1000000000:=Int.ediv_lt_of_lt_mul p (by omega)
 have ed:=Int.mul_ediv_add_emod (tmV a b (i+1)) (pw (i.toNat+b.length))
 apply gU ((c5 _ _).set _ ⟨q0,q1⟩)
 .rw [List.length_set,a6]
 .rw [fS _ _ _ (by rw [a6]; omega),wn m0 m1 (Nat.le_refl _),dw m0 (by omega)]
  rw [Int.sub_zero]
  omega
theorem Us {a b:List Int} (ha:Dig a) (hb:Dig b):val (aG (a.length+b.length) (tmV a b a.length))=val a*val b:=by
 obtain ⟨t0,t1⟩:=CY ha hb (show 0<=(a.length:Int) by omega) (Int.le_refl _)
 rw [show ((a.length:Int)).toNat=a.length by omega] at t1
 rw [dw t0 t1]
 unfold tmV
 rw [show ((a.length:Int)).toNat=a.length by omega,List.take_length]
end Go.Dg
namespace Go.Proofs.YtmnhhlnbfkfkaaaGreat.K
open Go Go.Eng Go.Dg
noncomputable section
def zB (a b:List Int):List AV:=[.lslice 0 a.length,.lslice 1 b.length]
def zG (a b:List Int):Hp:=dW true hG0 [(.i64,a),(.i64,b)]
def r9:AFr:=⟨98,none⟩
def CZ:Code:=bJ Tryz.prog 98 0
def Ky:Code:=bJ Tryz.prog 98 1
noncomputable def toS (a b:List Int):St:=ib cL 300 98 (zB a b) (zG a b)
def tmL (a b:List Int):Nat:=a.length+b.length
def toP (i:Int) (d:List Int):Patch:=⟨aC 6 6++(20,.int true .i64 i) :: aC 21 41,[(2,.ints .i64 d)],[]⟩
def toU (a b:List Int):SumL Int:=
 {
  S:=fun i=>toP i (aG (tmL a b) (tmV a b i))
  I:=fun i=>0<=i/\i<=a.length
  μ:=fun i=>(a.length - i).toNat
  F:=fun _=>(.exit 0,toP a.length (aG (tmL a b) (tmV a b a.length)))
  next:=fun i=>i+1
  ids:=fun _=>[]
  X:=fun i _=>some (toP i (aG (tmL a b) (tmV a b i)),[]) }
noncomputable def uI (a b:List Int) (i:Int):St:=N5 cL 300 r9 CZ (ac (toS a b) ((toU a b).S i))
def tiP (k c:Int) (d:List Int):Patch:=⟨(8,.int true .i64 c) :: aC 9 3++(27,.int true .i64 k) :: aC 28 26,[(2,.ints .i64 d)],[]⟩
def tiX (a b:List Int) (i:Int):Patch:=tiP b.length (tmW a b i / pw (i.toNat+b.length)) (aG (tmL a b) (tmW a b i % pw (i.toNat+b.length)))
def tiU (a b:List Int) (i:Int):SumL (Int×Int×List Int):=
 {
  S:=fun (k,c,d)=>tiP k c d
  I:=fun (k,c,d)=>TmI a b i k c d
  μ:=fun (k,_,_)=>(b.length - k).toNat
  F:=fun _=>(.exit 2,tiX a b i)
  next:=fun (k,c,d)=>(k+1,(d.getD (i.toNat+k.toNat) 0+a.getD i.toNat 0*b.getD k.toNat 0+c).tdiv 1000000000,d.set (i.toNat+k.toNat) ((d.getD (i.toNat+k.toNat) 0+a.getD i.toNat 0*b.getD k.toNat 0+c).tmod 1000000000))
  ids:=fun _=>[]
  X:=fun (k,c,d) _=>some (tiP k c d,[]) }
noncomputable def Ut (a b:List Int) (i:Int):Ctx:=aw cL [aR 98 (uI a b i).hp.clock r9 Ky (uI a b i) (.exit 2) (tiX a b i)]
def hZ (l:List (Nat×AV)):Nat->Nat->Option AV:=fun _ t=>match l with
 | []=>none
 | x :: l=>match Nat.beq t x.1 with
  | true=>some x.2
  | false=>hZ l 0 t
termination_by structural l
def cHz (t:Nat):Ctx:=aP cL (hZ [(t,.bool false false)])
theorem Uu (t:Nat):CtxOk (cHz t):=aj de _
def A9 (a b:List Int):Prop:=(0:Int)=0/\List.replicate (IntKind.i64.wrap ((↑a.length:Int)+(↑b.length:Int))).toNat (0:Int)=aG (tmL a b) (tmV a b (0:Int))
theorem Kz (a b:List Int):fit (toS a b) (toS a b) (ac (toS a b) ((toU a b).S 0)) ([])=some (.p (A9 a b)):=by kernel_rfl
def Ba (a b:List Int) (i:Int):Prop:=((0:Int)=0/\(0:Int)=0)/\aG (tmL a b) (tmV a b i)=aG (tmL a b) (tmV a b i)
theorem KA (a b:List Int) (i:Int):fit (uI a b i) (uI a b i) (ac (uI a b i) ((tiU a b i).S (0,0,aG (tmL a b) (tmV a b i)))) ([])=some (.p (Ba a b i)):=by kernel_rfl
def C4 (a b:List Int) (i k c:Int) (d:List Int):Prop:=(decide (k<(↑b.length:Int))=true->(((0:Int)<=k/\k<(↑b.length:Int))/\k.toNat<b.length)/\(((0:Int)<=IntKind.i64.wrap (i+k)/\IntKind.i64.wrap (i+k)<IntKind.i64.wrap ((↑a.length:Int)+(↑b.length:Int)))/\((0:Int)+IntKind.i64.wrap (i+k)).toNat<d.length)/\((0:Int)<=IntKind.i64.wrap (i+k)/\IntKind.i64.wrap (i+k)<IntKind.i64.wrap ((↑a.length:Int)+(↑b.length:Int)))/\((0:Int)+IntKind.i64.wrap (i+k)).toNat<d.length)/\((!decide (k<(↑b.length:Int)))=true->((c=c/\k=k)/\d=d)/\(tiU a b i).F (k,c,d)=(Ex.exit (2:Nat),tiP k c d))/\(decide (k<(↑b.length:Int))=true->((IntKind.i64.wrap ((IntKind.i64.wrap (IntKind.i64.wrap (d.getD ((0:Int)+IntKind.i64.wrap (i+k)).toNat (0:Int)+IntKind.i64.wrap (a.getD i.toNat (0:Int)*b.getD k.toNat (0:Int)))+c)).tdiv (1000000000:Int))=(d.getD (i.toNat+k.toNat) (0:Int)+a.getD i.toNat (0:Int)*b.getD k.toNat (0:Int)+c).tdiv (1000000000:Int)/\IntKind.i64.wrap (k+1)=k+1)/\d.set ((0:Int)+IntKind.i64.wrap (i+k)).toNat ((IntKind.i64.wrap (IntKind.i64.wrap (d.getD ((0:Int)+IntKind.i64.wrap (i+k)).toNat (0:Int)+IntKind.i64.wrap (a.getD i.toNat (0:Int)*b.getD k.toNat (0:Int)))+c)).tmod (1000000000:Int))=d.set (i.toNat+k.toNat) ((d.getD (i.toNat+k.toNat) (0:Int)+a.getD i.toNat (0:Int)*b.getD k.toNat (0:Int)+c).tmod (1000000000:Int)))/\(tiU a b i).I ((tiU a b i).next (k,c,d))/\(tiU a b i).μ ((tiU a b i).next (k,c,d))<(tiU a b i).μ (k,c,d)/\(tiU a b i).F ((tiU a b i).next (k,c,d))=(tiU a b i).F (k,c,d))
theorem Pl (a b:List Int) (i k c:Int) (d:List Int):aW (uI a b i) ((tiU a b i).way ((k,c,d))) ((run cL 300).code r9 Ky (ac (uI a b i) ((tiU a b i).S (k,c,d))))=some (.p (C4 a b i k c d)):=by kernel_rfl
def C5 (a b:List Int) (i:Int):Prop:=(decide (i<(↑a.length:Int))=true->(((0:Int)<=i/\i<(↑a.length:Int))/\i.toNat<a.length)/\At (r9) (r9) (Ky) (Ky) (uI a b i) (uI a b i)/\((0:Int)<=IntKind.i64.wrap (i+(↑b.length:Int))/\IntKind.i64.wrap (i+(↑b.length:Int))<IntKind.i64.wrap ((↑a.length:Int)+(↑b.length:Int)))/\((0:Int)+IntKind.i64.wrap (i+(↑b.length:Int))).toNat<(aG (tmL a b) (tmW a b i % pw (i.toNat+b.length))).length)/\((!decide (i<(↑a.length:Int)))=true->(i=i/\aG (tmL a b) (tmV a b i)=aG (tmL a b) (tmV a b i))/\(toU a b).F i=(Ex.exit (0:Nat),toP i (aG (tmL a b) (tmV a b i))))/\(decide (i<(↑a.length:Int))=true->(IntKind.i64.wrap (i+1)=(toU a b).next i/\(aG (tmL a b) (tmW a b i % pw (i.toNat+b.length))).set ((0:Int)+IntKind.i64.wrap (i+(↑b.length:Int))).toNat (tmW a b i / pw (i.toNat+b.length))=aG (tmL a b) (tmV a b ((toU a b).next i)))/\(toU a b).I ((toU a b).next i)/\(toU a b).μ ((toU a b).next i)<(toU a b).μ i/\(toU a b).F ((toU a b).next i)=(toU a b).F i)
theorem Pm (a b:List Int) (i:Int):aW (toS a b) ((toU a b).way (i)) ((run (Ut a b i) 300).code r9 CZ (ac (toS a b) ((toU a b).S i)))=some (.p (C5 a b i)):=by kernel_rfl
def GR (a b:List Int) (i:Int):Prop:=decide (i<(↑a.length:Int))=false/\(true=true->(i=i/\aG (tmL a b) (tmV a b i)=aG (tmL a b) (tmV a b i))/\(toU a b).F i=(Ex.exit (0:Nat),toP i (aG (tmL a b) (tmV a b i))))
theorem Uv (a b:List Int) (i:Int):aW (toS a b) ((toU a b).way (i)) ((run (cHz 21) 300).code r9 CZ (ac (toS a b) ((toU a b).S i)))=some (.p (GR a b i)):=by kernel_rfl
theorem KB {a b:List Int} (ha:Dig a) (hb:Dig b) (hl:a.length+b.length<=500000) {i:Int} (h0:0<=i) (h1:i<a.length):CodeOk cL r9 (.loop Ky) (uI a b i) ⟨.tt,[⟨.tt,.exit 2,ac (uI a b i) (tiX a b i)⟩]⟩:=by
 refine cY (aQ de 300) (tiU a b i) (y0:=(0,0,aG (tmL a b) (tmV a b i))) (TmI.start ha hb h0 h1) ⟨_,KA a b i,⟨rfl,rfl⟩,rfl⟩ (by kernel_rfl) (fun y hy=>?_) rfl
 obtain ⟨k,c,d⟩:=y
 have hI:TmI a b i k c d:=hy
 obtain ⟨l,dg,k0,k1,c0,c1,v,z⟩:=id hI
 have eL:IntKind.i64.wrap ((a.length:Int)+b.length)=a.length+b.length:=iw (by omega) (by omega)
 have e1:IntKind.i64.wrap (i+k)=i+k:=iw (by omega) (by omega)
 have e2:(0+(i+k)).toNat=i.toNat+k.toNat:=by omega
 refine ⟨_,Pl a b i k c d,fun h=>?_,fun h=>⟨⟨⟨rfl,rfl⟩,rfl⟩,?_⟩,fun h=>?_⟩
 .have h:=dt.1 h
  rw [e1,eL,e2]
  exact ⟨⟨⟨k0,h⟩,by omega⟩,⟨⟨by omega,by omega⟩,by omega⟩,⟨by omega,by omega⟩,by omega⟩
 .obtain ⟨f1,f2,f3⟩:=hI.fin (ndt.1 h)
  show (Ex.exit 2,tiX a b i)=(Ex.exit 2,tiP k c d)
  unfold tiX tmL
  rw [f1,f2,<- f3]
 .have h:=dt.1 h
  obtain ⟨m0,m1,m2,m3⟩:=hI.num ha hb h
  rw [e1,e2]
  have e3:IntKind.i64.wrap (a.getD i.toNat 0*b.getD k.toNat 0)=a.getD i.toNat 0*b.getD k.toNat 0:=iw (by omega) (by omega)
  rw [e3]
  have e4:IntKind.i64.wrap (d.getD (i.toNat+k.toNat) 0+a.getD i.toNat 0*b.getD k.toNat 0)=d.getD (i.toNat+k.toNat) 0+a.getD i.toNat 0*b.getD k.toNat 0:=iw (by omega) (by omega)
  rw [e4]
  have e5:IntKind.i64.wrap (d.getD (i.toNat+k.toNat) 0+a.getD i.toNat 0*b.getD k.toNat 0+c)=d.getD (i.toNat+k.toNat) 0+a.getD i.toNat 0*b.getD k.toNat 0+c:=iw (by omega) (by omega)
  rw [e5]
  have st:=hI.step ha hb h1 h
  have e6:IntKind.i64.wrap ((d.getD (i.toNat+k.toNat) 0+a.getD i.toNat 0*b.getD k.toNat 0+c).tdiv 1000000000)=(d.getD (i.toNat+k.toNat) 0+a.getD i.toNat 0*b.getD k.toNat 0+c).tdiv 1000000000:=by
   have:=st.c0
   have:=st.c1
   exact iw (by omega) (by omega)
  refine ⟨⟨⟨e6,iw (by omega) (by omega)⟩,rfl⟩,st,?_,rfl⟩
  show (b.length - (k+1)).toNat<(b.length - k).toNat
  omega
theorem Po {a b:List Int} (ha:Dig a) (hb:Dig b) (hl:a.length+b.length<=500000) {i:Int} (h0:0<=i) (h1:i<a.length):CtxOk (Ut a b i):=ak de (KB ha hb hl h0 h1) (aq de)
theorem Pp {a b:List Int} (ha:Dig a) (hb:Dig b) (hl:a.length+b.length<=500000):CodeOk cL r9 (.loop CZ) (toS a b) ⟨.tt,[⟨.tt,.exit 0,ac (toS a b) (toP a.length (aG (tmL a b) (tmV a b a.length)))⟩]⟩:=by
 have eL:IntKind.i64.wrap ((a.length:Int)+b.length)=a.length+b.length:=iw (by omega) (by omega)
 refine cG (toU a b) (y0:=0) ⟨by omega,by omega⟩ ⟨_,Kz a b,rfl,?_⟩ (by kernel_rfl) (fun i hi=>?_) rfl
 .rw [eL,show ((a.length:Int)+b.length).toNat=tmL a b by unfold tmL; omega,pm]
  congr 1
  unfold tmV
  simp [val]
 obtain ⟨i0,i1⟩:=(show 0<=i/\i<=a.length from hi)
 by_cases hlt:i<a.length
 .have e1:IntKind.i64.wrap (i+b.length)=i+b.length:=iw (by omega) (by omega)
  have e2:(0+(i+(b.length:Int))).toNat=i.toNat+b.length:=by omega
  refine ⟨Ut a b i,300,Po ha hb hl i0 hlt,rfl,rfl,_,Pm a b i,fun h=>?_,fun h=>absurd hlt (ndt.1 h),fun h=>⟨⟨iw (by omega) (by omega),?_⟩,?_,?_,rfl⟩⟩
  .rw [e1,eL,e2]
   refine ⟨⟨⟨i0,hlt⟩,by omega⟩,⟨rfl,rfl,rfl⟩,⟨by omega,by omega⟩,?_⟩
   rw [a6]; unfold tmL; omega
  .rw [e1,e2]
   exact Ur ha hb i0 hlt
  .show 0<=i+1/\i+1<=a.length
   omega
  .show (a.length - (i+1)).toNat<(a.length - i).toNat
   omega
 .obtain rfl:i=a.length:=by omega
  exact ⟨cHz 21,300,Uu 21,rfl,rfl,_,Uv a b a.length,ndf hlt,fun _=>⟨⟨rfl,rfl⟩,rfl⟩⟩
noncomputable def ttS (a b d:List Int) (N:Int):St:=ib cL 300 117 [.islice true 2 0 N] ⟨[⟨14,.ints .i64 d⟩,⟨0,.rows .i64 b⟩,⟨0,.rows .i64 a⟩],3,17⟩
theorem KC (a b d:List Int) (N:Int):fit (ttS a b d N) (ttS a b d N) (ac (ttS a b d N) ((trU 2 d N).S N)) []=some (.p ((0:Int)=0/\N=N)):=by kernel_rfl
theorem Pq (a b d:List Int) (N y:Int):aW (ttS a b d N) ((trU 2 d N).way y) ((run cL 300).code iB trA (ac (ttS a b d N) ((trU 2 d N).S y)))=some (.p (trN 2 d N y)):=by kernel_rfl
theorem Pr (a b:List Int) {d:List Int} {N:Int} (hN:N=d.length) (ld:Sm d):CodeOk cL iB (.loop trA) (ttS a b d N) ⟨.tt,[⟨.tt,.exit 0,ac (ttS a b d N) (trP 2 (tlI d N))⟩]⟩:=sC hN ld (KC a b d N) (by kernel_rfl) (fun y=>Pq a b d N y)
def tmN (a b:List Int):Int:=IntKind.i64.wrap ((a.length:Int)+b.length)
def tmD (a b:List Int):List Int:=aG (tmL a b) (tmV a b a.length)
noncomputable def cTt (a b:List Int):Ctx:=aw cL [aR 98 (toS a b).hp.clock r9 CZ (toS a b) (.exit 0) (toP a.length (tmD a b)),aR 117 20 iB trA (ttS a b (tmD a b) (tmN a b)) (.exit 0) (trP 2 (tlI (tmD a b) (tmN a b)))]
theorem Fb {a b:List Int} (hl:a.length+b.length<=500000):tmN a b=(tmD a b).length:=by
 unfold tmN tmD tmL
 rw [iw (by omega) (by omega),a6]; omega
theorem Uw {a b:List Int} (ha:Dig a) (hb:Dig b) (hl:a.length+b.length<=500000):CtxOk (cTt a b):=
 ak de (Pp ha hb hl) (ak de (Pr a b (Fb hl) (by show (tmD a b).length<=500000; unfold tmD tmL; rw [a6]; exact hl)) (aq de))
def Pt (a b:List Int):Prop:=((IntKind.i64.wrap ((↑a.length:Int)+(↑b.length:Int))=IntKind.i64.wrap ((↑a.length:Int)+(↑b.length:Int))/\(0:Int)<=IntKind.i64.wrap ((↑a.length:Int)+(↑b.length:Int))/\IntKind.i64.wrap ((↑a.length:Int)+(↑b.length:Int))<=1048576)/\At (r9) (r9) (CZ) (CZ) (toS a b) (toS a b)/\At (iB) (iB) (trA) (trA) (ttS a b (tmD a b) (tmN a b)) (ttS a b (tmD a b) (tmN a b)))
def Ux (a b:List Int):AV:=(AV.islice true 2 (0:Int) (tlI (tmD a b) (tmN a b)))
def Uy (a b:List Int):Hp:=⟨[{ wr:=14,body:=ABody.ints IntKind.i64 (tmD a b) },{ wr:=(0:Nat),body:=ABody.rows IntKind.i64 b },{ wr:=(0:Nat),body:=ABody.rows IntKind.i64 a }],3,24⟩
theorem abD (a b:List Int):(run (cTt a b) 300).call 98 (zB a b) (zG a b)=some ⟨.p (Pt a b),[⟨.tt,Ux a b,Uy a b⟩]⟩:=by kernel_rfl
def Uz:List Nu->List (List Int)->Option (Prop×To)
 | [],[a,b]=>some (Dig a/\Dig b/\a.length+b.length<=500000,.li false (aa (val a*val b).toNat))
 | _,_=>none
theorem x8 {d:List Int} {N v:Int} (h:Dig d) (hN:N=d.length) (hv:val d=v):((0:Int)<=0/\0<=tlI d N/\0+tlI d N<=d.length)/\List.take (tlI d N).toNat (List.drop (Int.toNat 0) d)=aa v.toNat:=by
 have hl:=xW d
 rw [Fa h hN,hv,hN]
 exact ⟨⟨by omega,by omega,by omega⟩,rfl⟩
theorem KD:NOk Tryz.prog (fun _=>none) hG0 98 (au hG0 .i64 [.li,.li] Uz):=by
 refine bg (fun xs ys p t e h=>?_) ⟨_,Tryz.func98,rfl⟩
 unfold Uz at e
 split at e
 .rename_i a b
  cases e
  obtain ⟨ha,hb,hl⟩:=h
  have eN:tmN a b=a.length+b.length:=iw (by omega) (by omega)
  exact ⟨cTt a b,300,zB a b,_,_,_,_,_,Uw ha hb hl,rfl,rfl,⟨rfl,rfl,trivial⟩,abD a b,rfl,⟨⟨rfl,by show 0<=tmN a b; omega,by show tmN a b<=_; omega⟩,⟨rfl,rfl,rfl⟩,⟨rfl,rfl,rfl⟩⟩,rfl,rfl,x8 (c5 _ _) (Fb hl) (Us ha hb)⟩
 .cases e
end
end Go.Proofs.YtmnhhlnbfkfkaaaGreat.K
namespace Go.Dg
open Go Go.Eng
def dZ:List Int->List Int->List Int
 | x :: a,y :: b=>(x - y) :: dZ a b
 | a,[]=>a
 | [],_ :: _=>[]
def jn:List Int->List Int->List Int
 | x :: a,y :: b=>(x+y) :: jn a b
 | a,[]=>a
 | [],_ :: _=>[]
theorem uJ (a:List Int):dZ a []=a:=by cases a <;> rfl
theorem uK (a:List Int):jn a []=a:=by cases a <;> rfl
theorem pq:∀ a b:List Int,(dZ a b).length=a.length
 | [],[]=>rfl
 | x :: a,[]=>rfl
 | [],_ :: _=>rfl
 | x :: a,y :: b=>by simp [dZ,pq a b]
theorem pu:∀ a b:List Int,(jn a b).length=a.length
 | [],[]=>rfl
 | x :: a,[]=>rfl
 | [],_ :: _=>rfl
 | x :: a,y :: b=>by simp [jn,pu a b]
theorem uL:∀ (a b:List Int) (i:Nat),i<a.length->(dZ a b).getD i 0=a.getD i 0 - b.getD i 0
 | [],_,i,h=>by simp at h
 | x :: a,[],i,h=>by simp [dZ]
 | x :: a,y :: b,0,h=>by simp [dZ]
 | x :: a,y :: b,i+1,h=>by
  have:=uL a b i (by simpa using h)
  simpa [dZ] using this
theorem px:∀ (a b:List Int) (i:Nat),i<a.length->(jn a b).getD i 0=a.getD i 0+b.getD i 0
 | [],_,i,h=>by simp at h
 | x :: a,[],i,h=>by simp [jn]
 | x :: a,y :: b,0,h=>by simp [jn]
 | x :: a,y :: b,i+1,h=>by
  have:=px a b i (by simpa using h)
  simpa [jn] using this
theorem wo:∀ (a b:List Int) (i:Nat),i<b.length->b.length<=a.length->(dZ a (b.take i)).set i ((dZ a (b.take i)).getD i 0 - b.getD i 0)=dZ a (b.take (i+1))
 | _,[],i,h,_=>by simp at h
 | [],y :: b,i,h,h2=>by simp at h2
 | x :: a,y :: b,0,h,_=>by simp [dZ,uJ]
 | x :: a,y :: b,i+1,h,h2=>by
  have:=wo a b i (by simpa using h) (by simpa using h2)
  simpa [dZ] using this
theorem wp:∀ (a b:List Int) (i:Nat),i<b.length->b.length<=a.length->(jn a (b.take i)).set i ((jn a (b.take i)).getD i 0+b.getD i 0)=jn a (b.take (i+1))
 | _,[],i,h,_=>by simp at h
 | [],y :: b,i,h,h2=>by simp at h2
 | x :: a,y :: b,0,h,_=>by simp [jn,uK]
 | x :: a,y :: b,i+1,h,h2=>by
  have:=wp a b i (by simpa using h) (by simpa using h2)
  simpa [jn] using this
theorem Bb:∀ (a b:List Int),b.length<=a.length->val (dZ a b)=val a - val b
 | a,[],_=>by simp [uJ,val]
 | [],y :: b,h=>by simp at h
 | x :: a,y :: b,h=>by
  have:=Bb a b (by simpa using h)
  simp only [dZ,val]
  omega
theorem Bc:∀ (a b:List Int),b.length<=a.length->val (jn a b)=val a+val b
 | a,[],_=>by simp [uK,val]
 | [],y :: b,h=>by simp at h
 | x :: a,y :: b,h=>by
  have:=Bc a b (by simpa using h)
  simp only [jn,val]
  omega
theorem C6 {d:List Int} (h:∀ j,j<d.length->0<=d.getD j 0/\d.getD j 0<1000000000):Dig d:=by
 intro x hx
 obtain ⟨j,hj,rfl⟩:=List.getElem_of_mem hx
 have:=h j hj
 simpa [List.getD_eq_getElem?_getD,List.getElem?_eq_getElem hj] using this
structure NbI (L:Nat) (V:Int) (i:Nat) (d:List Int):Prop where
 l:d.length=L
 i1:i<=L
 lo:∀ j,j<i->0<=d.getD j 0/\d.getD j 0<1000000000
 me:-1000000000<=d.getD i 0/\d.getD i 0<1000000000
 hi:∀ j,i<j->-1000000000<d.getD j 0/\d.getD j 0<1000000000
 v:val d=V
theorem NbI.start {a b:List Int} (ha:Dig a) (hb:Dig b) (hl:b.length<=a.length):NbI a.length (val a - val b) 0 (dZ a b):=by
 have g:∀ j,-1000000000<(dZ a b).getD j 0/\(dZ a b).getD j 0<1000000000:=by
  intro j
  rcases Nat.lt_or_ge j a.length with h|h
  .rw [uL a b j h]
   have:=ha.get j
   have:=hb.get j
   omega
  .rw [List.getD_eq_getElem?_getD,List.getElem?_eq_none (by rw [pq]; exact h)]
   simp
 exact ⟨pq a b,Nat.zero_le _,fun j hj=>by omega,⟨by have:=g 0; omega,(g 0).2⟩,fun j _=>g j,Bb a b hl⟩
theorem Pu {d:List Int} {i:Nat} (hl:d.length=i+1) (lo:∀ j,j<i->0<=d.getD j 0/\d.getD j 0<1000000000) (hn:d.getD i 0<0):val d<0:=by
 have e:val d=val (d.take i)+pw i*d.getD i 0:=by
  rw [<- bU (by omega),<- hl,List.take_length]
 have dg:Dig (d.take i):=by
  apply C6
  intro j hj
  rw [List.length_take] at hj
  have:=lo j (by omega)
  simpa [List.getD_eq_getElem?_getD,List.getElem?_take,show j<i by omega] using this
 have h1:=bc dg
 rw [List.length_take,Nat.min_eq_left (by omega)] at h1
 have h2:pw i*d.getD i 0<=pw i * -1:=Int.mul_le_mul_of_nonneg_left (by omega) (Int.le_of_lt (pw_pos i))
 omega
theorem NbI.in {L:Nat} {V:Int} {i:Nat} {d:List Int} (h:NbI L V i d) (hV:0<=V) (hi:i<L) (hn:d.getD i 0<0):i+1<L:=by
 rcases Nat.lt_or_ge (i+1) L with h1|h1
 .exact h1
 .have:=Pu (i:=i) (by rw [h.l]; omega) h.lo hn
  rw [h.v] at this
  omega
theorem NbI.skip {L:Nat} {V:Int} {i:Nat} {d:List Int} (h:NbI L V i d) (hi:i<L) (hn:¬ d.getD i 0<0):NbI L V (i+1) d:=by
 obtain ⟨l,i1,lo,me,hi',v⟩:=h
 refine ⟨l,hi,fun j hj=>?_,?_,fun j hj=>hi' j (by omega),v⟩
 .rcases Nat.lt_or_ge j i with h1|h1
  .exact lo j h1
  .have:j=i:=by omega
   subst this; omega
 .have:=hi' (i+1) (by omega); omega
theorem NbI.step {L:Nat} {V:Int} {i:Nat} {d:List Int} (h:NbI L V i d) (hV:0<=V) (hi:i<L) (hn:d.getD i 0<0):
  NbI L V (i+1) ((d.set i (d.getD i 0+1000000000)).set (i+1) ((d.set i (d.getD i 0+1000000000)).getD (i+1) 0 - 1)):=by
 have h1:=h.in hV hi hn
 obtain ⟨l,i1,lo,me,hi',v⟩:=h
 have e1:(d.set i (d.getD i 0+1000000000)).getD (i+1) 0=d.getD (i+1) 0:=getD_set (by omega)
 rw [e1]
 have hn1:=hi' (i+1) (by omega)
 refine ⟨by simp [l],hi,fun j hj=>?_,?_,fun j hj=>?_,?_⟩
 .rw [getD_set (by omega)]
  rcases Nat.lt_or_ge j i with h2|h2
  .rw [getD_set (by omega)]; exact lo j h2
  .have:j=i:=by omega
   subst this
   rw [fg (by omega)]; omega
 .rw [fg (by rw [List.length_set]; omega)]; omega
 .rw [getD_set (by omega),getD_set (by omega)]
  exact hi' j (by omega)
 .rw [fS _ _ _ (by rw [List.length_set]; omega),fS _ _ _ (by omega),e1,fT]
  grind
theorem NbI.fin {L:Nat} {V:Int} {d:List Int} (h:NbI L V L d):d=aG L V:=by
 exact gU (C6 fun j hj=>h.lo j (by rw [<- h.l]; exact hj)) h.l h.v
structure NcI (L:Nat) (V:Int) (i:Nat) (d:List Int):Prop where
 l:d.length=L+1
 i1:i<=L
 lo:∀ j,j<i->0<=d.getD j 0/\d.getD j 0<1000000000
 me:0<=d.getD i 0/\d.getD i 0<2000000000
 hi:∀ j,i<j->0<=d.getD j 0/\d.getD j 0<1999999999
 t0:i<L->d.getD L 0=0
 t1:d.getD L 0<=1
 v:val d=V
theorem NcI.start {a b:List Int} (ha:Dig a) (hb:Dig b) (hl:b.length<=a.length):NcI a.length (val a+val b) 0 (jn (a++[0]) b):=by
 have da:Dig (a++[0]):=ph.2 ⟨ha,bB.2 ⟨by omega,b9⟩⟩
 have ll:(a++[(0:Int)]).length=a.length+1:=by simp
 have g:∀ j,0<=(jn (a++[0]) b).getD j 0/\(jn (a++[0]) b).getD j 0<1999999999:=by
  intro j
  rcases Nat.lt_or_ge j (a++[(0:Int)]).length with h|h
  .rw [px _ b j h]
   have:=da.get j
   have:=hb.get j
   omega
  .rw [List.getD_eq_getElem?_getD,List.getElem?_eq_none (by rw [pu]; exact h)]
   simp
 have top:(jn (a++[0]) b).getD a.length 0=0:=by
  rw [px _ b _ (by omega)]
  have e1:(a++[(0:Int)]).getD a.length 0=0:=by simp [List.getD_eq_getElem?_getD]
  have e2:b.getD a.length 0=0:=by rw [List.getD_eq_getElem?_getD,List.getElem?_eq_none hl]; rfl
  omega
 refine ⟨by rw [pu,ll],Nat.zero_le _,fun j hj=>by omega,⟨(g 0).1,by have:=(g 0).2; omega⟩,fun j _=>g j,fun _=>top,by omega,?_⟩
 rw [Bc _ b (by rw [ll]; omega),jb]
 simp [val]
theorem NcI.skip {L:Nat} {V:Int} {i:Nat} {d:List Int} (h:NcI L V i d) (hi:i<L) (hn:¬ 1000000000<=d.getD i 0):NcI L V (i+1) d:=by
 obtain ⟨l,i1,lo,me,hi',t0,t1,v⟩:=h
 refine ⟨l,hi,fun j hj=>?_,?_,fun j hj=>hi' j (by omega),fun _=>t0 hi,t1,v⟩
 .rcases Nat.lt_or_ge j i with h1|h1
  .exact lo j h1
  .have:j=i:=by omega
   subst this; omega
 .have:=hi' (i+1) (by omega); omega
theorem NcI.step {L:Nat} {V:Int} {i:Nat} {d:List Int} (h:NcI L V i d) (hi:i<L) (hn:1000000000<=d.getD i 0):
  NcI L V (i+1) ((d.set i (d.getD i 0 - 1000000000)).set (i+1) ((d.set i (d.getD i 0 - 1000000000)).getD (i+1) 0+1)):=by
 obtain ⟨l,i1,lo,me,hi',t0,t1,v⟩:=h
 have e1:(d.set i (d.getD i 0 - 1000000000)).getD (i+1) 0=d.getD (i+1) 0:=getD_set (by omega)
 rw [e1]
 have hn1:=hi' (i+1) (by omega)
 refine ⟨by simp [l],hi,fun j hj=>?_,?_,fun j hj=>?_,fun h2=>?_,?_,?_⟩
 .rw [getD_set (by omega)]
  rcases Nat.lt_or_ge j i with h2|h2
  .rw [getD_set (by omega)]; exact lo j h2
  .have:j=i:=by omega
   subst this
   rw [fg (by omega)]; omega
 .rw [fg (by rw [List.length_set]; omega)]; omega
 .rw [getD_set (by omega),getD_set (by omega)]
  exact hi' j (by omega)
 .rw [getD_set (by omega),getD_set (by omega)]
  exact t0 hi
 .rcases Nat.lt_or_ge (i+1) L with h2|h2
  .rw [getD_set (by omega),getD_set (by omega),t0 hi]; decide
  .have e2:i+1=L:=by omega
   have z:=t0 hi
   rw [<- e2] at z ⊢
   rw [fg (by rw [List.length_set]; omega),z]; decide
 .rw [fS _ _ _ (by rw [List.length_set]; omega),fS _ _ _ (by omega),e1,fT]
  grind
theorem NcI.fin {L:Nat} {V:Int} {d:List Int} (h:NcI L V L d):d=aG (L+1) V:=by
 refine gU (C6 fun j hj=>?_) h.l h.v
 rw [h.l] at hj
 rcases Nat.lt_or_ge j L with h1|h1
 .exact h.lo j h1
 .have e:j=L:=by omega
  have h2:=h.t1
  have h3:=h.me
  subst e
  omega
end Go.Dg
namespace Go.Proofs.YtmnhhlnbfkfkaaaGreat.K
open Go Go.Eng Go.Dg
noncomputable section
def qC:AFr:=⟨104,none⟩
def GS:Code:=bJ Tryz.prog 104 0
def C7:Code:=bJ Tryz.prog 104 1
noncomputable def m1S (a b:List Int):St:=ib cL 300 104 (zB a b) (zG a b)
def m1P (i:Int) (d:List Int):Patch:=⟨aC 6 2++(13,.int true .i64 i) :: aC 14 12,[(2,.ints .i64 d)],[]⟩
def m1X (a b:List Int):Patch:=m1P b.length (dZ a (b.take ((b.length:Int)).toNat))
def m1U (a b:List Int):SumL Int:=
 {
  S:=fun i=>m1P i (dZ a (b.take i.toNat))
  I:=fun i=>0<=i/\i<=b.length
  μ:=fun i=>(b.length - i).toNat
  F:=fun _=>(.exit 0,m1X a b)
  next:=fun i=>i+1
  ids:=fun _=>[]
  X:=fun i _=>some (m1P i (dZ a (b.take i.toNat)),[]) }
noncomputable def cM1 (a b:List Int):Ctx:=aw cL [aR 104 (m1S a b).hp.clock qC GS (m1S a b) (.exit 0) (m1X a b)]
noncomputable def m2S (a b:List Int):St:=ib (cM1 a b) 300 104 (zB a b) (zG a b)
def m2P (i:Int) (d:List Int):Patch:=⟨(8,.any false) :: (28,.int true .i64 i) :: aC 29 21,[(2,.ints .i64 d)],[]⟩
def uN (a b:List Int):Int:=val a - val b
def m2U (a b:List Int):SumL (Int×List Int):=
 {
  S:=fun (i,d)=>m2P i d
  I:=fun (i,d)=>0<=i/\NbI a.length (uN a b) i.toNat d
  μ:=fun (i,_)=>(a.length - i).toNat
  F:=fun _=>(.exit 2,m2P a.length (aG a.length (uN a b)))
  next:=fun (i,d)=>(i+1,bif decide (d.getD i.toNat 0<0) then (d.set i.toNat (d.getD i.toNat 0+1000000000)).set (i.toNat+1) ((d.set i.toNat (d.getD i.toNat 0+1000000000)).getD (i.toNat+1) 0 - 1) else d)
  ids:=fun _=>[]
  X:=fun (i,d) _=>some (m2P i d,[]) }
def cHb (l:List (Nat×Bool)):Ctx:=aP cL (hZ (l.map fun x=>(x.1,match x.2 with|true=>.bool false true|false=>.bool false false)))
theorem lP (l:List (Nat×Bool)):CtxOk (cHb l):=aj de _
def Be (a b:List Int):Prop:=(0:Int)=0/\a=dZ a (List.take (Int.toNat (0:Int)) b)
theorem KE (a b:List Int):fit (m1S a b) (m1S a b) (ac (m1S a b) ((m1U a b).S 0)) ([])=some (.p (Be a b)):=by kernel_rfl
def C8 (a b:List Int) (i:Int):Prop:=(decide (i<(↑b.length:Int))=true->(((0:Int)<=i/\i<(↑b.length:Int))/\i.toNat<b.length)/\((0:Int)<=i/\i<(↑a.length:Int))/\((0:Int)+i).toNat<(dZ a (List.take i.toNat b)).length/\((0:Int)<=i/\i<(↑a.length:Int))/\((0:Int)+i).toNat<(dZ a (List.take i.toNat b)).length)/\((!decide (i<(↑b.length:Int)))=true->(i=i/\dZ a (List.take i.toNat b)=dZ a (List.take i.toNat b))/\(m1U a b).F i=(Ex.exit (0:Nat),m1P i (dZ a (List.take i.toNat b))))/\(decide (i<(↑b.length:Int))=true->(IntKind.i64.wrap (i+1)=(m1U a b).next i/\(dZ a (List.take i.toNat b)).set ((0:Int)+i).toNat (IntKind.i64.wrap ((dZ a (List.take i.toNat b)).getD ((0:Int)+i).toNat (0:Int) - b.getD i.toNat (0:Int)))=dZ a (List.take ((m1U a b).next i).toNat b))/\(m1U a b).I ((m1U a b).next i)/\(m1U a b).μ ((m1U a b).next i)<(m1U a b).μ i/\(m1U a b).F ((m1U a b).next i)=(m1U a b).F i)
theorem Pv (a b:List Int) (i:Int):aW (m1S a b) ((m1U a b).way (i)) ((run cL 300).code qC GS (ac (m1S a b) ((m1U a b).S i)))=some (.p (C8 a b i)):=by kernel_rfl
def Bf (a b:List Int):Prop:=(0:Int)=0/\dZ a (List.take (↑b.length:Int).toNat b)=dZ a (List.take (↑b.length:Int).toNat b)
theorem KF (a b:List Int):fit (m2S a b) (m2S a b) (ac (m2S a b) ((m2U a b).S (0,dZ a (b.take ((b.length:Int)).toNat)))) ([])=some (.p (Bf a b)):=by kernel_rfl
def GT (a b:List Int) (i:Int) (d:List Int):Prop:=decide (i<(↑a.length:Int))=false/\(true=true->(i=i/\d=d)/\(m2U a b).F (i,d)=(Ex.exit (2:Nat),m2P i d))
theorem UA (a b:List Int) (i:Int) (d:List Int):aW (m2S a b) ((m2U a b).way ((i,d))) ((run (cHb [(29,false)]) 300).code qC C7 (ac (m2S a b) ((m2U a b).S (i,d))))=some (.p (GT a b i d)):=by kernel_rfl
def C9 (a b:List Int) (i:Int) (d:List Int):Prop:=(decide (i<(↑a.length:Int))=true/\((0:Int)<=i/\i<(↑a.length:Int))/\((0:Int)+i).toNat<d.length/\decide (d.getD ((0:Int)+i).toNat (0:Int)<0)=false)/\(true=true->(IntKind.i64.wrap (i+1)=i+1/\d=bif decide (d.getD i.toNat (0:Int)<0) then (d.set i.toNat (d.getD i.toNat (0:Int)+1000000000)).set (i.toNat+(1:Nat)) ((d.set i.toNat (d.getD i.toNat (0:Int)+1000000000)).getD (i.toNat+(1:Nat)) (0:Int) - (1:Int)) else d)/\(m2U a b).I ((m2U a b).next (i,d))/\(m2U a b).μ ((m2U a b).next (i,d))<(m2U a b).μ (i,d)/\(m2U a b).F ((m2U a b).next (i,d))=(m2U a b).F (i,d))
theorem Pw (a b:List Int) (i:Int) (d:List Int):aW (m2S a b) ((m2U a b).way ((i,d))) ((run (cHb [(29,true),(35,false)]) 300).code qC C7 (ac (m2S a b) ((m2U a b).S (i,d))))=some (.p (C9 a b i d)):=by kernel_rfl
def Da (a b:List Int) (i:Int) (d:List Int):Prop:=(decide (i<(↑a.length:Int))=true/\(((0:Int)<=i/\i<(↑a.length:Int))/\((0:Int)+i).toNat<d.length/\decide (d.getD ((0:Int)+i).toNat (0:Int)<0)=true)/\(((0:Int)<=i/\i<(↑a.length:Int))/\((0:Int)+i).toNat<d.length/\((0:Int)<=i/\i<(↑a.length:Int))/\((0:Int)+i).toNat<d.length)/\((0:Int)<=IntKind.i64.wrap (i+1)/\IntKind.i64.wrap (i+1)<(↑a.length:Int))/\((0:Int)+IntKind.i64.wrap (i+1)).toNat<(d.set ((0:Int)+i).toNat (IntKind.i64.wrap (d.getD ((0:Int)+i).toNat (0:Int)+1000000000))).length/\((0:Int)<=IntKind.i64.wrap (i+1)/\IntKind.i64.wrap (i+1)<(↑a.length:Int))/\((0:Int)+IntKind.i64.wrap (i+1)).toNat<(d.set ((0:Int)+i).toNat (IntKind.i64.wrap (d.getD ((0:Int)+i).toNat (0:Int)+1000000000))).length)/\(true=true->(IntKind.i64.wrap (i+1)=i+1/\(d.set ((0:Int)+i).toNat (IntKind.i64.wrap (d.getD ((0:Int)+i).toNat (0:Int)+1000000000))).set ((0:Int)+IntKind.i64.wrap (i+1)).toNat (IntKind.i64.wrap ((d.set ((0:Int)+i).toNat (IntKind.i64.wrap (d.getD ((0:Int)+i).toNat (0:Int)+1000000000))).getD ((0:Int)+IntKind.i64.wrap (i+1)).toNat (0:Int) - (1:Int)))=bif decide (d.getD i.toNat (0:Int)<0) then (d.set i.toNat (d.getD i.toNat (0:Int)+1000000000)).set (i.toNat+(1:Nat)) ((d.set i.toNat (d.getD i.toNat (0:Int)+1000000000)).getD (i.toNat+(1:Nat)) (0:Int) - (1:Int)) else d)/\(m2U a b).I ((m2U a b).next (i,d))/\(m2U a b).μ ((m2U a b).next (i,d))<(m2U a b).μ (i,d)/\(m2U a b).F ((m2U a b).next (i,d))=(m2U a b).F (i,d))
theorem Px (a b:List Int) (i:Int) (d:List Int):aW (m2S a b) ((m2U a b).way ((i,d))) ((run (cHb [(29,true),(35,true)]) 300).code qC C7 (ac (m2S a b) ((m2U a b).S (i,d))))=some (.p (Da a b i d)):=by kernel_rfl
theorem zt (i:Int):(0+i).toNat=i.toNat:=by rw [Int.zero_add]
theorem Py {a b:List Int} (ha:Dig a) (hb:Dig b) (la:Sm a) (hl:b.length<=a.length):CodeOk cL qC (.loop GS) (m1S a b) ⟨.tt,[⟨.tt,.exit 0,ac (m1S a b) (m1X a b)⟩]⟩:=by
 have la:=la.le
 refine cY (aQ de 300) (m1U a b) (y0:=0) ⟨by omega,by omega⟩ ⟨_,KE a b,rfl,(uJ a).symm⟩ (by kernel_rfl) (fun i hi=>⟨_,Pv a b i,?_⟩) rfl
 obtain ⟨i0,i1⟩:=(show 0<=i/\i<=b.length from hi)
 have ll:=pq a (b.take i.toNat)
 refine ⟨fun h=>?_,fun h=>⟨⟨rfl,rfl⟩,?_⟩,fun h=>?_⟩
 .have h:i<b.length:=dt.1 h
  rw [zt,ll]
  exact ⟨⟨⟨i0,h⟩,by omega⟩,⟨i0,by omega⟩,by omega,⟨i0,by omega⟩,by omega⟩
 .have h:=ndt.1 h
  obtain rfl:i=b.length:=by omega
  rfl
 .have h:i<b.length:=dt.1 h
  have g1:=ha.get i.toNat
  have g2:=hb.get i.toNat
  have e0:(b.take i.toNat).getD i.toNat 0=0:=by rw [List.getD_eq_getElem?_getD,List.getElem?_eq_none (by rw [List.length_take]; omega)]; rfl
  have e1:=uL a (b.take i.toNat) i.toNat (by omega)
  rw [e0] at e1
  refine ⟨⟨iw (by omega) (by omega),?_⟩,?_,?_,rfl⟩
  .rw [zt,iw (by omega) (by omega),wo a b i.toNat (by omega) hl]
   show _=dZ a (b.take (i+1).toNat)
   rw [show (i+1).toNat=i.toNat+1 by omega]
  .show 0<=i+1/\i+1<=b.length
   omega
  .show (b.length - (i+1)).toNat<(b.length - i).toNat
   omega
theorem Pz {a b:List Int} (ha:Dig a) (hb:Dig b) (la:Sm a) (hl:b.length<=a.length) (hV:0<=uN a b):CodeOk cL qC (.loop C7) (m2S a b) ⟨.tt,[⟨.tt,.exit 2,ac (m2S a b) (m2P a.length (aG a.length (uN a b)))⟩]⟩:=by
 have la:=la.le
 refine cG (m2U a b) (y0:=(0,dZ a (b.take ((b.length:Int)).toNat))) ?_ ⟨_,KF a b,rfl,rfl⟩ (by kernel_rfl) (fun y hy=>?_) rfl
 .show 0<=0/\NbI _ _ _ _
  rw [show ((b.length:Int)).toNat=b.length by omega,List.take_length]
  exact ⟨by decide,NbI.start ha hb hl⟩
 obtain ⟨i,d⟩:=y
 obtain ⟨i0,hI⟩:=(show 0<=i/\NbI a.length (uN a b) i.toNat d from hy)
 obtain ⟨l,i1,lo,me,hi',v⟩:=id hI
 have e2:(i+1).toNat=i.toNat+1:=by omega
 by_cases hlt:i<a.length
 .have iw1:IntKind.i64.wrap (i+1)=i+1:=iw (by omega) (by omega)
  have mu:(a.length - (i+1)).toNat<(a.length - i).toNat:=by omega
  by_cases hn:d.getD i.toNat 0<0
  .have h1:=hI.in hV (by omega) hn
   have h2:=hi' (i.toNat+1) (by omega)
   have e3:(d.set i.toNat (d.getD i.toNat 0+1000000000)).getD (i.toNat+1) 0=d.getD (i.toNat+1) 0:=getD_set (by omega)
   have e4:IntKind.i64.wrap (d.getD i.toNat 0+1000000000)=d.getD i.toNat 0+1000000000:=iw (by omega) (by omega)
   have e5:IntKind.i64.wrap (d.getD (i.toNat+1) 0 - 1)=d.getD (i.toNat+1) 0 - 1:=iw (by omega) (by omega)
   have hb':(bif decide (d.getD i.toNat 0<0) then (d.set i.toNat (d.getD i.toNat 0+1000000000)).set (i.toNat+1) ((d.set i.toNat (d.getD i.toNat 0+1000000000)).getD (i.toNat+1) 0 - 1) else d)=(d.set i.toNat (d.getD i.toNat 0+1000000000)).set (i.toNat+1) ((d.set i.toNat (d.getD i.toNat 0+1000000000)).getD (i.toNat+1) 0 - 1):=by rw [decide_eq_true hn]; rfl
   refine ⟨cHb [(29,true),(35,true)],300,lP _,rfl,rfl,_,Px a b i d,?_,fun _=>?_⟩
   .rw [zt,iw1,zt,e2,e4,List.length_set]
    exact ⟨decide_eq_true hlt,⟨⟨i0,hlt⟩,by omega,decide_eq_true hn⟩,⟨⟨i0,hlt⟩,by omega,⟨i0,hlt⟩,by omega⟩,⟨by omega,by omega⟩,by omega,⟨by omega,by omega⟩,by omega⟩
   .refine ⟨⟨iw1,?_⟩,?_,mu,rfl⟩
    .rw [zt,iw1,zt,e2,e4,hb',e3,e5]
    .show 0<=i+1/\NbI _ _ (i+1).toNat _
     rw [e2,hb']
     exact ⟨by omega,hI.step hV (by omega) hn⟩
  .have hb':(bif decide (d.getD i.toNat 0<0) then (d.set i.toNat (d.getD i.toNat 0+1000000000)).set (i.toNat+1) ((d.set i.toNat (d.getD i.toNat 0+1000000000)).getD (i.toNat+1) 0 - 1) else d)=d:=by rw [decide_eq_false hn]; rfl
   refine ⟨cHb [(29,true),(35,false)],300,lP _,rfl,rfl,_,Pw a b i d,?_,fun _=>⟨⟨iw1,hb'.symm⟩,?_,mu,rfl⟩⟩
   .rw [zt]
    exact ⟨decide_eq_true hlt,⟨i0,hlt⟩,by omega,decide_eq_false hn⟩
   .show 0<=i+1/\NbI _ _ (i+1).toNat _
    rw [e2,hb']
    exact ⟨by omega,hI.skip (by omega) hn⟩
 .refine ⟨cHb [(29,false)],300,lP _,rfl,rfl,_,UA a b i d,decide_eq_false hlt,fun _=>⟨⟨rfl,rfl⟩,?_⟩⟩
  have e:i.toNat=a.length:=by omega
  rw [e] at hI
  show (Ex.exit 2,m2P a.length (aG a.length (uN a b)))=(Ex.exit 2,m2P i d)
  rw [<- hI.fin,show i=a.length by omega]
noncomputable def mtS (a b d:List Int) (N:Int):St:=ib cL 300 117 [.islice true 2 0 N] ⟨[⟨23,.ints .i64 d⟩,⟨0,.rows .i64 b⟩,⟨0,.rows .i64 a⟩],3,26⟩
theorem KG (a b d:List Int) (N:Int):fit (mtS a b d N) (mtS a b d N) (ac (mtS a b d N) ((trU 2 d N).S N)) []=some (.p ((0:Int)=0/\N=N)):=by kernel_rfl
theorem PA (a b d:List Int) (N y:Int):aW (mtS a b d N) ((trU 2 d N).way y) ((run cL 300).code iB trA (ac (mtS a b d N) ((trU 2 d N).S y)))=some (.p (trN 2 d N y)):=by kernel_rfl
theorem PB (a b:List Int) {d:List Int} {N:Int} (hN:N=d.length) (ld:Sm d):CodeOk cL iB (.loop trA) (mtS a b d N) ⟨.tt,[⟨.tt,.exit 0,ac (mtS a b d N) (trP 2 (tlI d N))⟩]⟩:=sC hN ld (KG a b d N) (by kernel_rfl) (fun y=>PA a b d N y)
def miD (a b:List Int):List Int:=aG a.length (uN a b)
noncomputable def cMt (a b:List Int):Ctx:=aw cL [aR 104 (m1S a b).hp.clock qC GS (m1S a b) (.exit 0) (m1X a b),aR 104 (m2S a b).hp.clock qC C7 (m2S a b) (.exit 2) (m2P a.length (miD a b)),
 aR 117 29 iB trA (mtS a b (miD a b) a.length) (.exit 0) (trP 2 (tlI (miD a b) a.length))]
theorem yc (a b:List Int):(miD a b).length=a.length:=a6 _ _
theorem UB {a b:List Int} (ha:Dig a) (hb:Dig b) (la:Sm a) (hl:b.length<=a.length) (hV:0<=uN a b):CtxOk (cMt a b):=
 ak de (Py ha hb la hl) (ak de (Pz ha hb la hl hV) (ak de (PB a b (by rw [yc]) (by show (miD a b).length<=500000; rw [yc]; exact la)) (aq de)))
def KH (a b:List Int):Prop:=(((0:Int)<(↑a.length:Int)/\(↑a.length:Int)=(↑a.length:Int)/\(0:Int)<(↑a.length:Int)/\(↑a.length:Int)<=1048576)/\At (qC) (qC) (GS) (GS) (m1S a b) (m1S a b)/\At (qC) (qC) (C7) (C7) (m2S a b) (m2S a b)/\At (iB) (iB) (trA) (trA) (mtS a b (miD a b) a.length) (mtS a b (miD a b) a.length))
def PC (a b:List Int):AV:=(AV.islice true 2 (0:Int) (tlI (miD a b) (↑a.length:Int)))
def PD (a b:List Int):Hp:=⟨[{ wr:=23,body:=ABody.ints IntKind.i64 (miD a b) },{ wr:=(0:Nat),body:=ABody.rows IntKind.i64 b },{ wr:=(0:Nat),body:=ABody.rows IntKind.i64 a }],3,33⟩
theorem Yv (a b:List Int):(run (cMt a b) 300).call 104 (zB a b) (zG a b)=some ⟨.p (KH a b),[⟨.tt,PC a b,PD a b⟩]⟩:=by kernel_rfl
end
end Go.Proofs.YtmnhhlnbfkfkaaaGreat.K
