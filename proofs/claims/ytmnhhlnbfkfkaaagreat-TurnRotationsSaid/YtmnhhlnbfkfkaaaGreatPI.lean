/- What is proved: TurnRotations returns true, whatever the input (part 9). No conditions beyond those of the row. -/
import Derived.Test.YtmnhhlnbfkfkaaaGreatPG
import Derived.Test.YtmnhhlnbfkfkaaaGreatPH
import Derived.KernelRfl
set_option linter.unusedVariables false
set_option linter.unusedSimpArgs false
set_option linter.unusedSectionVars false
namespace Go.Dg
def jD (a b:List Int):Nat->Bool
 | 0=>false
 | n+1=>if a.getD n 0=b.getD n 0 then jD a b n else decide (a.getD n 0<b.getD n 0)
theorem wd {a b:List Int} (ha:Dig a) (hb:Dig b):∀ {n:Nat},n<=a.length->n<=b.length->(jD a b n=true ↔ val (a.take n)<val (b.take n))
 | 0,_,_=>by simp [jD,val]
 | n+1,h1,h2=>by
  have ih:=wd ha hb (n:=n) (by omega) (by omega)
  simp only [jD]
  rw [bS (by omega),bS (by omega)]
  split
  .rename_i he
   rw [ih,he]
   omega
  .rename_i he
   have x1:=ba (ha.take n)
   have x2:=ba (hb.take n)
   have y1:=af (ha.take n)
   have y2:=af (hb.take n)
   rw [List.length_take,Nat.min_eq_left (by omega)] at x1 x2
   have hp:=pw_pos n
   simp only [decide_eq_true_eq]
   constructor
   .intro hlt
    have:pw n*(a.getD n 0+1)<=pw n*b.getD n 0:=Int.mul_le_mul_of_nonneg_left (by omega) (by omega)
    rw [Int.mul_add] at this
    omega
   .intro hlt
    rcases (show a.getD n 0<b.getD n 0\/b.getD n 0<=a.getD n 0 by omega) with h|h
    .exact h
    .have:pw n*(b.getD n 0+1)<=pw n*a.getD n 0:=Int.mul_le_mul_of_nonneg_left (by omega) (by omega)
     rw [Int.mul_add] at this
     omega
theorem bK {m n:Nat} (h:m<=n):pw m<=pw n:=by
 obtain ⟨k,rfl⟩:=Nat.le.dest h
 rw [nQ]
 have h1:=pw_pos m
 have h2:=pw_pos k
 calc pw m=pw m*1:=(Int.mul_one _).symm
  _<=pw m*pw k:=Int.mul_le_mul_of_nonneg_left h2 (Int.le_of_lt h1)
theorem xK {l:List Int} (h:Dig l) (ht:Top l) (hne:l≠[]):pw (l.length - 1)<=val l:=by
 have hpos:0<l.length:=List.length_pos_iff.2 hne
 have h1:val l=val (l.take (l.length - 1))+pw (l.length - 1)*l.getD (l.length - 1) 0:=by
  have:=bS (l:=l) (n:=l.length - 1) (by omega)
  rw [show l.length - 1+1=l.length by omega,List.take_length] at this
  exact this
 have h2:=af (h.take (l.length - 1))
 have h3:1<=l.getD (l.length - 1) 0:=by
  rcases ht with ht|ht
  .exact absurd ht hne
  .have:=h.get (l.length - 1); omega
 have h4:pw (l.length - 1)*1<=pw (l.length - 1)*l.getD (l.length - 1) 0:=Int.mul_le_mul_of_nonneg_left h3 (Int.le_of_lt (pw_pos _))
 omega
theorem kv {a b:List Int} (ha:Dig a) (hb:Dig b) (tb:Top b) (h:a.length<b.length):val a<val b:=by
 have h1:=ba ha
 have h2:=xK hb tb (by rintro rfl; simp at h)
 have h3:=bK (show a.length<=b.length - 1 by omega)
 omega
def ct (a b:List Int):Bool:=if a.length=b.length then jD a b a.length else decide (a.length<b.length)
theorem gA {a b:List Int} (ha:Dig a) (hb:Dig b) (ta:Top a) (tb:Top b):ct a b=true ↔ val a<val b:=by
 unfold ct
 split
 .rename_i h
  rw [wd ha hb (Nat.le_refl _) (by omega),List.take_length,h,List.take_length]
 .rename_i h
  simp only [decide_eq_true_eq]
  constructor
  .exact fun hl=>kv ha hb tb hl
  .intro hv
   rcases Nat.lt_or_ge a.length b.length with h1|h1
   .exact h1
   .have:=kv hb ha ta (by omega)
    omega
def dD (a b:List Int):Nat->Nat->Int->List Int->List Int
 | 0,_,_,d=>d
 | n+1,i,c,d=>if i<a.length\/i<b.length\/0<c then dD a b n (i+1) ((a.getD i 0+b.getD i 0+c).tdiv (1000000000:Int)) (d++[(a.getD i 0+b.getD i 0+c).tmod (1000000000:Int)]) else d
theorem sv {l:List Int} {i:Nat} (h:l.length<=i):l.getD i 0=0:=by
 rw [List.getD_eq_getElem?_getD,List.getElem?_eq_none h]; rfl
theorem val_take_succ' (l:List Int) (n:Nat):val (l.take (n+1))=val (l.take n)+pw n*l.getD n 0:=by
 rcases Nat.lt_or_ge n l.length with h|h
 .exact bS h
 .rw [List.take_of_length_le (by omega),List.take_of_length_le (by omega),sv h]; simp
theorem pc {a b:List Int} (ha:Dig a) (hb:Dig b) {c:Int} (hc:0<=c/\c<=1) (i:Nat):
  0<=(a.getD i 0+b.getD i 0+c).tmod (1000000000:Int)/\(a.getD i 0+b.getD i 0+c).tmod (1000000000:Int)<(1000000000:Int)/\0<=(a.getD i 0+b.getD i 0+c).tdiv (1000000000:Int)/\(a.getD i 0+b.getD i 0+c).tdiv (1000000000:Int)<=1 /\
  (a.getD i 0+b.getD i 0+c).tmod (1000000000:Int)+(1000000000:Int)*(a.getD i 0+b.getD i 0+c).tdiv (1000000000:Int)=a.getD i 0+b.getD i 0+c:=by
 have h1:=ha.get i
 have h2:=hb.get i
 generalize a.getD i 0=x at *
 generalize b.getD i 0=y at *
 have hs:0<=x+y+c:=by omega
 rw [Int.tmod_eq_emod_of_nonneg hs,Int.tdiv_eq_ediv_of_nonneg hs]
 omega
theorem AJ {a b:List Int} (ha:Dig a) (hb:Dig b):∀ (n i:Nat) (c:Int) (d:List Int),Dig d->d.length=i->0<=c/\c<=1->val d+pw i*c=val (a.take i)+val (b.take i)->a.length+1<=i+n->b.length+1<=i+n ->
  Dig (dD a b n i c d)/\val (dD a b n i c d)=val a+val b
 | 0,i,c,d,hd,hl,hc,hv,h1,h2=>by
  simp only [dD]
  rw [List.take_of_length_le (by omega),List.take_of_length_le (by omega)] at hv
  have q1:=ba ha
  have q2:=ba hb
  have q3:=bK (show a.length+1<=i by omega)
  have q4:=bK (show b.length+1<=i by omega)
  simp only [pw] at q3 q4
  have q5:=pw_pos i
  have q6:=af hd
  have q7:=af ha
  have q8:=af hb
  have hc0:c=0:=by
   rcases (show c=0\/c=1 by omega) with h|h
   .exact h
   .subst h
    have r1:=pw_pos a.length
    have r2:=pw_pos b.length
    omega
  subst hc0
  exact ⟨hd,by simpa using hv⟩
 | n+1,i,c,d,hd,hl,hc,hv,h1,h2=>by
  simp only [dD]
  split
  .obtain ⟨s1,s2,s3,s4,s5⟩:=pc ha hb hc i
   refine AJ ha hb n (i+1) _ _ (o9.2 ⟨hd,bz.2 ⟨⟨s1,s2⟩,b8⟩⟩) (by simp [hl]) ⟨s3,s4⟩ ?_ (by omega) (by omega)
   rw [iY,hl,val_take_succ',val_take_succ']
   simp only [val,pw]
   have e:pw i*((a.getD i 0+b.getD i 0+c).tmod (1000000000:Int)+(1000000000:Int)*(a.getD i 0+b.getD i 0+c).tdiv (1000000000:Int))=pw i*(a.getD i 0+b.getD i 0+c):=by rw [s5]
   rw [Int.mul_add,Int.mul_add,Int.mul_add] at e
   have e2:(1000000000:Int)*pw i*(a.getD i 0+b.getD i 0+c).tdiv (1000000000:Int)=pw i*((1000000000:Int)*(a.getD i 0+b.getD i 0+c).tdiv (1000000000:Int)):=by rw [Int.mul_comm (1000000000:Int),Int.mul_assoc]
   rw [e2]
   simp only [Int.mul_zero,Int.add_zero]
   omega
  .rename_i hn
   have hc0:c=0:=by omega
   subst hc0
   rw [List.take_of_length_le (by omega),List.take_of_length_le (by omega)] at hv
   exact ⟨hd,by simpa using hv⟩
def dK (a b:List Int):Nat->Nat->Int->List Int->List Int
 | 0,_,_,d=>d
 | n+1,i,c,d=>dK a b n (i+1) (if a.getD i 0 - b.getD i 0 - c<0 then 1 else 0) (d++[if a.getD i 0 - b.getD i 0 - c<0 then a.getD i 0 - b.getD i 0 - c+(1000000000:Int) else a.getD i 0 - b.getD i 0 - c])
theorem AK {a b:List Int} (ha:Dig a) (hb:Dig b):∀ (n i:Nat) (c:Int) (d:List Int),Dig d->d.length=i->0<=c/\c<=1->val d - pw i*c=val (a.take i) - val (b.take i) ->
  ∃ c',Dig (dK a b n i c d)/\(dK a b n i c d).length=i+n/\0<=c'/\c'<=1/\val (dK a b n i c d) - pw (i+n)*c'=val (a.take (i+n)) - val (b.take (i+n))
 | 0,i,c,d,hd,hl,hc,hv=>⟨c,hd,hl,hc.1,hc.2,hv⟩
 | n+1,i,c,d,hd,hl,hc,hv=>by
  have h1:=ha.get i
  have h2:=hb.get i
  have key:∃ c' x:Int,c'=(if a.getD i 0 - b.getD i 0 - c<0 then 1 else 0)/\x=(if a.getD i 0 - b.getD i 0 - c<0 then a.getD i 0 - b.getD i 0 - c+(1000000000:Int) else a.getD i 0 - b.getD i 0 - c)/\0<=c'/\c'<=1/\0<=x/\x<(1000000000:Int)/\x - (1000000000:Int)*c'=a.getD i 0 - b.getD i 0 - c:=by
   refine ⟨_,_,rfl,rfl,?_⟩
   generalize a.getD i 0=x at *
   generalize b.getD i 0=y at *
   split <;> omega
  obtain ⟨c',x,e1,e2,k1,k2,k3,k4,k5⟩:=key
  simp only [dK]
  rw [<- e1,<- e2]
  have:=AK ha hb n (i+1) c' (d++[x]) (o9.2 ⟨hd,bz.2 ⟨⟨k3,k4⟩,b8⟩⟩) (by simp [hl]) ⟨k1,k2⟩ (by
   rw [iY,hl,val_take_succ',val_take_succ']
   simp only [val,pw]
   have e:pw i*(x - (1000000000:Int)*c')=pw i*(a.getD i 0 - b.getD i 0 - c):=by rw [k5]
   rw [Int.mul_sub,Int.mul_sub,Int.mul_sub] at e
   have e2:(1000000000:Int)*pw i*c'=pw i*((1000000000:Int)*c'):=by rw [Int.mul_comm (1000000000:Int),Int.mul_assoc]
   rw [e2]
   simp only [Int.mul_zero,Int.add_zero]
   omega)
  rw [show i+1+n=i+(n+1) by omega] at this
  exact this
theorem OK {a b:List Int} (ha:Dig a) (hb:Dig b) (hle:val b<=val a) (hl:b.length<=a.length):Dig (dK a b a.length 0 0 [])/\val (dK a b a.length 0 0 [])=val a - val b:=by
 obtain ⟨c',h1,h2,h3,h4,h5⟩:=AK ha hb a.length 0 0 [] b8 rfl (by omega) (by simp [val])
 rw [Nat.zero_add,List.take_length,List.take_of_length_le hl] at h5
 rw [Nat.zero_add] at h2
 have h6:=ba h1
 have h7:=af h1
 rw [h2] at h6
 have hc:c'=0:=by
  rcases (show c'=0\/c'=1 by omega) with h|h
  .exact h
  .subst h; omega
 subst hc
 exact ⟨h1,by simpa using h5⟩
theorem Sx {m n:Nat} (h:pw m<pw n):m<n:=by
 rcases Nat.lt_or_ge m n with h1|h1
 .exact h1
 .have:=bK h1; omega
theorem JV {d:List Int} (hd:Dig d) {j:Nat} {n:Int} (h0:0<n) (hlt:val d+pw j*n<pw d.length):j<d.length:=by
 have h1:=af hd
 have h2:pw j*1<=pw j*n:=Int.mul_le_mul_of_nonneg_left h0 (Int.le_of_lt (pw_pos j))
 exact Sx (by omega)
theorem CD {d:List Int} (hd:Dig d) {j:Nat} {n:Int} (h0:0<=n) (hj:j<d.length):
  Dig (d.set j ((n+d.getD j 0).tmod (1000000000:Int)))/\0<=(n+d.getD j 0).tdiv (1000000000:Int)/\val (d.set j ((n+d.getD j 0).tmod (1000000000:Int)))+pw (j+1)*(n+d.getD j 0).tdiv (1000000000:Int)=val d+pw j*n/\0<=(n+d.getD j 0).tmod (1000000000:Int)/\(n+d.getD j 0).tmod (1000000000:Int)<(1000000000:Int):=by
 have h1:=hd.get j
 have key:0<=(n+d.getD j 0).tmod (1000000000:Int)/\(n+d.getD j 0).tmod (1000000000:Int)<(1000000000:Int)/\0<=(n+d.getD j 0).tdiv (1000000000:Int)/\(n+d.getD j 0).tmod (1000000000:Int)+(1000000000:Int)*(n+d.getD j 0).tdiv (1000000000:Int)=n+d.getD j 0:=by
  have hs:0<=n+d.getD j 0:=by omega
  rw [Int.tmod_eq_emod_of_nonneg hs,Int.tdiv_eq_ediv_of_nonneg hs]
  omega
 obtain ⟨k1,k2,k3,k4⟩:=key
 refine ⟨hd.set j ⟨k1,k2⟩,k3,?_,k1,k2⟩
 rw [fQ d j _ hj]
 simp only [pw]
 have e:pw j*((n+d.getD j 0).tmod (1000000000:Int)+(1000000000:Int)*(n+d.getD j 0).tdiv (1000000000:Int))=pw j*(n+d.getD j 0):=by rw [k4]
 rw [Int.mul_add,Int.mul_add] at e
 rw [Int.mul_sub,Int.mul_comm (1000000000:Int),Int.mul_assoc]
 omega
theorem ve (x:Int) (b:List Int) (i k:Nat):pw i*(x*val (b.take (k+1)))=pw i*(x*val (b.take k))+pw (i+k)*(x*b.getD k 0):=by
 rw [val_take_succ',Int.mul_add,Int.mul_add,nQ,Int.mul_assoc (pw i) (pw k)]
 congr 2
 rw [Int.mul_left_comm]
theorem EM (a b:List Int) (i:Nat):val (a.take (i+1))*val b=val (a.take i)*val b+pw i*(a.getD i 0*val b):=by
 rw [val_take_succ',Int.add_mul,Int.mul_assoc]
theorem TN {a b:List Int} (ha:Dig a) (hb:Dig b):val a*val b<pw (a.length+b.length)\/(a.length+b.length=0/\val a*val b=0):=by
 left
 rw [nQ]
 have h1:=ba ha
 have h2:=ba hb
 have h3:=af ha
 have h4:=af hb
 have q1:val a*val b<=val a*pw b.length:=Int.mul_le_mul_of_nonneg_left (by omega) h3
 have q2:(val a+1)*pw b.length<=pw a.length*pw b.length:=Int.mul_le_mul_of_nonneg_right (by omega) (Int.le_of_lt (pw_pos _))
 rw [Int.add_mul] at q2
 have:=pw_pos b.length
 omega
def fr (x:Int):Int:=if x.tmod (1000000000:Int)<0 then x.tmod (1000000000:Int)+(1000000000:Int) else x.tmod (1000000000:Int)
def fq (x:Int):Int:=if x.tmod (1000000000:Int)<0 then x.tdiv (1000000000:Int) - 1 else x.tdiv (1000000000:Int)
theorem TO (x:Int):0<=fr x/\fr x<(1000000000:Int)/\fr x+(1000000000:Int)*fq x=x:=by
 have h1:=Int.mul_tdiv_add_tmod x (1000000000:Int)
 have h2:-(1000000000:Int)<x.tmod (1000000000:Int)/\x.tmod (1000000000:Int)<(1000000000:Int):=by
  have:=Int.natAbs_tmod x (1000000000:Int)
  have h3:x.natAbs % 1000000000<1000000000:=Nat.mod_lt _ (by decide)
  have h4:(x.tmod (1000000000:Int)).natAbs<1000000000:=by rw [this]; exact h3
  omega
 unfold fr fq
 split <;> omega
def xL (d b:List Int):Int:=(d.getD b.length 0*(1000000000:Int)+d.getD (b.length - 1) 0).tdiv (b.getD (b.length - 1) 0+1)
theorem OL {l:List Int} (hne:l≠[]):val l=val (l.take (l.length - 1))+pw (l.length - 1)*l.getD (l.length - 1) 0:=by
 have hpos:0<l.length:=List.length_pos_iff.2 hne
 have:=bS (l:=l) (n:=l.length - 1) (by omega)
 rw [show l.length - 1+1=l.length by omega,List.take_length] at this
 exact this
theorem JW {d b:List Int} (hd:Dig d) (hb:Dig b) (td:Top d) (tb:Top b) (hbn:b≠[]) (hge:val b<=val d) (hlt:val d<(1000000000:Int)*val b):
  b.length<=d.length/\d.length<=b.length+1/\0<=xL d b/\xL d b<(1000000000:Int)/\xL d b*val b<=val d:=by
 have hpos:0<b.length:=List.length_pos_iff.2 hbn
 have hp:=pw_pos (b.length - 1)
 have hl1:b.length<=d.length:=by
  rcases Nat.lt_or_ge d.length b.length with h|h
  .have:=kv hd hb tb h; omega
  .exact h
 have hdn:d≠[]:=by rintro rfl; exact hbn (by simpa using hl1)
 have hl2:d.length<=b.length+1:=by
  rcases Nat.lt_or_ge (b.length+1) d.length with h|h
  .have q1:=xK hd td hdn
   have q2:=ba hb
   have q3:=bK (show b.length+1<=d.length - 1 by omega)
   simp only [pw] at q3
   omega
  .exact h
 have hbt:=hb.get (b.length - 1)
 have hbv:=OL hbn
 have hbl:=ba (hb.take (b.length - 1))
 rw [List.length_take,Nat.min_eq_left (by omega)] at hbl
 have hT:pw (b.length - 1)*(d.getD b.length 0*(1000000000:Int)+d.getD (b.length - 1) 0)<=val d:=by
  have e1:=val_take_succ' d (b.length - 1)
  rw [show b.length - 1+1=b.length by omega] at e1
  have e2:=val_take_succ' d b.length
  rw [List.take_of_length_le hl2] at e2
  have e3:=af (hd.take (b.length - 1))
  have e4:pw b.length=(1000000000:Int)*pw (b.length - 1):=by
   conv=>lhs; rw [show b.length=b.length - 1+1 by omega]
   rfl
  rw [e4] at e2
  rw [Int.mul_add,<- Int.mul_assoc,Int.mul_right_comm,Int.mul_comm (pw (b.length - 1)) (1000000000:Int)]
  omega
 have hd1:=hd.get b.length
 have hd2:=hd.get (b.length - 1)
 generalize hTT:d.getD b.length 0*(1000000000:Int)+d.getD (b.length - 1) 0=T at *
 have hT0:0<=T:=by omega
 generalize hbb:b.getD (b.length - 1) 0=t at *
 have hk:xL d b=T / (t+1):=by
  unfold xL
  rw [hTT,hbb,Int.tdiv_eq_ediv_of_nonneg hT0]
 have k0:0<=T / (t+1):=Int.ediv_nonneg hT0 (by omega)
 have k1:T / (t+1)*(t+1)<=T:=Int.ediv_mul_le T (by omega)
 have k2:pw (b.length - 1)*(T / (t+1)*(t+1))<=pw (b.length - 1)*T:=Int.mul_le_mul_of_nonneg_left k1 (Int.le_of_lt hp)
 have k3:T / (t+1)*val b<=T / (t+1)*(pw (b.length - 1)*(t+1)):=by
  refine Int.mul_le_mul_of_nonneg_left ?_ k0
  rw [Int.mul_add]
  omega
 have k4:T / (t+1)*(pw (b.length - 1)*(t+1))=pw (b.length - 1)*(T / (t+1)*(t+1)):=Int.mul_left_comm ..
 refine ⟨hl1,hl2,by rw [hk]; exact k0,?_,by rw [hk]; omega⟩
 rw [hk]
 have k5:pw (b.length - 1)*T<pw (b.length - 1)*((1000000000:Int)*(t+1)):=by
  have:(1000000000:Int)*val b<(1000000000:Int)*(pw (b.length - 1)*(t+1)):=by
   rw [Int.mul_add (pw (b.length - 1))]
   omega
  rw [Int.mul_left_comm]
  omega
 have k6:T<(1000000000:Int)*(t+1):=Int.lt_of_mul_lt_mul_left k5 (Int.le_of_lt hp)
 exact Int.ediv_lt_of_lt_mul (by omega) k6
end Go.Dg
namespace Go.Dg
open Go Go.Eng
theorem bt {p:Prop} [Decidable p] {b:Bool}:(bif decide p then b else false)=true ↔ p/\b=true:=by
 by_cases h:p <;> simp [h]
theorem bo {p:Prop} [Decidable p] {b:Bool}:(bif decide p then true else b)=true ↔ p\/b=true:=by
 by_cases h:p <;> simp [h]
theorem nbt {p:Prop} [Decidable p] {b:Bool}:(!bif decide p then b else false)=true ↔ (p->b=false):=by
 by_cases h:p <;> simp [h]
theorem nbo {p:Prop} [Decidable p] {b:Bool}:(!bif decide p then true else b)=true ↔ ¬p/\b=false:=by
 by_cases h:p <;> simp [h]
theorem eb {x y:Int}:(x==y)=true ↔ x=y:=⟨eq_of_beq,fun h=>by rw [h]; exact beq_self_eq_true y⟩
theorem neb {x y:Int}:(x==y)=false ↔ x≠y:=by
 constructor
 .intro h e; rw [eb.2 e] at h; cases h
 .intro h
  cases e:(x==y) with
  | false=>rfl
  | true=>exact absurd (eb.1 e) h
theorem dt {p:Prop} [Decidable p]:decide p=true ↔ p:=decide_eq_true_iff
theorem ndt {p:Prop} [Decidable p]:(!decide p)=true ↔ ¬p:=by by_cases h:p <;> simp [h]
def Sm (d:List Int):Prop:=d.length<=500000
theorem Sm.le {d:List Int} (h:Sm d):d.length<=500000:=h
theorem iw {n:Int} (h0:-9223372036854775808<=n) (h1:n<9223372036854775808):IntKind.i64.wrap n=n:=Go.Ar.i64w h0 h1
end Go.Dg
namespace Go.Proofs.YtmnhhlnbfkfkaaaGreat.K
open Go Go.Eng
noncomputable section
def cL:Ctx:=mkN Tryz.prog (fun _=>none) hG0 [] [] dJ
def mdH (d:List Int):Hp:=dV true hG0 [(.i64,d)]
def qt (neg:Bool) (d:List Int):List AV:=[.bool true neg,.lslice 0 d.length]
noncomputable def mdS (neg:Bool) (d:List Int):St:=g6 cL 300 81 (qt neg d) (mdH d)
def nR:AFr:=⟨81,none⟩
def mdA:Code:=bG Tryz.prog 81 0
def mdP (i:Int):Patch:=⟨(5,.int true .i64 i) :: az 10 12,[],[]⟩
def tlI (d:List Int) (y:Int):Int:=(Go.Dg.tl d y.toNat:Nat)
def mdU (d:List Int):SumL Int:=
 {
  S:=fun y=>mdP y
  I:=fun y=>0<=y/\y<=d.length
  μ:=fun y=>y.toNat
  F:=fun y=>(.exit 0,mdP (tlI d y))
  next:=fun y=>IntKind.i64.wrap (y - 1)
  ids:=fun _=>[]
  X:=fun y _=>some (mdP y,[]) }
end
end Go.Proofs.YtmnhhlnbfkfkaaaGreat.K
namespace Go.Proofs.YtmnhhlnbfkfkaaaGreat.K
open Go Go.Eng Go.Dg
noncomputable section
def AL (neg:Bool) (d:List Int):Prop:=(↑d.length:Int)=(↑d.length:Int)
theorem JX (neg:Bool) (d:List Int):fit (mdS neg d) (mdS neg d) (ac (mdS neg d) ((mdU d).S (d.length:Int))) ([])=some (.p (AL neg d)):=by kernel_rfl
def CE (neg:Bool) (d:List Int) (i:Int):Prop:=(decide (i>(0:Int))=true->((0:Int)<=IntKind.i64.wrap (i - (1:Int))/\IntKind.i64.wrap (i - (1:Int))<(↑d.length:Int))/\(IntKind.i64.wrap (i - (1:Int))).toNat<d.length)/\((!bif decide (i>(0:Int)) then d.getD (IntKind.i64.wrap (i - (1:Int))).toNat (0:Int)==(0:Int) else false)=true->i=i/\(mdU d).F i=(Ex.exit (0:Nat),mdP i))/\((bif decide (i>(0:Int)) then d.getD (IntKind.i64.wrap (i - (1:Int))).toNat (0:Int)==(0:Int) else false)=true->IntKind.i64.wrap (i - (1:Int))=(mdU d).next i/\(mdU d).I ((mdU d).next i)/\(mdU d).μ ((mdU d).next i)<(mdU d).μ i/\(mdU d).F ((mdU d).next i)=(mdU d).F i)
theorem OM (neg:Bool) (d:List Int) (i:Int):aW (mdS neg d) ((mdU d).way (i)) ((run cL 300).code nR mdA (ac (mdS neg d) ((mdU d).S i)))=some (.p (CE neg d i)):=by kernel_rfl
theorem c7:CtxOk cL:=fO aP (cq _) (fun x h=>by cases h) (fun x h=>by cases h)
theorem pe {d:List Int} {i:Int} (h:0<i):tlI d i=if d.getD (i - 1).toNat 0=0 then tlI d (i - 1) else i:=by
 unfold tlI
 obtain ⟨n,rfl⟩:∃ n:Nat,i=(n+1:Nat):=⟨(i - 1).toNat,by omega⟩
 have e1:((n+1:Nat):Int).toNat=n+1:=by omega
 have e2:(((n+1:Nat):Int) - 1).toNat=n:=by omega
 rw [e1,e2]
 simp only [tl]
 split <;> rfl
theorem OO (neg:Bool) (d:List Int) (hs:Sm d):CodeOk cL nR (.loop mdA) (mdS neg d) ⟨.tt,[⟨.tt,.exit 0,ac (mdS neg d) (mdP (tlI d d.length))⟩]⟩:=by
 refine cW (aQ c7 300) (mdU d) (y0:=(d.length:Int)) ⟨by omega,by omega⟩ ⟨_,JX neg d,rfl⟩ (by kernel_rfl) (fun i hi=>⟨_,OM neg d i,?_⟩) rfl
 have hs:d.length<=500000:=hs
 have hi:0<=i/\i<=d.length:=hi
 refine ⟨fun h=>?_,fun h=>⟨rfl,?_⟩,fun h=>?_⟩
 .have h:=of_decide_eq_true h
  rw [iw (by omega) (by omega)]
  omega
 .show (Ex.exit 0,mdP (tlI d i))=(Ex.exit 0,mdP i)
  rw [iw (by omega) (by omega)] at h
  have h:=nbt.1 h
  by_cases h0:0<i
  .rw [pe h0,if_neg (neb.1 (h h0))]
  .have:i=0:=by omega
   subst this; rfl
 .have e:IntKind.i64.wrap (i - 1)=i - 1:=iw (by omega) (by omega)
  rw [e] at h ⊢
  obtain ⟨h0,h⟩:=bt.1 h
  have h:=eb.1 h
  have h0:0<i:=h0
  refine ⟨e.symm,?_,?_,?_⟩
  .show 0<=IntKind.i64.wrap (i - 1)/\IntKind.i64.wrap (i - 1)<=d.length
   rw [e]; omega
  .show (IntKind.i64.wrap (i - 1)).toNat<i.toNat
   rw [e]; omega
  .show (Ex.exit 0,mdP (tlI d (IntKind.i64.wrap (i - 1))))=(Ex.exit 0,mdP (tlI d i))
   rw [e,pe h0,if_pos h]
noncomputable def cMd (neg:Bool) (d:List Int):Ctx:=aw cL [aR 81 7 nR mdA (mdS neg d) (.exit 0) (mdP (tlI d d.length))]
theorem CF (neg:Bool) (d:List Int) (hs:Sm d):CtxOk (cMd neg d):=ak c7 (OO neg d hs) (aq c7)
noncomputable def mfS (neg:Bool) (d:List Int):St:=g6 (cMd neg d) 300 81 (qt neg d) (mdH d)
def mfA:Code:=bG Tryz.prog 81 1
def mfN (neg:Bool) (n:Int):Bool:=bif neg then decide (n>0) else false
def mfP (neg:Bool) (d:List Int) (n:Int):Option Int->Patch
 | none=>⟨(7,.int true .i64 0) :: az 28 15,[],[]⟩
 | some i=>⟨(7,.int true .i64 i) :: az 28 15,[(2,.cells [.bool true (mfN neg n),.islice true 3 0 i])],[.ints .i64 (d.take i.toNat)]⟩
def mfU (pos:Bool) (neg:Bool) (d:List Int):SumL (Option Int):=
 {
  S:=mfP neg d (tlI d d.length)
  I:=fun y=>match y with
   | none=>(pos=true->0<tlI d d.length)/\(pos=false->tlI d d.length=0)
   | some i=>pos=true/\1<=i/\i<=tlI d d.length
  μ:=fun y=>match y with
   | none=>(tlI d d.length).toNat
   | some i=>(tlI d d.length - i).toNat
  F:=fun _=>(.exit 2,mfP neg d (tlI d d.length) (bif pos then some (tlI d d.length) else none))
  next:=fun y=>match y with
   | none=>some (IntKind.i64.wrap (0+1))
   | some i=>some (IntKind.i64.wrap (i+1))
  ids:=fun y=>match y with
   | none=>[4]
   | some _=>[5]
  X:=fun y _=>some (mfP neg d (tlI d d.length) y,match y with|none=>[]|some _=>[3]) }
def AM (pos neg:Bool) (d:List Int):Prop:=(0:Int)=(0:Int)
theorem JY (pos neg:Bool) (d:List Int):fit (mfS neg d) (mfS neg d) (ac (mfS neg d) ((mfU pos neg d).S none)) ([])=some (.p (AM pos neg d)):=by kernel_rfl
def JZ (pos neg:Bool) (d:List Int):Prop:=(decide ((0:Int)<tlI d (↑d.length:Int))=true->((0:Int)<=(0:Int)/\(0:Int)<(↑d.length:Int))/\Int.toNat (0:Int)<d.length)/\((!decide ((0:Int)<tlI d (↑d.length:Int)))=true->(0:Int)=(0:Int)/\(mfU pos neg d).F none=(Ex.exit (2:Nat),mfP neg d (tlI d (↑d.length:Int)) none))/\(decide ((0:Int)<tlI d (↑d.length:Int))=true->(IntKind.i64.wrap ((0:Int)+(1:Int))=IntKind.i64.wrap ((0:Int)+(1:Int))/\((bif neg then decide (tlI d (↑d.length:Int)>(0:Int)) else false)=mfN neg (tlI d (↑d.length:Int))/\(0:Nat)<nat_lit 0+(1:Nat)/\(↑(0:Nat):Int)=(0:Int)/\(↑(nat_lit 0+(1:Nat)):Int)=IntKind.i64.wrap ((0:Int)+(1:Int)))/\[d.getD (Int.toNat (0:Int)) (0:Int)]=List.take (IntKind.i64.wrap ((0:Int)+(1:Int))).toNat d)/\(mfU pos neg d).I ((mfU pos neg d).next none)/\(mfU pos neg d).μ ((mfU pos neg d).next none)<(mfU pos neg d).μ none/\(mfU pos neg d).F ((mfU pos neg d).next none)=(mfU pos neg d).F none)
theorem X4 (pos neg:Bool) (d:List Int):aW (mfS neg d) ((mfU pos neg d).way (none)) ((run (cMd neg d) 300).code nR mfA (ac (mfS neg d) ((mfU pos neg d).S none)))=some (.p (JZ pos neg d)):=by kernel_rfl
def J0 (pos neg:Bool) (d:List Int) (i:Int):Prop:=(decide (i<tlI d (↑d.length:Int))=true->((0:Int)<=i/\i<(↑d.length:Int))/\i.toNat<d.length/\((0:Int)=(0:Int)/\i=i)/\(0:Int)=(0:Int)/\(0:Int)<i/\i=(↑(List.take i.toNat d).length:Int)/\i+(↑(1:Nat):Int)<=(1048576:Int))/\((!decide (i<tlI d (↑d.length:Int)))=true->(i=i/\(mfN neg (tlI d (↑d.length:Int))=mfN neg (tlI d (↑d.length:Int))/\(0:Int)=(0:Int)/\i=i)/\List.take i.toNat d=List.take i.toNat d)/\(mfU pos neg d).F (some i)=(Ex.exit (2:Nat),mfP neg d (tlI d (↑d.length:Int)) (some i)))/\(decide (i<tlI d (↑d.length:Int))=true->(IntKind.i64.wrap (i+(1:Int))=IntKind.i64.wrap (i+(1:Int))/\(mfN neg (tlI d (↑d.length:Int))=mfN neg (tlI d (↑d.length:Int))/\(0:Int)=(0:Int)/\i+(↑(1:Nat):Int)=IntKind.i64.wrap (i+(1:Int)))/\List.take i.toNat d++[d.getD i.toNat (0:Int)]=List.take (IntKind.i64.wrap (i+(1:Int))).toNat d)/\(mfU pos neg d).I ((mfU pos neg d).next (some i))/\(mfU pos neg d).μ ((mfU pos neg d).next (some i))<(mfU pos neg d).μ (some i)/\(mfU pos neg d).F ((mfU pos neg d).next (some i))=(mfU pos neg d).F (some i))
theorem X5 (pos neg:Bool) (d:List Int) (i:Int):aW (mfS neg d) ((mfU pos neg d).way (some i)) ((run (cMd neg d) 300).code nR mfA (ac (mfS neg d) ((mfU pos neg d).S (some i))))=some (.p (J0 pos neg d i)):=by kernel_rfl
theorem xM (d:List Int):0<=tlI d d.length/\tlI d d.length<=d.length:=by
 have:=JS d d.length
 unfold tlI
 rw [show ((d.length:Int)).toNat=d.length by omega]
 omega
theorem Sy {d:List Int} {i:Int} (h0:0<=i) (h:i<d.length):d.take i.toNat++[d.getD i.toNat 0]=d.take (i+1).toNat:=by
 rw [show (i+1).toNat=i.toNat+1 by omega,List.take_add_one,List.getD_eq_getElem?_getD,List.getElem?_eq_getElem (by omega)]
 rfl
theorem OP (pos neg:Bool) (d:List Int) (hs:Sm d) (hp:pos=decide (0<tlI d d.length)):CodeOk (cMd neg d) nR (.loop mfA) (mfS neg d) ⟨.tt,[⟨.tt,.exit 2,ac (mfS neg d) (mfP neg d (tlI d d.length) (bif pos then some (tlI d d.length) else none))⟩]⟩:=by
 obtain ⟨n0,n1⟩:=xM d
 have hs2:=hs.le
 refine cW (aQ (CF neg d hs) 300) (mfU pos neg d) (y0:=none) ?_ ⟨_,JY pos neg d,rfl⟩ (by kernel_rfl) (fun y hy=>?_) rfl
 .refine ⟨fun h=>?_,fun h=>?_⟩
  .rw [hp] at h; exact of_decide_eq_true h
  .rw [hp] at h; have:=of_decide_eq_false h; omega
 .cases y with
  | none=>
   refine ⟨_,X4 pos neg d,?_⟩
   obtain ⟨p1,p2⟩:=(show (pos=true->0<tlI d d.length)/\(pos=false->tlI d d.length=0) from hy)
   refine ⟨fun h=>?_,fun h=>⟨rfl,?_⟩,fun h=>?_⟩
   .have h:=dt.1 h
    exact ⟨⟨by omega,by omega⟩,by show 0<d.length; omega⟩
   .have h:=ndt.1 h
    cases pos with
    | true=>exact absurd (p1 rfl) h
    | false=>rfl
   .have h:=dt.1 h
    have e:IntKind.i64.wrap ((0:Int)+1)=1:=by decide
    have hpos:pos=true:=by
     cases pos with
     | true=>rfl
     | false=>have:=p2 rfl; omega
    refine ⟨⟨rfl,⟨rfl,by decide,rfl,by decide⟩,?_⟩,?_,?_,rfl⟩
    .rw [e]; exact Sy (i:=0) (by omega) (by omega)
    .show pos=true/\1<=IntKind.i64.wrap ((0:Int)+1)/\IntKind.i64.wrap ((0:Int)+1)<=tlI d d.length
     rw [e]; exact ⟨hpos,by omega,by omega⟩
    .show (tlI d d.length - IntKind.i64.wrap ((0:Int)+1)).toNat<(tlI d d.length).toNat
     rw [e]; omega
  | some i=>
   refine ⟨_,X5 pos neg d i,?_⟩
   obtain ⟨hpos,i1,i2⟩:=(show pos=true/\1<=i/\i<=tlI d d.length from hy)
   have e:IntKind.i64.wrap (i+1)=i+1:=iw (by omega) (by omega)
   refine ⟨fun h=>?_,fun h=>⟨⟨rfl,⟨rfl,rfl,rfl⟩,rfl⟩,?_⟩,fun h=>?_⟩
   .have h:=dt.1 h
    refine ⟨⟨by omega,by omega⟩,by omega,⟨rfl,rfl⟩,rfl,by omega,?_,by omega⟩
    rw [List.length_take]; omega
   .have h:=ndt.1 h
    have:i=tlI d d.length:=by omega
    rw [hpos]
    show (Ex.exit 2,mfP neg d (tlI d d.length) (some (tlI d d.length)))=_
    rw [<- this]
   .have h:=dt.1 h
    refine ⟨⟨rfl,⟨rfl,rfl,?_⟩,?_⟩,?_,?_,rfl⟩
    .rw [e]; rfl
    .rw [e]; exact Sy (by omega) (by omega)
    .show pos=true/\1<=IntKind.i64.wrap (i+1)/\IntKind.i64.wrap (i+1)<=tlI d d.length
     rw [e]; exact ⟨hpos,by omega,by omega⟩
    .show (tlI d d.length - IntKind.i64.wrap (i+1)).toNat<(tlI d d.length - i).toNat
     rw [e]; omega
noncomputable def cMe (pos neg:Bool) (d:List Int):Ctx:=aw (cMd neg d) [aR 81 18 nR mfA (mfS neg d) (.exit 2) (mfP neg d (tlI d d.length) (bif pos then some (tlI d d.length) else none))]
theorem J1 (pos neg:Bool) (d:List Int) (hs:Sm d) (hp:pos=decide (0<tlI d d.length)):CtxOk (cMe pos neg d):=ak (CF neg d hs) (OP pos neg d hs hp) (aq (CF neg d hs))
def OQ (neg:Bool) (d:List Int):Prop:=(At (nR) (nR) (mdA) (mdA) (mdS neg d) (mdS neg d)/\At (nR) (nR) (mfA) (mfA) (mfS neg d) (mfS neg d))
def TP (neg:Bool) (d:List Int):AV:=(AV.agg [AV.bool true (mfN neg (tlI d (↑d.length:Int))),AV.islice true 1 (0:Int) (tlI d (↑d.length:Int))])
def TQ (neg:Bool) (d:List Int):Hp:=⟨[{ wr:=18,body:=ABody.ints IntKind.i64 (List.take (tlI d (↑d.length:Int)).toNat d) },{ wr:=(0:Nat),body:=ABody.rows IntKind.i64 d }],2,21⟩
theorem aa9 (neg:Bool) (d:List Int):(run (cMe true neg d) 300).call 81 (qt neg d) (mdH d)=some ⟨.p (OQ neg d),[⟨.tt,TP neg d,TQ neg d⟩]⟩:=by kernel_rfl
def OR (neg:Bool) (d:List Int):Prop:=(At (nR) (nR) (mdA) (mdA) (mdS neg d) (mdS neg d)/\At (nR) (nR) (mfA) (mfA) (mfS neg d) (mfS neg d))
def TR (neg:Bool) (d:List Int):AV:=(AV.agg [AV.bool true (bif neg then decide (tlI d (↑d.length:Int)>(0:Int)) else false),AV.nilslice])
def TS (neg:Bool) (d:List Int):Hp:=⟨[{ wr:=(0:Nat),body:=ABody.rows IntKind.i64 d }],1,21⟩
theorem aba (neg:Bool) (d:List Int):(run (cMe false neg d) 300).call 81 (qt neg d) (mdH d)=some ⟨.p (OR neg d),[⟨.tt,TR neg d,TS neg d⟩]⟩:=by kernel_rfl
def mdV:List Nu->List (List Int)->Option (Prop×To)
 | [.t neg],[d]=>some (Dig d/\Sm d,.st [.bo (neg&&decide (val d≠0)),.li true (aa (val d).toNat)])
 | _,_=>none
theorem EN {d:List Int} (h:Dig d):0<tlI d d.length ↔ val d≠0:=by
 have h1:=OJ h
 have e:tlI d d.length=(tl d d.length:Nat):=by
  unfold tlI
  rw [show ((d.length:Int)).toNat=d.length by omega]
 rw [e]
 constructor
 .intro h h2; have:=h1.2 h2; omega
 .intro h2; have:=mt h1.1 h2; omega
theorem AN {d:List Int} (h:Dig d):d.take (tlI d d.length).toNat=aa (val d).toNat:=by
 rw [<- EK h]
 have e:(tlI d d.length).toNat=tl d d.length:=by
  unfold tlI
  rw [show ((d.length:Int)).toNat=d.length by omega]
  omega
 rw [e]
theorem OS:NOk Tryz.prog (fun _=>none) hG0 81 (au hG0 .i64 [.nu .b,.li] mdV):=by
 refine nI (show hG0.ok from rfl) rfl (fun _ _ h=>by cases h) (fun xs ys p t e h=>?_) ⟨_,Tryz.func81,rfl⟩
 unfold mdV at e
 split at e
 .rename_i neg d
  cases e
  obtain ⟨hd,hs⟩:=h
  obtain ⟨n0,n1⟩:=xM d
  have hN:mfN neg (tlI d d.length)=(neg&&decide (val d≠0)):=by
   unfold mfN
   rw [decide_eq_decide.2 (EN hd)]
   cases neg <;> rfl
  by_cases hp:0<tlI d d.length
  .refine ⟨cMe true neg d,300,qt neg d,_,_,_,_,_,J1 true neg d hs (by simp [hp]),rfl,rfl,⟨rfl,rfl,trivial⟩,aa9 neg d,rfl,⟨⟨rfl,rfl,rfl⟩,rfl,rfl,rfl⟩,rfl,rfl,⟨hN,⟨rfl,?_⟩,AN hd⟩⟩
   show tlI d d.length=((d.take (tlI d d.length).toNat).length:Int)
   rw [List.length_take]; omega
  .have hv:val d=0:=by
    have:=mt (EN hd).2 hp
    omega
   refine ⟨cMe false neg d,300,qt neg d,_,_,_,_,_,J1 false neg d hs (by simp [hp]),rfl,rfl,⟨rfl,rfl,trivial⟩,aba neg d,rfl,⟨⟨rfl,rfl,rfl⟩,rfl,rfl,rfl⟩,rfl,rfl,⟨hN,?_⟩⟩
   rw [hv]; exact bQ.symm
 .cases e
end
end Go.Proofs.YtmnhhlnbfkfkaaaGreat.K
namespace Go.Dg
def xO (a b:List Int):Nat->Bool
 | 0=>false
 | n+1=>if a.getD n 0=b.getD n 0 then xO a b n else true
def iO (a b:List Int) (i:Int):Bool:=xO a b (i+1).toNat
def rY (a b:List Int) (i:Int):Bool:=jD a b (i+1).toNat
def CG (a b:List Int):Nat->Nat->Bool
 | 0,_=>false
 | n+1,i=>if a.getD i 0=b.getD i 0 then CG a b n (i+1) else true
def lI (a b:List Int) (i:Int):Bool:=CG a b (a.length - i).toNat i.toNat
theorem pf {a b:List Int} {i:Int} (h:0<=i):iO a b i=if a.getD i.toNat 0=b.getD i.toNat 0 then iO a b (i - 1) else true:=by
 unfold iO
 rw [show (i+1).toNat=i.toNat+1 by omega,show (i - 1+1).toNat=i.toNat by omega,xO]
theorem AO {a b:List Int} {i:Int} (h:0<=i):rY a b i=if a.getD i.toNat 0=b.getD i.toNat 0 then rY a b (i - 1) else decide (a.getD i.toNat 0<b.getD i.toNat 0):=by
 unfold rY
 rw [show (i+1).toNat=i.toNat+1 by omega,show (i - 1+1).toNat=i.toNat by omega,jD]
theorem J2 {a b:List Int}:∀ n,xO a b n=false->jD a b n=false
 | 0,_=>rfl
 | n+1,h=>by
  simp only [xO] at h
  simp only [jD]
  split at h
  .rename_i e; rw [if_pos e]; exact J2 n h
  .cases h
theorem AP {a b:List Int} {i:Int} (h:0<=i) (h2:i<a.length):lI a b i=if a.getD i.toNat 0=b.getD i.toNat 0 then lI a b (i+1) else true:=by
 unfold lI
 rw [show (a.length - i).toNat=(a.length - (i+1)).toNat+1 by omega,show (i+1).toNat=i.toNat+1 by omega,CG]
theorem uA {a b:List Int}:∀ (n i:Nat),CG a b n i=false->∀ j,i<=j->j<i+n->a.getD j 0=b.getD j 0
 | 0,i,_,j,h1,h2=>by omega
 | n+1,i,h,j,h1,h2=>by
  simp only [CG] at h
  split at h
  .rename_i e
   rcases Nat.lt_or_ge i j with h3|h3
   .exact uA n (i+1) h j (by omega) (by omega)
   .rw [show j=i by omega]; exact e
  .cases h
theorem we {a:List Int}:∀ (n i:Nat),CG a a n i=false
 | 0,i=>rfl
 | n+1,i=>by rw [CG,if_pos rfl]; exact we n (i+1)
theorem OT {a b:List Int} (h:a.length=b.length):lI a b 0=false ↔ a=b:=by
 unfold lI
 rw [show ((a.length:Int) - 0).toNat=a.length by omega]
 constructor
 .intro e
  apply List.ext_getElem h
  intro j h1 h2
  have:=uA _ _ e j (by omega) (by show j<0+a.length; omega)
  rw [List.getD_eq_getElem?_getD,List.getD_eq_getElem?_getD,List.getElem?_eq_getElem h1,List.getElem?_eq_getElem h2] at this
  exact this
 .rintro rfl; exact we _ _
theorem jE {x y:Int}:(x != y)=true ↔ x≠y:=by simp
theorem wf {x y:Int}:(x != y)=false ↔ x=y:=by simp
theorem J3 {x y:Int}:(!x != y)=true ↔ x=y:=by
 have:(!x != y)=(x==y):=by simp [bne]
 rw [this]; exact eb
theorem rE {p:Prop} [Decidable p] {b:Bool}:(decide p&&b)=true ↔ p/\b=true:=by
 by_cases h:p <;> simp [h]
end Go.Dg
namespace Go.Dg
open Go.Eng
def okL (neg:Bool) (d:List Int):Prop:=Dig d/\Top d/\(neg=true->d≠[])/\Sm d
def zv (neg:Bool) (d:List Int):Int:=bif neg then -val d else val d
def lgT (own:Bool) (z:Int):To:=.st [.bo (decide (z<0)),.li own (aa z.natAbs)]
theorem okL.val_pos {neg:Bool} {d:List Int} (h:okL neg d) (hn:neg=true):0<val d:=by
 have h1:=af h.1
 have h2:=qr h.1 h.2.1 (h.2.2.1 hn)
 omega
theorem okL.neg_eq {neg:Bool} {d:List Int} (h:okL neg d):neg=decide (zv neg d<0):=by
 cases neg with
 | true=>have:=h.val_pos rfl; exact (decide_eq_true (show -val d<0 by omega)).symm
 | false=>have:=af h.1; exact (decide_eq_false (show ¬ val d<0 by omega)).symm
theorem okL.digs_eq {neg:Bool} {d:List Int} (h:okL neg d):aa (zv neg d).natAbs=d:=by
 have h0:=af h.1
 have e:(zv neg d).natAbs=(val d).toNat:=by
  cases neg <;> simp [zv] <;> omega
 rw [e,dn h.1 h.2.1]
theorem OU {n:Nat} (h:(n:Int)<pw 500000):Sm (aa n):=by
 rcases Nat.lt_or_ge 500000 (aa n).length with h1|h1
 .have:=xK (ax n) (e9 n) (by intro e; rw [e] at h1; simp at h1)
  rw [dk] at this
  have:=bK (show 500000<=(aa n).length - 1 by omega)
  omega
 .exact h1
theorem lJ {z:Int} (h:(z.natAbs:Int)<pw 500000):okL (decide (z<0)) (aa z.natAbs):=by
 refine ⟨ax _,e9 _,fun hn=>?_,OU h⟩
 intro e
 have:=uz.1 e
 have:=of_decide_eq_true hn
 omega
theorem gF (z:Int):zv (decide (z<0)) (aa z.natAbs)=z:=by
 unfold zv
 rw [dk]
 by_cases h:z<0
 .rw [decide_eq_true h]; simp only [cond_true]; omega
 .rw [decide_eq_false h]; simp only [cond_false]; omega
theorem dW {n k:Nat} (h:(n:Int)<pw k):(aa n).length<=k:=by
 rcases Nat.lt_or_ge k (aa n).length with h1|h1
 .have:=xK (ax n) (e9 n) (by intro e; rw [e] at h1; simp at h1)
  rw [dk] at this
  have:=bK (show k<=(aa n).length - 1 by omega)
  omega
 .exact h1
end Go.Dg
namespace Go.Dg
open Go Go.Eng
def ofD (m:Int):Int:=bif decide (m.tmod 1000000000<0) then IntKind.i64.wrap (0 - m.tmod 1000000000) else m.tmod 1000000000
theorem J4 (m:Int):ofD m=(m.natAbs % 1000000000:Nat):=by
 have h:=Int.natAbs_tmod m 1000000000
 have h3:m.natAbs % 1000000000<1000000000:=Nat.mod_lt _ (by decide)
 have e:(1000000000:Int).natAbs=1000000000:=rfl
 rw [e] at h
 unfold ofD
 by_cases h0:m.tmod 1000000000<0
 .rw [decide_eq_true h0,cond_true,iw (by omega) (by omega)]; omega
 .rw [decide_eq_false h0,cond_false]; omega
theorem AQ (m:Int) (h:m.natAbs<=9223372036854775808):IntKind.i64.wrap (m.tdiv 1000000000)=m.tdiv 1000000000/\(m.tdiv 1000000000).natAbs=m.natAbs / 1000000000:=by
 have h2:(m.tdiv 1000000000).natAbs=m.natAbs / 1000000000:=Int.natAbs_tdiv m 1000000000
 exact ⟨iw (by omega) (by omega),h2⟩
def ofI (n:Int) (m:Int) (ds:List Int):Prop:=ds≠[]/\Dig ds/\val ds+pw ds.length*m.natAbs=n.natAbs/\(m=0->Top ds)/\m.natAbs<=9223372036854775808
theorem EO {l:List Int} {x:Int} (h:x≠0):Top (l++[x]):=by
 right
 simpa [List.getD_eq_getElem?_getD] using h
theorem J5 {n:Int} (h:n≠0) (hb:n.natAbs<=9223372036854775808):ofI n (n.tdiv 1000000000) [ofD n]:=by
 obtain ⟨_,h2⟩:=AQ n hb
 have h1:=J4 n
 refine ⟨by simp,bz.2 ⟨by rw [h1]; omega,b8⟩,?_,fun h0=>?_,by omega⟩
 .rw [h2,h1]; simp only [val,pw,List.length_cons,List.length_nil]; omega
 .rw [h0] at h2
  refine EO (l:=[]) ?_
  rw [h1]
  have:(0:Int).natAbs=0:=rfl
  omega
theorem OV {n m:Int} {ds:List Int} (h:m≠0) (hI:ofI n m ds):ofI n (m.tdiv 1000000000) (ds++[ofD m]):=by
 obtain ⟨i1,i2,i3,i4,i5⟩:=hI
 obtain ⟨_,h2⟩:=AQ m i5
 have h1:=J4 m
 refine ⟨by simp,o9.2 ⟨i2,bz.2 ⟨by rw [h1]; omega,b8⟩⟩,?_,fun h0=>?_,by omega⟩
 .rw [iY,h2,h1,List.length_append,<- i3]
  simp only [val,List.length_cons,List.length_nil,Nat.zero_add]
  have e:(m.natAbs:Int)=((m.natAbs % 1000000000:Nat):Int)+(1000000000:Int)*((m.natAbs / 1000000000:Nat):Int):=by omega
  have e2:pw ds.length*(m.natAbs:Int)=pw ds.length*((m.natAbs % 1000000000:Nat):Int)+(1000000000:Int)*pw ds.length*((m.natAbs / 1000000000:Nat):Int):=by
   conv=>lhs; rw [e]
   rw [Int.mul_add,<- Int.mul_assoc,Int.mul_comm (pw ds.length) (1000000000:Int)]
  rw [show pw (ds.length+1)=(1000000000:Int)*pw ds.length from rfl,e2]
  simp only [Int.mul_zero,Int.add_zero]
  omega
 .rw [h0] at h2
  refine EO ?_
  rw [h1]
  have:(0:Int).natAbs=0:=rfl
  omega
theorem TU {n:Int} {ds:List Int} (hI:ofI n 0 ds):ds=aa n.natAbs:=by
 obtain ⟨i1,i2,i3,i4,_⟩:=hI
 have:val ds=n.natAbs:=by rw [<- i3]; simp
 rw [<- dn i2 (i4 rfl),this]
 congr 1
theorem TV {n m:Int} {ds:List Int} (h:m≠0) (hI:ofI n m ds) (hn:n.natAbs<=9223372036854775808):ds.length<8:=by
 obtain ⟨i1,i2,i3,i4,_⟩:=hI
 have h1:=af i2
 have h2:pw ds.length*1<=pw ds.length*m.natAbs:=Int.mul_le_mul_of_nonneg_left (by omega) (Int.le_of_lt (pw_pos _))
 have h3:pw 8=1000000000000000000000000000000000000000000000000000000000000000000000000:=by decide
 exact Sx (by omega)
def suD (a b:List Int) (i c:Int):Int:=IntKind.i64.wrap (IntKind.i64.wrap ((bif decide (i<a.length) then a.getD i.toNat 0 else 0)+(bif decide (i<b.length) then b.getD i.toNat 0 else 0))+c)
theorem AR {a:List Int} {i:Int} (h:0<=i):(bif decide (i<a.length) then a.getD i.toNat 0 else 0)=a.getD i.toNat 0:=by
 by_cases h0:i<a.length
 .rw [decide_eq_true h0]; rfl
 .rw [decide_eq_false h0,sv (by omega)]; rfl
theorem CH {a b:List Int} (ha:Dig a) (hb:Dig b) {i c:Int} (hi:0<=i) (hc:0<=c/\c<=1):suD a b i c=a.getD i.toNat 0+b.getD i.toNat 0+c:=by
 have h1:=ha.get i.toNat
 have h2:=hb.get i.toNat
 unfold suD
 rw [AR hi,AR hi]
 have e1:IntKind.i64.wrap (a.getD i.toNat 0+b.getD i.toNat 0)=a.getD i.toNat 0+b.getD i.toNat 0:=iw (by omega) (by omega)
 rw [e1,iw (by omega) (by omega)]
def diD (a b:List Int) (i c:Int):Int:=IntKind.i64.wrap (IntKind.i64.wrap (a.getD i.toNat 0 - (bif decide (i<b.length) then b.getD i.toNat 0 else 0)) - c)
def diC (a b:List Int) (i c:Int):Int:=bif decide (diD a b i c<0) then 1 else 0
def diR (a b:List Int) (i c:Int):Int:=bif decide (diD a b i c<0) then IntKind.i64.wrap (diD a b i c+1000000000) else diD a b i c
theorem J6 {a b:List Int} (ha:Dig a) (hb:Dig b) {i c:Int} (hi:0<=i) (hc:0<=c/\c<=1):diD a b i c=a.getD i.toNat 0 - b.getD i.toNat 0 - c:=by
 have h1:=ha.get i.toNat
 have h2:=hb.get i.toNat
 unfold diD
 rw [AR hi]
 have e1:IntKind.i64.wrap (a.getD i.toNat 0 - b.getD i.toNat 0)=a.getD i.toNat 0 - b.getD i.toNat 0:=iw (by omega) (by omega)
 rw [e1,iw (by omega) (by omega)]
theorem J7 {a b:List Int} (ha:Dig a) (hb:Dig b) {i c:Int} (hi:0<=i) (hc:0<=c/\c<=1):diC a b i c=if a.getD i.toNat 0 - b.getD i.toNat 0 - c<0 then 1 else 0:=by
 unfold diC
 rw [J6 ha hb hi hc]
 by_cases h:a.getD i.toNat 0 - b.getD i.toNat 0 - c<0
 .rw [if_pos h,decide_eq_true h]; rfl
 .rw [if_neg h,decide_eq_false h]; rfl
theorem J8 {a b:List Int} (ha:Dig a) (hb:Dig b) {i c:Int} (hi:0<=i) (hc:0<=c/\c<=1):diR a b i c=if a.getD i.toNat 0 - b.getD i.toNat 0 - c<0 then a.getD i.toNat 0 - b.getD i.toNat 0 - c+1000000000 else a.getD i.toNat 0 - b.getD i.toNat 0 - c:=by
 have h1:=ha.get i.toNat
 have h2:=hb.get i.toNat
 unfold diR
 rw [J6 ha hb hi hc]
 by_cases h:a.getD i.toNat 0 - b.getD i.toNat 0 - c<0
 .rw [if_pos h,decide_eq_true h,cond_true,iw (by omega) (by omega)]
 .rw [if_neg h,decide_eq_false h]; rfl
theorem td (l:List Int):List.take (l.length:Int).toNat (List.drop (Int.toNat (0:Int)) l)=l:=by
 rw [show ((l.length:Int)).toNat=l.length by omega,show (Int.toNat (0:Int))=0 from rfl,List.drop_zero,List.take_length]
theorem kG {l:List Int}:(0:Int)<=0/\(0:Int)<=(l.length:Int)/\(0:Int)+(l.length:Int)<=(l.length:Int):=by omega
end Go.Dg
namespace Go.Dg
theorem jg {p:Bool} {v z:Int} (h0:0<=v) (hz:z=bif p then -v else v):(p&&decide (v≠0))=decide (z<0):=by
 subst hz
 cases p with
 | false=>rw [Bool.false_and,cond_false]; exact (decide_eq_false (by omega)).symm
 | true=>rw [Bool.true_and,cond_true]; exact decide_eq_decide.2 (by omega)
theorem jh {p:Bool} {v z:Int} (h0:0<=v) (hz:z=bif p then -v else v):v.toNat=z.natAbs:=by
 subst hz
 cases p with
 | false=>rw [cond_false]; omega
 | true=>rw [cond_true]; omega
end Go.Dg
namespace Go.Dg
open Go Go.Eng
def aC:Nat->Int->List Int
 | 0,_=>[]
 | n+1,v=>v % 1000000000 :: aC n (v / 1000000000)
theorem a6:∀ (n:Nat) (v:Int),(aC n v).length=n
 | 0,_=>rfl
 | n+1,v=>by simp [aC,a6 n]
theorem cX:∀ (n:Nat) (v:Int),Dig (aC n v)
 | 0,_=>b8
 | n+1,v=>bz.2 ⟨by omega,cX n _⟩
theorem du:∀ {n:Nat} {v:Int},0<=v->v<pw n->val (aC n v)=v
 | 0,v,h0,h1=>by
  have:pw 0=1:=rfl
  simp only [aC,val]; omega
 | n+1,v,h0,h1=>by
  simp only [aC,val]
  have h2:pw (n+1)=(1000000000:Int)*pw n:=rfl
  rw [du (by omega) (by omega)]
  omega
theorem EP:∀ {d:List Int},Dig d->d=aC d.length (val d)
 | [],_=>rfl
 | x :: l,h=>by
  have h:=bz.1 h
  simp only [List.length_cons,aC,val]
  rw [show (x+(1000000000:Int)*val l) % (1000000000:Int)=x by omega,show (x+(1000000000:Int)*val l) / (1000000000:Int)=val l by omega,<- EP h.2]
theorem pg:∀ n,List.replicate n (0:Int)=aC n 0
 | 0=>rfl
 | n+1=>by simp [List.replicate_succ,aC,<- pg n]
theorem gS {d:List Int} (h:Dig d) {n:Nat} {v:Int} (hl:d.length=n) (hv:val d=v):d=aC n v:=by
 subst hl hv; exact EP h
theorem ndf {p:Prop} [Decidable p] (h:¬p):decide p=false:=decide_eq_false h
def prV (a b:List Int) (i k:Int):Int:=val (a.take i.toNat)*val b+pw i.toNat*(a.getD i.toNat 0*val (b.take k.toNat))
def prL (a b:List Int) (i k:Int):List Int:=aC (a.length+b.length) (prV a b i k)
theorem EQ {b:List Int} (hb:Dig b) (k:Nat):val (b.take k)<=val b:=by
 have e:val b=val (b.take k)+pw (b.take k).length*val (b.drop k):=by rw [<- iY,List.take_append_drop]
 have:=Int.mul_nonneg (Int.le_of_lt (pw_pos (b.take k).length)) (af (hb.drop k))
 omega
theorem CI {a b:List Int} (ha:Dig a) (hb:Dig b) (i k:Int):0<=prV a b i k/\prV a b i k<pw (a.length+b.length):=by
 have h1:=ha.get i.toNat
 have h2:=af hb
 have h3:=af (ha.take i.toNat)
 have h4:=af (hb.take k.toNat)
 have h5:=Int.mul_nonneg h3 h2
 have h6:=Int.mul_nonneg (Int.le_of_lt (pw_pos i.toNat)) (Int.mul_nonneg h1.1 h4)
 refine ⟨by unfold prV; omega,?_⟩
 have q1:pw i.toNat*(a.getD i.toNat 0*val (b.take k.toNat))<=pw i.toNat*(a.getD i.toNat 0*val b):=Int.mul_le_mul_of_nonneg_left (Int.mul_le_mul_of_nonneg_left (EQ hb _) h1.1) (Int.le_of_lt (pw_pos _))
 have q2:=EM a b i.toNat
 have q3:val (a.take (i.toNat+1))*val b<=val a*val b:=Int.mul_le_mul_of_nonneg_right (EQ ha _) h2
 have q4:val a*val b<pw (a.length+b.length):=by
  rcases TN ha hb with h|⟨h,h'⟩
  .exact h
  .rw [h',h]; decide
 unfold prV
 omega
theorem J9 {a b:List Int} {i k:Int} (hk:0<=k):prV a b i (k+1)=prV a b i k+pw (i.toNat+k.toNat)*(a.getD i.toNat 0*b.getD k.toNat 0):=by
 unfold prV
 rw [show (k+1).toNat=k.toNat+1 by omega,ve]
 omega
theorem OW {a b:List Int} {i:Int} (hi:0<=i):prV a b i b.length=prV a b (i+1) 0:=by
 unfold prV
 rw [show (i+1).toNat=i.toNat+1 by omega,EM,show ((b.length:Int)).toNat=b.length by omega,List.take_length,show (0:Int).toNat=0 from rfl]
 simp [val]
def prI (a b:List Int) (i k:Int) (j n:Int) (d:List Int):Prop:=
 Dig d/\d.length=a.length+b.length/\0<=j/\0<=n/\n<=1000000000000000000/\val d+pw j.toNat*n=prV a b i (k+1)
theorem OX {a b:List Int} {i k j n:Int} {d:List Int} (h:prI a b i k j n d) (h0:¬ n>0):d=prL a b i (k+1):=by
 obtain ⟨h1,h2,h3,h4,h5,h6⟩:=h
 have:n=0:=by omega
 subst this
 exact gS h1 h2 (by rw [<- h6]; simp)
theorem CJ {a b:List Int} {i k j n:Int} {d:List Int} (ha:Dig a) (hb:Dig b) (h:prI a b i k j n d) (h0:n>0):j.toNat<d.length:=by
 obtain ⟨h1,h2,h3,h4,h5,h6⟩:=h
 have:=CI ha hb i (k+1)
 exact JV h1 h0 (by rw [h6,h2]; exact this.2)
theorem Ka {a b:List Int} {i k j n:Int} {d:List Int} (ha:Dig a) (hb:Dig b) (h:prI a b i k j n d) (h0:n>0):prI a b i k (j+1) ((n+d.getD j.toNat 0).tdiv 1000000000) (d.set j.toNat ((n+d.getD j.toNat 0).tmod 1000000000)):=by
 have hj:=CJ ha hb h h0
 obtain ⟨h1,h2,h3,h4,h5,h6⟩:=h
 obtain ⟨s1,s2,s3,_⟩:=CD h1 h4 hj
 have hg:=h1.get j.toNat
 refine ⟨s1,by rw [List.length_set,h2],by omega,s2,?_,?_⟩
 .rw [Int.tdiv_eq_ediv_of_nonneg (by omega)]; omega
 .rw [show (j+1).toNat=j.toNat+1 by omega,s3,h6]
theorem Gz {a b:List Int} (ha:Dig a) (hb:Dig b) {i k:Int} (hi:0<=i) (hk:0<=k):prI a b i k (i+k) (a.getD i.toNat 0*b.getD k.toNat 0) (prL a b i k):=by
 have h1:=ha.get i.toNat
 have h2:=hb.get k.toNat
 have h3:=CI ha hb i k
 have hm:=Int.mul_nonneg h1.1 h2.1
 have hu:a.getD i.toNat 0*b.getD k.toNat 0<=1000000000*1000000000:=Int.mul_le_mul (by omega) (by omega) h2.1 (by decide)
 refine ⟨cX _ _,a6 _ _,by omega,hm,by omega,?_⟩
 unfold prL
 rw [du h3.1 h3.2,J9 hk,show (i+k).toNat=i.toNat+k.toNat by omega]
def tkQ (D b:List Int):Int:=IntKind.i64.wrap ((IntKind.i64.wrap (IntKind.i64.wrap ((bif decide (IntKind.i64.wrap (IntKind.i64.wrap ((b.length:Int) - 1)+1)<(D.length:Int)) then D.getD (0+IntKind.i64.wrap (IntKind.i64.wrap ((b.length:Int) - 1)+1)).toNat 0 else 0)*1000000000)+D.getD (0+IntKind.i64.wrap ((b.length:Int) - 1)).toNat 0)).tdiv (IntKind.i64.wrap (b.getD (IntKind.i64.wrap ((b.length:Int) - 1)).toNat 0+1)))
def tkK (D b:List Int):Int:=bif tkQ D b==0 then 1 else tkQ D b
theorem TW {D b:List Int} (hD:Dig D) (hb:Dig b) (sb:b.length<=500000) (hne:b≠[]):tkQ D b=xL D b:=by
 have hpos:=List.length_pos_iff.2 hne
 have e1:IntKind.i64.wrap ((b.length:Int) - 1)=b.length - 1:=iw (by omega) (by omega)
 have e2:IntKind.i64.wrap ((b.length:Int) - 1+1)=b.length:=by rw [iw (by omega) (by omega)]; omega
 have g1:=hD.get b.length
 have g2:=hD.get (b.length - 1)
 have g3:=hb.get (b.length - 1)
 have e3:(bif decide ((b.length:Int)<(D.length:Int)) then D.getD (0+(b.length:Int)).toNat 0 else 0)=D.getD b.length 0:=by
  have:=AR (a:=D) (i:=(b.length:Int)) (by omega)
  rw [show (0+(b.length:Int))=b.length by omega,this]
  congr 1
 unfold tkQ xL
 rw [e1,e2,e3,show (0+((b.length:Int) - 1)).toNat=b.length - 1 by omega,show ((b.length:Int) - 1).toNat=b.length - 1 by omega]
 have e4:IntKind.i64.wrap (D.getD b.length 0*1000000000)=D.getD b.length 0*1000000000:=iw (by omega) (by omega)
 have e5:IntKind.i64.wrap (D.getD b.length 0*1000000000+D.getD (b.length - 1) 0)=D.getD b.length 0*1000000000+D.getD (b.length - 1) 0:=iw (by omega) (by omega)
 have e6:IntKind.i64.wrap (b.getD (b.length - 1) 0+1)=b.getD (b.length - 1) 0+1:=iw (by omega) (by omega)
 rw [e4,e5,e6]
 have h0:0<=D.getD b.length 0*1000000000+D.getD (b.length - 1) 0:=by omega
 rw [Int.tdiv_eq_ediv_of_nonneg h0]
 have h1:0<=(D.getD b.length 0*1000000000+D.getD (b.length - 1) 0) / (b.getD (b.length - 1) 0+1):=Int.ediv_nonneg h0 (by omega)
 have h2:(D.getD b.length 0*1000000000+D.getD (b.length - 1) 0) / (b.getD (b.length - 1) 0+1)<=D.getD b.length 0*1000000000+D.getD (b.length - 1) 0:=Int.ediv_le_self _ h0
 exact iw (by omega) (by omega)
theorem Kb {D b:List Int} (hD:Dig D) (tD:Top D) (hb:Dig b) (tb:Top b) (sb:b.length<=500000) (hne:b≠[]) (hge:val b<=val D) (hlt:val D<(1000000000:Int)*val b):
  1<=tkK D b/\tkK D b<(1000000000:Int)/\tkK D b*val b<=val D/\b.length<=D.length:=by
 obtain ⟨h1,h2,h3,h4,h5⟩:=JW hD hb tD tb hne hge hlt
 unfold tkK
 rw [TW hD hb sb hne]
 by_cases h0:xL D b=0
 .rw [h0]
  exact ⟨by decide,by decide,by show 1*val b<=val D; omega,h1⟩
 .have:(xL D b==0)=false:=neb.2 h0
  rw [this,cond_false]
  exact ⟨by omega,h4,h5,h1⟩
def tjI (D b:List Int) (k j c:Int) (d:List Int):Prop:=
 Dig d/\d.length=D.length/\0<=j/\j<=D.length/\-1000000000<=c/\c<=1/\val d+pw j.toNat*c=val D - k*val (b.take j.toNat)
def tjX (b:List Int) (k j c:Int) (d:List Int):Int:=IntKind.i64.wrap (IntKind.i64.wrap (d.getD j.toNat 0 - IntKind.i64.wrap ((bif decide (j<b.length) then b.getD j.toNat 0 else 0)*k))+c)
theorem TX {D b:List Int} {k j c:Int} {d:List Int} (hb:Dig b) (hk:0<=k/\k<(1000000000:Int)) (h:tjI D b k j c d):tjX b k j c d=d.getD j.toNat 0 - b.getD j.toNat 0*k+c/\-1000000000000000000+999999999<=d.getD j.toNat 0 - b.getD j.toNat 0*k+c/\d.getD j.toNat 0 - b.getD j.toNat 0*k+c<=(1000000000:Int):=by
 obtain ⟨h1,h2,h3,h4,h5,h6,h7⟩:=h
 have g1:=h1.get j.toNat
 have g2:=hb.get j.toNat
 have m0:=Int.mul_nonneg g2.1 hk.1
 have m1:b.getD j.toNat 0*k<=999999999*999999999:=Int.mul_le_mul (by omega) (by omega) hk.1 (by decide)
 unfold tjX
 rw [AR h3]
 have e1:IntKind.i64.wrap (b.getD j.toNat 0*k)=b.getD j.toNat 0*k:=iw (by omega) (by omega)
 have e2:IntKind.i64.wrap (d.getD j.toNat 0 - b.getD j.toNat 0*k)=d.getD j.toNat 0 - b.getD j.toNat 0*k:=iw (by omega) (by omega)
 rw [e1,e2]
 exact ⟨iw (by omega) (by omega),by omega,by omega⟩
def tjR (x:Int):Int:=bif decide (x.tmod 1000000000<0) then IntKind.i64.wrap (x.tmod 1000000000+1000000000) else x.tmod 1000000000
def tjC (x:Int):Int:=bif decide (x.tmod 1000000000<0) then IntKind.i64.wrap (IntKind.i64.wrap (x.tdiv 1000000000) - 1) else IntKind.i64.wrap (x.tdiv 1000000000)
theorem OY (x:Int):-(1000000000:Int)<x.tmod (1000000000:Int)/\x.tmod (1000000000:Int)<(1000000000:Int):=by
 have:=Int.natAbs_tmod x (1000000000:Int)
 have h3:x.natAbs % 1000000000<1000000000:=Nat.mod_lt _ (by decide)
 have h4:(x.tmod (1000000000:Int)).natAbs<1000000000:=by rw [this]; exact h3
 omega
theorem X6 {x:Int} (h:-4000000000000000000<=x/\x<=4000000000000000000):tjR x=fr x/\tjC x=fq x:=by
 have h1:=OY x
 have h2:=Int.mul_tdiv_add_tmod x (1000000000:Int)
 have e:IntKind.i64.wrap (x.tdiv 1000000000)=x.tdiv 1000000000:=iw (by omega) (by omega)
 unfold tjR tjC fr fq
 rw [e]
 by_cases h0:x.tmod 1000000000<0
 .rw [decide_eq_true h0,if_pos h0,if_pos h0,cond_true,cond_true,iw (by omega) (by omega),iw (by omega) (by omega)]
  exact ⟨rfl,rfl⟩
 .rw [decide_eq_false h0,if_neg h0,if_neg h0]
  exact ⟨rfl,rfl⟩
theorem Kc {D b:List Int} {k j c:Int} {d:List Int} (hb:Dig b) (hk:0<=k/\k<(1000000000:Int)) (h:tjI D b k j c d) (hj:j<D.length):tjI D b k (j+1) (tjC (tjX b k j c d)) (d.set j.toNat (tjR (tjX b k j c d))):=by
 obtain ⟨x1,x2,x3⟩:=TX hb hk h
 obtain ⟨h1,h2,h3,h4,h5,h6,h7⟩:=h
 rw [x1]
 obtain ⟨t1,t2⟩:=X6 (x:=d.getD j.toNat 0 - b.getD j.toNat 0*k+c) (by omega)
 rw [t1,t2]
 obtain ⟨s1,s2,s3⟩:=TO (d.getD j.toNat 0 - b.getD j.toNat 0*k+c)
 refine ⟨h1.set _ ⟨s1,s2⟩,by rw [List.length_set,h2],by omega,by omega,by omega,by omega,?_⟩
 rw [fQ d _ _ (by omega),show (j+1).toNat=j.toNat+1 by omega,val_take_succ' b]
 have e:pw j.toNat*(fr (d.getD j.toNat 0 - b.getD j.toNat 0*k+c)+(1000000000:Int)*fq (d.getD j.toNat 0 - b.getD j.toNat 0*k+c))=pw j.toNat*(d.getD j.toNat 0 - b.getD j.toNat 0*k+c):=by rw [s3]
 generalize fr (d.getD j.toNat 0 - b.getD j.toNat 0*k+c)=R at *
 generalize fq (d.getD j.toNat 0 - b.getD j.toNat 0*k+c)=Q at *
 have e3:pw (j.toNat+1)=(1000000000:Int)*pw j.toNat:=rfl
 rw [e3]
 grind
theorem OZ {D b:List Int} {k c:Int} {d:List Int} (hD:Dig D) (hl:b.length<=D.length) (hle:k*val b<=val D) (hk:0<=k*val b) (h:tjI D b k D.length c d):d=aC D.length (val D - k*val b):=by
 obtain ⟨h1,h2,h3,h4,h5,h6,h7⟩:=h
 rw [show ((D.length:Int)).toNat=D.length by omega,List.take_of_length_le hl] at h7
 have q1:=af h1
 have q2:=ba h1
 rw [h2] at q2
 have q3:=ba hD
 have q5:=pw_pos D.length
 have hc:c=0:=by
  rcases (show c=0\/1<=c\/c<=-1 by omega) with h|h|h
  .exact h
  .have:pw D.length*1<=pw D.length*c:=Int.mul_le_mul_of_nonneg_left h (Int.le_of_lt q5)
   omega
  .have:pw D.length*c<=pw D.length*(-1):=Int.mul_le_mul_of_nonneg_left h (Int.le_of_lt q5)
   omega
 subst hc
 exact gS h1 h2 (by rw [<- h7]; simp)
theorem GA {D b:List Int} {k:Int} (hD:Dig D):tjI D b k 0 0 D:=by
 refine ⟨hD,rfl,by omega,by omega,by omega,by omega,?_⟩
 simp [val]
def paQ (a b:List Int) (i:Int):List Int:=aC a.length (pw (i+1).toNat*(val (a.drop (i+1).toNat) / val b))
def paR (a b:List Int) (i:Int):List Int:=aa (val (a.drop (i+1).toNat) % val b).toNat
def dA (a:List Int) (i:Int):Int:=val (a.drop (i+1).toNat)
theorem O0 {a:List Int} {i:Int} (h0:0<=i) (h1:i<a.length):dA a (i - 1)=a.getD i.toNat 0+(1000000000:Int)*dA a i:=by
 unfold dA
 rw [show (i - 1+1).toNat=i.toNat by omega,show (i+1).toNat=i.toNat+1 by omega,List.drop_eq_getElem_cons (by omega)]
 rw [List.getD_eq_getElem?_getD,List.getElem?_eq_getElem (by omega)]
 rfl
theorem Kd (a:List Int):dA a (a.length - 1)=0:=by
 unfold dA
 rw [List.drop_of_length_le (by omega)]; rfl
theorem Sz {a:List Int} (h:Dig a) (i:Int):0<=dA a i:=af (h.drop _)
theorem SA {a:List Int} (h:Dig a) {i:Int} (h0:-1<=i) (h1:i<a.length):pw (i+1).toNat*dA a i<=val a:=by
 have e:val a=val (a.take (i+1).toNat)+pw (a.take (i+1).toNat).length*val (a.drop (i+1).toNat):=by rw [<- iY,List.take_append_drop]
 rw [List.length_take,Nat.min_eq_left (by omega)] at e
 have:=af (h.take (i+1).toNat)
 unfold dA
 omega
theorem uB:∀ (n:Nat) (v:Int) (i:Nat),i<n->(aC n v).getD i 0=v / pw i % (1000000000:Int)
 | 0,_,_,h=>by omega
 | n+1,v,0,_=>by simp [aC,pw]
 | n+1,v,i+1,h=>by
  simp only [aC,List.getD_cons_succ]
  rw [uB n _ i (by omega),Int.ediv_ediv_of_nonneg (by decide)]
  rfl
def paV (a b:List Int) (i:Int):Int:=a.getD i.toNat 0+(1000000000:Int)*(dA a i % val b)
theorem xP {a b:List Int} (ha:Dig a) (hv:0<val b) (i:Int):0<=paV a b i/\paV a b i<(1000000000:Int)*val b:=by
 have h1:=ha.get i.toNat
 have h2:=Int.emod_nonneg (dA a i) (show val b≠0 by omega)
 have h3:=Int.emod_lt_of_pos (dA a i) hv
 unfold paV
 omega
theorem AS {a b:List Int} (hv:0<val b) {i:Int} (h0:0<=i) (h1:i<a.length):dA a (i - 1) % val b=paV a b i % val b/\dA a (i - 1) / val b=(1000000000:Int)*(dA a i / val b)+paV a b i / val b:=by
 have e:dA a (i - 1)=paV a b i+(1000000000:Int)*(dA a i / val b)*val b:=by
  rw [O0 h0 h1]
  unfold paV
  have:=Int.mul_ediv_add_emod (dA a i) (val b)
  grind
 rw [e]
 constructor
 .rw [Int.add_mul_emod_self_right]
 .rw [Int.add_mul_ediv_right _ _ (by omega)]; omega
theorem Ke {a b:List Int} (hv:0<val b) {i:Int} (h0:0<=i) (h1:i<a.length):paR a b (i - 1)=aa (paV a b i % val b).toNat:=by
 show aa (dA a (i - 1) % val b).toNat=_
 rw [(AS hv h0 h1).1]
theorem Kf {a b:List Int} (ha:Dig a) (hv:0<val b) {i:Int} (h0:0<=i) (h1:i<a.length):(paQ a b i).set i.toNat (paV a b i / val b)=paQ a b (i - 1):=by
 have hb:=xP ha hv i
 have hq0:0<=paV a b i / val b:=Int.ediv_nonneg hb.1 (by omega)
 have hq1:paV a b i / val b<(1000000000:Int):=Int.ediv_lt_of_lt_mul hv hb.2
 have hn:=Sz ha i
 have hn1:=Sz ha (i - 1)
 have hQ:0<=dA a i / val b:=Int.ediv_nonneg hn (by omega)
 have hQ1:0<=dA a (i - 1) / val b:=Int.ediv_nonneg hn1 (by omega)
 have hp:=pw_pos (i+1).toNat
 have hp1:=pw_pos i.toNat
 have b1:pw (i+1).toNat*(dA a i / val b)<pw a.length:=by
  have h2:=SA ha (i:=i) (by omega) h1
  have h3:pw (i+1).toNat*(dA a i / val b)<=pw (i+1).toNat*dA a i:=Int.mul_le_mul_of_nonneg_left (Int.ediv_le_self _ hn) (by omega)
  have:=ba ha
  omega
 have e2:(i - 1+1).toNat=i.toNat:=by omega
 have b2:pw i.toNat*(dA a (i - 1) / val b)<pw a.length:=by
  have h2:=SA ha (i:=i - 1) (by omega) (by omega)
  rw [e2] at h2
  have h3:pw i.toNat*(dA a (i - 1) / val b)<=pw i.toNat*dA a (i - 1):=Int.mul_le_mul_of_nonneg_left (Int.ediv_le_self _ hn1) (by omega)
  have:=ba ha
  omega
 show (aC a.length (pw (i+1).toNat*(dA a i / val b))).set i.toNat (paV a b i / val b)=aC a.length (pw (i - 1+1).toNat*(dA a (i - 1) / val b))
 rw [e2]
 refine gS ((cX _ _).set _ ⟨hq0,hq1⟩) (by rw [List.length_set,a6]) ?_
 rw [fQ _ _ _ (by rw [a6]; omega),du (Int.mul_nonneg (by omega) hQ) b1,uB _ _ _ (by omega),(AS hv h0 h1).2]
 have e3:pw (i+1).toNat=(1000000000:Int)*pw i.toNat:=by rw [show (i+1).toNat=i.toNat+1 by omega]; rfl
 have e4:pw (i+1).toNat*(dA a i / val b) / pw i.toNat % (1000000000:Int)=0:=by
  rw [e3,show (1000000000:Int)*pw i.toNat*(dA a i / val b)=pw i.toNat*((1000000000:Int)*(dA a i / val b)) by rw [Int.mul_comm (1000000000:Int),Int.mul_assoc],Int.mul_ediv_cancel_left _ (by omega)]
  omega
 rw [e4,e3]
 grind
theorem O1 (a b:List Int):List.replicate a.length (0:Int)=paQ a b (a.length - 1):=by
 show _=aC a.length (pw ((a.length:Int) - 1+1).toNat*(dA a (a.length - 1) / val b))
 rw [Kd,pg]; simp
theorem O2 {a b:List Int} (ha:Dig a) (hv:0<val b):(paQ a b (-1)).length=a.length/\Dig (paQ a b (-1))/\val (paQ a b (-1))=val a / val b:=by
 refine ⟨a6 _ _,cX _ _,?_⟩
 have h:=af ha
 have h1:=ba ha
 have h2:val a / val b<=val a:=Int.ediv_le_self _ h
 have h3:0<=val a / val b:=Int.ediv_nonneg h (by omega)
 have e:pw ((-1:Int)+1).toNat*(val (a.drop ((-1:Int)+1).toNat) / val b)=val a / val b:=by
  rw [show ((-1:Int)+1).toNat=0 from rfl,List.drop_zero]; simp [pw]
 unfold paQ
 rw [e,du h3 (by omega)]
theorem O3 (a b:List Int):paR a b (-1)=aa (val a % val b).toNat:=by
 unfold paR
 rw [show ((-1:Int)+1).toNat=0 from rfl,List.drop_zero]
structure OkQ (p q:Bool) (n d:List Int):Prop where
 hn:okL p n
 hd:okL q d
 hq:q=false
 ne:d≠[]
 ln:n.length<=600
 ld:d.length<=600
 cop:Int.gcd (zv p n) (zv q d)=1
theorem ER {p:Bool} {n:List Int} (h:okL p n):((zv p n).natAbs:Int)<pw n.length:=by
 have:=ba h.1
 have:=af h.1
 cases p <;> simp only [zv,cond_true,cond_false] <;> omega
theorem O4 {x y:Int} {k l:Nat} (hx:(x.natAbs:Int)<pw k) (hy:(y.natAbs:Int)<pw l):((x*y).natAbs:Int)<pw (k+l):=by
 rw [Int.natAbs_mul,nQ,Int.natCast_mul]
 have h0:(0:Int)<=x.natAbs:=by omega
 have h1:(0:Int)<=y.natAbs:=by omega
 have h2:=pw_pos k
 calc (x.natAbs:Int)*y.natAbs<=x.natAbs*pw l:=Int.mul_le_mul_of_nonneg_left (by omega) h0
  _<pw k*pw l:=Int.mul_lt_mul_of_pos_right hx (pw_pos l)
theorem len_mul {x y:Int} {k l:Nat} (hx:(x.natAbs:Int)<pw k) (hy:(y.natAbs:Int)<pw l):(aa (x*y).natAbs).length<=k+l:=dW (O4 hx hy)
end Go.Dg
namespace Go.Dg
theorem fR (n:Nat):pw (n+1)=1000000000*pw n:=rfl
end Go.Dg
namespace Go.Dg
open Go Go.Eng
theorem AU {a:List Int} {i:Nat} (h:i<a.length):val (a.drop i)=a.getD i 0+1000000000*val (a.drop (i+1)):=by
 rw [List.drop_eq_getElem_cons h]
 show a[i]+1000000000*val (a.drop (i+1))=_
 congr 1
 simp [List.getD_eq_getElem?_getD,List.getElem?_eq_getElem h]
theorem getD_set {l:List Int} {i j:Nat} {x:Int} (h:i≠j):(l.set i x).getD j 0=l.getD j 0:=by
 simp [List.getD_eq_getElem?_getD,List.getElem?_set_ne h]
theorem fa {l:List Int} {i:Nat} {x:Int} (h:i<l.length):(l.set i x).getD i 0=x:=by
 simp [List.getD_eq_getElem?_getD,h]
structure PaI (a:List Int) (n i r:Int) (d:List Int):Prop where
 l:d.length=a.length
 dg:Dig d
 i0:-1<=i
 i1:i<a.length
 z:∀ j:Nat,(j:Int)<=i->d.getD j 0=0
 v:val d*n+pw (i+1).toNat*r=pw (i+1).toNat*val (a.drop (i+1).toNat)
 r0:0<=r
 r1:r<n
theorem PaI.start {a:List Int} {n:Int} (hn:0<n):PaI a n (a.length - 1) 0 (List.replicate a.length 0):=by
 refine ⟨by simp,JR _,by omega,by omega,fun j hj=>?_,?_,Int.le_refl _,hn⟩
 .simp [List.getD_eq_getElem?_getD,List.getElem?_replicate]
  split <;> rfl
 .rw [AI,show ((a.length:Int) - 1+1).toNat=a.length by omega,List.drop_length]
  simp [val]
theorem PaI.step {a:List Int} {n i r:Int} {d:List Int} (ha:Dig a) (h:PaI a n i r d) (hi:0<=i):PaI a n (i - 1) ((r*1000000000+a.getD i.toNat 0).tmod n) (d.set i.toNat ((r*1000000000+a.getD i.toNat 0).tdiv n)):=by
 obtain ⟨l,dg,i0,i1,z,v,r0,r1⟩:=h
 have ga:=ha.get i.toNat
 have m0:0<=r*1000000000+a.getD i.toNat 0:=by omega
 have hn:0<n:=by omega
 have eq1:(r*1000000000+a.getD i.toNat 0).tmod n=(r*1000000000+a.getD i.toNat 0) % n:=Int.tmod_eq_emod_of_nonneg m0
 have eq2:(r*1000000000+a.getD i.toNat 0).tdiv n=(r*1000000000+a.getD i.toNat 0) / n:=Int.tdiv_eq_ediv_of_nonneg m0
 rw [eq1,eq2]
 have q0:0<=(r*1000000000+a.getD i.toNat 0) / n:=Int.ediv_nonneg m0 (by omega)
 have q1:(r*1000000000+a.getD i.toNat 0) / n<1000000000:=by
  apply Int.ediv_lt_of_lt_mul hn
  have:(r+1)*1000000000<=n*1000000000:=Int.mul_le_mul_of_nonneg_right (by omega) (by decide)
  omega
 have hil:i.toNat<d.length:=by omega
 have e0:(i - 1+1).toNat=i.toNat:=by omega
 have e1:(i+1).toNat=i.toNat+1:=by omega
 have ed:=Int.mul_ediv_add_emod (r*1000000000+a.getD i.toNat 0) n
 refine ⟨by simp [l],dg.set _ ⟨q0,q1⟩,by omega,by omega,fun j hj=>?_,?_,Int.emod_nonneg _ (by omega),Int.emod_lt_of_pos _ hn⟩
 .rw [getD_set (by omega)]
  exact z j (by omega)
 .rw [e0,fQ _ _ _ hil,z i.toNat (by omega),AU (by omega)]
  rw [e1,fR] at v
  generalize (r*1000000000+a.getD i.toNat 0) / n=q at *
  generalize (r*1000000000+a.getD i.toNat 0) % n=r' at *
  generalize val (a.drop (i.toNat+1))=V at *
  generalize a.getD i.toNat 0=x at *
  generalize pw i.toNat=p at *
  generalize val d=D at *
  grind
theorem PaI.fin {a:List Int} {n i r:Int} {d:List Int} (h:PaI a n i r d) (hi:¬ 0<=i):i=-1/\r=val a % n/\d=aC a.length (val a / n):=by
 obtain ⟨l,dg,i0,i1,z,v,r0,r1⟩:=h
 have e:i=-1:=by omega
 subst e
 have v:val d*n+1*r=1*val (a.drop 0):=v
 rw [List.drop_zero] at v
 have h1:val a / n=val d:=by
  rw [show val a=r+val d*n by omega,Int.add_mul_ediv_right _ _ (by omega),Int.ediv_eq_zero_of_lt r0 r1]
  omega
 have h2:val a % n=r:=by
  rw [show val a=r+val d*n by omega,Int.add_mul_emod_self_right]
  exact Int.emod_eq_of_lt r0 r1
 exact ⟨rfl,h2.symm,gS dg l h1.symm⟩
end Go.Dg
namespace Go.Proofs.YtmnhhlnbfkfkaaaGreat.K
open Go Go.Eng Go.Dg
noncomputable section
def zA (a:List Int) (n:Int):List AV:=[.lslice 0 a.length,.int true .i64 n]
def zH (a:List Int):Hp:=dV true hG0 [(.i64,a)]
def AW:AFr:=⟨118,none⟩
def Kg:Code:=bG Tryz.prog 118 0
noncomputable def uC (a:List Int) (n:Int):St:=g6 cL 300 118 (zA a n) (zH a)
def CK (i r:Int) (d:List Int):Patch:=⟨(7,.int true .i64 r) :: (8,.int true .i64 i) :: az 15 20,[(1,.ints .i64 d)],[]⟩
def qu (a:List Int) (n:Int):SumL (Int×Int×List Int):=
 {
  S:=fun (i,r,d)=>CK i r d
  I:=fun (i,r,d)=>PaI a n i r d
  μ:=fun (i,_,_)=>(i+1).toNat
  F:=fun _=>(.exit 0,CK (-1) (val a % n) (aC a.length (val a / n)))
  next:=fun (i,r,d)=>(i - 1,(r*1000000000+a.getD i.toNat 0).tmod n,d.set i.toNat ((r*1000000000+a.getD i.toNat 0).tdiv n))
  ids:=fun _=>[]
  X:=fun (i,r,d) _=>some (CK i r d,[]) }
def xQ (a:List Int) (n:Int):Prop:=((0:Int)=(0:Int)/\IntKind.i64.wrap ((↑a.length:Int) - (1:Int))=(↑a.length:Int) - (1:Int))/\List.replicate (↑a.length:Int).toNat (0:Int)=List.replicate a.length (0:Int)
theorem GB (a:List Int) (n:Int):fit (uC a n) (uC a n) (ac (uC a n) ((qu a n).S (a.length - 1,0,List.replicate a.length 0))) ([])=some (.p (xQ a n)):=by kernel_rfl
def CL (a:List Int) (n i r:Int) (d:List Int):Prop:=(decide (i>=(0:Int))=true->(((0:Int)<=i/\i<(↑a.length:Int))/\i.toNat<a.length)/\n≠(0:Int)/\n≠(0:Int)/\((0:Int)<=i/\i<(↑a.length:Int))/\((0:Int)+i).toNat<d.length)/\((!decide (i>=(0:Int)))=true->((r=r/\i=i)/\d=d)/\(qu a n).F (i,r,d)=(Ex.exit (0:Nat),CK i r d))/\(decide (i>=(0:Int))=true->(((IntKind.i64.wrap (IntKind.i64.wrap (r*(1000000000:Int))+a.getD i.toNat (0:Int))).tmod n=(r*(1000000000:Int)+a.getD i.toNat (0:Int)).tmod n/\IntKind.i64.wrap (i - (1:Int))=i - (1:Int))/\d.set ((0:Int)+i).toNat (IntKind.i64.wrap ((IntKind.i64.wrap (IntKind.i64.wrap (r*(1000000000:Int))+a.getD i.toNat (0:Int))).tdiv n))=d.set i.toNat ((r*(1000000000:Int)+a.getD i.toNat (0:Int)).tdiv n))/\(qu a n).I ((qu a n).next (i,r,d))/\(qu a n).μ ((qu a n).next (i,r,d))<(qu a n).μ (i,r,d)/\(qu a n).F ((qu a n).next (i,r,d))=(qu a n).F (i,r,d))
theorem O5 (a:List Int) (n i r:Int) (d:List Int):aW (uC a n) ((qu a n).way ((i,r,d))) ((run cL 300).code AW Kg (ac (uC a n) ((qu a n).S (i,r,d))))=some (.p (CL a n i r d)):=by kernel_rfl
theorem Kh {a:List Int} {n:Int} (ha:Dig a) (la:Sm a) (h0:1<=n) (h1:n<=1000000000):CodeOk cL AW (.loop Kg) (uC a n) ⟨.tt,[⟨.tt,.exit 0,ac (uC a n) (CK (-1) (val a % n) (aC a.length (val a / n)))⟩]⟩:=by
 have la:=la.le
 refine cW (aQ c7 300) (qu a n) (y0:=((a.length:Int) - 1,0,List.replicate a.length 0)) (PaI.start (by omega)) ⟨_,GB a n,⟨⟨rfl,iw (by omega) (by omega)⟩,by rw [show ((a.length:Int)).toNat=a.length by omega]⟩⟩ (by kernel_rfl) (fun y hy=>?_) rfl
 obtain ⟨i,r,d⟩:=y
 have hI:PaI a n i r d:=hy
 obtain ⟨l,dg,i0,i1,z,v,r0,r1⟩:=id hI
 refine ⟨_,O5 a n i r d,fun h=>?_,fun h=>⟨⟨⟨rfl,rfl⟩,rfl⟩,?_⟩,fun h=>?_⟩
 .have h:i>=0:=dt.1 h
  exact ⟨⟨⟨by omega,i1⟩,by omega⟩,by omega,by omega,⟨by omega,i1⟩,by omega⟩
 .obtain ⟨e1,e2,e3⟩:=hI.fin (ndt.1 h)
  show (Ex.exit 0,CK (-1) (val a % n) (aC a.length (val a / n)))=_
  rw [e1,e2,<- e3]
 .have h:i>=0:=dt.1 h
  have g:=ha.get i.toNat
  have e1:IntKind.i64.wrap (r*1000000000)=r*1000000000:=iw (by omega) (by omega)
  have e2:IntKind.i64.wrap (r*1000000000+a.getD i.toNat 0)=r*1000000000+a.getD i.toNat 0:=iw (by omega) (by omega)
  have m0:0<=r*1000000000+a.getD i.toNat 0:=by omega
  have e3:IntKind.i64.wrap ((r*1000000000+a.getD i.toNat 0).tdiv n)=(r*1000000000+a.getD i.toNat 0).tdiv n:=by
   rw [Int.tdiv_eq_ediv_of_nonneg m0]
   have:=Int.ediv_nonneg m0 (show 0<=n by omega)
   have:=Int.ediv_le_self n m0
   exact iw (by omega) (by omega)
  refine ⟨⟨⟨by rw [e1,e2],iw (by omega) (by omega)⟩,by rw [e1,e2,e3,show ((0:Int)+i).toNat=i.toNat by omega]⟩,hI.step ha h,?_,rfl⟩
  show (i - 1+1).toNat<(i+1).toNat
  omega
def io:AFr:=⟨117,none⟩
def trA:Code:=bG Tryz.prog 117 0
def trP (id:Nat) (y:Int):Patch:=⟨(0,.islice true id 0 y) :: az 3 17,[],[]⟩
def trU (id:Nat) (d:List Int) (N:Int):SumL Int:=
 {
  S:=fun y=>trP id y
  I:=fun y=>0<=y/\y<=N
  μ:=fun y=>y.toNat
  F:=fun y=>(.exit 0,trP id (tlI d y))
  next:=fun y=>y - 1
  ids:=fun _=>[]
  X:=fun y _=>some (trP id y,[]) }
def trN (id:Nat) (d:List Int) (N y:Int):Prop:=((decide (y>(0:Int))=true->((0:Int)<=IntKind.i64.wrap (y - (1:Int))/\IntKind.i64.wrap (y - (1:Int))<y)/\((0:Int)+IntKind.i64.wrap (y - (1:Int))).toNat<d.length)/\((bif decide (y>(0:Int)) then d.getD ((0:Int)+IntKind.i64.wrap (y - (1:Int))).toNat (0:Int)==(0:Int) else false)=true->(0:Int)<=(0:Int)/\(0:Int)<=IntKind.i64.wrap (y - (1:Int))/\IntKind.i64.wrap (y - (1:Int))<=y))/\((!bif decide (y>(0:Int)) then d.getD ((0:Int)+IntKind.i64.wrap (y - (1:Int))).toNat (0:Int)==(0:Int) else false)=true->((0:Int)=(0:Int)/\y=y)/\(trU id d N).F y=(Ex.exit (0:Nat),trP id y))/\((bif decide (y>(0:Int)) then d.getD ((0:Int)+IntKind.i64.wrap (y - (1:Int))).toNat (0:Int)==(0:Int) else false)=true->((0:Int)+(0:Int)=(0:Int)/\IntKind.i64.wrap (y - (1:Int)) - (0:Int)=(trU id d N).next y)/\(trU id d N).I ((trU id d N).next y)/\(trU id d N).μ ((trU id d N).next y)<(trU id d N).μ y/\(trU id d N).F ((trU id d N).next y)=(trU id d N).F y)
theorem TY {id:Nat} {d:List Int} {N y:Int} (hN:N=d.length) (ld:Sm d) (h0:0<=y) (h1:y<=N):trN id d N y:=by
 have ld:=ld.le
 have ez:∀ z:Int,(0+z).toNat=z.toNat:=fun z=>by rw [Int.zero_add]
 refine ⟨⟨fun h=>?_,fun h=>?_⟩,fun h=>⟨⟨rfl,rfl⟩,?_⟩,fun h=>?_⟩
 .have h:=of_decide_eq_true h
  rw [iw (by omega) (by omega)]
  omega
 .obtain ⟨h2,_⟩:=bt.1 h
  rw [iw (by omega) (by omega)]
  omega
 .show (Ex.exit 0,trP id (tlI d y))=_
  have h:=nbt.1 h
  by_cases h2:0<y
  .have h3:=neb.1 (h h2)
   rw [iw (by omega) (by omega),ez] at h3
   rw [pe h2,if_neg h3]
  .have:y=0:=by omega
   subst this; rfl
 .obtain ⟨h2,h3⟩:=bt.1 h
  have h2:0<y:=h2
  have h3:=eb.1 h3
  rw [iw (by omega) (by omega),ez] at h3
  rw [iw (by omega) (by omega)]
  refine ⟨⟨rfl,by show y - 1 - 0=y - 1; omega⟩,?_,?_,?_⟩
  .show 0<=y - 1/\y - 1<=N
   omega
  .show (y - 1).toNat<y.toNat
   omega
  .show (Ex.exit 0,trP id (tlI d (y - 1)))=(Ex.exit 0,trP id (tlI d y))
   rw [pe h2,if_pos h3]
theorem sw {S:St} {id:Nat} {d:List Int} {N:Int} (hN:N=d.length) (ld:Sm d) (hs:fit S S (ac S ((trU id d N).S N)) []=some (.p ((0:Int)=0/\N=N))) (ho:dT S.hp (((trU id d N).S N).old)=true)
  (hb:∀ y,aW S ((trU id d N).way y) ((run cL 300).code io trA (ac S ((trU id d N).S y)))=some (.p (trN id d N y))):CodeOk cL io (.loop trA) S ⟨.tt,[⟨.tt,.exit 0,ac S (trP id (tlI d N))⟩]⟩:=
 cW (aQ c7 300) (trU id d N) (y0:=N) ⟨by omega,by omega⟩ ⟨_,hs,rfl,rfl⟩ ho (fun y hy=>⟨_,hb y,TY hN ld hy.1 hy.2⟩) rfl
noncomputable def ptS (a d:List Int) (N:Int):St:=g6 cL 300 117 [.islice true 1 0 N] ⟨[⟨14,.ints .i64 d⟩,⟨0,.rows .i64 a⟩],2,17⟩
theorem Ki (a d:List Int) (N:Int):fit (ptS a d N) (ptS a d N) (ac (ptS a d N) ((trU 1 d N).S N)) []=some (.p ((0:Int)=0/\N=N)):=by kernel_rfl
theorem O6 (a d:List Int) (N y:Int):aW (ptS a d N) ((trU 1 d N).way y) ((run cL 300).code io trA (ac (ptS a d N) ((trU 1 d N).S y)))=some (.p (trN 1 d N y)):=by kernel_rfl
theorem O7 (a:List Int) {d:List Int} {N:Int} (hN:N=d.length) (ld:Sm d):CodeOk cL io (.loop trA) (ptS a d N) ⟨.tt,[⟨.tt,.exit 0,ac (ptS a d N) (trP 1 (tlI d N))⟩]⟩:=sw hN ld (Ki a d N) (by kernel_rfl) (fun y=>O6 a d N y)
noncomputable def cPt (a:List Int) (n:Int):Ctx:=aw cL [aR 118 (uC a n).hp.clock AW Kg (uC a n) (.exit 0) (CK (-1) (val a % n) (aC a.length (val a / n))),aR 117 20 io trA (ptS a (aC a.length (val a / n)) a.length) (.exit 0) (trP 1 (tlI (aC a.length (val a / n)) a.length))]
theorem TZ {a:List Int} {n:Int} (ha:Dig a) (la:Sm a) (h0:1<=n) (h1:n<=1000000000):CtxOk (cPt a n):=
 ak c7 (Kh ha la h0 h1) (ak c7 (O7 a (a6 _ _ ▸ rfl) (by show (aC _ _).length<=500000; rw [a6]; exact la)) (aq c7))
def O8 (a:List Int) (n:Int):Prop:=(((↑a.length:Int)=(↑a.length:Int)/\(0:Int)<=(↑a.length:Int)/\(↑a.length:Int)<=(1048576:Int))/\At (AW) (AW) (Kg) (Kg) (uC a n) (uC a n)/\At (io) (io) (trA) (trA) (ptS a (aC a.length (val a / n)) a.length) (ptS a (aC a.length (val a / n)) a.length))
def T4 (a:List Int) (n:Int):AV:=(AV.tuple [AV.islice true 1 (0:Int) (tlI (aC a.length (val a / n)) (↑a.length:Int)),AV.int true IntKind.i64 (val a % n)])
def T5 (a:List Int) (n:Int):Hp:=⟨[{ wr:=14,body:=ABody.ints IntKind.i64 (aC a.length (val a / n)) },{ wr:=(0:Nat),body:=ABody.rows IntKind.i64 a }],2,26⟩
theorem abb (a:List Int) (n:Int):(run (cPt a n) 300).call 118 (zA a n) (zH a)=some ⟨.p (O8 a n),[⟨.tt,T4 a n,T5 a n⟩]⟩:=by kernel_rfl
def zpaV:List Nu->List (List Int)->Option (Prop×To)
 | [.n n],[a]=>some (Dig a/\a.length<=500000/\1<=n/\n<=1000000000,.tu [.li false (aa (val a / n).toNat),.nu .i64 (val a % n)])
 | _,_=>none
theorem T6 {a:List Int} {n:Int} (ha:Dig a) (h0:1<=n):val (aC a.length (val a / n))=val a / n:=by
 have h1:=af ha
 have h2:=ba ha
 have h3:=Int.ediv_le_self n h1
 exact du (Int.ediv_nonneg h1 (by omega)) (by omega)
theorem ES {d:List Int} {N:Int} (h:Dig d) (hN:N=d.length):List.take (tlI d N).toNat (List.drop (Int.toNat 0) d)=aa (val d).toNat:=by
 rw [show Int.toNat 0=0 from rfl,List.drop_zero,hN]
 exact AN h
theorem part_ok:NOk Tryz.prog (fun _=>none) hG0 118 (au hG0 .i64 [.li,.nu (.i .i64)] zpaV):=by
 refine bb (fun xs ys p t e h=>?_) ⟨_,Tryz.func118,rfl⟩
 unfold zpaV at e
 split at e
 .rename_i n a
  cases e
  obtain ⟨ha,la,h0,h1⟩:=h
  refine ⟨cPt a n,300,zA a n,_,_,_,_,_,TZ ha la h0 h1,rfl,rfl,⟨rfl,⟨rfl,rfl⟩,trivial⟩,abb a n,rfl,⟨⟨rfl,by omega,by omega⟩,⟨rfl,rfl,rfl⟩,⟨rfl,rfl,rfl⟩⟩,rfl,rfl,?_⟩
  have hl:=xM (aC a.length (val a / n))
  rw [a6] at hl
  refine ⟨⟨⟨by omega,by omega,by rw [a6]; omega⟩,?_⟩,rfl⟩
  show List.take _ (List.drop _ (aC a.length (val a / n)))=aa (val a / n).toNat
  rw [ES (cX _ _) (by rw [a6]),T6 ha h0]
 .cases e
end
end Go.Proofs.YtmnhhlnbfkfkaaaGreat.K
namespace Go.Dg
open Go Go.Eng
theorem wg {n j k:Nat} {v:Int} (h0:0<=v) (h:v<pw k) (hj:k<=j):(aC n v).getD j 0=0:=by
 rcases Nat.lt_or_ge j n with h1|h1
 .rw [uB n v j h1]
  have:=bK hj
  rw [Int.ediv_eq_zero_of_lt h0 (by omega)]
  rfl
 .rw [List.getD_eq_getElem?_getD,List.getElem?_eq_none (by rw [a6]; exact h1)]
  rfl
theorem xR:∀ {d:List Int} {k:Nat},Dig d->(∀ j,k<=j->d.getD j 0=0)->val d<pw k
 | [],k,_,_=>pw_pos k
 | x :: l,0,h,z=>by
  have h':=bz.1 h
  have z0:x=0:=z 0 (Nat.le_refl _)
  have:=xR (k:=0) h'.2 (fun j _=>z (j+1) (by omega))
  have e:pw 0=1:=rfl
  show x+1000000000*val l<pw 0
  omega
 | x :: l,k+1,h,z=>by
  have h':=bz.1 h
  have:=xR (k:=k) h'.2 (fun j hj=>z (j+1) (by omega))
  rw [fR]
  show x+1000000000*val l<_
  omega
def tmV (a b:List Int) (i:Int):Int:=val (a.take i.toNat)*val b
theorem CM {a b:List Int} (ha:Dig a) (hb:Dig b) {i:Int} (h0:0<=i) (h1:i<=a.length):0<=tmV a b i/\tmV a b i<pw (i.toNat+b.length):=by
 have t0:=af (ha.take i.toNat)
 have t1:=ba (ha.take i.toNat)
 have b0:=af hb
 have b1:=ba hb
 rw [List.length_take,Nat.min_eq_left (by omega)] at t1
 refine ⟨Int.mul_nonneg t0 b0,?_⟩
 rw [nQ]
 have p:=pw_pos i.toNat
 calc val (a.take i.toNat)*val b<=pw i.toNat*val b:=Int.mul_le_mul_of_nonneg_right (by omega) b0
  _<pw i.toNat*pw b.length:=Int.mul_lt_mul_of_pos_left b1 p
structure TmI (a b:List Int) (i k c:Int) (d:List Int):Prop where
 l:d.length=a.length+b.length
 dg:Dig d
 k0:0<=k
 k1:k<=b.length
 c0:0<=c
 c1:c<1000000000
 v:val d+pw (i.toNat+k.toNat)*c=tmV a b i+pw i.toNat*(a.getD i.toNat 0*val (b.take k.toNat))
 z:∀ j:Nat,i.toNat+b.length<=j->d.getD j 0=0
theorem TmI.start {a b:List Int} (ha:Dig a) (hb:Dig b) {i:Int} (h0:0<=i) (h1:i<a.length):TmI a b i 0 0 (aC (a.length+b.length) (tmV a b i)):=by
 obtain ⟨t0,t1⟩:=CM ha hb h0 (Int.le_of_lt h1)
 have t2:=bK (show i.toNat+b.length<=a.length+b.length by omega)
 refine ⟨a6 _ _,cX _ _,Int.le_refl _,by omega,Int.le_refl _,by decide,?_,fun j hj=>wg t0 t1 hj⟩
 rw [du t0 (by omega)]
 simp [val]
theorem TmI.num {a b:List Int} (ha:Dig a) (hb:Dig b) {i k c:Int} {d:List Int} (h:TmI a b i k c d) (hk:k<b.length):0<=a.getD i.toNat 0*b.getD k.toNat 0/\a.getD i.toNat 0*b.getD k.toNat 0<=999999998000000001/\0<=d.getD (i.toNat+k.toNat) 0/\d.getD (i.toNat+k.toNat) 0<1000000000:=by
 have g1:=ha.get i.toNat
 have g2:=hb.get k.toNat
 have g3:=h.dg.get (i.toNat+k.toNat)
 refine ⟨Int.mul_nonneg g1.1 g2.1,?_,g3⟩
 exact Int.mul_le_mul (show a.getD i.toNat 0<=999999999 by omega) (show b.getD k.toNat 0<=999999999 by omega) g2.1 (by decide)
theorem TmI.step {a b:List Int} (ha:Dig a) (hb:Dig b) {i k c:Int} {d:List Int} (h:TmI a b i k c d) (hi:i<a.length) (hk:k<b.length):
  TmI a b i (k+1) ((d.getD (i.toNat+k.toNat) 0+a.getD i.toNat 0*b.getD k.toNat 0+c).tdiv 1000000000) (d.set (i.toNat+k.toNat) ((d.getD (i.toNat+k.toNat) 0+a.getD i.toNat 0*b.getD k.toNat 0+c).tmod 1000000000)):=by
 obtain ⟨m0,m1,m2,m3⟩:=h.num ha hb hk
 obtain ⟨l,dg,k0,k1,c0,c1,v,z⟩:=h
 have n0:0<=d.getD (i.toNat+k.toNat) 0+a.getD i.toNat 0*b.getD k.toNat 0+c:=by omega
 rw [Int.tdiv_eq_ediv_of_nonneg n0,Int.tmod_eq_emod_of_nonneg n0]
 have ek:(k+1).toNat=k.toNat+1:=by omega
 have hl:i.toNat+k.toNat<d.length:=by omega
 refine ⟨by simp [l],dg.set _ (by omega),by omega,by omega,by omega,by omega,?_,fun j hj=>?_⟩
 .rw [ek,fQ _ _ _ hl,bS (by omega),<- Nat.add_assoc,fR]
  have ed:=Int.mul_ediv_add_emod (d.getD (i.toNat+k.toNat) 0+a.getD i.toNat 0*b.getD k.toNat 0+c) 1000000000
  rw [nQ] at v ⊢
  generalize (d.getD (i.toNat+k.toNat) 0+a.getD i.toNat 0*b.getD k.toNat 0+c) / 1000000000=Q at *
  generalize (d.getD (i.toNat+k.toNat) 0+a.getD i.toNat 0*b.getD k.toNat 0+c) % 1000000000=R at *
  generalize d.getD (i.toNat+k.toNat) 0=x at *
  generalize a.getD i.toNat 0=y at *
  generalize b.getD k.toNat 0=w at *
  generalize pw i.toNat=p at *
  generalize pw k.toNat=q at *
  generalize tmV a b i=V at *
  generalize val (b.take k.toNat)=u at *
  generalize val d=D at *
  grind
 .rw [getD_set (by omega)]
  exact z j hj
def tmW (a b:List Int) (i:Int):Int:=tmV a b i+pw i.toNat*(a.getD i.toNat 0*val b)
theorem T7 {a b:List Int} {i:Int} (h0:0<=i) (h1:i<a.length):tmW a b i=tmV a b (i+1):=by
 unfold tmW tmV
 rw [show (i+1).toNat=i.toNat+1 by omega,bS (by omega)]
 grind
theorem TmI.fin {a b:List Int} {i k c:Int} {d:List Int} (h:TmI a b i k c d) (hk:¬ k<b.length):k=b.length/\c=tmW a b i / pw (i.toNat+b.length)/\d=aC (a.length+b.length) (tmW a b i % pw (i.toNat+b.length)):=by
 obtain ⟨l,dg,k0,k1,c0,c1,v,z⟩:=h
 have e:k=b.length:=by omega
 subst e
 have d0:=af dg
 have d1:=xR dg z
 have p:=pw_pos (i.toNat+b.length)
 rw [show ((b.length:Int)).toNat=b.length by omega,List.take_length] at v
 have hW:tmW a b i=val d+pw (i.toNat+b.length)*c:=v.symm
 refine ⟨rfl,?_,gS dg l ?_⟩
 .rw [hW,Int.add_mul_ediv_left _ _ (by omega),Int.ediv_eq_zero_of_lt d0 d1]; omega
 .rw [hW,Int.add_mul_emod_self_left,Int.emod_eq_of_lt d0 d1]
theorem T8 {a b:List Int} (ha:Dig a) (hb:Dig b) {i:Int} (h0:0<=i) (h1:i<a.length):
  (aC (a.length+b.length) (tmW a b i % pw (i.toNat+b.length))).set (i.toNat+b.length) (tmW a b i / pw (i.toNat+b.length))=aC (a.length+b.length) (tmV a b (i+1)):=by
 obtain ⟨t0,t1⟩:=CM ha hb (show 0<=i+1 by omega) (show i+1<=a.length by omega)
 have p:=pw_pos (i.toNat+b.length)
 rw [T7 h0 h1]
 rw [show (i+1).toNat+b.length=(i.toNat+b.length)+1 by omega,fR] at t1
 have m0:=Int.emod_nonneg (tmV a b (i+1)) (show pw (i.toNat+b.length)≠0 by omega)
 have m1:=Int.emod_lt_of_pos (tmV a b (i+1)) p
 have m2:=bK (show i.toNat+b.length<=a.length+b.length by omega)
 have q0:=Int.ediv_nonneg t0 (show 0<=pw (i.toNat+b.length) by omega)
 have q1:tmV a b (i+1) / pw (i.toNat+b.length)<1000000000:=Int.ediv_lt_of_lt_mul p (by omega)
 have ed:=Int.mul_ediv_add_emod (tmV a b (i+1)) (pw (i.toNat+b.length))
 apply gS ((cX _ _).set _ ⟨q0,q1⟩)
 .rw [List.length_set,a6]
 .rw [fQ _ _ _ (by rw [a6]; omega),wg m0 m1 (Nat.le_refl _),du m0 (by omega)]
  rw [Int.sub_zero]
  omega
theorem T9 {a b:List Int} (ha:Dig a) (hb:Dig b):val (aC (a.length+b.length) (tmV a b a.length))=val a*val b:=by
 obtain ⟨t0,t1⟩:=CM ha hb (show 0<=(a.length:Int) by omega) (Int.le_refl _)
 rw [show ((a.length:Int)).toNat=a.length by omega] at t1
 rw [du t0 t1]
 unfold tmV
 rw [show ((a.length:Int)).toNat=a.length by omega,List.take_length]
end Go.Dg
namespace Go.Proofs.YtmnhhlnbfkfkaaaGreat.K
open Go Go.Eng Go.Dg
noncomputable section
def zB (a b:List Int):List AV:=[.lslice 0 a.length,.lslice 1 b.length]
def zG (a b:List Int):Hp:=dV true hG0 [(.i64,a),(.i64,b)]
def rZ:AFr:=⟨98,none⟩
def CN:Code:=bG Tryz.prog 98 0
def Kj:Code:=bG Tryz.prog 98 1
noncomputable def toS (a b:List Int):St:=g6 cL 300 98 (zB a b) (zG a b)
def tmL (a b:List Int):Nat:=a.length+b.length
def toP (i:Int) (d:List Int):Patch:=⟨az 6 6++(20,.int true .i64 i) :: az 21 41,[(2,.ints .i64 d)],[]⟩
def toU (a b:List Int):SumL Int:=
 {
  S:=fun i=>toP i (aC (tmL a b) (tmV a b i))
  I:=fun i=>0<=i/\i<=a.length
  μ:=fun i=>(a.length - i).toNat
  F:=fun _=>(.exit 0,toP a.length (aC (tmL a b) (tmV a b a.length)))
  next:=fun i=>i+1
  ids:=fun _=>[]
  X:=fun i _=>some (toP i (aC (tmL a b) (tmV a b i)),[]) }
noncomputable def uD (a b:List Int) (i:Int):St:=NQ cL 300 rZ CN (ac (toS a b) ((toU a b).S i))
def tiP (k c:Int) (d:List Int):Patch:=⟨(8,.int true .i64 c) :: az 9 3++(27,.int true .i64 k) :: az 28 26,[(2,.ints .i64 d)],[]⟩
def tiX (a b:List Int) (i:Int):Patch:=tiP b.length (tmW a b i / pw (i.toNat+b.length)) (aC (tmL a b) (tmW a b i % pw (i.toNat+b.length)))
def tiU (a b:List Int) (i:Int):SumL (Int×Int×List Int):=
 {
  S:=fun (k,c,d)=>tiP k c d
  I:=fun (k,c,d)=>TmI a b i k c d
  μ:=fun (k,_,_)=>(b.length - k).toNat
  F:=fun _=>(.exit 2,tiX a b i)
  next:=fun (k,c,d)=>(k+1,(d.getD (i.toNat+k.toNat) 0+a.getD i.toNat 0*b.getD k.toNat 0+c).tdiv 1000000000,d.set (i.toNat+k.toNat) ((d.getD (i.toNat+k.toNat) 0+a.getD i.toNat 0*b.getD k.toNat 0+c).tmod 1000000000))
  ids:=fun _=>[]
  X:=fun (k,c,d) _=>some (tiP k c d,[]) }
noncomputable def Ua (a b:List Int) (i:Int):Ctx:=aw cL [aR 98 (uD a b i).hp.clock rZ Kj (uD a b i) (.exit 2) (tiX a b i)]
def hZ (l:List (Nat×AV)):Nat->Nat->Option AV:=fun _ t=>match l with
 | []=>none
 | x :: l=>match Nat.beq t x.1 with
  | true=>some x.2
  | false=>hZ l 0 t
termination_by structural l
def cHz (t:Nat):Ctx:=aO cL (hZ [(t,.bool false false)])
theorem Ub (t:Nat):CtxOk (cHz t):=aj c7 _
def AX (a b:List Int):Prop:=(0:Int)=(0:Int)/\List.replicate (IntKind.i64.wrap ((↑a.length:Int)+(↑b.length:Int))).toNat (0:Int)=aC (tmL a b) (tmV a b (0:Int))
theorem Kk (a b:List Int):fit (toS a b) (toS a b) (ac (toS a b) ((toU a b).S 0)) ([])=some (.p (AX a b)):=by kernel_rfl
def AY (a b:List Int) (i:Int):Prop:=((0:Int)=(0:Int)/\(0:Int)=(0:Int))/\aC (tmL a b) (tmV a b i)=aC (tmL a b) (tmV a b i)
theorem Kl (a b:List Int) (i:Int):fit (uD a b i) (uD a b i) (ac (uD a b i) ((tiU a b i).S (0,0,aC (tmL a b) (tmV a b i)))) ([])=some (.p (AY a b i)):=by kernel_rfl
def CO (a b:List Int) (i k c:Int) (d:List Int):Prop:=(decide (k<(↑b.length:Int))=true->(((0:Int)<=k/\k<(↑b.length:Int))/\k.toNat<b.length)/\(((0:Int)<=IntKind.i64.wrap (i+k)/\IntKind.i64.wrap (i+k)<IntKind.i64.wrap ((↑a.length:Int)+(↑b.length:Int)))/\((0:Int)+IntKind.i64.wrap (i+k)).toNat<d.length)/\((0:Int)<=IntKind.i64.wrap (i+k)/\IntKind.i64.wrap (i+k)<IntKind.i64.wrap ((↑a.length:Int)+(↑b.length:Int)))/\((0:Int)+IntKind.i64.wrap (i+k)).toNat<d.length)/\((!decide (k<(↑b.length:Int)))=true->((c=c/\k=k)/\d=d)/\(tiU a b i).F (k,c,d)=(Ex.exit (2:Nat),tiP k c d))/\(decide (k<(↑b.length:Int))=true->((IntKind.i64.wrap ((IntKind.i64.wrap (IntKind.i64.wrap (d.getD ((0:Int)+IntKind.i64.wrap (i+k)).toNat (0:Int)+IntKind.i64.wrap (a.getD i.toNat (0:Int)*b.getD k.toNat (0:Int)))+c)).tdiv (1000000000:Int))=(d.getD (i.toNat+k.toNat) (0:Int)+a.getD i.toNat (0:Int)*b.getD k.toNat (0:Int)+c).tdiv (1000000000:Int)/\IntKind.i64.wrap (k+(1:Int))=k+(1:Int))/\d.set ((0:Int)+IntKind.i64.wrap (i+k)).toNat ((IntKind.i64.wrap (IntKind.i64.wrap (d.getD ((0:Int)+IntKind.i64.wrap (i+k)).toNat (0:Int)+IntKind.i64.wrap (a.getD i.toNat (0:Int)*b.getD k.toNat (0:Int)))+c)).tmod (1000000000:Int))=d.set (i.toNat+k.toNat) ((d.getD (i.toNat+k.toNat) (0:Int)+a.getD i.toNat (0:Int)*b.getD k.toNat (0:Int)+c).tmod (1000000000:Int)))/\(tiU a b i).I ((tiU a b i).next (k,c,d))/\(tiU a b i).μ ((tiU a b i).next (k,c,d))<(tiU a b i).μ (k,c,d)/\(tiU a b i).F ((tiU a b i).next (k,c,d))=(tiU a b i).F (k,c,d))
theorem O9 (a b:List Int) (i k c:Int) (d:List Int):aW (uD a b i) ((tiU a b i).way ((k,c,d))) ((run cL 300).code rZ Kj (ac (uD a b i) ((tiU a b i).S (k,c,d))))=some (.p (CO a b i k c d)):=by kernel_rfl
def CP (a b:List Int) (i:Int):Prop:=(decide (i<(↑a.length:Int))=true->(((0:Int)<=i/\i<(↑a.length:Int))/\i.toNat<a.length)/\At (rZ) (rZ) (Kj) (Kj) (uD a b i) (uD a b i)/\((0:Int)<=IntKind.i64.wrap (i+(↑b.length:Int))/\IntKind.i64.wrap (i+(↑b.length:Int))<IntKind.i64.wrap ((↑a.length:Int)+(↑b.length:Int)))/\((0:Int)+IntKind.i64.wrap (i+(↑b.length:Int))).toNat<(aC (tmL a b) (tmW a b i % pw (i.toNat+b.length))).length)/\((!decide (i<(↑a.length:Int)))=true->(i=i/\aC (tmL a b) (tmV a b i)=aC (tmL a b) (tmV a b i))/\(toU a b).F i=(Ex.exit (0:Nat),toP i (aC (tmL a b) (tmV a b i))))/\(decide (i<(↑a.length:Int))=true->(IntKind.i64.wrap (i+(1:Int))=(toU a b).next i/\(aC (tmL a b) (tmW a b i % pw (i.toNat+b.length))).set ((0:Int)+IntKind.i64.wrap (i+(↑b.length:Int))).toNat (tmW a b i / pw (i.toNat+b.length))=aC (tmL a b) (tmV a b ((toU a b).next i)))/\(toU a b).I ((toU a b).next i)/\(toU a b).μ ((toU a b).next i)<(toU a b).μ i/\(toU a b).F ((toU a b).next i)=(toU a b).F i)
theorem Pb (a b:List Int) (i:Int):aW (toS a b) ((toU a b).way (i)) ((run (Ua a b i) 300).code rZ CN (ac (toS a b) ((toU a b).S i)))=some (.p (CP a b i)):=by kernel_rfl
def GC (a b:List Int) (i:Int):Prop:=decide (i<(↑a.length:Int))=false/\(true=true->(i=i/\aC (tmL a b) (tmV a b i)=aC (tmL a b) (tmV a b i))/\(toU a b).F i=(Ex.exit (0:Nat),toP i (aC (tmL a b) (tmV a b i))))
theorem Uc (a b:List Int) (i:Int):aW (toS a b) ((toU a b).way (i)) ((run (cHz 21) 300).code rZ CN (ac (toS a b) ((toU a b).S i)))=some (.p (GC a b i)):=by kernel_rfl
theorem Km {a b:List Int} (ha:Dig a) (hb:Dig b) (hl:a.length+b.length<=500000) {i:Int} (h0:0<=i) (h1:i<a.length):CodeOk cL rZ (.loop Kj) (uD a b i) ⟨.tt,[⟨.tt,.exit 2,ac (uD a b i) (tiX a b i)⟩]⟩:=by
 refine cW (aQ c7 300) (tiU a b i) (y0:=(0,0,aC (tmL a b) (tmV a b i))) (TmI.start ha hb h0 h1) ⟨_,Kl a b i,⟨rfl,rfl⟩,rfl⟩ (by kernel_rfl) (fun y hy=>?_) rfl
 obtain ⟨k,c,d⟩:=y
 have hI:TmI a b i k c d:=hy
 obtain ⟨l,dg,k0,k1,c0,c1,v,z⟩:=id hI
 have eL:IntKind.i64.wrap ((a.length:Int)+b.length)=a.length+b.length:=iw (by omega) (by omega)
 have e1:IntKind.i64.wrap (i+k)=i+k:=iw (by omega) (by omega)
 have e2:(0+(i+k)).toNat=i.toNat+k.toNat:=by omega
 refine ⟨_,O9 a b i k c d,fun h=>?_,fun h=>⟨⟨⟨rfl,rfl⟩,rfl⟩,?_⟩,fun h=>?_⟩
 .have h:=dt.1 h
  rw [e1,eL,e2]
  exact ⟨⟨⟨k0,h⟩,by omega⟩,⟨⟨by omega,by omega⟩,by omega⟩,⟨by omega,by omega⟩,by omega⟩
 .obtain ⟨f1,f2,f3⟩:=hI.fin (ndt.1 h)
  show (Ex.exit 2,tiX a b i)=(Ex.exit 2,tiP k c d)
  unfold tiX tmL
  rw [f1,f2,<- f3]
 .have h:=dt.1 h
  obtain ⟨m0,m1,m2,m3⟩:=hI.num ha hb h
  rw [e1,e2]
  have e3:IntKind.i64.wrap (a.getD i.toNat 0*b.getD k.toNat 0)=a.getD i.toNat 0*b.getD k.toNat 0:=iw (by omega) (by omega)
  rw [e3]
  have e4:IntKind.i64.wrap (d.getD (i.toNat+k.toNat) 0+a.getD i.toNat 0*b.getD k.toNat 0)=d.getD (i.toNat+k.toNat) 0+a.getD i.toNat 0*b.getD k.toNat 0:=iw (by omega) (by omega)
  rw [e4]
  have e5:IntKind.i64.wrap (d.getD (i.toNat+k.toNat) 0+a.getD i.toNat 0*b.getD k.toNat 0+c)=d.getD (i.toNat+k.toNat) 0+a.getD i.toNat 0*b.getD k.toNat 0+c:=iw (by omega) (by omega)
  rw [e5]
  have st:=hI.step ha hb h1 h
  have e6:IntKind.i64.wrap ((d.getD (i.toNat+k.toNat) 0+a.getD i.toNat 0*b.getD k.toNat 0+c).tdiv 1000000000)=(d.getD (i.toNat+k.toNat) 0+a.getD i.toNat 0*b.getD k.toNat 0+c).tdiv 1000000000:=by
   have:=st.c0
   have:=st.c1
   exact iw (by omega) (by omega)
  refine ⟨⟨⟨e6,iw (by omega) (by omega)⟩,rfl⟩,st,?_,rfl⟩
  show (b.length - (k+1)).toNat<(b.length - k).toNat
  omega
theorem Pc {a b:List Int} (ha:Dig a) (hb:Dig b) (hl:a.length+b.length<=500000) {i:Int} (h0:0<=i) (h1:i<a.length):CtxOk (Ua a b i):=ak c7 (Km ha hb hl h0 h1) (aq c7)
theorem Pd {a b:List Int} (ha:Dig a) (hb:Dig b) (hl:a.length+b.length<=500000):CodeOk cL rZ (.loop CN) (toS a b) ⟨.tt,[⟨.tt,.exit 0,ac (toS a b) (toP a.length (aC (tmL a b) (tmV a b a.length)))⟩]⟩:=by
 have eL:IntKind.i64.wrap ((a.length:Int)+b.length)=a.length+b.length:=iw (by omega) (by omega)
 refine cB (toU a b) (y0:=0) ⟨by omega,by omega⟩ ⟨_,Kk a b,rfl,?_⟩ (by kernel_rfl) (fun i hi=>?_) rfl
 .rw [eL,show ((a.length:Int)+b.length).toNat=tmL a b by unfold tmL; omega,pg]
  congr 1
  unfold tmV
  simp [val]
 obtain ⟨i0,i1⟩:=(show 0<=i/\i<=a.length from hi)
 by_cases hlt:i<a.length
 .have e1:IntKind.i64.wrap (i+b.length)=i+b.length:=iw (by omega) (by omega)
  have e2:(0+(i+(b.length:Int))).toNat=i.toNat+b.length:=by omega
  refine ⟨Ua a b i,300,Pc ha hb hl i0 hlt,rfl,rfl,_,Pb a b i,fun h=>?_,fun h=>absurd hlt (ndt.1 h),fun h=>⟨⟨iw (by omega) (by omega),?_⟩,?_,?_,rfl⟩⟩
  .rw [e1,eL,e2]
   refine ⟨⟨⟨i0,hlt⟩,by omega⟩,⟨rfl,rfl,rfl⟩,⟨by omega,by omega⟩,?_⟩
   rw [a6]; unfold tmL; omega
  .rw [e1,e2]
   exact T8 ha hb i0 hlt
  .show 0<=i+1/\i+1<=a.length
   omega
  .show (a.length - (i+1)).toNat<(a.length - i).toNat
   omega
 .obtain rfl:i=a.length:=by omega
  exact ⟨cHz 21,300,Ub 21,rfl,rfl,_,Uc a b a.length,ndf hlt,fun _=>⟨⟨rfl,rfl⟩,rfl⟩⟩
noncomputable def ttS (a b d:List Int) (N:Int):St:=g6 cL 300 117 [.islice true 2 0 N] ⟨[⟨14,.ints .i64 d⟩,⟨0,.rows .i64 b⟩,⟨0,.rows .i64 a⟩],3,17⟩
theorem Kn (a b d:List Int) (N:Int):fit (ttS a b d N) (ttS a b d N) (ac (ttS a b d N) ((trU 2 d N).S N)) []=some (.p ((0:Int)=0/\N=N)):=by kernel_rfl
theorem Pe (a b d:List Int) (N y:Int):aW (ttS a b d N) ((trU 2 d N).way y) ((run cL 300).code io trA (ac (ttS a b d N) ((trU 2 d N).S y)))=some (.p (trN 2 d N y)):=by kernel_rfl
theorem Pf (a b:List Int) {d:List Int} {N:Int} (hN:N=d.length) (ld:Sm d):CodeOk cL io (.loop trA) (ttS a b d N) ⟨.tt,[⟨.tt,.exit 0,ac (ttS a b d N) (trP 2 (tlI d N))⟩]⟩:=sw hN ld (Kn a b d N) (by kernel_rfl) (fun y=>Pe a b d N y)
def tmN (a b:List Int):Int:=IntKind.i64.wrap ((a.length:Int)+b.length)
def tmD (a b:List Int):List Int:=aC (tmL a b) (tmV a b a.length)
noncomputable def cTt (a b:List Int):Ctx:=aw cL [aR 98 (toS a b).hp.clock rZ CN (toS a b) (.exit 0) (toP a.length (tmD a b)),aR 117 20 io trA (ttS a b (tmD a b) (tmN a b)) (.exit 0) (trP 2 (tlI (tmD a b) (tmN a b)))]
theorem ET {a b:List Int} (hl:a.length+b.length<=500000):tmN a b=(tmD a b).length:=by
 unfold tmN tmD tmL
 rw [iw (by omega) (by omega),a6]; omega
theorem Ud {a b:List Int} (ha:Dig a) (hb:Dig b) (hl:a.length+b.length<=500000):CtxOk (cTt a b):=
 ak c7 (Pd ha hb hl) (ak c7 (Pf a b (ET hl) (by show (tmD a b).length<=500000; unfold tmD tmL; rw [a6]; exact hl)) (aq c7))
def Pg (a b:List Int):Prop:=((IntKind.i64.wrap ((↑a.length:Int)+(↑b.length:Int))=IntKind.i64.wrap ((↑a.length:Int)+(↑b.length:Int))/\(0:Int)<=IntKind.i64.wrap ((↑a.length:Int)+(↑b.length:Int))/\IntKind.i64.wrap ((↑a.length:Int)+(↑b.length:Int))<=(1048576:Int))/\At (rZ) (rZ) (CN) (CN) (toS a b) (toS a b)/\At (io) (io) (trA) (trA) (ttS a b (tmD a b) (tmN a b)) (ttS a b (tmD a b) (tmN a b)))
def Ue (a b:List Int):AV:=(AV.islice true 2 (0:Int) (tlI (tmD a b) (tmN a b)))
def Uf (a b:List Int):Hp:=⟨[{ wr:=14,body:=ABody.ints IntKind.i64 (tmD a b) },{ wr:=(0:Nat),body:=ABody.rows IntKind.i64 b },{ wr:=(0:Nat),body:=ABody.rows IntKind.i64 a }],3,24⟩
theorem abc (a b:List Int):(run (cTt a b) 300).call 98 (zB a b) (zG a b)=some ⟨.p (Pg a b),[⟨.tt,Ue a b,Uf a b⟩]⟩:=by kernel_rfl
def Ug:List Nu->List (List Int)->Option (Prop×To)
 | [],[a,b]=>some (Dig a/\Dig b/\a.length+b.length<=500000,.li false (aa (val a*val b).toNat))
 | _,_=>none
theorem xS {d:List Int} {N v:Int} (h:Dig d) (hN:N=d.length) (hv:val d=v):((0:Int)<=0/\0<=tlI d N/\0+tlI d N<=d.length)/\List.take (tlI d N).toNat (List.drop (Int.toNat 0) d)=aa v.toNat:=by
 have hl:=xM d
 rw [ES h hN,hv,hN]
 exact ⟨⟨by omega,by omega,by omega⟩,rfl⟩
theorem Ko:NOk Tryz.prog (fun _=>none) hG0 98 (au hG0 .i64 [.li,.li] Ug):=by
 refine bb (fun xs ys p t e h=>?_) ⟨_,Tryz.func98,rfl⟩
 unfold Ug at e
 split at e
 .rename_i a b
  cases e
  obtain ⟨ha,hb,hl⟩:=h
  have eN:tmN a b=a.length+b.length:=iw (by omega) (by omega)
  exact ⟨cTt a b,300,zB a b,_,_,_,_,_,Ud ha hb hl,rfl,rfl,⟨rfl,rfl,trivial⟩,abc a b,rfl,⟨⟨rfl,by show 0<=tmN a b; omega,by show tmN a b<=_; omega⟩,⟨rfl,rfl,rfl⟩,⟨rfl,rfl,rfl⟩⟩,rfl,rfl,xS (cX _ _) (ET hl) (T9 ha hb)⟩
 .cases e
end
end Go.Proofs.YtmnhhlnbfkfkaaaGreat.K
namespace Go.Dg
open Go Go.Eng
def dX:List Int->List Int->List Int
 | x :: a,y :: b=>(x - y) :: dX a b
 | a,[]=>a
 | [],_ :: _=>[]
def ji:List Int->List Int->List Int
 | x :: a,y :: b=>(x+y) :: ji a b
 | a,[]=>a
 | [],_ :: _=>[]
theorem uE (a:List Int):dX a []=a:=by cases a <;> rfl
theorem uF (a:List Int):ji a []=a:=by cases a <;> rfl
theorem ph:∀ a b:List Int,(dX a b).length=a.length
 | [],[]=>rfl
 | x :: a,[]=>rfl
 | [],_ :: _=>rfl
 | x :: a,y :: b=>by simp [dX,ph a b]
theorem pi:∀ a b:List Int,(ji a b).length=a.length
 | [],[]=>rfl
 | x :: a,[]=>rfl
 | [],_ :: _=>rfl
 | x :: a,y :: b=>by simp [ji,pi a b]
theorem uG:∀ (a b:List Int) (i:Nat),i<a.length->(dX a b).getD i 0=a.getD i 0 - b.getD i 0
 | [],_,i,h=>by simp at h
 | x :: a,[],i,h=>by simp [dX]
 | x :: a,y :: b,0,h=>by simp [dX]
 | x :: a,y :: b,i+1,h=>by
  have:=uG a b i (by simpa using h)
  simpa [dX] using this
theorem pj:∀ (a b:List Int) (i:Nat),i<a.length->(ji a b).getD i 0=a.getD i 0+b.getD i 0
 | [],_,i,h=>by simp at h
 | x :: a,[],i,h=>by simp [ji]
 | x :: a,y :: b,0,h=>by simp [ji]
 | x :: a,y :: b,i+1,h=>by
  have:=pj a b i (by simpa using h)
  simpa [ji] using this
theorem wh:∀ (a b:List Int) (i:Nat),i<b.length->b.length<=a.length->(dX a (b.take i)).set i ((dX a (b.take i)).getD i 0 - b.getD i 0)=dX a (b.take (i+1))
 | _,[],i,h,_=>by simp at h
 | [],y :: b,i,h,h2=>by simp at h2
 | x :: a,y :: b,0,h,_=>by simp [dX,uE]
 | x :: a,y :: b,i+1,h,h2=>by
  have:=wh a b i (by simpa using h) (by simpa using h2)
  simpa [dX] using this
theorem wi:∀ (a b:List Int) (i:Nat),i<b.length->b.length<=a.length->(ji a (b.take i)).set i ((ji a (b.take i)).getD i 0+b.getD i 0)=ji a (b.take (i+1))
 | _,[],i,h,_=>by simp at h
 | [],y :: b,i,h,h2=>by simp at h2
 | x :: a,y :: b,0,h,_=>by simp [ji,uF]
 | x :: a,y :: b,i+1,h,h2=>by
  have:=wi a b i (by simpa using h) (by simpa using h2)
  simpa [ji] using this
theorem AZ:∀ (a b:List Int),b.length<=a.length->val (dX a b)=val a - val b
 | a,[],_=>by simp [uE,val]
 | [],y :: b,h=>by simp at h
 | x :: a,y :: b,h=>by
  have:=AZ a b (by simpa using h)
  simp only [dX,val]
  omega
theorem A0:∀ (a b:List Int),b.length<=a.length->val (ji a b)=val a+val b
 | a,[],_=>by simp [uF,val]
 | [],y :: b,h=>by simp at h
 | x :: a,y :: b,h=>by
  have:=A0 a b (by simpa using h)
  simp only [ji,val]
  omega
theorem CQ {d:List Int} (h:∀ j,j<d.length->0<=d.getD j 0/\d.getD j 0<1000000000):Dig d:=by
 intro x hx
 obtain ⟨j,hj,rfl⟩:=List.getElem_of_mem hx
 have:=h j hj
 simpa [List.getD_eq_getElem?_getD,List.getElem?_eq_getElem hj] using this
structure NbI (L:Nat) (V:Int) (i:Nat) (d:List Int):Prop where
 l:d.length=L
 i1:i<=L
 lo:∀ j,j<i->0<=d.getD j 0/\d.getD j 0<1000000000
 me:-1000000000<=d.getD i 0/\d.getD i 0<1000000000
 hi:∀ j,i<j->-1000000000<d.getD j 0/\d.getD j 0<1000000000
 v:val d=V
theorem NbI.start {a b:List Int} (ha:Dig a) (hb:Dig b) (hl:b.length<=a.length):NbI a.length (val a - val b) 0 (dX a b):=by
 have g:∀ j,-1000000000<(dX a b).getD j 0/\(dX a b).getD j 0<1000000000:=by
  intro j
  rcases Nat.lt_or_ge j a.length with h|h
  .rw [uG a b j h]
   have:=ha.get j
   have:=hb.get j
   omega
  .rw [List.getD_eq_getElem?_getD,List.getElem?_eq_none (by rw [ph]; exact h)]
   simp
 exact ⟨ph a b,Nat.zero_le _,fun j hj=>by omega,⟨by have:=g 0; omega,(g 0).2⟩,fun j _=>g j,AZ a b hl⟩
theorem Ph {d:List Int} {i:Nat} (hl:d.length=i+1) (lo:∀ j,j<i->0<=d.getD j 0/\d.getD j 0<1000000000) (hn:d.getD i 0<0):val d<0:=by
 have e:val d=val (d.take i)+pw i*d.getD i 0:=by
  rw [<- bS (by omega),<- hl,List.take_length]
 have dg:Dig (d.take i):=by
  apply CQ
  intro j hj
  rw [List.length_take] at hj
  have:=lo j (by omega)
  simpa [List.getD_eq_getElem?_getD,List.getElem?_take,show j<i by omega] using this
 have h1:=ba dg
 rw [List.length_take,Nat.min_eq_left (by omega)] at h1
 have h2:pw i*d.getD i 0<=pw i * -1:=Int.mul_le_mul_of_nonneg_left (by omega) (Int.le_of_lt (pw_pos i))
 omega
theorem NbI.in {L:Nat} {V:Int} {i:Nat} {d:List Int} (h:NbI L V i d) (hV:0<=V) (hi:i<L) (hn:d.getD i 0<0):i+1<L:=by
 rcases Nat.lt_or_ge (i+1) L with h1|h1
 .exact h1
 .have:=Ph (i:=i) (by rw [h.l]; omega) h.lo hn
  rw [h.v] at this
  omega
theorem NbI.skip {L:Nat} {V:Int} {i:Nat} {d:List Int} (h:NbI L V i d) (hi:i<L) (hn:¬ d.getD i 0<0):NbI L V (i+1) d:=by
 obtain ⟨l,i1,lo,me,hi',v⟩:=h
 refine ⟨l,hi,fun j hj=>?_,?_,fun j hj=>hi' j (by omega),v⟩
 .rcases Nat.lt_or_ge j i with h1|h1
  .exact lo j h1
  .have:j=i:=by omega
   subst this; omega
 .have:=hi' (i+1) (by omega); omega
theorem NbI.step {L:Nat} {V:Int} {i:Nat} {d:List Int} (h:NbI L V i d) (hV:0<=V) (hi:i<L) (hn:d.getD i 0<0):
  NbI L V (i+1) ((d.set i (d.getD i 0+1000000000)).set (i+1) ((d.set i (d.getD i 0+1000000000)).getD (i+1) 0 - 1)):=by
 have h1:=h.in hV hi hn
 obtain ⟨l,i1,lo,me,hi',v⟩:=h
 have e1:(d.set i (d.getD i 0+1000000000)).getD (i+1) 0=d.getD (i+1) 0:=getD_set (by omega)
 rw [e1]
 have hn1:=hi' (i+1) (by omega)
 refine ⟨by simp [l],hi,fun j hj=>?_,?_,fun j hj=>?_,?_⟩
 .rw [getD_set (by omega)]
  rcases Nat.lt_or_ge j i with h2|h2
  .rw [getD_set (by omega)]; exact lo j h2
  .have:j=i:=by omega
   subst this
   rw [fa (by omega)]; omega
 .rw [fa (by rw [List.length_set]; omega)]; omega
 .rw [getD_set (by omega),getD_set (by omega)]
  exact hi' j (by omega)
 .rw [fQ _ _ _ (by rw [List.length_set]; omega),fQ _ _ _ (by omega),e1,fR]
  grind
theorem NbI.fin {L:Nat} {V:Int} {d:List Int} (h:NbI L V L d):d=aC L V:=by
 exact gS (CQ fun j hj=>h.lo j (by rw [<- h.l]; exact hj)) h.l h.v
structure NcI (L:Nat) (V:Int) (i:Nat) (d:List Int):Prop where
 l:d.length=L+1
 i1:i<=L
 lo:∀ j,j<i->0<=d.getD j 0/\d.getD j 0<1000000000
 me:0<=d.getD i 0/\d.getD i 0<2000000000
 hi:∀ j,i<j->0<=d.getD j 0/\d.getD j 0<1999999999
 t0:i<L->d.getD L 0=0
 t1:d.getD L 0<=1
 v:val d=V
theorem NcI.start {a b:List Int} (ha:Dig a) (hb:Dig b) (hl:b.length<=a.length):NcI a.length (val a+val b) 0 (ji (a++[0]) b):=by
 have da:Dig (a++[0]):=o9.2 ⟨ha,bz.2 ⟨by omega,b8⟩⟩
 have ll:(a++[(0:Int)]).length=a.length+1:=by simp
 have g:∀ j,0<=(ji (a++[0]) b).getD j 0/\(ji (a++[0]) b).getD j 0<1999999999:=by
  intro j
  rcases Nat.lt_or_ge j (a++[(0:Int)]).length with h|h
  .rw [pj _ b j h]
   have:=da.get j
   have:=hb.get j
   omega
  .rw [List.getD_eq_getElem?_getD,List.getElem?_eq_none (by rw [pi]; exact h)]
   simp
 have top:(ji (a++[0]) b).getD a.length 0=0:=by
  rw [pj _ b _ (by omega)]
  have e1:(a++[(0:Int)]).getD a.length 0=0:=by simp [List.getD_eq_getElem?_getD]
  have e2:b.getD a.length 0=0:=by rw [List.getD_eq_getElem?_getD,List.getElem?_eq_none hl]; rfl
  omega
 refine ⟨by rw [pi,ll],Nat.zero_le _,fun j hj=>by omega,⟨(g 0).1,by have:=(g 0).2; omega⟩,fun j _=>g j,fun _=>top,by omega,?_⟩
 rw [A0 _ b (by rw [ll]; omega),iY]
 simp [val]
theorem NcI.skip {L:Nat} {V:Int} {i:Nat} {d:List Int} (h:NcI L V i d) (hi:i<L) (hn:¬ 1000000000<=d.getD i 0):NcI L V (i+1) d:=by
 obtain ⟨l,i1,lo,me,hi',t0,t1,v⟩:=h
 refine ⟨l,hi,fun j hj=>?_,?_,fun j hj=>hi' j (by omega),fun _=>t0 hi,t1,v⟩
 .rcases Nat.lt_or_ge j i with h1|h1
  .exact lo j h1
  .have:j=i:=by omega
   subst this; omega
 .have:=hi' (i+1) (by omega); omega
theorem NcI.step {L:Nat} {V:Int} {i:Nat} {d:List Int} (h:NcI L V i d) (hi:i<L) (hn:1000000000<=d.getD i 0):
  NcI L V (i+1) ((d.set i (d.getD i 0 - 1000000000)).set (i+1) ((d.set i (d.getD i 0 - 1000000000)).getD (i+1) 0+1)):=by
 obtain ⟨l,i1,lo,me,hi',t0,t1,v⟩:=h
 have e1:(d.set i (d.getD i 0 - 1000000000)).getD (i+1) 0=d.getD (i+1) 0:=getD_set (by omega)
 rw [e1]
 have hn1:=hi' (i+1) (by omega)
 refine ⟨by simp [l],hi,fun j hj=>?_,?_,fun j hj=>?_,fun h2=>?_,?_,?_⟩
 .rw [getD_set (by omega)]
  rcases Nat.lt_or_ge j i with h2|h2
  .rw [getD_set (by omega)]; exact lo j h2
  .have:j=i:=by omega
   subst this
   rw [fa (by omega)]; omega
 .rw [fa (by rw [List.length_set]; omega)]; omega
 .rw [getD_set (by omega),getD_set (by omega)]
  exact hi' j (by omega)
 .rw [getD_set (by omega),getD_set (by omega)]
  exact t0 hi
 .rcases Nat.lt_or_ge (i+1) L with h2|h2
  .rw [getD_set (by omega),getD_set (by omega),t0 hi]; decide
  .have e2:i+1=L:=by omega
   have z:=t0 hi
   rw [<- e2] at z ⊢
   rw [fa (by rw [List.length_set]; omega),z]; decide
 .rw [fQ _ _ _ (by rw [List.length_set]; omega),fQ _ _ _ (by omega),e1,fR]
  grind
theorem NcI.fin {L:Nat} {V:Int} {d:List Int} (h:NcI L V L d):d=aC (L+1) V:=by
 refine gS (CQ fun j hj=>?_) h.l h.v
 rw [h.l] at hj
 rcases Nat.lt_or_ge j L with h1|h1
 .exact h.lo j h1
 .have e:j=L:=by omega
  have h2:=h.t1
  have h3:=h.me
  subst e
  omega
end Go.Dg
namespace Go.Proofs.YtmnhhlnbfkfkaaaGreat.K
open Go Go.Eng Go.Dg
noncomputable section
def qv:AFr:=⟨104,none⟩
def GD:Code:=bG Tryz.prog 104 0
def CS:Code:=bG Tryz.prog 104 1
noncomputable def m1S (a b:List Int):St:=g6 cL 300 104 (zB a b) (zG a b)
def m1P (i:Int) (d:List Int):Patch:=⟨az 6 2++(13,.int true .i64 i) :: az 14 12,[(2,.ints .i64 d)],[]⟩
def m1X (a b:List Int):Patch:=m1P b.length (dX a (b.take ((b.length:Int)).toNat))
def m1U (a b:List Int):SumL Int:=
 {
  S:=fun i=>m1P i (dX a (b.take i.toNat))
  I:=fun i=>0<=i/\i<=b.length
  μ:=fun i=>(b.length - i).toNat
  F:=fun _=>(.exit 0,m1X a b)
  next:=fun i=>i+1
  ids:=fun _=>[]
  X:=fun i _=>some (m1P i (dX a (b.take i.toNat)),[]) }
noncomputable def cM1 (a b:List Int):Ctx:=aw cL [aR 104 (m1S a b).hp.clock qv GD (m1S a b) (.exit 0) (m1X a b)]
noncomputable def m2S (a b:List Int):St:=g6 (cM1 a b) 300 104 (zB a b) (zG a b)
def m2P (i:Int) (d:List Int):Patch:=⟨(8,.any false) :: (28,.int true .i64 i) :: az 29 21,[(2,.ints .i64 d)],[]⟩
def uH (a b:List Int):Int:=val a - val b
def m2U (a b:List Int):SumL (Int×List Int):=
 {
  S:=fun (i,d)=>m2P i d
  I:=fun (i,d)=>0<=i/\NbI a.length (uH a b) i.toNat d
  μ:=fun (i,_)=>(a.length - i).toNat
  F:=fun _=>(.exit 2,m2P a.length (aC a.length (uH a b)))
  next:=fun (i,d)=>(i+1,bif decide (d.getD i.toNat 0<0) then (d.set i.toNat (d.getD i.toNat 0+1000000000)).set (i.toNat+1) ((d.set i.toNat (d.getD i.toNat 0+1000000000)).getD (i.toNat+1) 0 - 1) else d)
  ids:=fun _=>[]
  X:=fun (i,d) _=>some (m2P i d,[]) }
def cHb (l:List (Nat×Bool)):Ctx:=aO cL (hZ (l.map fun x=>(x.1,match x.2 with|true=>.bool false true|false=>.bool false false)))
theorem lK (l:List (Nat×Bool)):CtxOk (cHb l):=aj c7 _
def A3 (a b:List Int):Prop:=(0:Int)=(0:Int)/\a=dX a (List.take (Int.toNat (0:Int)) b)
theorem Kp (a b:List Int):fit (m1S a b) (m1S a b) (ac (m1S a b) ((m1U a b).S 0)) ([])=some (.p (A3 a b)):=by kernel_rfl
def CT (a b:List Int) (i:Int):Prop:=(decide (i<(↑b.length:Int))=true->(((0:Int)<=i/\i<(↑b.length:Int))/\i.toNat<b.length)/\((0:Int)<=i/\i<(↑a.length:Int))/\((0:Int)+i).toNat<(dX a (List.take i.toNat b)).length/\((0:Int)<=i/\i<(↑a.length:Int))/\((0:Int)+i).toNat<(dX a (List.take i.toNat b)).length)/\((!decide (i<(↑b.length:Int)))=true->(i=i/\dX a (List.take i.toNat b)=dX a (List.take i.toNat b))/\(m1U a b).F i=(Ex.exit (0:Nat),m1P i (dX a (List.take i.toNat b))))/\(decide (i<(↑b.length:Int))=true->(IntKind.i64.wrap (i+(1:Int))=(m1U a b).next i/\(dX a (List.take i.toNat b)).set ((0:Int)+i).toNat (IntKind.i64.wrap ((dX a (List.take i.toNat b)).getD ((0:Int)+i).toNat (0:Int) - b.getD i.toNat (0:Int)))=dX a (List.take ((m1U a b).next i).toNat b))/\(m1U a b).I ((m1U a b).next i)/\(m1U a b).μ ((m1U a b).next i)<(m1U a b).μ i/\(m1U a b).F ((m1U a b).next i)=(m1U a b).F i)
theorem Pi (a b:List Int) (i:Int):aW (m1S a b) ((m1U a b).way (i)) ((run cL 300).code qv GD (ac (m1S a b) ((m1U a b).S i)))=some (.p (CT a b i)):=by kernel_rfl
def A4 (a b:List Int):Prop:=(0:Int)=(0:Int)/\dX a (List.take (↑b.length:Int).toNat b)=dX a (List.take (↑b.length:Int).toNat b)
theorem Kq (a b:List Int):fit (m2S a b) (m2S a b) (ac (m2S a b) ((m2U a b).S (0,dX a (b.take ((b.length:Int)).toNat)))) ([])=some (.p (A4 a b)):=by kernel_rfl
def GE (a b:List Int) (i:Int) (d:List Int):Prop:=decide (i<(↑a.length:Int))=false/\(true=true->(i=i/\d=d)/\(m2U a b).F (i,d)=(Ex.exit (2:Nat),m2P i d))
theorem Uh (a b:List Int) (i:Int) (d:List Int):aW (m2S a b) ((m2U a b).way ((i,d))) ((run (cHb [(29,false)]) 300).code qv CS (ac (m2S a b) ((m2U a b).S (i,d))))=some (.p (GE a b i d)):=by kernel_rfl
def CU (a b:List Int) (i:Int) (d:List Int):Prop:=(decide (i<(↑a.length:Int))=true/\((0:Int)<=i/\i<(↑a.length:Int))/\((0:Int)+i).toNat<d.length/\decide (d.getD ((0:Int)+i).toNat (0:Int)<(0:Int))=false)/\(true=true->(IntKind.i64.wrap (i+(1:Int))=i+(1:Int)/\d=bif decide (d.getD i.toNat (0:Int)<(0:Int)) then (d.set i.toNat (d.getD i.toNat (0:Int)+(1000000000:Int))).set (i.toNat+(1:Nat)) ((d.set i.toNat (d.getD i.toNat (0:Int)+(1000000000:Int))).getD (i.toNat+(1:Nat)) (0:Int) - (1:Int)) else d)/\(m2U a b).I ((m2U a b).next (i,d))/\(m2U a b).μ ((m2U a b).next (i,d))<(m2U a b).μ (i,d)/\(m2U a b).F ((m2U a b).next (i,d))=(m2U a b).F (i,d))
theorem Pj (a b:List Int) (i:Int) (d:List Int):aW (m2S a b) ((m2U a b).way ((i,d))) ((run (cHb [(29,true),(35,false)]) 300).code qv CS (ac (m2S a b) ((m2U a b).S (i,d))))=some (.p (CU a b i d)):=by kernel_rfl
def CW (a b:List Int) (i:Int) (d:List Int):Prop:=(decide (i<(↑a.length:Int))=true/\(((0:Int)<=i/\i<(↑a.length:Int))/\((0:Int)+i).toNat<d.length/\decide (d.getD ((0:Int)+i).toNat (0:Int)<(0:Int))=true)/\(((0:Int)<=i/\i<(↑a.length:Int))/\((0:Int)+i).toNat<d.length/\((0:Int)<=i/\i<(↑a.length:Int))/\((0:Int)+i).toNat<d.length)/\((0:Int)<=IntKind.i64.wrap (i+(1:Int))/\IntKind.i64.wrap (i+(1:Int))<(↑a.length:Int))/\((0:Int)+IntKind.i64.wrap (i+(1:Int))).toNat<(d.set ((0:Int)+i).toNat (IntKind.i64.wrap (d.getD ((0:Int)+i).toNat (0:Int)+(1000000000:Int)))).length/\((0:Int)<=IntKind.i64.wrap (i+(1:Int))/\IntKind.i64.wrap (i+(1:Int))<(↑a.length:Int))/\((0:Int)+IntKind.i64.wrap (i+(1:Int))).toNat<(d.set ((0:Int)+i).toNat (IntKind.i64.wrap (d.getD ((0:Int)+i).toNat (0:Int)+(1000000000:Int)))).length)/\(true=true->(IntKind.i64.wrap (i+(1:Int))=i+(1:Int)/\(d.set ((0:Int)+i).toNat (IntKind.i64.wrap (d.getD ((0:Int)+i).toNat (0:Int)+(1000000000:Int)))).set ((0:Int)+IntKind.i64.wrap (i+(1:Int))).toNat (IntKind.i64.wrap ((d.set ((0:Int)+i).toNat (IntKind.i64.wrap (d.getD ((0:Int)+i).toNat (0:Int)+(1000000000:Int)))).getD ((0:Int)+IntKind.i64.wrap (i+(1:Int))).toNat (0:Int) - (1:Int)))=bif decide (d.getD i.toNat (0:Int)<(0:Int)) then (d.set i.toNat (d.getD i.toNat (0:Int)+(1000000000:Int))).set (i.toNat+(1:Nat)) ((d.set i.toNat (d.getD i.toNat (0:Int)+(1000000000:Int))).getD (i.toNat+(1:Nat)) (0:Int) - (1:Int)) else d)/\(m2U a b).I ((m2U a b).next (i,d))/\(m2U a b).μ ((m2U a b).next (i,d))<(m2U a b).μ (i,d)/\(m2U a b).F ((m2U a b).next (i,d))=(m2U a b).F (i,d))
theorem Pk (a b:List Int) (i:Int) (d:List Int):aW (m2S a b) ((m2U a b).way ((i,d))) ((run (cHb [(29,true),(35,true)]) 300).code qv CS (ac (m2S a b) ((m2U a b).S (i,d))))=some (.p (CW a b i d)):=by kernel_rfl
theorem zt (i:Int):(0+i).toNat=i.toNat:=by rw [Int.zero_add]
theorem Pl {a b:List Int} (ha:Dig a) (hb:Dig b) (la:Sm a) (hl:b.length<=a.length):CodeOk cL qv (.loop GD) (m1S a b) ⟨.tt,[⟨.tt,.exit 0,ac (m1S a b) (m1X a b)⟩]⟩:=by
 have la:=la.le
 refine cW (aQ c7 300) (m1U a b) (y0:=0) ⟨by omega,by omega⟩ ⟨_,Kp a b,rfl,(uE a).symm⟩ (by kernel_rfl) (fun i hi=>⟨_,Pi a b i,?_⟩) rfl
 obtain ⟨i0,i1⟩:=(show 0<=i/\i<=b.length from hi)
 have ll:=ph a (b.take i.toNat)
 refine ⟨fun h=>?_,fun h=>⟨⟨rfl,rfl⟩,?_⟩,fun h=>?_⟩
 .have h:i<b.length:=dt.1 h
  rw [zt,ll]
  exact ⟨⟨⟨i0,h⟩,by omega⟩,⟨i0,by omega⟩,by omega,⟨i0,by omega⟩,by omega⟩
 .have h:=ndt.1 h
  obtain rfl:i=b.length:=by omega
  rfl
 .have h:i<b.length:=dt.1 h
  have g1:=ha.get i.toNat
  have g2:=hb.get i.toNat
  have e0:(b.take i.toNat).getD i.toNat 0=0:=by rw [List.getD_eq_getElem?_getD,List.getElem?_eq_none (by rw [List.length_take]; omega)]; rfl
  have e1:=uG a (b.take i.toNat) i.toNat (by omega)
  rw [e0] at e1
  refine ⟨⟨iw (by omega) (by omega),?_⟩,?_,?_,rfl⟩
  .rw [zt,iw (by omega) (by omega),wh a b i.toNat (by omega) hl]
   show _=dX a (b.take (i+1).toNat)
   rw [show (i+1).toNat=i.toNat+1 by omega]
  .show 0<=i+1/\i+1<=b.length
   omega
  .show (b.length - (i+1)).toNat<(b.length - i).toNat
   omega
theorem Pm {a b:List Int} (ha:Dig a) (hb:Dig b) (la:Sm a) (hl:b.length<=a.length) (hV:0<=uH a b):CodeOk cL qv (.loop CS) (m2S a b) ⟨.tt,[⟨.tt,.exit 2,ac (m2S a b) (m2P a.length (aC a.length (uH a b)))⟩]⟩:=by
 have la:=la.le
 refine cB (m2U a b) (y0:=(0,dX a (b.take ((b.length:Int)).toNat))) ?_ ⟨_,Kq a b,rfl,rfl⟩ (by kernel_rfl) (fun y hy=>?_) rfl
 .show 0<=(0:Int)/\NbI _ _ _ _
  rw [show ((b.length:Int)).toNat=b.length by omega,List.take_length]
  exact ⟨by decide,NbI.start ha hb hl⟩
 obtain ⟨i,d⟩:=y
 obtain ⟨i0,hI⟩:=(show 0<=i/\NbI a.length (uH a b) i.toNat d from hy)
 obtain ⟨l,i1,lo,me,hi',v⟩:=id hI
 have e2:(i+1).toNat=i.toNat+1:=by omega
 by_cases hlt:i<a.length
 .have iw1:IntKind.i64.wrap (i+1)=i+1:=iw (by omega) (by omega)
  have mu:(a.length - (i+1)).toNat<(a.length - i).toNat:=by omega
  by_cases hn:d.getD i.toNat 0<0
  .have h1:=hI.in hV (by omega) hn
   have h2:=hi' (i.toNat+1) (by omega)
   have e3:(d.set i.toNat (d.getD i.toNat 0+1000000000)).getD (i.toNat+1) 0=d.getD (i.toNat+1) 0:=getD_set (by omega)
   have e4:IntKind.i64.wrap (d.getD i.toNat 0+1000000000)=d.getD i.toNat 0+1000000000:=iw (by omega) (by omega)
   have e5:IntKind.i64.wrap (d.getD (i.toNat+1) 0 - 1)=d.getD (i.toNat+1) 0 - 1:=iw (by omega) (by omega)
   have hb':(bif decide (d.getD i.toNat 0<0) then (d.set i.toNat (d.getD i.toNat 0+1000000000)).set (i.toNat+1) ((d.set i.toNat (d.getD i.toNat 0+1000000000)).getD (i.toNat+1) 0 - 1) else d)=(d.set i.toNat (d.getD i.toNat 0+1000000000)).set (i.toNat+1) ((d.set i.toNat (d.getD i.toNat 0+1000000000)).getD (i.toNat+1) 0 - 1):=by rw [decide_eq_true hn]; rfl
   refine ⟨cHb [(29,true),(35,true)],300,lK _,rfl,rfl,_,Pk a b i d,?_,fun _=>?_⟩
   .rw [zt,iw1,zt,e2,e4,List.length_set]
    exact ⟨decide_eq_true hlt,⟨⟨i0,hlt⟩,by omega,decide_eq_true hn⟩,⟨⟨i0,hlt⟩,by omega,⟨i0,hlt⟩,by omega⟩,⟨by omega,by omega⟩,by omega,⟨by omega,by omega⟩,by omega⟩
   .refine ⟨⟨iw1,?_⟩,?_,mu,rfl⟩
    .rw [zt,iw1,zt,e2,e4,hb',e3,e5]
    .show 0<=i+1/\NbI _ _ (i+1).toNat _
     rw [e2,hb']
     exact ⟨by omega,hI.step hV (by omega) hn⟩
  .have hb':(bif decide (d.getD i.toNat 0<0) then (d.set i.toNat (d.getD i.toNat 0+1000000000)).set (i.toNat+1) ((d.set i.toNat (d.getD i.toNat 0+1000000000)).getD (i.toNat+1) 0 - 1) else d)=d:=by rw [decide_eq_false hn]; rfl
   refine ⟨cHb [(29,true),(35,false)],300,lK _,rfl,rfl,_,Pj a b i d,?_,fun _=>⟨⟨iw1,hb'.symm⟩,?_,mu,rfl⟩⟩
   .rw [zt]
    exact ⟨decide_eq_true hlt,⟨i0,hlt⟩,by omega,decide_eq_false hn⟩
   .show 0<=i+1/\NbI _ _ (i+1).toNat _
    rw [e2,hb']
    exact ⟨by omega,hI.skip (by omega) hn⟩
 .refine ⟨cHb [(29,false)],300,lK _,rfl,rfl,_,Uh a b i d,decide_eq_false hlt,fun _=>⟨⟨rfl,rfl⟩,?_⟩⟩
  have e:i.toNat=a.length:=by omega
  rw [e] at hI
  show (Ex.exit 2,m2P a.length (aC a.length (uH a b)))=(Ex.exit 2,m2P i d)
  rw [<- hI.fin,show i=a.length by omega]
noncomputable def mtS (a b d:List Int) (N:Int):St:=g6 cL 300 117 [.islice true 2 0 N] ⟨[⟨23,.ints .i64 d⟩,⟨0,.rows .i64 b⟩,⟨0,.rows .i64 a⟩],3,26⟩
theorem Kr (a b d:List Int) (N:Int):fit (mtS a b d N) (mtS a b d N) (ac (mtS a b d N) ((trU 2 d N).S N)) []=some (.p ((0:Int)=0/\N=N)):=by kernel_rfl
theorem Po (a b d:List Int) (N y:Int):aW (mtS a b d N) ((trU 2 d N).way y) ((run cL 300).code io trA (ac (mtS a b d N) ((trU 2 d N).S y)))=some (.p (trN 2 d N y)):=by kernel_rfl
theorem Pp (a b:List Int) {d:List Int} {N:Int} (hN:N=d.length) (ld:Sm d):CodeOk cL io (.loop trA) (mtS a b d N) ⟨.tt,[⟨.tt,.exit 0,ac (mtS a b d N) (trP 2 (tlI d N))⟩]⟩:=sw hN ld (Kr a b d N) (by kernel_rfl) (fun y=>Po a b d N y)
def miD (a b:List Int):List Int:=aC a.length (uH a b)
noncomputable def cMt (a b:List Int):Ctx:=aw cL [aR 104 (m1S a b).hp.clock qv GD (m1S a b) (.exit 0) (m1X a b),aR 104 (m2S a b).hp.clock qv CS (m2S a b) (.exit 2) (m2P a.length (miD a b)),
 aR 117 29 io trA (mtS a b (miD a b) a.length) (.exit 0) (trP 2 (tlI (miD a b) a.length))]
theorem xT (a b:List Int):(miD a b).length=a.length:=a6 _ _
theorem Ui {a b:List Int} (ha:Dig a) (hb:Dig b) (la:Sm a) (hl:b.length<=a.length) (hV:0<=uH a b):CtxOk (cMt a b):=
 ak c7 (Pl ha hb la hl) (ak c7 (Pm ha hb la hl hV) (ak c7 (Pp a b (by rw [xT]) (by show (miD a b).length<=500000; rw [xT]; exact la)) (aq c7)))
def Ks (a b:List Int):Prop:=(((0:Int)<(↑a.length:Int)/\(↑a.length:Int)=(↑a.length:Int)/\(0:Int)<(↑a.length:Int)/\(↑a.length:Int)<=(1048576:Int))/\At (qv) (qv) (GD) (GD) (m1S a b) (m1S a b)/\At (qv) (qv) (CS) (CS) (m2S a b) (m2S a b)/\At (io) (io) (trA) (trA) (mtS a b (miD a b) a.length) (mtS a b (miD a b) a.length))
def Pq (a b:List Int):AV:=(AV.islice true 2 (0:Int) (tlI (miD a b) (↑a.length:Int)))
def Pr (a b:List Int):Hp:=⟨[{ wr:=23,body:=ABody.ints IntKind.i64 (miD a b) },{ wr:=(0:Nat),body:=ABody.rows IntKind.i64 b },{ wr:=(0:Nat),body:=ABody.rows IntKind.i64 a }],3,33⟩
theorem X7 (a b:List Int):(run (cMt a b) 300).call 104 (zB a b) (zG a b)=some ⟨.p (Ks a b),[⟨.tt,Pq a b,Pr a b⟩]⟩:=by kernel_rfl
def Uj:List Nu->List (List Int)->Option (Prop×To)
 | [],[a,b]=>some (Dig a/\Dig b/\0<a.length/\a.length<=500000/\b.length<=a.length/\val b<=val a,.li false (aa (val a - val b).toNat))
 | _,_=>none
theorem Pt:NOk Tryz.prog (fun _=>none) hG0 104 (au hG0 .i64 [.li,.li] Uj):=by
 refine bb (fun xs ys p t e h=>?_) ⟨_,Tryz.func104,rfl⟩
 unfold Uj at e
 split at e
 .rename_i a b
  cases e
  obtain ⟨ha,hb,l0,l1,hl,hv⟩:=h
  have hV:0<=uH a b:=by unfold uH; omega
  have b0:=af hb
  have a1:=ba ha
  have ev:val (miD a b)=val a - val b:=du hV (by unfold uH; omega)
  exact ⟨cMt a b,300,zB a b,_,_,_,_,_,Ui ha hb l1 hl hV,rfl,rfl,⟨rfl,rfl,trivial⟩,X7 a b,rfl,⟨⟨by omega,rfl,by omega,by omega⟩,⟨rfl,rfl,rfl⟩,⟨rfl,rfl,rfl⟩,⟨rfl,rfl,rfl⟩⟩,rfl,rfl,xS (cX _ _) (by rw [xT]) ev⟩
 .cases e
def lL:AFr:=⟨105,none⟩
def A5:Code:=bG Tryz.prog 105 0
def xU:Code:=bG Tryz.prog 105 1
def cPl (s:Bool):Ctx:=cHb [(13,s)]
theorem xW (s:Bool):CtxOk (cPl s):=lK _
def bA (s:Bool) (a b:List Int):List Int:=match s with|true=>b|false=>a
def shA (s:Bool) (a b:List Int):List Int:=match s with|true=>a|false=>b
noncomputable def q1S (s:Bool) (a b:List Int):St:=g6 (cPl s) 300 105 (zB a b) (zG a b)
def q1P (i:Int) (d:List Int):Patch:=⟨az 6 2++(25,.int true .i64 i) :: az 26 12,[(2,.ints .i64 d)],[]⟩
def q1D (s:Bool) (a b:List Int) (i:Int):List Int:=ji (bA s a b++[0]) ((shA s a b).take i.toNat)
def q1X (s:Bool) (a b:List Int):Patch:=q1P (shA s a b).length (q1D s a b (shA s a b).length)
def q1U (s:Bool) (a b:List Int):SumL Int:=
 {
  S:=fun i=>q1P i (q1D s a b i)
  I:=fun i=>0<=i/\i<=(shA s a b).length
  μ:=fun i=>((shA s a b).length - i).toNat
  F:=fun _=>(.exit 0,q1X s a b)
  next:=fun i=>i+1
  ids:=fun _=>[]
  X:=fun i _=>some (q1P i (q1D s a b i),[]) }
noncomputable def cQ1 (s:Bool) (a b:List Int):Ctx:=aw (cPl s) [aR 105 (q1S s a b).hp.clock lL A5 (q1S s a b) (.exit 0) (q1X s a b)]
noncomputable def q2S (s:Bool) (a b:List Int):St:=g6 (cQ1 s a b) 300 105 (zB a b) (zG a b)
def q2P (i:Int) (d:List Int):Patch:=⟨(8,.any false) :: (40,.int true .i64 i) :: az 41 21,[(2,.ints .i64 d)],[]⟩
def plV (a b:List Int):Int:=val a+val b
def q2F (s:Bool) (a b:List Int):List Int:=aC ((bA s a b).length+1) (plV a b)
def q2U (s:Bool) (a b:List Int):SumL (Int×List Int):=
 {
  S:=fun (i,d)=>q2P i d
  I:=fun (i,d)=>0<=i/\NcI (bA s a b).length (plV a b) i.toNat d
  μ:=fun (i,_)=>((bA s a b).length - i).toNat
  F:=fun _=>(.exit 2,q2P (bA s a b).length (q2F s a b))
  next:=fun (i,d)=>(i+1,bif decide (d.getD i.toNat 0>=1000000000) then (d.set i.toNat (d.getD i.toNat 0 - 1000000000)).set (i.toNat+1) ((d.set i.toNat (d.getD i.toNat 0 - 1000000000)).getD (i.toNat+1) 0+1) else d)
  ids:=fun _=>[]
  X:=fun (i,d) _=>some (q2P i d,[]) }
end
end Go.Proofs.YtmnhhlnbfkfkaaaGreat.K
