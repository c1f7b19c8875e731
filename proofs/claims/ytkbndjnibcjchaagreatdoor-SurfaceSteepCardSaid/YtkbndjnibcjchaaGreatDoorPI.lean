/- What is proved: a law of conics returns true, whatever the input (part 9). No conditions beyond those of the row. -/
import Derived.Test.YtkbndjnibcjchaaGreatDoorPG
import Derived.Test.YtkbndjnibcjchaaGreatDoorPH
import Derived.KernelRfl
set_option linter.unusedVariables false
set_option linter.unusedSimpArgs false
set_option linter.unusedSectionVars false
namespace Go.Dg
def lessB (a b:List Int):Nat->Bool
 | 0=>false
 | n+1=>if a.getD n 0=b.getD n 0 then lessB a b n else decide (a.getD n 0<b.getD n 0)
theorem lessB_iff {a b:List Int} (ha:Dig a) (hb:Dig b):∀ {n:Nat},n<=a.length->n<=b.length->(lessB a b n=true ↔ val (a.take n)<val (b.take n))
 | 0,_,_=>by simp [lessB,val]
 | n+1,h1,h2=>by
  have ih:=lessB_iff ha hb (n:=n) (by omega) (by omega)
  simp only [lessB]
  rw [val_take_succ (by omega),val_take_succ (by omega)]
  split
  .rename_i he
   rw [ih,he]
   omega
  .rename_i he
   have x1:=val_lt (ha.take n)
   have x2:=val_lt (hb.take n)
   have y1:=val_nonneg (ha.take n)
   have y2:=val_nonneg (hb.take n)
   rw [List.length_take,Nat.min_eq_left (by omega)] at x1 x2
   have hp:=pw_pos n
   simp only [decide_eq_true_eq]
   constructor
   .intro hlt
    have:pw n*(a.getD n 0+1)<=pw n*b.getD n 0:=Int.mul_le_mul_of_nonneg_left (by omega) (by omega)
    rw [Int.mul_add] at this
    omega
   .intro hlt
    rcases (show a.getD n 0<b.getD n 0\/b.getD n 0<=a.getD n 0 by omega) with h|h
    .exact h
    .have:pw n*(b.getD n 0+1)<=pw n*a.getD n 0:=Int.mul_le_mul_of_nonneg_left (by omega) (by omega)
     rw [Int.mul_add] at this
     omega
theorem pw_mono {m n:Nat} (h:m<=n):pw m<=pw n:=by
 obtain ⟨k,rfl⟩:=Nat.le.dest h
 rw [pw_add]
 have h1:=pw_pos m
 have h2:=pw_pos k
 calc pw m=pw m*1:=(Int.mul_one _).symm
  _<=pw m*pw k:=Int.mul_le_mul_of_nonneg_left h2 (Int.le_of_lt h1)
theorem val_ge {l:List Int} (h:Dig l) (ht:Top l) (hne:l≠[]):pw (l.length - 1)<=val l:=by
 have hpos:0<l.length:=List.length_pos_iff.2 hne
 have h1:val l=val (l.take (l.length - 1))+pw (l.length - 1)*l.getD (l.length - 1) 0:=by
  have:=val_take_succ (l:=l) (n:=l.length - 1) (by omega)
  rw [show l.length - 1+1=l.length by omega,List.take_length] at this
  exact this
 have h2:=val_nonneg (h.take (l.length - 1))
 have h3:1<=l.getD (l.length - 1) 0:=by
  rcases ht with ht|ht
  .exact absurd ht hne
  .have:=h.get (l.length - 1); omega
 have h4:pw (l.length - 1)*1<=pw (l.length - 1)*l.getD (l.length - 1) 0:=Int.mul_le_mul_of_nonneg_left h3 (Int.le_of_lt (pw_pos _))
 omega
theorem val_len_lt {a b:List Int} (ha:Dig a) (hb:Dig b) (tb:Top b) (h:a.length<b.length):val a<val b:=by
 have h1:=val_lt ha
 have h2:=val_ge hb tb (by rintro rfl; simp at h)
 have h3:=pw_mono (show a.length<=b.length - 1 by omega)
 omega
def lessL (a b:List Int):Bool:=if a.length=b.length then lessB a b a.length else decide (a.length<b.length)
theorem lessL_iff {a b:List Int} (ha:Dig a) (hb:Dig b) (ta:Top a) (tb:Top b):lessL a b=true ↔ val a<val b:=by
 unfold lessL
 split
 .rename_i h
  rw [lessB_iff ha hb (Nat.le_refl _) (by omega),List.take_length,h,List.take_length]
 .rename_i h
  simp only [decide_eq_true_eq]
  constructor
  .exact fun hl=>val_len_lt ha hb tb hl
  .intro hv
   rcases Nat.lt_or_ge a.length b.length with h1|h1
   .exact h1
   .have:=val_len_lt hb ha ta (by omega)
    omega
def addL (a b:List Int):Nat->Nat->Int->List Int->List Int
 | 0,_,_,d=>d
 | n+1,i,c,d=>if i<a.length\/i<b.length\/0<c then addL a b n (i+1) ((a.getD i 0+b.getD i 0+c).tdiv (1000000000:Int)) (d++[(a.getD i 0+b.getD i 0+c).tmod (1000000000:Int)]) else d
theorem getD_ge {l:List Int} {i:Nat} (h:l.length<=i):l.getD i 0=0:=by
 rw [List.getD_eq_getElem?_getD,List.getElem?_eq_none h]; rfl
theorem val_take_succ' (l:List Int) (n:Nat):val (l.take (n+1))=val (l.take n)+pw n*l.getD n 0:=by
 rcases Nat.lt_or_ge n l.length with h|h
 .exact val_take_succ h
 .rw [List.take_of_length_le (by omega),List.take_of_length_le (by omega),getD_ge h]; simp
theorem add_step {a b:List Int} (ha:Dig a) (hb:Dig b) {c:Int} (hc:0<=c/\c<=1) (i:Nat):
  0<=(a.getD i 0+b.getD i 0+c).tmod (1000000000:Int)/\(a.getD i 0+b.getD i 0+c).tmod (1000000000:Int)<(1000000000:Int)/\0<=(a.getD i 0+b.getD i 0+c).tdiv (1000000000:Int)/\(a.getD i 0+b.getD i 0+c).tdiv (1000000000:Int)<=1 /\
  (a.getD i 0+b.getD i 0+c).tmod (1000000000:Int)+(1000000000:Int)*(a.getD i 0+b.getD i 0+c).tdiv (1000000000:Int)=a.getD i 0+b.getD i 0+c:=by
 have h1:=ha.get i
 have h2:=hb.get i
 generalize a.getD i 0=x at *
 generalize b.getD i 0=y at *
 have hs:0<=x+y+c:=by omega
 rw [Int.tmod_eq_emod_of_nonneg hs,Int.tdiv_eq_ediv_of_nonneg hs]
 omega
theorem addL_val {a b:List Int} (ha:Dig a) (hb:Dig b):∀ (n i:Nat) (c:Int) (d:List Int),Dig d->d.length=i->0<=c/\c<=1->val d+pw i*c=val (a.take i)+val (b.take i)->a.length+1<=i+n->b.length+1<=i+n ->
  Dig (addL a b n i c d)/\val (addL a b n i c d)=val a+val b
 | 0,i,c,d,hd,hl,hc,hv,h1,h2=>by
  simp only [addL]
  rw [List.take_of_length_le (by omega),List.take_of_length_le (by omega)] at hv
  have q1:=val_lt ha
  have q2:=val_lt hb
  have q3:=pw_mono (show a.length+1<=i by omega)
  have q4:=pw_mono (show b.length+1<=i by omega)
  simp only [pw] at q3 q4
  have q5:=pw_pos i
  have q6:=val_nonneg hd
  have q7:=val_nonneg ha
  have q8:=val_nonneg hb
  have hc0:c=0:=by
   rcases (show c=0\/c=1 by omega) with h|h
   .exact h
   .subst h
    have r1:=pw_pos a.length
    have r2:=pw_pos b.length
    omega
  subst hc0
  exact ⟨hd,by simpa using hv⟩
 | n+1,i,c,d,hd,hl,hc,hv,h1,h2=>by
  simp only [addL]
  split
  .obtain ⟨s1,s2,s3,s4,s5⟩:=add_step ha hb hc i
   refine addL_val ha hb n (i+1) _ _ (dig_app.2 ⟨hd,dig_cons.2 ⟨⟨s1,s2⟩,dig_nil⟩⟩) (by simp [hl]) ⟨s3,s4⟩ ?_ (by omega) (by omega)
   rw [val_app,hl,val_take_succ',val_take_succ']
   simp only [val,pw]
   have e:pw i*((a.getD i 0+b.getD i 0+c).tmod (1000000000:Int)+(1000000000:Int)*(a.getD i 0+b.getD i 0+c).tdiv (1000000000:Int))=pw i*(a.getD i 0+b.getD i 0+c):=by rw [s5]
   rw [Int.mul_add,Int.mul_add,Int.mul_add] at e
   have e2:(1000000000:Int)*pw i*(a.getD i 0+b.getD i 0+c).tdiv (1000000000:Int)=pw i*((1000000000:Int)*(a.getD i 0+b.getD i 0+c).tdiv (1000000000:Int)):=by rw [Int.mul_comm (1000000000:Int),Int.mul_assoc]
   rw [e2]
   simp only [Int.mul_zero,Int.add_zero]
   omega
  .rename_i hn
   have hc0:c=0:=by omega
   subst hc0
   rw [List.take_of_length_le (by omega),List.take_of_length_le (by omega)] at hv
   exact ⟨hd,by simpa using hv⟩
def subL (a b:List Int):Nat->Nat->Int->List Int->List Int
 | 0,_,_,d=>d
 | n+1,i,c,d=>subL a b n (i+1) (if a.getD i 0 - b.getD i 0 - c<0 then 1 else 0) (d++[if a.getD i 0 - b.getD i 0 - c<0 then a.getD i 0 - b.getD i 0 - c+(1000000000:Int) else a.getD i 0 - b.getD i 0 - c])
theorem subL_val {a b:List Int} (ha:Dig a) (hb:Dig b):∀ (n i:Nat) (c:Int) (d:List Int),Dig d->d.length=i->0<=c/\c<=1->val d - pw i*c=val (a.take i) - val (b.take i) ->
  ∃ c',Dig (subL a b n i c d)/\(subL a b n i c d).length=i+n/\0<=c'/\c'<=1/\val (subL a b n i c d) - pw (i+n)*c'=val (a.take (i+n)) - val (b.take (i+n))
 | 0,i,c,d,hd,hl,hc,hv=>⟨c,hd,hl,hc.1,hc.2,hv⟩
 | n+1,i,c,d,hd,hl,hc,hv=>by
  have h1:=ha.get i
  have h2:=hb.get i
  have key:∃ c' x:Int,c'=(if a.getD i 0 - b.getD i 0 - c<0 then 1 else 0)/\x=(if a.getD i 0 - b.getD i 0 - c<0 then a.getD i 0 - b.getD i 0 - c+(1000000000:Int) else a.getD i 0 - b.getD i 0 - c)/\0<=c'/\c'<=1/\0<=x/\x<(1000000000:Int)/\x - (1000000000:Int)*c'=a.getD i 0 - b.getD i 0 - c:=by
   refine ⟨_,_,rfl,rfl,?_⟩
   generalize a.getD i 0=x at *
   generalize b.getD i 0=y at *
   split <;> omega
  obtain ⟨c',x,e1,e2,k1,k2,k3,k4,k5⟩:=key
  simp only [subL]
  rw [<- e1,<- e2]
  have:=subL_val ha hb n (i+1) c' (d++[x]) (dig_app.2 ⟨hd,dig_cons.2 ⟨⟨k3,k4⟩,dig_nil⟩⟩) (by simp [hl]) ⟨k1,k2⟩ (by
   rw [val_app,hl,val_take_succ',val_take_succ']
   simp only [val,pw]
   have e:pw i*(x - (1000000000:Int)*c')=pw i*(a.getD i 0 - b.getD i 0 - c):=by rw [k5]
   rw [Int.mul_sub,Int.mul_sub,Int.mul_sub] at e
   have e2:(1000000000:Int)*pw i*c'=pw i*((1000000000:Int)*c'):=by rw [Int.mul_comm (1000000000:Int),Int.mul_assoc]
   rw [e2]
   simp only [Int.mul_zero,Int.add_zero]
   omega)
  rw [show i+1+n=i+(n+1) by omega] at this
  exact this
theorem sub_all {a b:List Int} (ha:Dig a) (hb:Dig b) (hle:val b<=val a) (hl:b.length<=a.length):Dig (subL a b a.length 0 0 [])/\val (subL a b a.length 0 0 [])=val a - val b:=by
 obtain ⟨c',h1,h2,h3,h4,h5⟩:=subL_val ha hb a.length 0 0 [] dig_nil rfl (by omega) (by simp [val])
 rw [Nat.zero_add,List.take_length,List.take_of_length_le hl] at h5
 rw [Nat.zero_add] at h2
 have h6:=val_lt h1
 have h7:=val_nonneg h1
 rw [h2] at h6
 have hc:c'=0:=by
  rcases (show c'=0\/c'=1 by omega) with h|h
  .exact h
  .subst h; omega
 subst hc
 exact ⟨h1,by simpa using h5⟩
end Go.Dg
namespace Go.Dg
theorem pw_lt {m n:Nat} (h:pw m<pw n):m<n:=by
 rcases Nat.lt_or_ge m n with h1|h1
 .exact h1
 .have:=pw_mono h1; omega
theorem carry_in {d:List Int} (hd:Dig d) {j:Nat} {n:Int} (h0:0<n) (hlt:val d+pw j*n<pw d.length):j<d.length:=by
 have h1:=val_nonneg hd
 have h2:pw j*1<=pw j*n:=Int.mul_le_mul_of_nonneg_left h0 (Int.le_of_lt (pw_pos j))
 exact pw_lt (by omega)
theorem carry_step {d:List Int} (hd:Dig d) {j:Nat} {n:Int} (h0:0<=n) (hj:j<d.length):
  Dig (d.set j ((n+d.getD j 0).tmod (1000000000:Int)))/\0<=(n+d.getD j 0).tdiv (1000000000:Int)/\val (d.set j ((n+d.getD j 0).tmod (1000000000:Int)))+pw (j+1)*(n+d.getD j 0).tdiv (1000000000:Int)=val d+pw j*n/\0<=(n+d.getD j 0).tmod (1000000000:Int)/\(n+d.getD j 0).tmod (1000000000:Int)<(1000000000:Int):=by
 have h1:=hd.get j
 have key:0<=(n+d.getD j 0).tmod (1000000000:Int)/\(n+d.getD j 0).tmod (1000000000:Int)<(1000000000:Int)/\0<=(n+d.getD j 0).tdiv (1000000000:Int)/\(n+d.getD j 0).tmod (1000000000:Int)+(1000000000:Int)*(n+d.getD j 0).tdiv (1000000000:Int)=n+d.getD j 0:=by
  have hs:0<=n+d.getD j 0:=by omega
  rw [Int.tmod_eq_emod_of_nonneg hs,Int.tdiv_eq_ediv_of_nonneg hs]
  omega
 obtain ⟨k1,k2,k3,k4⟩:=key
 refine ⟨hd.set j ⟨k1,k2⟩,k3,?_,k1,k2⟩
 rw [val_set d j _ hj]
 simp only [pw]
 have e:pw j*((n+d.getD j 0).tmod (1000000000:Int)+(1000000000:Int)*(n+d.getD j 0).tdiv (1000000000:Int))=pw j*(n+d.getD j 0):=by rw [k4]
 rw [Int.mul_add,Int.mul_add] at e
 rw [Int.mul_sub,Int.mul_comm (1000000000:Int),Int.mul_assoc]
 omega
theorem mul_take_succ (x:Int) (b:List Int) (i k:Nat):pw i*(x*val (b.take (k+1)))=pw i*(x*val (b.take k))+pw (i+k)*(x*b.getD k 0):=by
 rw [val_take_succ',Int.mul_add,Int.mul_add,pw_add,Int.mul_assoc (pw i) (pw k)]
 congr 2
 rw [Int.mul_left_comm]
theorem mul_row (a b:List Int) (i:Nat):val (a.take (i+1))*val b=val (a.take i)*val b+pw i*(a.getD i 0*val b):=by
 rw [val_take_succ',Int.add_mul,Int.mul_assoc]
theorem mul_lt {a b:List Int} (ha:Dig a) (hb:Dig b):val a*val b<pw (a.length+b.length)\/(a.length+b.length=0/\val a*val b=0):=by
 left
 rw [pw_add]
 have h1:=val_lt ha
 have h2:=val_lt hb
 have h3:=val_nonneg ha
 have h4:=val_nonneg hb
 have q1:val a*val b<=val a*pw b.length:=Int.mul_le_mul_of_nonneg_left (by omega) h3
 have q2:(val a+1)*pw b.length<=pw a.length*pw b.length:=Int.mul_le_mul_of_nonneg_right (by omega) (Int.le_of_lt (pw_pos _))
 rw [Int.add_mul] at q2
 have:=pw_pos b.length
 omega
end Go.Dg
namespace Go.Dg
def fr (x:Int):Int:=if x.tmod (1000000000:Int)<0 then x.tmod (1000000000:Int)+(1000000000:Int) else x.tmod (1000000000:Int)
def fq (x:Int):Int:=if x.tmod (1000000000:Int)<0 then x.tdiv (1000000000:Int) - 1 else x.tdiv (1000000000:Int)
theorem f_spec (x:Int):0<=fr x/\fr x<(1000000000:Int)/\fr x+(1000000000:Int)*fq x=x:=by
 have h1:=Int.mul_tdiv_add_tmod x (1000000000:Int)
 have h2:-(1000000000:Int)<x.tmod (1000000000:Int)/\x.tmod (1000000000:Int)<(1000000000:Int):=by
  have:=Int.natAbs_tmod x (1000000000:Int)
  have h3:x.natAbs % 1000000000<1000000000:=Nat.mod_lt _ (by decide)
  have h4:(x.tmod (1000000000:Int)).natAbs<1000000000:=by rw [this]; exact h3
  omega
 unfold fr fq
 split <;> omega
def estK (d b:List Int):Int:=(d.getD b.length 0*(1000000000:Int)+d.getD (b.length - 1) 0).tdiv (b.getD (b.length - 1) 0+1)
theorem val_top {l:List Int} (hne:l≠[]):val l=val (l.take (l.length - 1))+pw (l.length - 1)*l.getD (l.length - 1) 0:=by
 have hpos:0<l.length:=List.length_pos_iff.2 hne
 have:=val_take_succ (l:=l) (n:=l.length - 1) (by omega)
 rw [show l.length - 1+1=l.length by omega,List.take_length] at this
 exact this
theorem est_spec {d b:List Int} (hd:Dig d) (hb:Dig b) (td:Top d) (tb:Top b) (hbn:b≠[]) (hge:val b<=val d) (hlt:val d<(1000000000:Int)*val b):
  b.length<=d.length/\d.length<=b.length+1/\0<=estK d b/\estK d b<(1000000000:Int)/\estK d b*val b<=val d:=by
 have hpos:0<b.length:=List.length_pos_iff.2 hbn
 have hp:=pw_pos (b.length - 1)
 have hl1:b.length<=d.length:=by
  rcases Nat.lt_or_ge d.length b.length with h|h
  .have:=val_len_lt hd hb tb h; omega
  .exact h
 have hdn:d≠[]:=by rintro rfl; exact hbn (by simpa using hl1)
 have hl2:d.length<=b.length+1:=by
  rcases Nat.lt_or_ge (b.length+1) d.length with h|h
  .have q1:=val_ge hd td hdn
   have q2:=val_lt hb
   have q3:=pw_mono (show b.length+1<=d.length - 1 by omega)
   simp only [pw] at q3
   omega
  .exact h
 have hbt:=hb.get (b.length - 1)
 have hbv:=val_top hbn
 have hbl:=val_lt (hb.take (b.length - 1))
 rw [List.length_take,Nat.min_eq_left (by omega)] at hbl
 have hT:pw (b.length - 1)*(d.getD b.length 0*(1000000000:Int)+d.getD (b.length - 1) 0)<=val d:=by
  have e1:=val_take_succ' d (b.length - 1)
  rw [show b.length - 1+1=b.length by omega] at e1
  have e2:=val_take_succ' d b.length
  rw [List.take_of_length_le hl2] at e2
  have e3:=val_nonneg (hd.take (b.length - 1))
  have e4:pw b.length=(1000000000:Int)*pw (b.length - 1):=by
   conv=>lhs; rw [show b.length=b.length - 1+1 by omega]
   rfl
  rw [e4] at e2
  rw [Int.mul_add,<- Int.mul_assoc,Int.mul_right_comm,Int.mul_comm (pw (b.length - 1)) (1000000000:Int)]
  omega
 have hd1:=hd.get b.length
 have hd2:=hd.get (b.length - 1)
 generalize hTT:d.getD b.length 0*(1000000000:Int)+d.getD (b.length - 1) 0=T at *
 have hT0:0<=T:=by omega
 generalize hbb:b.getD (b.length - 1) 0=t at *
 have hk:estK d b=T / (t+1):=by
  unfold estK
  rw [hTT,hbb,Int.tdiv_eq_ediv_of_nonneg hT0]
 have k0:0<=T / (t+1):=Int.ediv_nonneg hT0 (by omega)
 have k1:T / (t+1)*(t+1)<=T:=Int.ediv_mul_le T (by omega)
 have k2:pw (b.length - 1)*(T / (t+1)*(t+1))<=pw (b.length - 1)*T:=Int.mul_le_mul_of_nonneg_left k1 (Int.le_of_lt hp)
 have k3:T / (t+1)*val b<=T / (t+1)*(pw (b.length - 1)*(t+1)):=by
  refine Int.mul_le_mul_of_nonneg_left ?_ k0
  rw [Int.mul_add]
  omega
 have k4:T / (t+1)*(pw (b.length - 1)*(t+1))=pw (b.length - 1)*(T / (t+1)*(t+1)):=Int.mul_left_comm ..
 refine ⟨hl1,hl2,by rw [hk]; exact k0,?_,by rw [hk]; omega⟩
 rw [hk]
 have k5:pw (b.length - 1)*T<pw (b.length - 1)*((1000000000:Int)*(t+1)):=by
  have:(1000000000:Int)*val b<(1000000000:Int)*(pw (b.length - 1)*(t+1)):=by
   rw [Int.mul_add (pw (b.length - 1))]
   omega
  rw [Int.mul_left_comm]
  omega
 have k6:T<(1000000000:Int)*(t+1):=Int.lt_of_mul_lt_mul_left k5 (Int.le_of_lt hp)
 exact Int.ediv_lt_of_lt_mul (by omega) k6
end Go.Dg
namespace Go.Dg
open Go Go.Eng
theorem bt {p:Prop} [Decidable p] {b:Bool}:(bif decide p then b else false)=true ↔ p/\b=true:=by
 by_cases h:p <;> simp [h]
theorem bo {p:Prop} [Decidable p] {b:Bool}:(bif decide p then true else b)=true ↔ p\/b=true:=by
 by_cases h:p <;> simp [h]
theorem nbt {p:Prop} [Decidable p] {b:Bool}:(!bif decide p then b else false)=true ↔ (p->b=false):=by
 by_cases h:p <;> simp [h]
theorem nbo {p:Prop} [Decidable p] {b:Bool}:(!bif decide p then true else b)=true ↔ ¬p/\b=false:=by
 by_cases h:p <;> simp [h]
theorem eb {x y:Int}:(x==y)=true ↔ x=y:=⟨eq_of_beq,fun h=>by rw [h]; exact beq_self_eq_true y⟩
theorem neb {x y:Int}:(x==y)=false ↔ x≠y:=by
 constructor
 .intro h e; rw [eb.2 e] at h; cases h
 .intro h
  cases e:(x==y) with
  | false=>rfl
  | true=>exact absurd (eb.1 e) h
theorem dt {p:Prop} [Decidable p]:decide p=true ↔ p:=decide_eq_true_iff
theorem ndt {p:Prop} [Decidable p]:(!decide p)=true ↔ ¬p:=by by_cases h:p <;> simp [h]
def Sm (d:List Int):Prop:=d.length<=500000
theorem Sm.le {d:List Int} (h:Sm d):d.length<=500000:=h
theorem iw {n:Int} (h0:-9223372036854775808<=n) (h1:n<9223372036854775808):IntKind.i64.wrap n=n:=Go.Ar.i64w h0 h1
end Go.Dg
namespace Go.Proofs.YtkbndjnibcjchaaGreatDoor.K
open Go Go.Eng
noncomputable section
def cL:Ctx:=mkN Tryz.prog (fun _=>none) hG0 [] [] noExt
def mdH (d:List Int):Hp:=viewsH true hG0 [(.i64,d)]
def mdArgs (neg:Bool) (d:List Int):List AV:=[.bool true neg,.lslice 0 d.length]
noncomputable def mdS (neg:Bool) (d:List Int):St:=stAt cL 300 85 (mdArgs neg d) (mdH d)
def mdFr:AFr:=⟨85,none⟩
def mdA:Code:=loopOf Tryz.prog 85 0
def mdP (i:Int):Patch:=⟨(5,.int true .i64 i) :: deadT 10 12,[],[]⟩
def tlI (d:List Int) (y:Int):Int:=(Go.Dg.tl d y.toNat:Nat)
def mdU (d:List Int):SumL Int:=
 {
  S:=fun y=>mdP y
  I:=fun y=>0<=y/\y<=d.length
  μ:=fun y=>y.toNat
  F:=fun y=>(.exit 0,mdP (tlI d y))
  next:=fun y=>IntKind.i64.wrap (y - 1)
  ids:=fun _=>[]
  X:=fun y _=>some (mdP y,[]) }
end
end Go.Proofs.YtkbndjnibcjchaaGreatDoor.K
namespace Go.Proofs.YtkbndjnibcjchaaGreatDoor.K
open Go Go.Eng Go.Dg
noncomputable section
def md_start_nd (neg:Bool) (d:List Int):Prop:=(↑d.length:Int)=(↑d.length:Int)
theorem md_start (neg:Bool) (d:List Int):fit (mdS neg d) (mdS neg d) (patch (mdS neg d) ((mdU d).S (d.length:Int))) ([])=some (.p (md_start_nd neg d)):=by kernel_rfl
def md_body_nd (neg:Bool) (d:List Int) (i:Int):Prop:=(decide (i>(0:Int))=true->((0:Int)<=IntKind.i64.wrap (i - (1:Int))/\IntKind.i64.wrap (i - (1:Int))<(↑d.length:Int))/\(IntKind.i64.wrap (i - (1:Int))).toNat<d.length)/\((!bif decide (i>(0:Int)) then d.getD (IntKind.i64.wrap (i - (1:Int))).toNat (0:Int)==(0:Int) else false)=true->i=i/\(mdU d).F i=(Ex.exit (0:Nat),mdP i))/\((bif decide (i>(0:Int)) then d.getD (IntKind.i64.wrap (i - (1:Int))).toNat (0:Int)==(0:Int) else false)=true->IntKind.i64.wrap (i - (1:Int))=(mdU d).next i/\(mdU d).I ((mdU d).next i)/\(mdU d).μ ((mdU d).next i)<(mdU d).μ i/\(mdU d).F ((mdU d).next i)=(mdU d).F i)
theorem md_body (neg:Bool) (d:List Int) (i:Int):chkR (mdS neg d) ((mdU d).way (i)) ((run cL 300).code mdFr mdA (patch (mdS neg d) ((mdU d).S i)))=some (.p (md_body_nd neg d i)):=by kernel_rfl
end
end Go.Proofs.YtkbndjnibcjchaaGreatDoor.K
namespace Go.Proofs.YtkbndjnibcjchaaGreatDoor.K
open Go Go.Eng Go.Dg
noncomputable section
theorem cL_ok:CtxOk cL:=mkN_ok prog_ok (noExt_ok _) (fun x h=>by cases h) (fun x h=>by cases h)
theorem tlI_step {d:List Int} {i:Int} (h:0<i):tlI d i=if d.getD (i - 1).toNat 0=0 then tlI d (i - 1) else i:=by
 unfold tlI
 obtain ⟨n,rfl⟩:∃ n:Nat,i=(n+1:Nat):=⟨(i - 1).toNat,by omega⟩
 have e1:((n+1:Nat):Int).toNat=n+1:=by omega
 have e2:(((n+1:Nat):Int) - 1).toNat=n:=by omega
 rw [e1,e2]
 simp only [tl]
 split <;> rfl
theorem md_loop (neg:Bool) (d:List Int) (hs:Sm d):CodeOk cL mdFr (.loop mdA) (mdS neg d) ⟨.tt,[⟨.tt,.exit 0,patch (mdS neg d) (mdP (tlI d d.length))⟩]⟩:=by
 refine sumL_one (run_sound cL_ok 300) (mdU d) (y0:=(d.length:Int)) ⟨by omega,by omega⟩ ⟨_,md_start neg d,rfl⟩ (by kernel_rfl) (fun i hi=>⟨_,md_body neg d i,?_⟩) rfl
 have hs:d.length<=500000:=hs
 have hi:0<=i/\i<=d.length:=hi
 refine ⟨fun h=>?_,fun h=>⟨rfl,?_⟩,fun h=>?_⟩
 .have h:=of_decide_eq_true h
  rw [iw (by omega) (by omega)]
  omega
 .show (Ex.exit 0,mdP (tlI d i))=(Ex.exit 0,mdP i)
  rw [iw (by omega) (by omega)] at h
  have h:=nbt.1 h
  by_cases h0:0<i
  .rw [tlI_step h0,if_neg (neb.1 (h h0))]
  .have:i=0:=by omega
   subst this; rfl
 .have e:IntKind.i64.wrap (i - 1)=i - 1:=iw (by omega) (by omega)
  rw [e] at h ⊢
  obtain ⟨h0,h⟩:=bt.1 h
  have h:=eb.1 h
  have h0:0<i:=h0
  refine ⟨e.symm,?_,?_,?_⟩
  .show 0<=IntKind.i64.wrap (i - 1)/\IntKind.i64.wrap (i - 1)<=d.length
   rw [e]; omega
  .show (IntKind.i64.wrap (i - 1)).toNat<i.toNat
   rw [e]; omega
  .show (Ex.exit 0,mdP (tlI d (IntKind.i64.wrap (i - 1))))=(Ex.exit 0,mdP (tlI d i))
   rw [e,tlI_step h0,if_pos h]
noncomputable def cMd (neg:Bool) (d:List Int):Ctx:=withLoops cL [oneLoop 85 7 mdFr mdA (mdS neg d) (.exit 0) (mdP (tlI d d.length))]
theorem cMd_ok (neg:Bool) (d:List Int) (hs:Sm d):CtxOk (cMd neg d):=withLoop_ok cL_ok (md_loop neg d hs) (withNone_ok cL_ok)
noncomputable def mfS (neg:Bool) (d:List Int):St:=stAt (cMd neg d) 300 85 (mdArgs neg d) (mdH d)
def mfA:Code:=loopOf Tryz.prog 85 1
end
end Go.Proofs.YtkbndjnibcjchaaGreatDoor.K
namespace Go.Proofs.YtkbndjnibcjchaaGreatDoor.K
open Go Go.Eng Go.Dg
noncomputable section
def mfN (neg:Bool) (n:Int):Bool:=bif neg then decide (n>0) else false
def mfP (neg:Bool) (d:List Int) (n:Int):Option Int->Patch
 | none=>⟨(7,.int true .i64 0) :: deadT 28 15,[],[]⟩
 | some i=>⟨(7,.int true .i64 i) :: deadT 28 15,[(2,.cells [.bool true (mfN neg n),.islice true 3 0 i])],[.ints .i64 (d.take i.toNat)]⟩
def mfU (pos:Bool) (neg:Bool) (d:List Int):SumL (Option Int):=
 {
  S:=mfP neg d (tlI d d.length)
  I:=fun y=>match y with
   | none=>(pos=true->0<tlI d d.length)/\(pos=false->tlI d d.length=0)
   | some i=>pos=true/\1<=i/\i<=tlI d d.length
  μ:=fun y=>match y with
   | none=>(tlI d d.length).toNat
   | some i=>(tlI d d.length - i).toNat
  F:=fun _=>(.exit 2,mfP neg d (tlI d d.length) (bif pos then some (tlI d d.length) else none))
  next:=fun y=>match y with
   | none=>some (IntKind.i64.wrap (0+1))
   | some i=>some (IntKind.i64.wrap (i+1))
  ids:=fun y=>match y with
   | none=>[4]
   | some _=>[5]
  X:=fun y _=>some (mfP neg d (tlI d d.length) y,match y with|none=>[]|some _=>[3]) }
end
end Go.Proofs.YtkbndjnibcjchaaGreatDoor.K
namespace Go.Proofs.YtkbndjnibcjchaaGreatDoor.K
open Go Go.Eng Go.Dg
noncomputable section
def mf_start_nd (pos neg:Bool) (d:List Int):Prop:=(0:Int)=(0:Int)
theorem mf_start (pos neg:Bool) (d:List Int):fit (mfS neg d) (mfS neg d) (patch (mfS neg d) ((mfU pos neg d).S none)) ([])=some (.p (mf_start_nd pos neg d)):=by kernel_rfl
def mf_b0_nd (pos neg:Bool) (d:List Int):Prop:=(decide ((0:Int)<tlI d (↑d.length:Int))=true->((0:Int)<=(0:Int)/\(0:Int)<(↑d.length:Int))/\Int.toNat (0:Int)<d.length)/\((!decide ((0:Int)<tlI d (↑d.length:Int)))=true->(0:Int)=(0:Int)/\(mfU pos neg d).F none=(Ex.exit (2:Nat),mfP neg d (tlI d (↑d.length:Int)) none))/\(decide ((0:Int)<tlI d (↑d.length:Int))=true->(IntKind.i64.wrap ((0:Int)+(1:Int))=IntKind.i64.wrap ((0:Int)+(1:Int))/\((bif neg then decide (tlI d (↑d.length:Int)>(0:Int)) else false)=mfN neg (tlI d (↑d.length:Int))/\(0:Nat)<nat_lit 0+(1:Nat)/\(↑(0:Nat):Int)=(0:Int)/\(↑(nat_lit 0+(1:Nat)):Int)=IntKind.i64.wrap ((0:Int)+(1:Int)))/\[d.getD (Int.toNat (0:Int)) (0:Int)]=List.take (IntKind.i64.wrap ((0:Int)+(1:Int))).toNat d)/\(mfU pos neg d).I ((mfU pos neg d).next none)/\(mfU pos neg d).μ ((mfU pos neg d).next none)<(mfU pos neg d).μ none/\(mfU pos neg d).F ((mfU pos neg d).next none)=(mfU pos neg d).F none)
theorem mf_b0 (pos neg:Bool) (d:List Int):chkR (mfS neg d) ((mfU pos neg d).way (none)) ((run (cMd neg d) 300).code mdFr mfA (patch (mfS neg d) ((mfU pos neg d).S none)))=some (.p (mf_b0_nd pos neg d)):=by kernel_rfl
def mf_b1_nd (pos neg:Bool) (d:List Int) (i:Int):Prop:=(decide (i<tlI d (↑d.length:Int))=true->((0:Int)<=i/\i<(↑d.length:Int))/\i.toNat<d.length/\((0:Int)=(0:Int)/\i=i)/\(0:Int)=(0:Int)/\(0:Int)<i/\i=(↑(List.take i.toNat d).length:Int)/\i+(↑(1:Nat):Int)<=(1048576:Int))/\((!decide (i<tlI d (↑d.length:Int)))=true->(i=i/\(mfN neg (tlI d (↑d.length:Int))=mfN neg (tlI d (↑d.length:Int))/\(0:Int)=(0:Int)/\i=i)/\List.take i.toNat d=List.take i.toNat d)/\(mfU pos neg d).F (some i)=(Ex.exit (2:Nat),mfP neg d (tlI d (↑d.length:Int)) (some i)))/\(decide (i<tlI d (↑d.length:Int))=true->(IntKind.i64.wrap (i+(1:Int))=IntKind.i64.wrap (i+(1:Int))/\(mfN neg (tlI d (↑d.length:Int))=mfN neg (tlI d (↑d.length:Int))/\(0:Int)=(0:Int)/\i+(↑(1:Nat):Int)=IntKind.i64.wrap (i+(1:Int)))/\List.take i.toNat d++[d.getD i.toNat (0:Int)]=List.take (IntKind.i64.wrap (i+(1:Int))).toNat d)/\(mfU pos neg d).I ((mfU pos neg d).next (some i))/\(mfU pos neg d).μ ((mfU pos neg d).next (some i))<(mfU pos neg d).μ (some i)/\(mfU pos neg d).F ((mfU pos neg d).next (some i))=(mfU pos neg d).F (some i))
theorem mf_b1 (pos neg:Bool) (d:List Int) (i:Int):chkR (mfS neg d) ((mfU pos neg d).way (some i)) ((run (cMd neg d) 300).code mdFr mfA (patch (mfS neg d) ((mfU pos neg d).S (some i))))=some (.p (mf_b1_nd pos neg d i)):=by kernel_rfl
end
end Go.Proofs.YtkbndjnibcjchaaGreatDoor.K
namespace Go.Proofs.YtkbndjnibcjchaaGreatDoor.K
open Go Go.Eng Go.Dg
noncomputable section
theorem tlI_le (d:List Int):0<=tlI d d.length/\tlI d d.length<=d.length:=by
 have:=tl_le d d.length
 unfold tlI
 rw [show ((d.length:Int)).toNat=d.length by omega]
 omega
theorem take1 {d:List Int} {i:Int} (h0:0<=i) (h:i<d.length):d.take i.toNat++[d.getD i.toNat 0]=d.take (i+1).toNat:=by
 rw [show (i+1).toNat=i.toNat+1 by omega,List.take_add_one,List.getD_eq_getElem?_getD,List.getElem?_eq_getElem (by omega)]
 rfl
theorem mf_loop (pos neg:Bool) (d:List Int) (hs:Sm d) (hp:pos=decide (0<tlI d d.length)):CodeOk (cMd neg d) mdFr (.loop mfA) (mfS neg d) ⟨.tt,[⟨.tt,.exit 2,patch (mfS neg d) (mfP neg d (tlI d d.length) (bif pos then some (tlI d d.length) else none))⟩]⟩:=by
 obtain ⟨n0,n1⟩:=tlI_le d
 have hs2:=hs.le
 refine sumL_one (run_sound (cMd_ok neg d hs) 300) (mfU pos neg d) (y0:=none) ?_ ⟨_,mf_start pos neg d,rfl⟩ (by kernel_rfl) (fun y hy=>?_) rfl
 .refine ⟨fun h=>?_,fun h=>?_⟩
  .rw [hp] at h; exact of_decide_eq_true h
  .rw [hp] at h; have:=of_decide_eq_false h; omega
 .cases y with
  | none=>
   refine ⟨_,mf_b0 pos neg d,?_⟩
   obtain ⟨p1,p2⟩:=(show (pos=true->0<tlI d d.length)/\(pos=false->tlI d d.length=0) from hy)
   refine ⟨fun h=>?_,fun h=>⟨rfl,?_⟩,fun h=>?_⟩
   .have h:=dt.1 h
    exact ⟨⟨by omega,by omega⟩,by show 0<d.length; omega⟩
   .have h:=ndt.1 h
    cases pos with
    | true=>exact absurd (p1 rfl) h
    | false=>rfl
   .have h:=dt.1 h
    have e:IntKind.i64.wrap ((0:Int)+1)=1:=by decide
    have hpos:pos=true:=by
     cases pos with
     | true=>rfl
     | false=>have:=p2 rfl; omega
    refine ⟨⟨rfl,⟨rfl,by decide,rfl,by decide⟩,?_⟩,?_,?_,rfl⟩
    .rw [e]; exact take1 (i:=0) (by omega) (by omega)
    .show pos=true/\1<=IntKind.i64.wrap ((0:Int)+1)/\IntKind.i64.wrap ((0:Int)+1)<=tlI d d.length
     rw [e]; exact ⟨hpos,by omega,by omega⟩
    .show (tlI d d.length - IntKind.i64.wrap ((0:Int)+1)).toNat<(tlI d d.length).toNat
     rw [e]; omega
  | some i=>
   refine ⟨_,mf_b1 pos neg d i,?_⟩
   obtain ⟨hpos,i1,i2⟩:=(show pos=true/\1<=i/\i<=tlI d d.length from hy)
   have e:IntKind.i64.wrap (i+1)=i+1:=iw (by omega) (by omega)
   refine ⟨fun h=>?_,fun h=>⟨⟨rfl,⟨rfl,rfl,rfl⟩,rfl⟩,?_⟩,fun h=>?_⟩
   .have h:=dt.1 h
    refine ⟨⟨by omega,by omega⟩,by omega,⟨rfl,rfl⟩,rfl,by omega,?_,by omega⟩
    rw [List.length_take]; omega
   .have h:=ndt.1 h
    have:i=tlI d d.length:=by omega
    rw [hpos]
    show (Ex.exit 2,mfP neg d (tlI d d.length) (some (tlI d d.length)))=_
    rw [<- this]
   .have h:=dt.1 h
    refine ⟨⟨rfl,⟨rfl,rfl,?_⟩,?_⟩,?_,?_,rfl⟩
    .rw [e]; rfl
    .rw [e]; exact take1 (by omega) (by omega)
    .show pos=true/\1<=IntKind.i64.wrap (i+1)/\IntKind.i64.wrap (i+1)<=tlI d d.length
     rw [e]; exact ⟨hpos,by omega,by omega⟩
    .show (tlI d d.length - IntKind.i64.wrap (i+1)).toNat<(tlI d d.length - i).toNat
     rw [e]; omega
noncomputable def cMe (pos neg:Bool) (d:List Int):Ctx:=withLoops (cMd neg d) [oneLoop 85 18 mdFr mfA (mfS neg d) (.exit 2) (mfP neg d (tlI d d.length) (bif pos then some (tlI d d.length) else none))]
theorem cMe_ok (pos neg:Bool) (d:List Int) (hs:Sm d) (hp:pos=decide (0<tlI d d.length)):CtxOk (cMe pos neg d):=withLoop_ok (cMd_ok neg d hs) (mf_loop pos neg d hs hp) (withNone_ok (cMd_ok neg d hs))
end
end Go.Proofs.YtkbndjnibcjchaaGreatDoor.K
namespace Go.Proofs.YtkbndjnibcjchaaGreatDoor.K
open Go Go.Eng Go.Dg
noncomputable section
def md_t_nd (neg:Bool) (d:List Int):Prop:=(At (mdFr) (mdFr) (mdA) (mdA) (mdS neg d) (mdS neg d)/\At (mdFr) (mdFr) (mfA) (mfA) (mfS neg d) (mfS neg d))
def md_t_v (neg:Bool) (d:List Int):AV:=(AV.agg [AV.bool true (mfN neg (tlI d (↑d.length:Int))),AV.islice true 1 (0:Int) (tlI d (↑d.length:Int))])
def md_t_h (neg:Bool) (d:List Int):Hp:=⟨[{ wr:=18,body:=ABody.ints IntKind.i64 (List.take (tlI d (↑d.length:Int)).toNat d) },{ wr:=(0:Nat),body:=ABody.rows IntKind.i64 d }],2,21⟩
theorem md_t (neg:Bool) (d:List Int):(run (cMe true neg d) 300).call 85 (mdArgs neg d) (mdH d)=some ⟨.p (md_t_nd neg d),[⟨.tt,md_t_v neg d,md_t_h neg d⟩]⟩:=by kernel_rfl
def md_f_nd (neg:Bool) (d:List Int):Prop:=(At (mdFr) (mdFr) (mdA) (mdA) (mdS neg d) (mdS neg d)/\At (mdFr) (mdFr) (mfA) (mfA) (mfS neg d) (mfS neg d))
def md_f_v (neg:Bool) (d:List Int):AV:=(AV.agg [AV.bool true (bif neg then decide (tlI d (↑d.length:Int)>(0:Int)) else false),AV.nilslice])
def md_f_h (neg:Bool) (d:List Int):Hp:=⟨[{ wr:=(0:Nat),body:=ABody.rows IntKind.i64 d }],1,21⟩
theorem md_f (neg:Bool) (d:List Int):(run (cMe false neg d) 300).call 85 (mdArgs neg d) (mdH d)=some ⟨.p (md_f_nd neg d),[⟨.tt,md_f_v neg d,md_f_h neg d⟩]⟩:=by kernel_rfl
end
end Go.Proofs.YtkbndjnibcjchaaGreatDoor.K
namespace Go.Proofs.YtkbndjnibcjchaaGreatDoor.K
open Go Go.Eng Go.Dg
noncomputable section
def mdV:List Nu->List (List Int)->Option (Prop×To)
 | [.t neg],[d]=>some (Dig d/\Sm d,.st [.bo (neg&&decide (val d≠0)),.li true (digs (val d).toNat)])
 | _,_=>none
theorem tlI_pos {d:List Int} (h:Dig d):0<tlI d d.length ↔ val d≠0:=by
 have h1:=tl_zero h
 have e:tlI d d.length=(tl d d.length:Nat):=by
  unfold tlI
  rw [show ((d.length:Int)).toNat=d.length by omega]
 rw [e]
 constructor
 .intro h h2; have:=h1.2 h2; omega
 .intro h2; have:=mt h1.1 h2; omega
theorem take_tlI {d:List Int} (h:Dig d):d.take (tlI d d.length).toNat=digs (val d).toNat:=by
 rw [<- take_tl h]
 have e:(tlI d d.length).toNat=tl d d.length:=by
  unfold tlI
  rw [show ((d.length:Int)).toNat=d.length by omega]
  omega
 rw [e]
theorem made_ok:NOk Tryz.prog (fun _=>none) hG0 85 (mSpec hG0 .i64 [.nu .b,.li] mdV):=by
 refine msp_ok (show hG0.ok from rfl) rfl (fun _ _ h=>by cases h) (fun xs ys p t e h=>?_) ⟨_,Tryz.func85,rfl⟩
 unfold mdV at e
 split at e
 .rename_i neg d
  cases e
  obtain ⟨hd,hs⟩:=h
  obtain ⟨n0,n1⟩:=tlI_le d
  have hN:mfN neg (tlI d d.length)=(neg&&decide (val d≠0)):=by
   unfold mfN
   rw [decide_eq_decide.2 (tlI_pos hd)]
   cases neg <;> rfl
  by_cases hp:0<tlI d d.length
  .refine ⟨cMe true neg d,300,mdArgs neg d,_,_,_,_,_,cMe_ok true neg d hs (by simp [hp]),rfl,rfl,⟨rfl,rfl,trivial⟩,md_t neg d,rfl,⟨⟨rfl,rfl,rfl⟩,rfl,rfl,rfl⟩,rfl,rfl,⟨hN,⟨rfl,?_⟩,take_tlI hd⟩⟩
   show tlI d d.length=((d.take (tlI d d.length).toNat).length:Int)
   rw [List.length_take]; omega
  .have hv:val d=0:=by
    have:=mt (tlI_pos hd).2 hp
    omega
   refine ⟨cMe false neg d,300,mdArgs neg d,_,_,_,_,_,cMe_ok false neg d hs (by simp [hp]),rfl,rfl,⟨rfl,rfl,trivial⟩,md_f neg d,rfl,⟨⟨rfl,rfl,rfl⟩,rfl,rfl,rfl⟩,rfl,rfl,⟨hN,?_⟩⟩
   rw [hv]; exact digs_zero.symm
 .cases e
end
end Go.Proofs.YtkbndjnibcjchaaGreatDoor.K
namespace Go.Dg
def fndB (a b:List Int):Nat->Bool
 | 0=>false
 | n+1=>if a.getD n 0=b.getD n 0 then fndB a b n else true
def fndI (a b:List Int) (i:Int):Bool:=fndB a b (i+1).toNat
def lesI (a b:List Int) (i:Int):Bool:=lessB a b (i+1).toNat
def difB (a b:List Int):Nat->Nat->Bool
 | 0,_=>false
 | n+1,i=>if a.getD i 0=b.getD i 0 then difB a b n (i+1) else true
def difI (a b:List Int) (i:Int):Bool:=difB a b (a.length - i).toNat i.toNat
theorem fnd_step {a b:List Int} {i:Int} (h:0<=i):fndI a b i=if a.getD i.toNat 0=b.getD i.toNat 0 then fndI a b (i - 1) else true:=by
 unfold fndI
 rw [show (i+1).toNat=i.toNat+1 by omega,show (i - 1+1).toNat=i.toNat by omega,fndB]
theorem les_step {a b:List Int} {i:Int} (h:0<=i):lesI a b i=if a.getD i.toNat 0=b.getD i.toNat 0 then lesI a b (i - 1) else decide (a.getD i.toNat 0<b.getD i.toNat 0):=by
 unfold lesI
 rw [show (i+1).toNat=i.toNat+1 by omega,show (i - 1+1).toNat=i.toNat by omega,lessB]
theorem fnd_lt {a b:List Int}:∀ n,fndB a b n=false->lessB a b n=false
 | 0,_=>rfl
 | n+1,h=>by
  simp only [fndB] at h
  simp only [lessB]
  split at h
  .rename_i e; rw [if_pos e]; exact fnd_lt n h
  .cases h
theorem dif_step {a b:List Int} {i:Int} (h:0<=i) (h2:i<a.length):difI a b i=if a.getD i.toNat 0=b.getD i.toNat 0 then difI a b (i+1) else true:=by
 unfold difI
 rw [show (a.length - i).toNat=(a.length - (i+1)).toNat+1 by omega,show (i+1).toNat=i.toNat+1 by omega,difB]
theorem difB_false {a b:List Int}:∀ (n i:Nat),difB a b n i=false->∀ j,i<=j->j<i+n->a.getD j 0=b.getD j 0
 | 0,i,_,j,h1,h2=>by omega
 | n+1,i,h,j,h1,h2=>by
  simp only [difB] at h
  split at h
  .rename_i e
   rcases Nat.lt_or_ge i j with h3|h3
   .exact difB_false n (i+1) h j (by omega) (by omega)
   .rw [show j=i by omega]; exact e
  .cases h
theorem difB_same {a:List Int}:∀ (n i:Nat),difB a a n i=false
 | 0,i=>rfl
 | n+1,i=>by rw [difB,if_pos rfl]; exact difB_same n (i+1)
theorem dif_iff {a b:List Int} (h:a.length=b.length):difI a b 0=false ↔ a=b:=by
 unfold difI
 rw [show ((a.length:Int) - 0).toNat=a.length by omega]
 constructor
 .intro e
  apply List.ext_getElem h
  intro j h1 h2
  have:=difB_false _ _ e j (by omega) (by show j<0+a.length; omega)
  rw [List.getD_eq_getElem?_getD,List.getD_eq_getElem?_getD,List.getElem?_eq_getElem h1,List.getElem?_eq_getElem h2] at this
  exact this
 .rintro rfl; exact difB_same _ _
theorem bne_t {x y:Int}:(x != y)=true ↔ x≠y:=by simp
theorem bne_f {x y:Int}:(x != y)=false ↔ x=y:=by simp
theorem nbne {x y:Int}:(!x != y)=true ↔ x=y:=by
 have:(!x != y)=(x==y):=by simp [bne]
 rw [this]; exact eb
theorem and_t {p:Prop} [Decidable p] {b:Bool}:(decide p&&b)=true ↔ p/\b=true:=by
 by_cases h:p <;> simp [h]
end Go.Dg
namespace Go.Proofs.YtkbndjnibcjchaaGreatDoor.K
open Go Go.Eng Go.Dg
noncomputable section
def hintsT (l:List (Nat×AV)):Nat->Nat->Option AV:=fun _ t=>match l with
 | []=>none
 | x :: l=>match Nat.beq t x.1 with
  | true=>some x.2
  | false=>hintsT l 0 t
termination_by structural l
def leH (a b:List Int):Hp:=viewsH true hG0 [(.i64,a),(.i64,b)]
def leArgs (a b:List Int):List AV:=[.lslice 0 a.length,.lslice 1 b.length]
def cLe (d:Bool):Ctx:=hinting cL (hintsT [(10,.bool false d)])
theorem cLe_ok (d:Bool):CtxOk (cLe d):=hinting_ok cL_ok _
noncomputable def leS (a b:List Int):St:=stAt (cLe false) 300 84 (leArgs a b) (leH a b)
def leFr:AFr:=⟨84,none⟩
def leA:Code:=loopOf Tryz.prog 84 0
def leP (i:Int):Patch:=⟨(5,.int true .i64 i) :: deadT 19 22,[],[]⟩
def leR (r:Bool):Patch:=⟨(4,.bool true r) :: (5,.any false) :: deadT 19 22,[],[]⟩
def leX:Patch:=⟨(5,.any false) :: deadT 19 22,[],[]⟩
def leU (a b:List Int):SumL Int:=
 {
  S:=leP
  I:=fun i=>-1<=i/\i<a.length
  μ:=fun i=>(i+1).toNat
  F:=fun i=>bif fndI a b i then (.ret,leR (lesI a b i)) else (.exit 0,leX)
  next:=fun i=>IntKind.i64.wrap (i - 1)
  ids:=fun _=>[]
  X:=fun i x=>match x with
   | .ret=>some (leR (decide (a.getD i.toNat 0<b.getD i.toNat 0)),[])
   | .exit _=>some (leX,[])
   | _=>none }
def saArgs (p q:Bool) (a b:List Int):List AV:=[.agg [.bool true p,.lslice 0 a.length],.agg [.bool true q,.lslice 1 b.length]]
def cSa (d:Bool):Ctx:=hinting cL (hintsT [(19,.bool false d)])
theorem cSa_ok (d:Bool):CtxOk (cSa d):=hinting_ok cL_ok _
noncomputable def saS (p q:Bool) (a b:List Int):St:=stAt (cSa false) 300 82 (saArgs p q a b) (leH a b)
def saFr:AFr:=⟨82,none⟩
def saA:Code:=loopOf Tryz.prog 82 0
def saP (i:Int):Patch:=⟨(5,.int true .i64 i) :: deadT 20 18,[],[]⟩
def saR:Patch:=⟨(4,.bool true false) :: (5,.any false) :: deadT 20 18,[],[]⟩
def saX:Patch:=⟨(5,.any false) :: deadT 20 18,[],[]⟩
def saU (a b:List Int):SumL Int:=
 {
  S:=saP
  I:=fun i=>0<=i/\i<=a.length
  μ:=fun i=>(a.length - i).toNat
  F:=fun i=>bif difI a b i then (.ret,saR) else (.exit 0,saX)
  next:=fun i=>IntKind.i64.wrap (i+1)
  ids:=fun _=>[]
  X:=fun i x=>match x with
   | .ret=>some (saR,[])
   | .exit _=>some (saX,[])
   | _=>none }
def riArgs (p:Bool) (a:List Int):List AV:=[.agg [.bool true p,.lslice 0 a.length]]
def riH (a:List Int):Hp:=viewsH true hG0 [(.i64,a)]
def cRi (z:Bool):Ctx:=hinting cL (hintsT [(7,.bool false z),(10,.bool false true),(46,.bool false true)])
theorem cRi_ok (z:Bool):CtxOk (cRi z):=hinting_ok cL_ok _
noncomputable def riS (p:Bool) (a:List Int):St:=stAt (cRi false) 300 81 (riArgs p a) (riH a)
def riFr:AFr:=⟨81,none⟩
def riA:Code:=loopOf Tryz.prog 81 0
def riP (i:Int):Patch:=⟨(3,.int true .i64 i) :: deadT 11 21,[],[]⟩
def riU (a:List Int):SumL Int:=
 {
  S:=riP
  I:=fun i=>0<=i/\i<=a.length
  μ:=fun i=>(a.length - i).toNat
  F:=fun _=>(.exit 0,riP a.length)
  next:=fun i=>IntKind.i64.wrap (i+1)
  ids:=fun _=>[]
  X:=fun i x=>match x with
   | .exit _=>some (riP i,[])
   | .ret=>some (⟨(2,.any false) :: (3,.any false) :: deadT 11 21,[],[]⟩,[])
   | _=>none }
end
end Go.Proofs.YtkbndjnibcjchaaGreatDoor.K
namespace Go.Proofs.YtkbndjnibcjchaaGreatDoor.K
open Go Go.Eng Go.Dg
noncomputable section
def le_start_nd (a b:List Int):Prop:=IntKind.i64.wrap ((↑a.length:Int) - (1:Int))=IntKind.i64.wrap ((↑a.length:Int) - (1:Int))
theorem le_start (a b:List Int):fit (leS a b) (leS a b) (patch (leS a b) ((leU a b).S (IntKind.i64.wrap ((a.length:Int) - 1)))) ([])=some (.p (le_start_nd a b)):=by kernel_rfl
def le_body_nd (a b:List Int) (i:Int):Prop:=(decide (i>=(0:Int))=true->(((0:Int)<=i/\i<(↑a.length:Int))/\i.toNat<a.length/\((0:Int)<=i/\i<(↑b.length:Int))/\i.toNat<b.length)/\((a.getD i.toNat (0:Int) != b.getD i.toNat (0:Int))=true->((0:Int)<=i/\i<(↑a.length:Int))/\i.toNat<a.length/\((0:Int)<=i/\i<(↑b.length:Int))/\i.toNat<b.length))/\((!decide (i>=(0:Int)))=true->(leU a b).F i=(Ex.exit (0:Nat),leX))/\((decide (i>=(0:Int))&&!a.getD i.toNat (0:Int) != b.getD i.toNat (0:Int))=true->IntKind.i64.wrap (i - (1:Int))=(leU a b).next i/\(leU a b).I ((leU a b).next i)/\(leU a b).μ ((leU a b).next i)<(leU a b).μ i/\(leU a b).F ((leU a b).next i)=(leU a b).F i)/\((decide (i>=(0:Int))&&a.getD i.toNat (0:Int) != b.getD i.toNat (0:Int))=true->decide (a.getD i.toNat (0:Int)<b.getD i.toNat (0:Int))=decide (a.getD i.toNat (0:Int)<b.getD i.toNat (0:Int))/\(leU a b).F i=(Ex.ret,leR (decide (a.getD i.toNat (0:Int)<b.getD i.toNat (0:Int)))))
theorem le_body (a b:List Int) (i:Int):chkR (leS a b) ((leU a b).way (i)) ((run (cLe false) 300).code leFr leA (patch (leS a b) ((leU a b).S i)))=some (.p (le_body_nd a b i)):=by kernel_rfl
def sa_start_nd (p q:Bool) (a b:List Int):Prop:=(0:Int)=(0:Int)
theorem sa_start (p q:Bool) (a b:List Int):fit (saS p q a b) (saS p q a b) (patch (saS p q a b) ((saU a b).S 0)) ([])=some (.p (sa_start_nd p q a b)):=by kernel_rfl
def sa_body_nd (p q:Bool) (a b:List Int) (i:Int):Prop:=(decide (i<(↑a.length:Int))=true->((0:Int)<=i/\i<(↑a.length:Int))/\i.toNat<a.length/\((0:Int)<=i/\i<(↑b.length:Int))/\i.toNat<b.length)/\((!decide (i<(↑a.length:Int)))=true->(saU a b).F i=(Ex.exit (0:Nat),saX))/\((decide (i<(↑a.length:Int))&&!a.getD i.toNat (0:Int) != b.getD i.toNat (0:Int))=true->IntKind.i64.wrap (i+(1:Int))=(saU a b).next i/\(saU a b).I ((saU a b).next i)/\(saU a b).μ ((saU a b).next i)<(saU a b).μ i/\(saU a b).F ((saU a b).next i)=(saU a b).F i)/\((decide (i<(↑a.length:Int))&&a.getD i.toNat (0:Int) != b.getD i.toNat (0:Int))=true->false=false/\(saU a b).F i=(Ex.ret,saR))
theorem sa_body (p q:Bool) (a b:List Int) (i:Int):chkR (saS p q a b) ((saU a b).way (i)) ((run (cSa false) 300).code saFr saA (patch (saS p q a b) ((saU a b).S i)))=some (.p (sa_body_nd p q a b i)):=by kernel_rfl
def ri_start_nd (p:Bool) (a:List Int):Prop:=(0:Int)=(0:Int)
theorem ri_start (p:Bool) (a:List Int):fit (riS p a) (riS p a) (patch (riS p a) ((riU a).S 0)) ([])=some (.p (ri_start_nd p a)):=by kernel_rfl
def ri_body_nd (p:Bool) (a:List Int) (i:Int):Prop:=(decide (i<(↑a.length:Int))=true->((0:Int)<=i/\i<(↑a.length:Int))/\i.toNat<a.length/\(decide (a.getD i.toNat (0:Int)<(0:Int))=false->((0:Int)<=i/\i<(↑a.length:Int))/\i.toNat<a.length))/\((!decide (i<(↑a.length:Int)))=true->i=i/\(riU a).F i=(Ex.exit (0:Nat),riP i))/\((decide (i<(↑a.length:Int))&&!bif decide (a.getD i.toNat (0:Int)<(0:Int)) then true else decide (a.getD i.toNat (0:Int)>=(1000000000:Int)))=true->IntKind.i64.wrap (i+(1:Int))=(riU a).next i/\(riU a).I ((riU a).next i)/\(riU a).μ ((riU a).next i)<(riU a).μ i/\(riU a).F ((riU a).next i)=(riU a).F i)/\((decide (i<(↑a.length:Int))&&bif decide (a.getD i.toNat (0:Int)<(0:Int)) then true else decide (a.getD i.toNat (0:Int)>=(1000000000:Int)))=true->(riU a).F i=(Ex.ret,{ tm:=((2:Nat),AV.any false) :: ((3:Nat),AV.any false) :: deadT (11:Nat) (21:Nat),old:=[],new:=[] }))
theorem ri_body (p:Bool) (a:List Int) (i:Int):chkR (riS p a) ((riU a).way (i)) ((run (cRi false) 300).code riFr riA (patch (riS p a) ((riU a).S i)))=some (.p (ri_body_nd p a i)):=by kernel_rfl
end
end Go.Proofs.YtkbndjnibcjchaaGreatDoor.K
namespace Go.Proofs.YtkbndjnibcjchaaGreatDoor.K
open Go Go.Eng Go.Dg
noncomputable section
theorem le_loop (a b:List Int) (hs:Sm a) (hl:a.length=b.length):CodeOk (cLe false) leFr (.loop leA) (leS a b) ⟨.tt,[⟨.b (fndI a b (a.length - 1)),.ret,patch (leS a b) (leR (lesI a b (a.length - 1)))⟩,⟨.b (!fndI a b (a.length - 1)),.exit 0,patch (leS a b) leX⟩]⟩:=by
 have hs:=hs.le
 have e0:IntKind.i64.wrap ((a.length:Int) - 1)=a.length - 1:=iw (by omega) (by omega)
 refine sumL_two (run_sound (cLe_ok false) 300) (leU a b) (y0:=IntKind.i64.wrap ((a.length:Int) - 1)) (by rw [e0]; exact ⟨by omega,by omega⟩) ⟨_,le_start a b,rfl⟩ (by kernel_rfl) (fun i hi=>⟨_,le_body a b i,?_⟩) (by rw [e0]; rfl)
 obtain ⟨i0,i1⟩:=(show -1<=i/\i<a.length from hi)
 refine ⟨fun h=>?_,fun h=>?_,fun h=>?_,fun h=>?_⟩
 .have h:=dt.1 h; exact ⟨by omega,fun _=>by omega⟩
 .have h:=ndt.1 h
  have:i=-1:=by omega
  subst this; rfl
 .obtain ⟨h0,h⟩:=and_t.1 h
  have h:=nbne.1 h
  have e:IntKind.i64.wrap (i - 1)=i - 1:=iw (by omega) (by omega)
  refine ⟨rfl,?_,?_,?_⟩
  .show -1<=IntKind.i64.wrap (i - 1)/\IntKind.i64.wrap (i - 1)<a.length
   rw [e]; omega
  .show (IntKind.i64.wrap (i - 1)+1).toNat<(i+1).toNat
   rw [e]; omega
  .show (bif fndI a b (IntKind.i64.wrap (i - 1)) then (Ex.ret,leR (lesI a b (IntKind.i64.wrap (i - 1)))) else (.exit 0,leX))=bif fndI a b i then (Ex.ret,leR (lesI a b i)) else (.exit 0,leX)
   rw [e,fnd_step h0,les_step h0,if_pos h,if_pos h]
 .obtain ⟨h0,h⟩:=and_t.1 h
  have h:=bne_t.1 h
  refine ⟨rfl,?_⟩
  show (bif fndI a b i then (Ex.ret,leR (lesI a b i)) else (.exit 0,leX))=_
  rw [fnd_step h0,les_step h0,if_neg h,if_neg h]; rfl
theorem sa_loop (p q:Bool) (a b:List Int) (hs:Sm a) (hl:a.length=b.length):CodeOk (cSa false) saFr (.loop saA) (saS p q a b) ⟨.tt,[⟨.b (difI a b 0),.ret,patch (saS p q a b) saR⟩,⟨.b (!difI a b 0),.exit 0,patch (saS p q a b) saX⟩]⟩:=by
 have hs:=hs.le
 refine sumL_two (run_sound (cSa_ok false) 300) (saU a b) (y0:=0) ⟨by omega,by omega⟩ ⟨_,sa_start p q a b,rfl⟩ (by kernel_rfl) (fun i hi=>⟨_,sa_body p q a b i,?_⟩) rfl
 obtain ⟨i0,i1⟩:=(show 0<=i/\i<=a.length from hi)
 refine ⟨fun h=>?_,fun h=>?_,fun h=>?_,fun h=>?_⟩
 .have h:=dt.1 h; omega
 .have h:=ndt.1 h
  have:i=a.length:=by omega
  show (bif difI a b i then (Ex.ret,saR) else (.exit 0,saX))=_
  unfold difI
  rw [show (a.length - i).toNat=0 by omega]; rfl
 .obtain ⟨h0,h⟩:=and_t.1 h
  have h:=nbne.1 h
  have e:IntKind.i64.wrap (i+1)=i+1:=iw (by omega) (by omega)
  refine ⟨rfl,?_,?_,?_⟩
  .show 0<=IntKind.i64.wrap (i+1)/\IntKind.i64.wrap (i+1)<=a.length
   rw [e]; omega
  .show (a.length - IntKind.i64.wrap (i+1)).toNat<(a.length - i).toNat
   rw [e]; omega
  .show (bif difI a b (IntKind.i64.wrap (i+1)) then (Ex.ret,saR) else (.exit 0,saX))=bif difI a b i then (Ex.ret,saR) else (.exit 0,saX)
   rw [e,dif_step i0 h0,if_pos h]
 .obtain ⟨h0,h⟩:=and_t.1 h
  have h:=bne_t.1 h
  refine ⟨rfl,?_⟩
  show (bif difI a b i then (Ex.ret,saR) else (.exit 0,saX))=_
  rw [dif_step i0 h0,if_neg h]; rfl
theorem ri_loop (p:Bool) (a:List Int) (hs:Sm a) (hd:Dig a):CodeOk (cRi false) riFr (.loop riA) (riS p a) ⟨.tt,[⟨.tt,.exit 0,patch (riS p a) (riP a.length)⟩]⟩:=by
 have hs:=hs.le
 refine sumL_one (run_sound (cRi_ok false) 300) (riU a) (y0:=0) ⟨by omega,by omega⟩ ⟨_,ri_start p a,rfl⟩ (by kernel_rfl) (fun i hi=>⟨_,ri_body p a i,?_⟩) rfl
 obtain ⟨i0,i1⟩:=(show 0<=i/\i<=a.length from hi)
 have hg:=hd.get i.toNat
 refine ⟨fun h=>?_,fun h=>?_,fun h=>?_,fun h=>?_⟩
 .have h:=dt.1 h; refine ⟨by omega,by omega,fun _=>by omega⟩
 .have h:=ndt.1 h
  have:i=a.length:=by omega
  subst this; exact ⟨rfl,rfl⟩
 .obtain ⟨h0,h⟩:=and_t.1 h
  have e:IntKind.i64.wrap (i+1)=i+1:=iw (by omega) (by omega)
  refine ⟨rfl,?_,?_,rfl⟩
  .show 0<=IntKind.i64.wrap (i+1)/\IntKind.i64.wrap (i+1)<=a.length
   rw [e]; omega
  .show (a.length - IntKind.i64.wrap (i+1)).toNat<(a.length - i).toNat
   rw [e]; omega
 .obtain ⟨h0,h⟩:=and_t.1 h
  have h:=bo.1 h
  rcases h with h|h
  .omega
  .have:=dt.1 h; omega
noncomputable def cLeL (a b:List Int):Ctx:=withLoops (cLe false) [twoLoop 84 (leS a b).hp.clock leFr leA (leS a b) (fndI a b (a.length - 1)) .ret (leR (lesI a b (a.length - 1))) (.exit 0) leX]
theorem cLeL_ok (a b:List Int) (hs:Sm a) (hl:a.length=b.length):CtxOk (cLeL a b):=withTwo_ok (cLe_ok false) (le_loop a b hs hl) (withNone_ok (cLe_ok false))
noncomputable def cSaL (p q:Bool) (a b:List Int):Ctx:=withLoops (cSa false) [twoLoop 82 (saS p q a b).hp.clock saFr saA (saS p q a b) (difI a b 0) .ret saR (.exit 0) saX]
theorem cSaL_ok (p q:Bool) (a b:List Int) (hs:Sm a) (hl:a.length=b.length):CtxOk (cSaL p q a b):=withTwo_ok (cSa_ok false) (sa_loop p q a b hs hl) (withNone_ok (cSa_ok false))
noncomputable def cRiL (p:Bool) (a:List Int):Ctx:=withLoops (cRi false) [oneLoop 81 (riS p a).hp.clock riFr riA (riS p a) (.exit 0) (riP a.length)]
theorem cRiL_ok (p:Bool) (a:List Int) (hs:Sm a) (hd:Dig a):CtxOk (cRiL p a):=withLoop_ok (cRi_ok false) (ri_loop p a hs hd) (withNone_ok (cRi_ok false))
end
end Go.Proofs.YtkbndjnibcjchaaGreatDoor.K
namespace Go.Proofs.YtkbndjnibcjchaaGreatDoor.K
open Go Go.Eng Go.Dg
noncomputable section
def le_eq_nd (a b:List Int):Prop:=(((↑a.length:Int) != (↑b.length:Int))=false/\At (leFr) (leFr) (leA) (leA) (leS a b) (leS a b))
def le_eq_v (a b:List Int):AV:=(AV.bool true (bif !fndI a b ((↑a.length:Int) - (1:Int)) then false else lesI a b ((↑a.length:Int) - (1:Int))))
def le_eq_h (a b:List Int):Hp:=⟨[{ wr:=(0:Nat),body:=ABody.rows IntKind.i64 b },{ wr:=(0:Nat),body:=ABody.rows IntKind.i64 a }],2,15⟩
theorem le_eq (a b:List Int):(run (cLeL a b) 300).call 84 (leArgs a b) (leH a b)=some ⟨.p (le_eq_nd a b),[⟨.tt,le_eq_v a b,le_eq_h a b⟩]⟩:=by kernel_rfl
def le_ne_nd (a b:List Int):Prop:=(((↑a.length:Int) != (↑b.length:Int))=true)
def le_ne_v (a b:List Int):AV:=(AV.bool true (decide ((↑a.length:Int)<(↑b.length:Int))))
def le_ne_h (a b:List Int):Hp:=⟨[{ wr:=(0:Nat),body:=ABody.rows IntKind.i64 b },{ wr:=(0:Nat),body:=ABody.rows IntKind.i64 a }],2,14⟩
theorem le_ne (a b:List Int):(run (cLe true) 300).call 84 (leArgs a b) (leH a b)=some ⟨.p (le_ne_nd a b),[⟨.tt,le_ne_v a b,le_ne_h a b⟩]⟩:=by kernel_rfl
def sa_eq_nd (p q:Bool) (a b:List Int):Prop:=((((!p==q)=true->true=false)/\((!p==q)=false->((↑a.length:Int) != (↑b.length:Int))=false))/\At (saFr) (saFr) (saA) (saA) (saS p q a b) (saS p q a b))
def sa_eq_v (p q:Bool) (a b:List Int):AV:=(AV.bool true (bif !difI a b (0:Int) then true else false))
def sa_eq_h (p q:Bool) (a b:List Int):Hp:=⟨[{ wr:=(0:Nat),body:=ABody.rows IntKind.i64 b },{ wr:=(0:Nat),body:=ABody.rows IntKind.i64 a }],2,23⟩
theorem sa_eq (p q:Bool) (a b:List Int):(run (cSaL p q a b) 300).call 82 (saArgs p q a b) (leH a b)=some ⟨.p (sa_eq_nd p q a b),[⟨.tt,sa_eq_v p q a b,sa_eq_h p q a b⟩]⟩:=by kernel_rfl
def sa_ne_nd (p q:Bool) (a b:List Int):Prop:=(((!p==q)=true->true=true)/\((!p==q)=false->((↑a.length:Int) != (↑b.length:Int))=true))
def sa_ne_v (p q:Bool) (a b:List Int):AV:=(AV.bool false false)
def sa_ne_h (p q:Bool) (a b:List Int):Hp:=⟨[{ wr:=(0:Nat),body:=ABody.rows IntKind.i64 b },{ wr:=(0:Nat),body:=ABody.rows IntKind.i64 a }],2,20⟩
theorem sa_ne (p q:Bool) (a b:List Int):(run (cSa true) 300).call 82 (saArgs p q a b) (leH a b)=some ⟨.p (sa_ne_nd p q a b),[⟨.tt,sa_ne_v p q a b,sa_ne_h p q a b⟩]⟩:=by kernel_rfl
def ri_t_nd (p:Bool) (a:List Int):Prop:=(((↑a.length:Int)==(0:Int))=false/\At (riFr) (riFr) (riA) (riA) (riS p a) (riS p a)/\(decide ((↑a.length:Int)<=(600:Int))=true->((0:Int)<=IntKind.i64.wrap ((↑a.length:Int) - (1:Int))/\IntKind.i64.wrap ((↑a.length:Int) - (1:Int))<(↑a.length:Int))/\(IntKind.i64.wrap ((↑a.length:Int) - (1:Int))).toNat<a.length/\(a.getD (IntKind.i64.wrap ((↑a.length:Int) - (1:Int))).toNat (0:Int) != (0:Int))=true)/\(decide ((↑a.length:Int)<=(600:Int))=false->false=true))
def ri_t_v (p:Bool) (a:List Int):AV:=(AV.bool false true)
def ri_t_h (p:Bool) (a:List Int):Hp:=⟨[{ wr:=(0:Nat),body:=ABody.rows IntKind.i64 a }],1,27⟩
theorem ri_t (p:Bool) (a:List Int):(run (cRiL p a) 300).call 81 (riArgs p a) (riH a)=some ⟨.p (ri_t_nd p a),[⟨.tt,ri_t_v p a,ri_t_h p a⟩]⟩:=by kernel_rfl
def ri_z_nd (p:Bool) (a:List Int):Prop:=(((↑a.length:Int)==(0:Int))=true/\(!p)=true)
def ri_z_v (p:Bool) (a:List Int):AV:=(AV.bool false true)
def ri_z_h (p:Bool) (a:List Int):Hp:=⟨[{ wr:=(0:Nat),body:=ABody.rows IntKind.i64 a }],1,12⟩
theorem ri_z (p:Bool) (a:List Int):(run (cRi true) 300).call 81 (riArgs p a) (riH a)=some ⟨.p (ri_z_nd p a),[⟨.tt,ri_z_v p a,ri_z_h p a⟩]⟩:=by kernel_rfl
end
end Go.Proofs.YtkbndjnibcjchaaGreatDoor.K
namespace Go.Dg
open Go.Eng
def okL (neg:Bool) (d:List Int):Prop:=Dig d/\Top d/\(neg=true->d≠[])/\Sm d
def zv (neg:Bool) (d:List Int):Int:=bif neg then -val d else val d
def lgT (own:Bool) (z:Int):To:=.st [.bo (decide (z<0)),.li own (digs z.natAbs)]
theorem okL.val_pos {neg:Bool} {d:List Int} (h:okL neg d) (hn:neg=true):0<val d:=by
 have h1:=val_nonneg h.1
 have h2:=val_ne h.1 h.2.1 (h.2.2.1 hn)
 omega
theorem okL.neg_eq {neg:Bool} {d:List Int} (h:okL neg d):neg=decide (zv neg d<0):=by
 cases neg with
 | true=>have:=h.val_pos rfl; exact (decide_eq_true (show -val d<0 by omega)).symm
 | false=>have:=val_nonneg h.1; exact (decide_eq_false (show ¬ val d<0 by omega)).symm
theorem okL.digs_eq {neg:Bool} {d:List Int} (h:okL neg d):digs (zv neg d).natAbs=d:=by
 have h0:=val_nonneg h.1
 have e:(zv neg d).natAbs=(val d).toNat:=by
  cases neg <;> simp [zv] <;> omega
 rw [e,digs_val h.1 h.2.1]
theorem okL.nil {neg:Bool} {d:List Int} (h:okL neg d):d=[] ↔ zv neg d=0:=by
 constructor
 .rintro rfl; cases neg <;> rfl
 .intro e
  rw [<- h.digs_eq,e]; exact digs_zero
theorem sm_digs {n:Nat} (h:(n:Int)<pw 500000):Sm (digs n):=by
 rcases Nat.lt_or_ge 500000 (digs n).length with h1|h1
 .have:=val_ge (dig_digs n) (top_digs n) (by intro e; rw [e] at h1; simp at h1)
  rw [val_digs] at this
  have:=pw_mono (show 500000<=(digs n).length - 1 by omega)
  omega
 .exact h1
theorem okL_digs {z:Int} (h:(z.natAbs:Int)<pw 500000):okL (decide (z<0)) (digs z.natAbs):=by
 refine ⟨dig_digs _,top_digs _,fun hn=>?_,sm_digs h⟩
 intro e
 have:=digs_nil.1 e
 have:=of_decide_eq_true hn
 omega
theorem zv_digs (z:Int):zv (decide (z<0)) (digs z.natAbs)=z:=by
 unfold zv
 rw [val_digs]
 by_cases h:z<0
 .rw [decide_eq_true h]; simp only [cond_true]; omega
 .rw [decide_eq_false h]; simp only [cond_false]; omega
theorem len_digs {n k:Nat} (h:(n:Int)<pw k):(digs n).length<=k:=by
 rcases Nat.lt_or_ge k (digs n).length with h1|h1
 .have:=val_ge (dig_digs n) (top_digs n) (by intro e; rw [e] at h1; simp at h1)
  rw [val_digs] at this
  have:=pw_mono (show k<=(digs n).length - 1 by omega)
  omega
 .exact h1
end Go.Dg
namespace Go.Proofs.YtkbndjnibcjchaaGreatDoor.K
open Go Go.Eng Go.Dg
noncomputable section
def leV:List Nu->List (List Int)->Option (Prop×To)
 | [],[a,b]=>some (Sm a/\Sm b,.bo (lessL a b))
 | _,_=>none
theorem less_ok:NOk Tryz.prog (fun _=>none) hG0 84 (mSpec hG0 .i64 [.li,.li] leV):=by
 refine msp_ok (show hG0.ok from rfl) rfl (fun _ _ h=>by cases h) (fun xs ys p t e h=>?_) ⟨_,Tryz.func84,rfl⟩
 unfold leV at e
 split at e
 .rename_i a b
  cases e
  obtain ⟨ha,hb⟩:=h
  by_cases hl:a.length=b.length
  .refine ⟨cLeL a b,300,leArgs a b,_,_,_,_,_,cLeL_ok a b ha hl,rfl,rfl,⟨rfl,rfl,trivial⟩,le_eq a b,rfl,⟨?_,rfl,rfl,rfl⟩,rfl,rfl,?_⟩
   .rw [hl]; exact bne_f.2 rfl
   .show (bif !fndI a b ((a.length:Int) - 1) then false else lesI a b ((a.length:Int) - 1))=lessL a b
    unfold lessL fndI lesI
    rw [if_pos hl,show ((a.length:Int) - 1+1).toNat=a.length by omega]
    cases e:fndB a b a.length with
    | true=>rfl
    | false=>rw [fnd_lt _ e]; rfl
  .refine ⟨cLe true,300,leArgs a b,_,_,_,_,_,cLe_ok true,rfl,rfl,⟨rfl,rfl,trivial⟩,le_ne a b,rfl,?_,rfl,rfl,?_⟩
   .exact bne_t.2 (by omega)
   .show decide ((a.length:Int)<b.length)=lessL a b
    unfold lessL
    rw [if_neg hl]
    simp
 .cases e
def saV:List Nu->List (List Int)->Option (Prop×To)
 | [.t p,.t q],[a,b]=>some (Sm a/\Sm b,.bo (decide (p=q/\a=b)))
 | _,_=>none
theorem same_ok:NOk Tryz.prog (fun _=>none) hG0 82 (mSpec hG0 .i64 [.st [.nu .b,.li],.st [.nu .b,.li]] saV):=by
 refine msp_ok (show hG0.ok from rfl) rfl (fun _ _ h=>by cases h) (fun xs ys p t e h=>?_) ⟨_,Tryz.func82,rfl⟩
 unfold saV at e
 split at e
 .rename_i p q a b
  cases e
  obtain ⟨ha,hb⟩:=h
  by_cases hl:p=q/\a.length=b.length
  .obtain ⟨rfl,hl⟩:=hl
   refine ⟨cSaL p p a b,300,saArgs p p a b,_,_,_,_,_,cSaL_ok p p a b ha hl,rfl,rfl,⟨⟨rfl,rfl,trivial⟩,⟨rfl,rfl,trivial⟩,trivial⟩,sa_eq p p a b,rfl,⟨⟨fun h=>?_,fun _=>?_⟩,rfl,rfl,rfl⟩,rfl,rfl,?_⟩
   .simp at h
   .rw [hl]; exact bne_f.2 rfl
   .show (bif !difI a b 0 then true else false)=decide (p=p/\a=b)
    have:=dif_iff (a:=a) (b:=b) hl
    cases e:difI a b 0 with
    | true=>
     rw [e] at this
     have hne:a≠b:=fun h=>by have:=this.2 h; cases this
     simp [hne]
    | false=>simp [this.1 e]
  .refine ⟨cSa true,300,saArgs p q a b,_,_,_,_,_,cSa_ok true,rfl,rfl,⟨⟨rfl,rfl,trivial⟩,⟨rfl,rfl,trivial⟩,trivial⟩,sa_ne p q a b,rfl,⟨fun _=>rfl,fun h=>?_⟩,rfl,rfl,?_⟩
   .have h:p=q:=by simpa using h
    exact bne_t.2 (fun e=>hl ⟨h,by omega⟩)
   .show false=decide (p=q/\a=b)
    symm
    rw [decide_eq_false_iff_not]
    rintro ⟨h1,rfl⟩
    exact hl ⟨h1,rfl⟩
 .cases e
def riV:List Nu->List (List Int)->Option (Prop×To)
 | [.t p],[a]=>some (okL p a/\a.length<=600,.pb true)
 | _,_=>none
theorem right_ok:NOk Tryz.prog (fun _=>none) hG0 81 (mSpec hG0 .i64 [.st [.nu .b,.li]] riV):=by
 refine msp_ok (show hG0.ok from rfl) rfl (fun _ _ h=>by cases h) (fun xs ys p t e h=>?_) ⟨_,Tryz.func81,rfl⟩
 unfold riV at e
 split at e
 .rename_i p a
  cases e
  obtain ⟨⟨hd,ht,hn,hs⟩,hl⟩:=h
  by_cases h0:a=[]
  .subst h0
   refine ⟨cRi true,300,riArgs p [],_,_,_,_,_,cRi_ok true,rfl,rfl,⟨⟨rfl,rfl,trivial⟩,trivial⟩,ri_z p [],rfl,⟨eb.2 rfl,?_⟩,rfl,rfl,rfl⟩
   cases p with
   | true=>exact absurd rfl (hn rfl)
   | false=>rfl
  .have hpos:0<a.length:=List.length_pos_iff.2 h0
   refine ⟨cRiL p a,300,riArgs p a,_,_,_,_,_,cRiL_ok p a hs hd,rfl,rfl,⟨⟨rfl,rfl,trivial⟩,trivial⟩,ri_t p a,rfl,⟨neb.2 (by omega),⟨rfl,rfl,rfl⟩,fun _=>?_,fun h=>?_⟩,rfl,rfl,rfl⟩
   .rw [iw (by omega) (by omega)]
    refine ⟨by omega,by omega,bne_t.2 ?_⟩
    rw [show ((a.length:Int) - 1).toNat=a.length - 1 by omega]
    rcases ht with h|h
    .exact absurd h h0
    .exact h
   .have:=of_decide_eq_false h; omega
 .cases e
end
end Go.Proofs.YtkbndjnibcjchaaGreatDoor.K
namespace Go.Dg
open Go Go.Eng
def ofD (m:Int):Int:=bif decide (m.tmod 1000000000<0) then IntKind.i64.wrap (0 - m.tmod 1000000000) else m.tmod 1000000000
theorem ofD_eq (m:Int):ofD m=(m.natAbs % 1000000000:Nat):=by
 have h:=Int.natAbs_tmod m 1000000000
 have h3:m.natAbs % 1000000000<1000000000:=Nat.mod_lt _ (by decide)
 have e:(1000000000:Int).natAbs=1000000000:=rfl
 rw [e] at h
 unfold ofD
 by_cases h0:m.tmod 1000000000<0
 .rw [decide_eq_true h0,cond_true,iw (by omega) (by omega)]; omega
 .rw [decide_eq_false h0,cond_false]; omega
theorem of_q (m:Int) (h:m.natAbs<=9223372036854775808):IntKind.i64.wrap (m.tdiv 1000000000)=m.tdiv 1000000000/\(m.tdiv 1000000000).natAbs=m.natAbs / 1000000000:=by
 have h2:(m.tdiv 1000000000).natAbs=m.natAbs / 1000000000:=Int.natAbs_tdiv m 1000000000
 exact ⟨iw (by omega) (by omega),h2⟩
def ofI (n:Int) (m:Int) (ds:List Int):Prop:=ds≠[]/\Dig ds/\val ds+pw ds.length*m.natAbs=n.natAbs/\(m=0->Top ds)/\m.natAbs<=9223372036854775808
theorem top_app {l:List Int} {x:Int} (h:x≠0):Top (l++[x]):=by
 right
 simpa [List.getD_eq_getElem?_getD] using h
theorem of_first {n:Int} (h:n≠0) (hb:n.natAbs<=9223372036854775808):ofI n (n.tdiv 1000000000) [ofD n]:=by
 obtain ⟨_,h2⟩:=of_q n hb
 have h1:=ofD_eq n
 refine ⟨by simp,dig_cons.2 ⟨by rw [h1]; omega,dig_nil⟩,?_,fun h0=>?_,by omega⟩
 .rw [h2,h1]; simp only [val,pw,List.length_cons,List.length_nil]; omega
 .rw [h0] at h2
  refine top_app (l:=[]) ?_
  rw [h1]
  have:(0:Int).natAbs=0:=rfl
  omega
theorem of_step {n m:Int} {ds:List Int} (h:m≠0) (hI:ofI n m ds):ofI n (m.tdiv 1000000000) (ds++[ofD m]):=by
 obtain ⟨i1,i2,i3,i4,i5⟩:=hI
 obtain ⟨_,h2⟩:=of_q m i5
 have h1:=ofD_eq m
 refine ⟨by simp,dig_app.2 ⟨i2,dig_cons.2 ⟨by rw [h1]; omega,dig_nil⟩⟩,?_,fun h0=>?_,by omega⟩
 .rw [val_app,h2,h1,List.length_append,<- i3]
  simp only [val,List.length_cons,List.length_nil,Nat.zero_add]
  have e:(m.natAbs:Int)=((m.natAbs % 1000000000:Nat):Int)+(1000000000:Int)*((m.natAbs / 1000000000:Nat):Int):=by omega
  have e2:pw ds.length*(m.natAbs:Int)=pw ds.length*((m.natAbs % 1000000000:Nat):Int)+(1000000000:Int)*pw ds.length*((m.natAbs / 1000000000:Nat):Int):=by
   conv=>lhs; rw [e]
   rw [Int.mul_add,<- Int.mul_assoc,Int.mul_comm (pw ds.length) (1000000000:Int)]
  rw [show pw (ds.length+1)=(1000000000:Int)*pw ds.length from rfl,e2]
  simp only [Int.mul_zero,Int.add_zero]
  omega
 .rw [h0] at h2
  refine top_app ?_
  rw [h1]
  have:(0:Int).natAbs=0:=rfl
  omega
theorem of_end {n:Int} {ds:List Int} (hI:ofI n 0 ds):ds=digs n.natAbs:=by
 obtain ⟨i1,i2,i3,i4,_⟩:=hI
 have:val ds=n.natAbs:=by rw [<- i3]; simp
 rw [<- digs_val i2 (i4 rfl),this]
 congr 1
theorem of_len {n m:Int} {ds:List Int} (h:m≠0) (hI:ofI n m ds) (hn:n.natAbs<=9223372036854775808):ds.length<8:=by
 obtain ⟨i1,i2,i3,i4,_⟩:=hI
 have h1:=val_nonneg i2
 have h2:pw ds.length*1<=pw ds.length*m.natAbs:=Int.mul_le_mul_of_nonneg_left (by omega) (Int.le_of_lt (pw_pos _))
 have h3:pw 8=1000000000000000000000000000000000000000000000000000000000000000000000000:=by decide
 exact pw_lt (by omega)
def suD (a b:List Int) (i c:Int):Int:=IntKind.i64.wrap (IntKind.i64.wrap ((bif decide (i<a.length) then a.getD i.toNat 0 else 0)+(bif decide (i<b.length) then b.getD i.toNat 0 else 0))+c)
theorem at_eq {a:List Int} {i:Int} (h:0<=i):(bif decide (i<a.length) then a.getD i.toNat 0 else 0)=a.getD i.toNat 0:=by
 by_cases h0:i<a.length
 .rw [decide_eq_true h0]; rfl
 .rw [decide_eq_false h0,getD_ge (by omega)]; rfl
theorem suD_eq {a b:List Int} (ha:Dig a) (hb:Dig b) {i c:Int} (hi:0<=i) (hc:0<=c/\c<=1):suD a b i c=a.getD i.toNat 0+b.getD i.toNat 0+c:=by
 have h1:=ha.get i.toNat
 have h2:=hb.get i.toNat
 unfold suD
 rw [at_eq hi,at_eq hi]
 have e1:IntKind.i64.wrap (a.getD i.toNat 0+b.getD i.toNat 0)=a.getD i.toNat 0+b.getD i.toNat 0:=iw (by omega) (by omega)
 rw [e1,iw (by omega) (by omega)]
def diD (a b:List Int) (i c:Int):Int:=IntKind.i64.wrap (IntKind.i64.wrap (a.getD i.toNat 0 - (bif decide (i<b.length) then b.getD i.toNat 0 else 0)) - c)
def diC (a b:List Int) (i c:Int):Int:=bif decide (diD a b i c<0) then 1 else 0
def diR (a b:List Int) (i c:Int):Int:=bif decide (diD a b i c<0) then IntKind.i64.wrap (diD a b i c+1000000000) else diD a b i c
theorem diD_eq {a b:List Int} (ha:Dig a) (hb:Dig b) {i c:Int} (hi:0<=i) (hc:0<=c/\c<=1):diD a b i c=a.getD i.toNat 0 - b.getD i.toNat 0 - c:=by
 have h1:=ha.get i.toNat
 have h2:=hb.get i.toNat
 unfold diD
 rw [at_eq hi]
 have e1:IntKind.i64.wrap (a.getD i.toNat 0 - b.getD i.toNat 0)=a.getD i.toNat 0 - b.getD i.toNat 0:=iw (by omega) (by omega)
 rw [e1,iw (by omega) (by omega)]
theorem diC_eq {a b:List Int} (ha:Dig a) (hb:Dig b) {i c:Int} (hi:0<=i) (hc:0<=c/\c<=1):diC a b i c=if a.getD i.toNat 0 - b.getD i.toNat 0 - c<0 then 1 else 0:=by
 unfold diC
 rw [diD_eq ha hb hi hc]
 by_cases h:a.getD i.toNat 0 - b.getD i.toNat 0 - c<0
 .rw [if_pos h,decide_eq_true h]; rfl
 .rw [if_neg h,decide_eq_false h]; rfl
theorem diR_eq {a b:List Int} (ha:Dig a) (hb:Dig b) {i c:Int} (hi:0<=i) (hc:0<=c/\c<=1):diR a b i c=if a.getD i.toNat 0 - b.getD i.toNat 0 - c<0 then a.getD i.toNat 0 - b.getD i.toNat 0 - c+1000000000 else a.getD i.toNat 0 - b.getD i.toNat 0 - c:=by
 have h1:=ha.get i.toNat
 have h2:=hb.get i.toNat
 unfold diR
 rw [diD_eq ha hb hi hc]
 by_cases h:a.getD i.toNat 0 - b.getD i.toNat 0 - c<0
 .rw [if_pos h,decide_eq_true h,cond_true,iw (by omega) (by omega)]
 .rw [if_neg h,decide_eq_false h]; rfl
end Go.Dg
namespace Go.Dg
open Go Go.Eng
theorem td (l:List Int):List.take (l.length:Int).toNat (List.drop (Int.toNat (0:Int)) l)=l:=by
 rw [show ((l.length:Int)).toNat=l.length by omega,show (Int.toNat (0:Int))=0 from rfl,List.drop_zero,List.take_length]
theorem lenp {l:List Int}:(0:Int)<=0/\(0:Int)<=(l.length:Int)/\(0:Int)+(l.length:Int)<=(l.length:Int):=by omega
end Go.Dg
namespace Go.Dg
theorem sgn_eq {p:Bool} {v z:Int} (h0:0<=v) (hz:z=bif p then -v else v):(p&&decide (v≠0))=decide (z<0):=by
 subst hz
 cases p with
 | false=>rw [Bool.false_and,cond_false]; exact (decide_eq_false (by omega)).symm
 | true=>rw [Bool.true_and,cond_true]; exact decide_eq_decide.2 (by omega)
theorem abs_eq {p:Bool} {v z:Int} (h0:0<=v) (hz:z=bif p then -v else v):v.toNat=z.natAbs:=by
 subst hz
 cases p with
 | false=>rw [cond_false]; omega
 | true=>rw [cond_true]; omega
end Go.Dg
namespace Go.Proofs.YtkbndjnibcjchaaGreatDoor.K
open Go Go.Eng Go.Dg
noncomputable section
def tL1:List (FuncId×NSpec):=[(85,mSpec hG0 .i64 [.nu .b,.li] mdV),(84,mSpec hG0 .i64 [.li,.li] leV),(82,mSpec hG0 .i64 [.st [.nu .b,.li],.st [.nu .b,.li]] saV),(81,mSpec hG0 .i64 [.st [.nu .b,.li]] riV)]
def cL1:Ctx:=mkN Tryz.prog (fun _=>none) hG0 tL1 [] noExt
theorem tL1_ok:∀ x∈tL1,NOk Tryz.prog (fun _=>none) hG0 x.1 x.2:=by
 intro x hx
 simp only [tL1,List.mem_cons,List.not_mem_nil,or_false] at hx
 rcases hx with rfl|rfl|rfl|rfl
 .exact made_ok
 .exact less_ok
 .exact same_ok
 .exact right_ok
theorem cL1_ok:CtxOk cL1:=mkN_ok prog_ok (noExt_ok _) tL1_ok (fun x h=>by cases h)
def ofArgs (n:Int):List AV:=[.int true .i64 n]
noncomputable def ofS (n:Int):St:=stAt cL1 300 56 (ofArgs n) hG0
def ofFr:AFr:=⟨56,none⟩
def ofA:Code:=loopOf Tryz.prog 56 0
def ofP (n:Int):Option (Int×List Int)->Patch
 | none=>⟨(0,.int true .i64 n) :: (5,.any false) :: deadT 8 14,[],[]⟩
 | some (m,ds)=>⟨(0,.int true .i64 m) :: (3,.islice true 1 0 ds.length) :: (5,.any false) :: deadT 8 14,[],[.ints .i64 ds]⟩
def ofX (ds:List Int):Patch:=⟨(0,.any false) :: (3,.islice true 1 0 ds.length) :: (5,.any false) :: deadT 8 14,[],[.ints .i64 ds]⟩
def ofU (n:Int):SumL (Option (Int×List Int)):=
 {
  S:=ofP n
  I:=fun y=>match y with
   | none=>n≠0
   | some (m,ds)=>ofI n m ds
  μ:=fun y=>match y with
   | none=>n.natAbs+1
   | some (m,_)=>m.natAbs
  F:=fun _=>(.exit 0,ofX (digs n.natAbs))
  next:=fun y=>match y with
   | none=>some (IntKind.i64.wrap (n.tdiv 1000000000),[ofD n])
   | some (m,ds)=>some (IntKind.i64.wrap (m.tdiv 1000000000),ds++[ofD m])
  ids:=fun y=>match y with
   | none=>[2]
   | some _=>[3]
  X:=fun y _=>match y with
   | none=>some (⟨(0,.any false) :: (5,.any false) :: deadT 8 14,[],[]⟩,[])
   | some (_,ds)=>some (ofX ds,[1]) }
def suArgs (p q:Bool) (a b:List Int):List AV:=saArgs p q a b
def cSu:Ctx:=hinting cL1 (hintsT [(12,.bool false false),(17,.bool false false),(23,.bool false false)])
theorem cSu_ok:CtxOk cSu:=hinting_ok cL1_ok _
noncomputable def suS (p q:Bool) (a b:List Int):St:=stAt cSu 300 87 (suArgs p q a b) (leH a b)
def suFr:AFr:=⟨87,none⟩
def suA:Code:=loopOf Tryz.prog 87 0
def suP:Option (Int×Int×List Int)->Patch
 | none=>⟨(8,.any false) :: deadT 28 36,[],[]⟩
 | some (i,c,ds)=>⟨(5,.islice true 5 0 ds.length) :: (6,.int true .i64 c) :: (7,.int true .i64 i) :: (8,.any false) :: deadT 28 36,[],[.ints .i64 ds]⟩
def suX (ds:List Int):Patch:=⟨(5,.islice true 5 0 ds.length) :: (6,.any false) :: (7,.any false) :: (8,.any false) :: deadT 28 36,[],[.ints .i64 ds]⟩
def suN (a b:List Int):Nat:=max a.length b.length+1
def suU (a b:List Int):SumL (Option (Int×Int×List Int)):=
 {
  S:=suP
  I:=fun y=>match y with
   | none=>0<a.length
   | some (i,c,ds)=>i=ds.length/\1<=i/\i<=suN a b/\0<=c/\c<=1/\(i=suN a b->c=0)
  μ:=fun y=>match y with
   | none=>suN a b+1
   | some (i,_,_)=>(suN a b - i).toNat
  F:=fun y=>(.exit 0,suX (match y with
   | none=>addL a b (suN a b) 0 0 []
   | some (i,c,ds)=>addL a b (suN a b - i).toNat i.toNat c ds))
  next:=fun y=>match y with
   | none=>some (IntKind.i64.wrap (0+1),IntKind.i64.wrap ((suD a b 0 0).tdiv 1000000000),[(suD a b 0 0).tmod 1000000000])
   | some (i,c,ds)=>some (IntKind.i64.wrap (i+1),IntKind.i64.wrap ((suD a b i c).tdiv 1000000000),ds++[(suD a b i c).tmod 1000000000])
  ids:=fun y=>match y with
   | none=>[6]
   | some _=>[7]
  X:=fun y _=>match y with
   | none=>some (⟨(5,.any false) :: (6,.any false) :: (7,.any false) :: (8,.any false) :: deadT 28 36,[],[]⟩,[])
   | some (_,_,ds)=>some (suX ds,[5]) }
def cDi:Ctx:=hinting cL1 (hintsT [(12,.bool false false),(18,.bool false false),(24,.bool false false),(33,.bool false false)])
theorem cDi_ok:CtxOk cDi:=hinting_ok cL1_ok _
noncomputable def diS (p q:Bool) (a b:List Int):St:=stAt cDi 300 104 (suArgs p q a b) (leH a b)
def diFr:AFr:=⟨104,none⟩
def diA:Code:=loopOf Tryz.prog 104 0
def diP:Option (Int×Int×List Int)->Patch
 | none=>⟨(8,.any false) :: deadT 38 27,[],[]⟩
 | some (i,c,ds)=>⟨(5,.islice true 5 0 ds.length) :: (6,.int true .i64 c) :: (7,.int true .i64 i) :: (8,.any false) :: deadT 38 27,[],[.ints .i64 ds]⟩
def diX (ds:List Int):Patch:=⟨(5,.islice true 5 0 ds.length) :: (6,.any false) :: (7,.any false) :: (8,.any false) :: deadT 38 27,[],[.ints .i64 ds]⟩
def diU (a b:List Int):SumL (Option (Int×Int×List Int)):=
 {
  S:=diP
  I:=fun y=>match y with
   | none=>0<a.length
   | some (i,c,ds)=>i=ds.length/\1<=i/\i<=a.length/\0<=c/\c<=1
  μ:=fun y=>match y with
   | none=>a.length+1
   | some (i,_,_)=>(a.length - i).toNat
  F:=fun y=>(.exit 0,diX (match y with
   | none=>subL a b a.length 0 0 []
   | some (i,c,ds)=>subL a b (a.length - i).toNat i.toNat c ds))
  next:=fun y=>match y with
   | none=>some (IntKind.i64.wrap (0+1),diC a b 0 0,[diR a b 0 0])
   | some (i,c,ds)=>some (IntKind.i64.wrap (i+1),diC a b i c,ds++[diR a b i c])
  ids:=fun y=>match y with
   | none=>[6]
   | some _=>[7]
  X:=fun y _=>match y with
   | none=>some (⟨(5,.any false) :: (6,.any false) :: (7,.any false) :: (8,.any false) :: deadT 38 27,[],[]⟩,[])
   | some (_,_,ds)=>some (diX ds,[5]) }
end
end Go.Proofs.YtkbndjnibcjchaaGreatDoor.K
namespace Go.Proofs.YtkbndjnibcjchaaGreatDoor.K
open Go Go.Eng Go.Dg
noncomputable section
def of_start_nd (n:Int):Prop:=n=n
theorem of_start (n:Int):fit (ofS n) (ofS n) (patch (ofS n) ((ofU n).S none)) ([])=some (.p (of_start_nd n)):=by kernel_rfl
def of_b0_nd (n:Int):Prop:=((!n != (0:Int))=true->(ofU n).F none=(Ex.exit (0:Nat),{ tm:=((0:Nat),AV.any false) :: ((5:Nat),AV.any false) :: deadT (8:Nat) (14:Nat),old:=[],new:=[] }))/\((n != (0:Int))=true->((IntKind.i64.wrap (n.tdiv (1000000000:Int))=IntKind.i64.wrap (n.tdiv (1000000000:Int))/\(0:Nat)<1/\(↑(0:Nat):Int)=(0:Int)/\(↑1:Int)=(↑[ofD n].length:Int))/\[bif decide (n.tmod (1000000000:Int)<(0:Int)) then IntKind.i64.wrap ((0:Int) - n.tmod (1000000000:Int)) else n.tmod (1000000000:Int)]=[ofD n])/\(ofU n).I ((ofU n).next none)/\(ofU n).μ ((ofU n).next none)<(ofU n).μ none/\(ofU n).F ((ofU n).next none)=(ofU n).F none)
theorem of_b0 (n:Int):chkR (ofS n) ((ofU n).way (none)) ((run cL1 300).code ofFr ofA (patch (ofS n) ((ofU n).S none)))=some (.p (of_b0_nd n)):=by kernel_rfl
def of_b1_nd (n m:Int) (ds:List Int):Prop:=((m != (0:Int))=true->(0:Int)=(0:Int)/\(0:Int)<(↑ds.length:Int)/\(↑ds.length:Int)=(↑ds.length:Int)/\(↑ds.length:Int)+(↑(1:Nat):Int)<=(1048576:Int))/\((!m != (0:Int))=true->(((0:Int)=(0:Int)/\(↑ds.length:Int)=(↑ds.length:Int))/\ds=ds)/\(ofU n).F (some (m,ds))=(Ex.exit (0:Nat),ofX ds))/\((m != (0:Int))=true->((IntKind.i64.wrap (m.tdiv (1000000000:Int))=IntKind.i64.wrap (m.tdiv (1000000000:Int))/\(0:Int)=(0:Int)/\(↑ds.length:Int)+(↑(1:Nat):Int)=(↑(ds++[ofD m]).length:Int))/\ds++[bif decide (m.tmod (1000000000:Int)<(0:Int)) then IntKind.i64.wrap ((0:Int) - m.tmod (1000000000:Int)) else m.tmod (1000000000:Int)]=ds++[ofD m])/\(ofU n).I ((ofU n).next (some (m,ds)))/\(ofU n).μ ((ofU n).next (some (m,ds)))<(ofU n).μ (some (m,ds))/\(ofU n).F ((ofU n).next (some (m,ds)))=(ofU n).F (some (m,ds)))
theorem of_b1 (n m:Int) (ds:List Int):chkR (ofS n) ((ofU n).way (some (m,ds))) ((run cL1 300).code ofFr ofA (patch (ofS n) ((ofU n).S (some (m,ds)))))=some (.p (of_b1_nd n m ds)):=by kernel_rfl
theorem su_start (p q:Bool) (a b:List Int):fit (suS p q a b) (suS p q a b) (patch (suS p q a b) ((suU a b).S none)) ([])=some .tt:=by kernel_rfl
def su_b0_nd (p q:Bool) (a b:List Int):Prop:=((bif decide ((0:Int)<(↑a.length:Int)) then true else bif decide ((0:Int)<(↑b.length:Int)) then true else false)=true->(decide ((0:Int)<(↑a.length:Int))=true->((0:Int)<=(0:Int)/\(0:Int)<(↑a.length:Int))/\Int.toNat (0:Int)<a.length)/\(↑b.length:Int)=(↑b.length:Int)/\(decide ((0:Int)<(↑b.length:Int))=true->((0:Int)<=(0:Int)/\(0:Int)<(↑b.length:Int))/\Int.toNat (0:Int)<b.length))/\((!bif decide ((0:Int)<(↑a.length:Int)) then true else bif decide ((0:Int)<(↑b.length:Int)) then true else false)=true->(suU a b).F none=(Ex.exit (0:Nat),{ tm:=((5:Nat),AV.any false) :: ((6:Nat),AV.any false) :: ((7:Nat),AV.any false) :: ((8:Nat),AV.any false) :: deadT (28:Nat) (36:Nat),old:=[],new:=[] }))/\((bif decide ((0:Int)<(↑a.length:Int)) then true else bif decide ((0:Int)<(↑b.length:Int)) then true else false)=true->((((0:Nat)<1/\(↑(0:Nat):Int)=(0:Int)/\(↑1:Int)=(↑[(suD a b (0:Int) (0:Int)).tmod (1000000000:Int)].length:Int))/\IntKind.i64.wrap ((IntKind.i64.wrap (IntKind.i64.wrap ((bif decide ((0:Int)<(↑a.length:Int)) then a.getD (Int.toNat (0:Int)) (0:Int) else (0:Int))+bif decide ((0:Int)<(↑b.length:Int)) then b.getD (Int.toNat (0:Int)) (0:Int) else (0:Int))+(0:Int))).tdiv (1000000000:Int))=IntKind.i64.wrap ((suD a b (0:Int) (0:Int)).tdiv (1000000000:Int))/\Int.ofNat 1=IntKind.i64.wrap ((0:Int)+(1:Int)))/\[(IntKind.i64.wrap (IntKind.i64.wrap ((bif decide ((0:Int)<(↑a.length:Int)) then a.getD (Int.toNat (0:Int)) (0:Int) else (0:Int))+bif decide ((0:Int)<(↑b.length:Int)) then b.getD (Int.toNat (0:Int)) (0:Int) else (0:Int))+(0:Int))).tmod (1000000000:Int)]=[(suD a b (0:Int) (0:Int)).tmod (1000000000:Int)])/\(suU a b).I ((suU a b).next none)/\(suU a b).μ ((suU a b).next none)<(suU a b).μ none/\(suU a b).F ((suU a b).next none)=(suU a b).F none)
theorem su_b0 (p q:Bool) (a b:List Int):chkR (suS p q a b) ((suU a b).way (none)) ((run cSu 300).code suFr suA (patch (suS p q a b) ((suU a b).S none)))=some (.p (su_b0_nd p q a b)):=by kernel_rfl
def su_b1_nd (p q:Bool) (a b:List Int) (i c:Int) (ds:List Int):Prop:=((bif decide (i<(↑a.length:Int)) then true else bif decide (i<(↑b.length:Int)) then true else decide (c>(0:Int)))=true->((decide (i<(↑a.length:Int))=true->((0:Int)<=i/\i<(↑a.length:Int))/\i.toNat<a.length)/\(↑b.length:Int)=(↑b.length:Int)/\(decide (i<(↑b.length:Int))=true->((0:Int)<=i/\i<(↑b.length:Int))/\i.toNat<b.length))/\(0:Int)=(0:Int)/\(0:Int)<(↑ds.length:Int)/\(↑ds.length:Int)=(↑ds.length:Int)/\(↑ds.length:Int)+(↑(1:Nat):Int)<=(1048576:Int))/\((!bif decide (i<(↑a.length:Int)) then true else bif decide (i<(↑b.length:Int)) then true else decide (c>(0:Int)))=true->(((0:Int)=(0:Int)/\(↑ds.length:Int)=(↑ds.length:Int))/\ds=ds)/\(suU a b).F (some (i,c,ds))=(Ex.exit (0:Nat),suX ds))/\((bif decide (i<(↑a.length:Int)) then true else bif decide (i<(↑b.length:Int)) then true else decide (c>(0:Int)))=true->((((0:Int)=(0:Int)/\(↑ds.length:Int)+(↑(1:Nat):Int)=(↑(ds++[(suD a b i c).tmod (1000000000:Int)]).length:Int))/\IntKind.i64.wrap ((IntKind.i64.wrap (IntKind.i64.wrap ((bif decide (i<(↑a.length:Int)) then a.getD i.toNat (0:Int) else (0:Int))+bif decide (i<(↑b.length:Int)) then b.getD i.toNat (0:Int) else (0:Int))+c)).tdiv (1000000000:Int))=IntKind.i64.wrap ((suD a b i c).tdiv (1000000000:Int))/\IntKind.i64.wrap (i+(1:Int))=IntKind.i64.wrap (i+(1:Int)))/\ds++[(IntKind.i64.wrap (IntKind.i64.wrap ((bif decide (i<(↑a.length:Int)) then a.getD i.toNat (0:Int) else (0:Int))+bif decide (i<(↑b.length:Int)) then b.getD i.toNat (0:Int) else (0:Int))+c)).tmod (1000000000:Int)]=ds++[(suD a b i c).tmod (1000000000:Int)])/\(suU a b).I ((suU a b).next (some (i,c,ds)))/\(suU a b).μ ((suU a b).next (some (i,c,ds)))<(suU a b).μ (some (i,c,ds))/\(suU a b).F ((suU a b).next (some (i,c,ds)))=(suU a b).F (some (i,c,ds)))
theorem su_b1 (p q:Bool) (a b:List Int) (i c:Int) (ds:List Int):chkR (suS p q a b) ((suU a b).way (some (i,c,ds))) ((run cSu 300).code suFr suA (patch (suS p q a b) ((suU a b).S (some (i,c,ds)))))=some (.p (su_b1_nd p q a b i c ds)):=by kernel_rfl
theorem di_start (p q:Bool) (a b:List Int):fit (diS p q a b) (diS p q a b) (patch (diS p q a b) ((diU a b).S none)) ([])=some .tt:=by kernel_rfl
def di_b0_nd (p q:Bool) (a b:List Int):Prop:=(decide ((0:Int)<(↑a.length:Int))=true->((0:Int)<=(0:Int)/\(0:Int)<(↑a.length:Int))/\Int.toNat (0:Int)<a.length/\(decide ((0:Int)<(↑b.length:Int))=true->((0:Int)<=(0:Int)/\(0:Int)<(↑b.length:Int))/\Int.toNat (0:Int)<b.length)/\(Int.toNat (0:Int)<a.length/\a.getD (Int.toNat (0:Int)) (0:Int)=a.getD (Int.toNat (0:Int)) (0:Int))/\(↑a.length:Int)=(↑a.length:Int))/\((!decide ((0:Int)<(↑a.length:Int)))=true->(diU a b).F none=(Ex.exit (0:Nat),{ tm:=((5:Nat),AV.any false) :: ((6:Nat),AV.any false) :: ((7:Nat),AV.any false) :: ((8:Nat),AV.any false) :: deadT (38:Nat) (27:Nat),old:=[],new:=[] }))/\(decide ((0:Int)<(↑a.length:Int))=true->((((0:Nat)<1/\(↑(0:Nat):Int)=(0:Int)/\(↑1:Int)=(↑[diR a b (0:Int) (0:Int)].length:Int))/\(bif decide (IntKind.i64.wrap (IntKind.i64.wrap (a.getD (Int.toNat (0:Int)) (0:Int) - bif decide ((0:Int)<(↑b.length:Int)) then b.getD (Int.toNat (0:Int)) (0:Int) else (0:Int)) - (0:Int))<(0:Int)) then (1:Int) else (0:Int))=diC a b (0:Int) (0:Int)/\Int.ofNat 1=IntKind.i64.wrap ((0:Int)+(1:Int)))/\[bif decide (IntKind.i64.wrap (IntKind.i64.wrap (a.getD (Int.toNat (0:Int)) (0:Int) - bif decide ((0:Int)<(↑b.length:Int)) then b.getD (Int.toNat (0:Int)) (0:Int) else (0:Int)) - (0:Int))<(0:Int)) then IntKind.i64.wrap (IntKind.i64.wrap (IntKind.i64.wrap (a.getD (Int.toNat (0:Int)) (0:Int) - bif decide ((0:Int)<(↑b.length:Int)) then b.getD (Int.toNat (0:Int)) (0:Int) else (0:Int)) - (0:Int))+(1000000000:Int)) else IntKind.i64.wrap (IntKind.i64.wrap (a.getD (Int.toNat (0:Int)) (0:Int) - bif decide ((0:Int)<(↑b.length:Int)) then b.getD (Int.toNat (0:Int)) (0:Int) else (0:Int)) - (0:Int))]=[diR a b (0:Int) (0:Int)])/\(diU a b).I ((diU a b).next none)/\(diU a b).μ ((diU a b).next none)<(diU a b).μ none/\(diU a b).F ((diU a b).next none)=(diU a b).F none)
theorem di_b0 (p q:Bool) (a b:List Int):chkR (diS p q a b) ((diU a b).way (none)) ((run cDi 300).code diFr diA (patch (diS p q a b) ((diU a b).S none)))=some (.p (di_b0_nd p q a b)):=by kernel_rfl
def di_b1_nd (p q:Bool) (a b:List Int) (i c:Int) (ds:List Int):Prop:=(decide (i<(↑a.length:Int))=true->(((0:Int)<=i/\i<(↑a.length:Int))/\i.toNat<a.length/\(decide (i<(↑b.length:Int))=true->((0:Int)<=i/\i<(↑b.length:Int))/\i.toNat<b.length)/\(i.toNat<a.length/\a.getD i.toNat (0:Int)=a.getD i.toNat (0:Int))/\(↑a.length:Int)=(↑a.length:Int))/\(0:Int)=(0:Int)/\(0:Int)<(↑ds.length:Int)/\(↑ds.length:Int)=(↑ds.length:Int)/\(↑ds.length:Int)+(↑(1:Nat):Int)<=(1048576:Int))/\((!decide (i<(↑a.length:Int)))=true->(((0:Int)=(0:Int)/\(↑ds.length:Int)=(↑ds.length:Int))/\ds=ds)/\(diU a b).F (some (i,c,ds))=(Ex.exit (0:Nat),diX ds))/\(decide (i<(↑a.length:Int))=true->((((0:Int)=(0:Int)/\(↑ds.length:Int)+(↑(1:Nat):Int)=(↑(ds++[diR a b i c]).length:Int))/\(bif decide (IntKind.i64.wrap (IntKind.i64.wrap (a.getD i.toNat (0:Int) - bif decide (i<(↑b.length:Int)) then b.getD i.toNat (0:Int) else (0:Int)) - c)<(0:Int)) then (1:Int) else (0:Int))=diC a b i c/\IntKind.i64.wrap (i+(1:Int))=IntKind.i64.wrap (i+(1:Int)))/\ds++[bif decide (IntKind.i64.wrap (IntKind.i64.wrap (a.getD i.toNat (0:Int) - bif decide (i<(↑b.length:Int)) then b.getD i.toNat (0:Int) else (0:Int)) - c)<(0:Int)) then IntKind.i64.wrap (IntKind.i64.wrap (IntKind.i64.wrap (a.getD i.toNat (0:Int) - bif decide (i<(↑b.length:Int)) then b.getD i.toNat (0:Int) else (0:Int)) - c)+(1000000000:Int)) else IntKind.i64.wrap (IntKind.i64.wrap (a.getD i.toNat (0:Int) - bif decide (i<(↑b.length:Int)) then b.getD i.toNat (0:Int) else (0:Int)) - c)]=ds++[diR a b i c])/\(diU a b).I ((diU a b).next (some (i,c,ds)))/\(diU a b).μ ((diU a b).next (some (i,c,ds)))<(diU a b).μ (some (i,c,ds))/\(diU a b).F ((diU a b).next (some (i,c,ds)))=(diU a b).F (some (i,c,ds)))
theorem di_b1 (p q:Bool) (a b:List Int) (i c:Int) (ds:List Int):chkR (diS p q a b) ((diU a b).way (some (i,c,ds))) ((run cDi 300).code diFr diA (patch (diS p q a b) ((diU a b).S (some (i,c,ds)))))=some (.p (di_b1_nd p q a b i c ds)):=by kernel_rfl
end
end Go.Proofs.YtkbndjnibcjchaaGreatDoor.K
namespace Go.Proofs.YtkbndjnibcjchaaGreatDoor.K
open Go Go.Eng Go.Dg
noncomputable section
theorem of_loop (n:Int) (h0:n≠0) (hb:n.natAbs<=9223372036854775808):CodeOk cL1 ofFr (.loop ofA) (ofS n) ⟨.tt,[⟨.tt,.exit 0,patch (ofS n) (ofX (digs n.natAbs))⟩]⟩:=by
 refine sumL_one (run_sound cL1_ok 300) (ofU n) (y0:=none) h0 ⟨_,of_start n,rfl⟩ (by kernel_rfl) (fun y hy=>?_) rfl
 cases y with
 | none=>
  refine ⟨_,of_b0 n,fun h=>absurd (nbne.1 h) h0,fun h=>⟨⟨⟨rfl,by decide,rfl,rfl⟩,rfl⟩,?_,?_,rfl⟩⟩
  .show ofI n (IntKind.i64.wrap (n.tdiv 1000000000)) [ofD n]
   rw [(of_q n hb).1]; exact of_first h0 hb
  .show (IntKind.i64.wrap (n.tdiv 1000000000)).natAbs<n.natAbs+1
   rw [(of_q n hb).1,(of_q n hb).2]; omega
 | some y=>
  obtain ⟨m,ds⟩:=y
  have hI:ofI n m ds:=hy
  refine ⟨_,of_b1 n m ds,fun h=>?_,fun h=>?_,fun h=>⟨⟨⟨rfl,rfl,?_⟩,rfl⟩,?_,?_,rfl⟩⟩
  .have:=of_len (bne_t.1 h) hI hb
   have:=List.length_pos_iff.2 hI.1
   exact ⟨rfl,by omega,rfl,by omega⟩
  .have h:=nbne.1 h
   subst h
   refine ⟨⟨⟨rfl,rfl⟩,rfl⟩,?_⟩
   show (Ex.exit 0,ofX (digs n.natAbs))=_
   rw [of_end hI]
  .rw [List.length_append]; rfl
  .show ofI n (IntKind.i64.wrap (m.tdiv 1000000000)) (ds++[ofD m])
   rw [(of_q m hI.2.2.2.2).1]; exact of_step (bne_t.1 h) hI
  .show (IntKind.i64.wrap (m.tdiv 1000000000)).natAbs<m.natAbs
   have:=bne_t.1 h
   rw [(of_q m hI.2.2.2.2).1,(of_q m hI.2.2.2.2).2]; omega
theorem su_loop (p q:Bool) (a b:List Int) (ha:Dig a) (hb:Dig b) (sa:Sm a) (sb:Sm b) (h0:0<a.length):CodeOk cSu suFr (.loop suA) (suS p q a b) ⟨.tt,[⟨.tt,.exit 0,patch (suS p q a b) (suX (addL a b (suN a b) 0 0 []))⟩]⟩:=by
 have sa:=sa.le
 have sb:=sb.le
 have hN:suN a b=max a.length b.length+1:=rfl
 refine sumL_one (run_sound cSu_ok 300) (suU a b) (y0:=none) h0 ⟨_,su_start p q a b,trivial⟩ (by kernel_rfl) (fun y hy=>?_) rfl
 cases y with
 | none=>
  refine ⟨_,su_b0 p q a b,fun h=>⟨fun h=>?_,rfl,fun h=>?_⟩,fun h=>?_,fun h=>⟨⟨⟨⟨by decide,rfl,rfl⟩,rfl,rfl⟩,rfl⟩,?_,?_,?_⟩⟩
  .exact ⟨⟨by omega,dt.1 h⟩,h0⟩
  .have h:=dt.1 h; exact ⟨⟨by omega,h⟩,by show 0<b.length; omega⟩
  .exact absurd (by omega) (nbo.1 h).1
  .have e:=suD_eq ha hb (i:=0) (c:=0) (by omega) (by omega)
   obtain ⟨s1,s2,s3,s4,s5⟩:=add_step ha hb (c:=0) (by omega) (0:Int).toNat
   show IntKind.i64.wrap (0+1)=((1:Nat):Int)/\1<=IntKind.i64.wrap (0+1)/\IntKind.i64.wrap (0+1)<=suN a b/\0<=IntKind.i64.wrap ((suD a b 0 0).tdiv 1000000000)/\IntKind.i64.wrap ((suD a b 0 0).tdiv 1000000000)<=1/\(IntKind.i64.wrap (0+1)=suN a b->_=0)
   rw [e,show IntKind.i64.wrap (0+1)=1 by decide,iw (by omega) (by omega)]
   exact ⟨rfl,by omega,by omega,s3,s4,fun h=>by omega⟩
  .show (suN a b - IntKind.i64.wrap (0+1)).toNat<suN a b+1
   rw [show IntKind.i64.wrap (0+1)=1 by decide]; omega
  .have e:=suD_eq ha hb (i:=0) (c:=0) (by omega) (by omega)
   obtain ⟨s1,s2,s3,s4,s5⟩:=add_step ha hb (c:=0) (by omega) (0:Int).toNat
   show (Ex.exit 0,suX (addL a b (suN a b - IntKind.i64.wrap (0+1)).toNat (IntKind.i64.wrap (0+1)).toNat (IntKind.i64.wrap ((suD a b 0 0).tdiv 1000000000)) [(suD a b 0 0).tmod 1000000000]))=(Ex.exit 0,suX (addL a b (suN a b) 0 0 []))
   rw [e,show IntKind.i64.wrap (0+1)=1 by decide,iw (by omega) (by omega),hN,show (((max a.length b.length+1:Nat):Int) - 1).toNat=max a.length b.length by omega]
   rw [show addL a b (max a.length b.length+1) 0 0 []=addL a b (max a.length b.length) (0+1) ((a.getD 0 0+b.getD 0 0+0).tdiv 1000000000) ([]++[(a.getD 0 0+b.getD 0 0+0).tmod 1000000000]) from by rw [addL,if_pos (.inl h0)]]
   rfl
 | some y=>
  obtain ⟨i,c,ds⟩:=y
  obtain ⟨i1,i2,i3,i4,i5,i6⟩:=(show i=ds.length/\1<=i/\i<=suN a b/\0<=c/\c<=1/\(i=suN a b->c=0) from hy)
  have e:=suD_eq ha hb (i:=i) (c:=c) (by omega) ⟨i4,i5⟩
  obtain ⟨s1,s2,s3,s4,s5⟩:=add_step ha hb ⟨i4,i5⟩ i.toNat
  have e1:IntKind.i64.wrap (i+1)=i+1:=iw (by omega) (by omega)
  refine ⟨_,su_b1 p q a b i c ds,fun h=>⟨⟨fun h=>?_,rfl,fun h=>?_⟩,rfl,by omega,rfl,by omega⟩,fun h=>⟨⟨⟨rfl,rfl⟩,rfl⟩,?_⟩,fun h=>⟨⟨⟨⟨rfl,?_⟩,rfl,rfl⟩,rfl⟩,?_,?_,?_⟩⟩
  .have h:=dt.1 h; exact ⟨⟨by omega,h⟩,by omega⟩
  .have h:=dt.1 h; exact ⟨⟨by omega,h⟩,by omega⟩
  .obtain ⟨h1,h⟩:=nbo.1 h
   have h2:¬(i<b.length)/\decide (c>0)=false:=by
    cases h3:decide (i<(b.length:Int)) with
    | true=>rw [h3] at h; cases h
    | false=>rw [h3] at h; exact ⟨of_decide_eq_false h3,h⟩
   obtain ⟨h2,h3⟩:=h2
   have h3:=of_decide_eq_false h3
   show (Ex.exit 0,suX (addL a b (suN a b - i).toNat i.toNat c ds))=_
   cases hk:(suN a b - i).toNat with
   | zero=>rfl
   | succ k=>rw [addL,if_neg (by omega)]
  .rw [List.length_append]; rfl
  .have hlt:i<suN a b:=by
    rcases bo.1 h with h|h
    .omega
    .rcases bo.1 h with h|h
     .omega
     .have h:=dt.1 h
      rcases (show i=suN a b\/i<suN a b by omega) with h1|h1
      .have:=i6 h1; omega
      .exact h1
   show IntKind.i64.wrap (i+1)=((ds++[(suD a b i c).tmod 1000000000]).length:Int)/\1<=IntKind.i64.wrap (i+1)/\IntKind.i64.wrap (i+1)<=suN a b/\0<=IntKind.i64.wrap ((suD a b i c).tdiv 1000000000)/\IntKind.i64.wrap ((suD a b i c).tdiv 1000000000)<=1/\(IntKind.i64.wrap (i+1)=suN a b->IntKind.i64.wrap ((suD a b i c).tdiv 1000000000)=0)
   rw [e,e1,iw (by omega) (by omega),List.length_append]
   refine ⟨by rw [i1]; rfl,by omega,by omega,s3,s4,fun h1=>?_⟩
   have q1:a.getD i.toNat 0=0:=getD_ge (by omega)
   have q2:b.getD i.toNat 0=0:=getD_ge (by omega)
   rw [q1,q2,show (0:Int)+0+c=c by omega]
   rw [Int.tdiv_eq_ediv_of_nonneg i4]; omega
  .have hlt:i<suN a b:=by
    rcases bo.1 h with h|h
    .omega
    .rcases bo.1 h with h|h
     .omega
     .have h:=dt.1 h
      rcases (show i=suN a b\/i<suN a b by omega) with h1|h1
      .have:=i6 h1; omega
      .exact h1
   show (suN a b - IntKind.i64.wrap (i+1)).toNat<(suN a b - i).toNat
   rw [e1]; omega
  .have hlt:i<suN a b/\(i.toNat<a.length\/i.toNat<b.length\/0<c):=by
    rcases bo.1 h with h|h
    .omega
    .rcases bo.1 h with h|h
     .omega
     .have h:=dt.1 h
      rcases (show i=suN a b\/i<suN a b by omega) with h1|h1
      .have:=i6 h1; omega
      .exact ⟨h1,by omega⟩
   show (Ex.exit 0,suX (addL a b (suN a b - IntKind.i64.wrap (i+1)).toNat (IntKind.i64.wrap (i+1)).toNat (IntKind.i64.wrap ((suD a b i c).tdiv 1000000000)) (ds++[(suD a b i c).tmod 1000000000])))=(Ex.exit 0,suX (addL a b (suN a b - i).toNat i.toNat c ds))
   rw [e,e1,iw (by omega) (by omega),show (suN a b - i).toNat=(suN a b - (i+1)).toNat+1 by omega,show (i+1).toNat=i.toNat+1 by omega,addL,if_pos hlt.2]
theorem di_loop (p q:Bool) (a b:List Int) (ha:Dig a) (hb:Dig b) (sa:Sm a) (h0:0<a.length):CodeOk cDi diFr (.loop diA) (diS p q a b) ⟨.tt,[⟨.tt,.exit 0,patch (diS p q a b) (diX (subL a b a.length 0 0 []))⟩]⟩:=by
 have sa:=sa.le
 refine sumL_one (run_sound cDi_ok 300) (diU a b) (y0:=none) h0 ⟨_,di_start p q a b,trivial⟩ (by kernel_rfl) (fun y hy=>?_) rfl
 cases y with
 | none=>
  have hc:0<=diC a b 0 0/\diC a b 0 0<=1:=by unfold diC; cases decide (diD a b 0 0<0) <;> simp
  refine ⟨_,di_b0 p q a b,fun h=>⟨⟨by omega,dt.1 h⟩,h0,fun h=>?_,⟨h0,rfl⟩,rfl⟩,fun h=>?_,fun h=>⟨⟨⟨⟨by decide,rfl,rfl⟩,rfl,rfl⟩,rfl⟩,?_,?_,?_⟩⟩
  .have h:=dt.1 h; exact ⟨⟨by omega,h⟩,by show 0<b.length; omega⟩
  .exact absurd (by omega) (ndt.1 h)
  .show IntKind.i64.wrap (0+1)=((1:Nat):Int)/\1<=IntKind.i64.wrap (0+1)/\IntKind.i64.wrap (0+1)<=a.length/\0<=diC a b 0 0/\diC a b 0 0<=1
   rw [show IntKind.i64.wrap (0+1)=1 by decide]
   exact ⟨rfl,by omega,by omega,hc⟩
  .show (a.length - IntKind.i64.wrap (0+1)).toNat<a.length+1
   rw [show IntKind.i64.wrap (0+1)=1 by decide]; omega
  .show (Ex.exit 0,diX (subL a b (a.length - IntKind.i64.wrap (0+1)).toNat (IntKind.i64.wrap (0+1)).toNat (diC a b 0 0) [diR a b 0 0]))=(Ex.exit 0,diX (subL a b a.length 0 0 []))
   obtain ⟨k,hk⟩:∃ k,a.length=k+1:=⟨a.length - 1,by omega⟩
   rw [show IntKind.i64.wrap (0+1)=1 by decide,show ((a.length:Int) - 1).toNat=k by omega,hk,subL,diC_eq ha hb (by omega) (by omega),diR_eq ha hb (by omega) (by omega)]
   rfl
 | some y=>
  obtain ⟨i,c,ds⟩:=y
  obtain ⟨i1,i2,i3,i4,i5⟩:=(show i=ds.length/\1<=i/\i<=a.length/\0<=c/\c<=1 from hy)
  have hc:0<=diC a b i c/\diC a b i c<=1:=by unfold diC; cases decide (diD a b i c<0) <;> simp
  have e1:IntKind.i64.wrap (i+1)=i+1:=iw (by omega) (by omega)
  refine ⟨_,di_b1 p q a b i c ds,fun h=>?_,fun h=>⟨⟨⟨rfl,rfl⟩,rfl⟩,?_⟩,fun h=>⟨⟨⟨⟨rfl,?_⟩,rfl,rfl⟩,rfl⟩,?_,?_,?_⟩⟩
  .have h:=dt.1 h
   exact ⟨⟨⟨by omega,h⟩,by omega,fun h=>by have h:=dt.1 h; omega,⟨by omega,rfl⟩,rfl⟩,rfl,by omega,rfl,by omega⟩
  .have h:=ndt.1 h
   show (Ex.exit 0,diX (subL a b (a.length - i).toNat i.toNat c ds))=_
   rw [show (a.length - i).toNat=0 by omega]; rfl
  .rw [List.length_append]; rfl
  .have h:=dt.1 h
   show IntKind.i64.wrap (i+1)=((ds++[diR a b i c]).length:Int)/\1<=IntKind.i64.wrap (i+1)/\IntKind.i64.wrap (i+1)<=a.length/\0<=diC a b i c/\diC a b i c<=1
   rw [e1,List.length_append]
   exact ⟨by rw [i1]; rfl,by omega,by omega,hc⟩
  .have h:=dt.1 h
   show (a.length - IntKind.i64.wrap (i+1)).toNat<(a.length - i).toNat
   rw [e1]; omega
  .have h:=dt.1 h
   show (Ex.exit 0,diX (subL a b (a.length - IntKind.i64.wrap (i+1)).toNat (IntKind.i64.wrap (i+1)).toNat (diC a b i c) (ds++[diR a b i c])))=(Ex.exit 0,diX (subL a b (a.length - i).toNat i.toNat c ds))
   rw [e1,show (a.length - i).toNat=(a.length - (i+1)).toNat+1 by omega,show (i+1).toNat=i.toNat+1 by omega,subL,diC_eq ha hb (by omega) ⟨i4,i5⟩,diR_eq ha hb (by omega) ⟨i4,i5⟩]
end
end Go.Proofs.YtkbndjnibcjchaaGreatDoor.K
namespace Go.Proofs.YtkbndjnibcjchaaGreatDoor.K
open Go Go.Eng Go.Dg
noncomputable section
noncomputable def cOfL (n:Int):Ctx:=withLoops cL1 [oneLoop 56 (ofS n).hp.clock ofFr ofA (ofS n) (.exit 0) (ofX (digs n.natAbs))]
theorem cOfL_ok (n:Int) (h0:n≠0) (hb:n.natAbs<=9223372036854775808):CtxOk (cOfL n):=withLoop_ok cL1_ok (of_loop n h0 hb) (withNone_ok cL1_ok)
def cOf0:Ctx:=hinting cL1 (hintsT [(9,.bool false false)])
theorem cOf0_ok:CtxOk cOf0:=hinting_ok cL1_ok _
noncomputable def cSuL (p q:Bool) (a b:List Int):Ctx:=withLoops cSu [oneLoop 87 (suS p q a b).hp.clock suFr suA (suS p q a b) (.exit 0) (suX (addL a b (suN a b) 0 0 []))]
theorem cSuL_ok (p q:Bool) (a b:List Int) (ha:Dig a) (hb:Dig b) (sa:Sm a) (sb:Sm b) (h0:0<a.length):CtxOk (cSuL p q a b):=withLoop_ok cSu_ok (su_loop p q a b ha hb sa sb h0) (withNone_ok cSu_ok)
noncomputable def cDiL (p q:Bool) (a b:List Int):Ctx:=withLoops cDi [oneLoop 104 (diS p q a b).hp.clock diFr diA (diS p q a b) (.exit 0) (diX (subL a b a.length 0 0 []))]
theorem cDiL_ok (p q:Bool) (a b:List Int) (ha:Dig a) (hb:Dig b) (sa:Sm a) (h0:0<a.length):CtxOk (cDiL p q a b):=withLoop_ok cDi_ok (di_loop p q a b ha hb sa h0) (withNone_ok cDi_ok)
end
end Go.Proofs.YtkbndjnibcjchaaGreatDoor.K
namespace Go.Proofs.YtkbndjnibcjchaaGreatDoor.K
open Go Go.Eng Go.Dg
noncomputable section
def of_t_nd (n:Int):Prop:=(At (ofFr) (ofFr) (ofA) (ofA) (ofS n) (ofS n)/\((0:Int)<=(0:Int)/\(0:Int)<=(↑(digs n.natAbs).length:Int)/\(0:Int)+(↑(digs n.natAbs).length:Int)<=(↑(digs n.natAbs).length:Int))/\Dig (List.take (↑(digs n.natAbs).length:Int).toNat (List.drop (Int.toNat (0:Int)) (digs n.natAbs)))/\Sm (List.take (↑(digs n.natAbs).length:Int).toNat (List.drop (Int.toNat (0:Int)) (digs n.natAbs))))
def of_t_v (n:Int):AV:=(AV.agg [AV.bool true (decide (n<(0:Int))&&decide (val (List.take (↑(digs n.natAbs).length:Int).toNat (List.drop (Int.toNat (0:Int)) (digs n.natAbs)))≠(0:Int))),AV.islice true (0:Nat) (0:Int) (↑(digs (val (List.take (↑(digs n.natAbs).length:Int).toNat (List.drop (Int.toNat (0:Int)) (digs n.natAbs)))).toNat).length:Int)])
def of_t_h (n:Int):Hp:=⟨[{ wr:=12,body:=ABody.ints IntKind.i64 (digs (val (List.take (↑(digs n.natAbs).length:Int).toNat (List.drop (Int.toNat (0:Int)) (digs n.natAbs)))).toNat) }],1,13⟩
theorem of_t (n:Int):(run (cOfL n) 300).call 56 (ofArgs n) hG0=some ⟨.p (of_t_nd n),[⟨.tt,of_t_v n,of_t_h n⟩]⟩:=by kernel_rfl
def of_z_nd (n:Int):Prop:=((n != (0:Int))=false/\Dig []/\Sm [])
def of_z_v (n:Int):AV:=(AV.agg [AV.bool true (decide (n<(0:Int))&&decide (val []≠(0:Int))),AV.islice true (0:Nat) (0:Int) (↑(digs (val []).toNat).length:Int)])
def of_z_h (n:Int):Hp:=⟨[{ wr:=13,body:=ABody.ints IntKind.i64 (digs (val []).toNat) }],1,14⟩
theorem of_z (n:Int):(run cOf0 300).call 56 (ofArgs n) hG0=some ⟨.p (of_z_nd n),[⟨.tt,of_z_v n,of_z_h n⟩]⟩:=by kernel_rfl
def mi_t_nd (p:Bool) (a:List Int):Prop:=((↑a.length:Int)=(↑a.length:Int)/\Dig a/\Sm a)
def mi_t_v (p:Bool) (a:List Int):AV:=(AV.agg [AV.bool true (!p&&decide (val a≠(0:Int))),AV.islice true 1 (0:Int) (↑(digs (val a).toNat).length:Int)])
def mi_t_h (p:Bool) (a:List Int):Hp:=⟨[{ wr:=10,body:=ABody.ints IntKind.i64 (digs (val a).toNat) },{ wr:=(0:Nat),body:=ABody.rows IntKind.i64 a }],2,11⟩
theorem mi_t (p:Bool) (a:List Int):(run cL1 300).call 89 (riArgs p a) (riH a)=some ⟨.p (mi_t_nd p a),[⟨.tt,mi_t_v p a,mi_t_h p a⟩]⟩:=by kernel_rfl
def su_t_nd (p q:Bool) (a b:List Int):Prop:=(((↑a.length:Int)==(0:Int))=false/\((↑b.length:Int)==(0:Int))=false/\(!p==q)=false/\At (suFr) (suFr) (suA) (suA) (suS p q a b) (suS p q a b)/\((0:Int)<=(0:Int)/\(0:Int)<=(↑(addL a b (suN a b) (0:Nat) (0:Int) []).length:Int)/\(0:Int)+(↑(addL a b (suN a b) (0:Nat) (0:Int) []).length:Int)<=(↑(addL a b (suN a b) (0:Nat) (0:Int) []).length:Int))/\Dig (List.take (↑(addL a b (suN a b) (0:Nat) (0:Int) []).length:Int).toNat (List.drop (Int.toNat (0:Int)) (addL a b (suN a b) (0:Nat) (0:Int) [])))/\Sm (List.take (↑(addL a b (suN a b) (0:Nat) (0:Int) []).length:Int).toNat (List.drop (Int.toNat (0:Int)) (addL a b (suN a b) (0:Nat) (0:Int) []))))
def su_t_v (p q:Bool) (a b:List Int):AV:=(AV.agg [AV.bool true (p&&decide (val (List.take (↑(addL a b (suN a b) (0:Nat) (0:Int) []).length:Int).toNat (List.drop (Int.toNat (0:Int)) (addL a b (suN a b) (0:Nat) (0:Int) [])))≠(0:Int))),AV.islice true 2 (0:Int) (↑(digs (val (List.take (↑(addL a b (suN a b) (0:Nat) (0:Int) []).length:Int).toNat (List.drop (Int.toNat (0:Int)) (addL a b (suN a b) (0:Nat) (0:Int) [])))).toNat).length:Int)])
def su_t_h (p q:Bool) (a b:List Int):Hp:=⟨[{ wr:=27,body:=ABody.ints IntKind.i64 (digs (val (List.take (↑(addL a b (suN a b) (0:Nat) (0:Int) []).length:Int).toNat (List.drop (Int.toNat (0:Int)) (addL a b (suN a b) (0:Nat) (0:Int) [])))).toNat) },{ wr:=(0:Nat),body:=ABody.rows IntKind.i64 b },{ wr:=(0:Nat),body:=ABody.rows IntKind.i64 a }],3,28⟩
theorem su_t (p q:Bool) (a b:List Int):(run (cSuL p q a b) 300).call 87 (suArgs p q a b) (leH a b)=some ⟨.p (su_t_nd p q a b),[⟨.tt,su_t_v p q a b,su_t_h p q a b⟩]⟩:=by kernel_rfl
def di_t_nd (p q:Bool) (a b:List Int):Prop:=(((↑a.length:Int)==(0:Int))=false/\((↑b.length:Int)==(0:Int))=false/\(!p==q)=false/\((((↑a.length:Int)=(↑a.length:Int)/\(↑b.length:Int)=(↑b.length:Int))/\Sm a/\Sm b)/\lessL a b=false)/\At (diFr) (diFr) (diA) (diA) (diS p q a b) (diS p q a b)/\((0:Int)<=(0:Int)/\(0:Int)<=(↑(subL a b a.length (0:Nat) (0:Int) []).length:Int)/\(0:Int)+(↑(subL a b a.length (0:Nat) (0:Int) []).length:Int)<=(↑(subL a b a.length (0:Nat) (0:Int) []).length:Int))/\Dig (List.take (↑(subL a b a.length (0:Nat) (0:Int) []).length:Int).toNat (List.drop (Int.toNat (0:Int)) (subL a b a.length (0:Nat) (0:Int) [])))/\Sm (List.take (↑(subL a b a.length (0:Nat) (0:Int) []).length:Int).toNat (List.drop (Int.toNat (0:Int)) (subL a b a.length (0:Nat) (0:Int) []))))
def di_t_v (p q:Bool) (a b:List Int):AV:=(AV.agg [AV.bool true (p&&decide (val (List.take (↑(subL a b a.length (0:Nat) (0:Int) []).length:Int).toNat (List.drop (Int.toNat (0:Int)) (subL a b a.length (0:Nat) (0:Int) [])))≠(0:Int))),AV.islice true 2 (0:Int) (↑(digs (val (List.take (↑(subL a b a.length (0:Nat) (0:Int) []).length:Int).toNat (List.drop (Int.toNat (0:Int)) (subL a b a.length (0:Nat) (0:Int) [])))).toNat).length:Int)])
def di_t_h (p q:Bool) (a b:List Int):Hp:=⟨[{ wr:=32,body:=ABody.ints IntKind.i64 (digs (val (List.take (↑(subL a b a.length (0:Nat) (0:Int) []).length:Int).toNat (List.drop (Int.toNat (0:Int)) (subL a b a.length (0:Nat) (0:Int) [])))).toNat) },{ wr:=(0:Nat),body:=ABody.rows IntKind.i64 b },{ wr:=(0:Nat),body:=ABody.rows IntKind.i64 a }],3,33⟩
theorem di_t (p q:Bool) (a b:List Int):(run (cDiL p q a b) 300).call 104 (suArgs p q a b) (leH a b)=some ⟨.p (di_t_nd p q a b),[⟨.tt,di_t_v p q a b,di_t_h p q a b⟩]⟩:=by kernel_rfl
end
end Go.Proofs.YtkbndjnibcjchaaGreatDoor.K
namespace Go.Proofs.YtkbndjnibcjchaaGreatDoor.K
open Go Go.Eng Go.Dg
noncomputable section
def ofV:List Nu->List (List Int)->Option (Prop×To)
 | [.n n],[]=>some (n.natAbs<=9223372036854775808,lgT false n)
 | _,_=>none
theorem of_ok:NOk Tryz.prog (fun _=>none) hG0 56 (mSpec hG0 .i64 [.nu (.i .i64)] ofV):=by
 refine msp_ok (show hG0.ok from rfl) rfl (fun _ _ h=>by cases h) (fun xs ys p t e h=>?_) ⟨_,Tryz.func56,rfl⟩
 unfold ofV at e
 split at e
 .rename_i n
  cases e
  by_cases h0:n=0
  .subst h0
   refine ⟨cOf0,300,ofArgs 0,_,_,_,_,_,cOf0_ok,rfl,rfl,⟨⟨rfl,rfl⟩,trivial⟩,of_z 0,rfl,⟨rfl,dig_nil,by show 0<=500000; omega⟩,rfl,rfl,⟨by decide,?_,?_⟩⟩
   .exact lenp
   .show List.take _ (List.drop _ (digs (val []).toNat))=digs (0:Int).natAbs
    rw [td]; rfl
  .have hd:=dig_digs n.natAbs
   have hv:=val_digs n.natAbs
   refine ⟨cOfL n,300,ofArgs n,_,_,_,_,_,cOfL_ok n h0 h,rfl,rfl,⟨⟨rfl,rfl⟩,trivial⟩,of_t n,rfl,⟨⟨rfl,rfl,rfl⟩,lenp,by rw [td]; exact hd,?_⟩,rfl,rfl,⟨?_,?_,?_⟩⟩
   .rw [td]
    have:(digs n.natAbs).length<=3:=len_digs (by
     have:pw 3=1000000000000000000000000000:=by decide
     omega)
    show _<=500000
    omega
   .show (decide (n<0)&&decide (val (List.take _ (List.drop _ (digs n.natAbs)))≠0))=decide (n<0)
    rw [td,hv]
    exact sgn_eq (by omega) (by by_cases h:n<0 <;> simp [h] <;> omega)
   .exact lenp
   .show List.take _ (List.drop _ (digs (val (List.take _ (List.drop _ (digs n.natAbs)))).toNat))=digs n.natAbs
    rw [td,td,hv]; rfl
 .cases e
def miV:List Nu->List (List Int)->Option (Prop×To)
 | [.t p],[a]=>some (okL p a,lgT false (-zv p a))
 | _,_=>none
theorem minus_ok:NOk Tryz.prog (fun _=>none) hG0 89 (mSpec hG0 .i64 [.st [.nu .b,.li]] miV):=by
 refine msp_ok (show hG0.ok from rfl) rfl (fun _ _ h=>by cases h) (fun xs ys p t e h=>?_) ⟨_,Tryz.func89,rfl⟩
 unfold miV at e
 split at e
 .rename_i p a
  cases e
  have h0:=val_nonneg h.1
  have hp:=h.val_pos
  refine ⟨cL1,300,riArgs p a,_,_,_,_,_,cL1_ok,rfl,rfl,⟨⟨rfl,rfl,trivial⟩,trivial⟩,mi_t p a,rfl,⟨rfl,h.1,h.2.2.2⟩,rfl,rfl,⟨?_,?_,?_⟩⟩
  .show (!p&&decide (val a≠0))=decide (-zv p a<0)
   exact sgn_eq h0 (by cases p <;> simp [zv])
  .exact lenp
  .show List.take _ (List.drop _ (digs (val a).toNat))=digs (-zv p a).natAbs
   rw [td,abs_eq (p:=!p) h0 (z:=-zv p a) (by cases p <;> simp [zv])]
 .cases e
theorem len_val {d:List Int} {n:Nat} (h:digs n=d) (k:Nat) (hn:(n:Int)<pw k):d.length<=k:=by rw [<- h]; exact len_digs hn
theorem addL_len (a b:List Int):∀ (n i:Nat) (c:Int) (d:List Int),(addL a b n i c d).length<=d.length+n
 | 0,i,c,d=>by simp [addL]
 | n+1,i,c,d=>by
  simp only [addL]
  split
  .have:=addL_len a b n (i+1) ((a.getD i 0+b.getD i 0+c).tdiv 1000000000) (d++[(a.getD i 0+b.getD i 0+c).tmod 1000000000])
   simp only [List.length_append,List.length_cons,List.length_nil] at this
   omega
  .omega
theorem sm_len {p:Bool} {a:List Int} (h:okL p a) (hv:val a<pw 400000):a.length<=400000:=by
 have:=val_nonneg h.1
 exact len_val (digs_val h.1 h.2.1) 400000 (by omega)
theorem su_same {p:Bool} {a b:List Int} (ha:okL p a) (hb:okL p b) (na:a≠[]) (nb:b≠[]) (hlt:val a+val b<pw 400000):MRun Tryz.prog (fun _=>none) hG0 87 .i64 [.st [.nu .b,.li],.st [.nu .b,.li]] [.t p,.t p] [a,b] (lgT false (zv p a+zv p b)):=by
 have la:=List.length_pos_iff.2 na
 have lb:=List.length_pos_iff.2 nb
 have va:=val_nonneg ha.1
 have vb:=val_nonneg hb.1
 have pa:=val_ne ha.1 ha.2.1 na
 obtain ⟨r1,r2⟩:=addL_val ha.1 hb.1 (suN a b) 0 0 [] dig_nil rfl (by omega) (by simp [val]) (by unfold suN; omega) (by unfold suN; omega)
 have l1:=sm_len ha (by omega)
 have l2:=sm_len hb (by omega)
 have l3:=addL_len a b (suN a b) 0 0 []
 simp only [List.length_nil] at l3
 have hN:suN a b=max a.length b.length+1:=rfl
 refine ⟨cSuL p p a b,300,suArgs p p a b,_,_,_,_,_,cSuL_ok p p a b ha.1 hb.1 ha.2.2.2 hb.2.2.2 la,rfl,rfl,⟨⟨rfl,rfl,trivial⟩,⟨rfl,rfl,trivial⟩,trivial⟩,su_t p p a b,rfl,⟨neb.2 (by omega),neb.2 (by omega),by cases p <;> rfl,⟨rfl,rfl,rfl⟩,lenp,by rw [td]; exact r1,?_⟩,rfl,rfl,⟨?_,?_,?_⟩⟩
 .rw [td]; show _<=500000; omega
 .show (p&&decide (val (List.take _ (List.drop _ (addL a b (suN a b) 0 0 [])))≠0))=decide (zv p a+zv p b<0)
  rw [td,r2]
  exact sgn_eq (v:=val a+val b) (by omega) (by cases p <;> simp only [zv,cond_true,cond_false] <;> omega)
 .exact lenp
 .show List.take _ (List.drop _ (digs (val (List.take _ (List.drop _ (addL a b (suN a b) 0 0 [])))).toNat))=digs (zv p a+zv p b).natAbs
  rw [td,td,r2,abs_eq (p:=p) (v:=val a+val b) (z:=zv p a+zv p b) (by omega) (by cases p <;> simp only [zv,cond_true,cond_false] <;> omega)]
def diV:List Nu->List (List Int)->Option (Prop×To)
 | [.t p,.t q],[a,b]=>some (okL p a/\okL q b/\p=q/\a≠[]/\b≠[]/\val b<=val a,lgT false (zv p a - zv q b))
 | _,_=>none
theorem subL_len (a b:List Int):∀ (n i:Nat) (c:Int) (d:List Int),(subL a b n i c d).length=d.length+n
 | 0,i,c,d=>by simp [subL]
 | n+1,i,c,d=>by
  simp only [subL]
  rw [subL_len a b n (i+1)]
  simp only [List.length_append,List.length_cons,List.length_nil]
  omega
theorem di_ge {p:Bool} {a b:List Int} (ha:okL p a) (hb:okL p b) (na:a≠[]) (nb:b≠[]) (hle:val b<=val a):MRun Tryz.prog (fun _=>none) hG0 104 .i64 [.st [.nu .b,.li],.st [.nu .b,.li]] [.t p,.t p] [a,b] (lgT false (zv p a - zv p b)):=by
 have la:=List.length_pos_iff.2 na
 have lb:=List.length_pos_iff.2 nb
 have va:=val_nonneg ha.1
 have vb:=val_nonneg hb.1
 have hnl:lessL a b=false:=by
  cases e:lessL a b with
  | false=>rfl
  | true=>have:=(lessL_iff ha.1 hb.1 ha.2.1 hb.2.1).1 e; omega
 have hl:b.length<=a.length:=by
  rcases Nat.lt_or_ge a.length b.length with h|h
  .have:=val_len_lt ha.1 hb.1 hb.2.1 h; omega
  .exact h
 obtain ⟨r1,r2⟩:=sub_all ha.1 hb.1 hle hl
 have l3:=subL_len a b a.length 0 0 []
 have sa:=ha.2.2.2.le
 refine ⟨cDiL p p a b,300,suArgs p p a b,_,_,_,_,_,cDiL_ok p p a b ha.1 hb.1 ha.2.2.2 la,rfl,rfl,⟨⟨rfl,rfl,trivial⟩,⟨rfl,rfl,trivial⟩,trivial⟩,di_t p p a b,rfl,⟨neb.2 (by omega),neb.2 (by omega),by cases p <;> rfl,⟨⟨⟨rfl,rfl⟩,ha.2.2.2,hb.2.2.2⟩,hnl⟩,⟨rfl,rfl,rfl⟩,lenp,by rw [td]; exact r1,?_⟩,rfl,rfl,⟨?_,?_,?_⟩⟩
 .rw [td]; show _<=500000; rw [l3]; simp only [List.length_nil]; omega
 .show (p&&decide (val (List.take _ (List.drop _ (subL a b a.length 0 0 [])))≠0))=decide (zv p a - zv p b<0)
  rw [td,r2]
  exact sgn_eq (v:=val a - val b) (by omega) (by cases p <;> simp only [zv,cond_true,cond_false] <;> omega)
 .exact lenp
 .show List.take _ (List.drop _ (digs (val (List.take _ (List.drop _ (subL a b a.length 0 0 [])))).toNat))=digs (zv p a - zv p b).natAbs
  rw [td,td,r2,abs_eq (p:=p) (v:=val a - val b) (z:=zv p a - zv p b) (by omega) (by cases p <;> simp only [zv,cond_true,cond_false] <;> omega)]
theorem diff1_ok:NOk Tryz.prog (fun _=>none) hG0 104 (mSpec hG0 .i64 [.st [.nu .b,.li],.st [.nu .b,.li]] diV):=by
 refine msp_runs (fun xs ys p t e h=>?_) ⟨_,Tryz.func104,rfl⟩
 unfold diV at e
 split at e
 .cases e
  obtain ⟨ha,hb,rfl,na,nb,hle⟩:=h
  exact di_ge ha hb na nb hle
 .cases e
end
end Go.Proofs.YtkbndjnibcjchaaGreatDoor.K
namespace Go.Proofs.YtkbndjnibcjchaaGreatDoor.K
open Go Go.Eng Go.Dg
noncomputable section
def tL2:List (FuncId×NSpec):=(56,mSpec hG0 .i64 [.nu (.i .i64)] ofV) :: (89,mSpec hG0 .i64 [.st [.nu .b,.li]] miV) :: tL1
theorem tL2_ok:∀ x∈tL2,NOk Tryz.prog (fun _=>none) hG0 x.1 x.2:=by
 intro x hx
 simp only [tL2,List.mem_cons] at hx
 rcases hx with rfl|rfl|hx
 .exact of_ok
 .exact minus_ok
 .exact tL1_ok x (by simpa [tL1] using hx)
def tD1:List (FuncId×NSpec):=(104,mSpec hG0 .i64 [.st [.nu .b,.li],.st [.nu .b,.li]] diV) :: tL2
theorem tD1_ok:∀ x∈tD1,NOk Tryz.prog (fun _=>none) hG0 x.1 x.2:=by
 intro x hx
 rcases List.mem_cons.1 hx with rfl|hx
 .exact diff1_ok
 .exact tL2_ok x hx
def cDl:Ctx:=hinting (mkN Tryz.prog (fun _=>none) hG0 tD1 [] noExt) (hintsT [(12,.bool false false),(18,.bool false false),(24,.bool false false),(33,.bool false true)])
theorem cDl_ok:CtxOk cDl:=hinting_ok (mkN_ok prog_ok (noExt_ok _) tD1_ok (fun x h=>by cases h)) _
def cL2:Ctx:=mkN Tryz.prog (fun _=>none) hG0 tL2 [] noExt
theorem cL2_ok:CtxOk cL2:=mkN_ok prog_ok (noExt_ok _) tL2_ok (fun x h=>by cases h)
end
end Go.Proofs.YtkbndjnibcjchaaGreatDoor.K
namespace Go.Proofs.YtkbndjnibcjchaaGreatDoor.K
open Go Go.Eng Go.Dg
noncomputable section
def dl_t_nd (p q:Bool) (a b:List Int):Prop:=(((↑a.length:Int)==(0:Int))=false/\((↑b.length:Int)==(0:Int))=false/\(!p==q)=false/\((((↑a.length:Int)=(↑a.length:Int)/\(↑b.length:Int)=(↑b.length:Int))/\Sm a/\Sm b)/\lessL a b=true)/\(((↑b.length:Int)=(↑b.length:Int)/\(↑a.length:Int)=(↑a.length:Int))/\okL q b/\okL p a/\q=p/\b≠[]/\a≠[]/\val a<=val b)/\(↑(digs (zv q b - zv p a).natAbs).length:Int)=(↑(digs (zv q b - zv p a).natAbs).length:Int)/\okL (decide (zv q b - zv p a<(0:Int))) (digs (zv q b - zv p a).natAbs))
def dl_t_v (p q:Bool) (a b:List Int):AV:=(AV.agg [AV.bool true (decide (-zv (decide (zv q b - zv p a<(0:Int))) (digs (zv q b - zv p a).natAbs)<(0:Int))),AV.lslice 2 (↑(digs (-zv (decide (zv q b - zv p a<(0:Int))) (digs (zv q b - zv p a).natAbs)).natAbs).length:Int)])
def dl_t_h (p q:Bool) (a b:List Int):Hp:=⟨[{ wr:=27,body:=ABody.rows IntKind.i64 (digs (-zv (decide (zv q b - zv p a<(0:Int))) (digs (zv q b - zv p a).natAbs)).natAbs) },{ wr:=(0:Nat),body:=ABody.rows IntKind.i64 b },{ wr:=(0:Nat),body:=ABody.rows IntKind.i64 a }],3,28⟩
theorem dl_t (p q:Bool) (a b:List Int):(run cDl 300).call 104 (suArgs p q a b) (leH a b)=some ⟨.p (dl_t_nd p q a b),[⟨.tt,dl_t_v p q a b,dl_t_h p q a b⟩]⟩:=by kernel_rfl
def or_t_nd (p q:Bool) (a b:List Int):Prop:=((((↑a.length:Int)=(↑a.length:Int)/\(↑b.length:Int)=(↑b.length:Int))/\Sm a/\Sm b)/\((!decide (p=q/\a=b))=true->(p==q)=true->(((↑a.length:Int)=(↑a.length:Int)/\(↑b.length:Int)=(↑b.length:Int))/\Sm a/\Sm b)/\p=p))
def or_t_v (p q:Bool) (a b:List Int):AV:=(AV.int true IntKind.i64 (bif decide (p=q/\a=b) then (0:Int) else bif bif p==q then !lessL a b==p else p then (-1:Int) else (1:Int)))
def or_t_h (p q:Bool) (a b:List Int):Hp:=⟨[{ wr:=(0:Nat),body:=ABody.rows IntKind.i64 b },{ wr:=(0:Nat),body:=ABody.rows IntKind.i64 a }],2,30⟩
theorem or_t (p q:Bool) (a b:List Int):(run cL2 300).call 55 (suArgs p q a b) (leH a b)=some ⟨.p (or_t_nd p q a b),[⟨.tt,or_t_v p q a b,or_t_h p q a b⟩]⟩:=by kernel_rfl
end
end Go.Proofs.YtkbndjnibcjchaaGreatDoor.K
namespace Go.Proofs.YtkbndjnibcjchaaGreatDoor.K
open Go Go.Eng Go.Dg
noncomputable section
def dfV:List Nu->List (List Int)->Option (Prop×To)
 | [.t p,.t q],[a,b]=>some (okL p a/\okL q b/\p=q/\a≠[]/\b≠[],lgT false (zv p a - zv q b))
 | _,_=>none
theorem abs_lt {p:Bool} {a:List Int} (h:okL p a):val a<pw 500000:=by
 have h1:=val_lt h.1
 have h2:=pw_mono h.2.2.2.le
 omega
theorem diff2_ok:NOk Tryz.prog (fun _=>none) hG0 104 (mSpec hG0 .i64 [.st [.nu .b,.li],.st [.nu .b,.li]] dfV):=by
 refine msp_runs (fun xs ys p t e h=>?_) ⟨_,Tryz.func104,rfl⟩
 unfold dfV at e
 split at e
 .rename_i p q a b
  cases e
  obtain ⟨ha,hb,rfl,na,nb⟩:=h
  by_cases hle:val b<=val a
  .exact di_ge ha hb na nb hle
  .have hl:lessL a b=true:=(lessL_iff ha.1 hb.1 ha.2.1 hb.2.1).2 (by omega)
   have la:=List.length_pos_iff.2 na
   have lb:=List.length_pos_iff.2 nb
   have va:=val_nonneg ha.1
   have vb:=abs_lt hb
   have hz:(zv p b - zv p a).natAbs=(val b - val a).toNat:=(abs_eq (p:=p) (v:=val b - val a) (by omega) (by cases p <;> simp only [zv,cond_true,cond_false] <;> omega)).symm
   have ok:=okL_digs (z:=zv p b - zv p a) (by rw [hz]; omega)
   have e:-(zv p b - zv p a)=zv p a - zv p b:=by omega
   refine ⟨cDl,300,suArgs p p a b,_,_,_,_,_,cDl_ok,rfl,rfl,⟨⟨rfl,rfl,trivial⟩,⟨rfl,rfl,trivial⟩,trivial⟩,dl_t p p a b,rfl,⟨neb.2 (by omega),neb.2 (by omega),by cases p <;> rfl,⟨⟨⟨rfl,rfl⟩,ha.2.2.2,hb.2.2.2⟩,hl⟩,⟨⟨rfl,rfl⟩,hb,ha,rfl,nb,na,by omega⟩,rfl,ok⟩,rfl,rfl,⟨?_,?_,?_⟩⟩
   .show decide (-zv (decide (zv p b - zv p a<0)) (digs (zv p b - zv p a).natAbs)<0)=_
    rw [zv_digs,e]
   .rfl
   .show digs (-zv (decide (zv p b - zv p a<0)) (digs (zv p b - zv p a).natAbs)).natAbs=_
    rw [zv_digs,e]
 .cases e
def ordZ (x y:Int):Int:=if x=y then 0 else if x<y then -1 else 1
def orV:List Nu->List (List Int)->Option (Prop×To)
 | [.t p,.t q],[a,b]=>some (okL p a/\okL q b,.nu .i64 (ordZ (zv p a) (zv q b)))
 | _,_=>none
theorem or_eq {p q:Bool} {a b:List Int} (ha:okL p a) (hb:okL q b):(bif decide (p=q/\a=b) then (0:Int) else bif bif p==q then !lessL a b==p else p then (-1:Int) else (1:Int))=ordZ (zv p a) (zv q b):=by
 have hl:=lessL_iff ha.1 hb.1 ha.2.1 hb.2.1
 have h0:=val_nonneg ha.1
 have h1:=val_nonneg hb.1
 unfold ordZ
 by_cases h:p=q/\a=b
 .obtain ⟨rfl,rfl⟩:=h
  rw [decide_eq_true ⟨rfl,rfl⟩,if_pos rfl]; rfl
 .rw [decide_eq_false h,cond_false]
  have hne:zv p a≠zv q b:=by
   intro e
   have e1:p=q:=by rw [ha.neg_eq,hb.neg_eq,e]
   exact h ⟨e1,by rw [<- ha.digs_eq,<- hb.digs_eq,e]⟩
  rw [if_neg hne]
  have et:∀ d,zv true d=-val d:=fun d=>rfl
  have ef:∀ d,zv false d=val d:=fun d=>rfl
  have hn:lessL a b=false->¬ val a<val b:=fun e h=>by rw [hl.2 h] at e; cases e
  cases p <;> cases q
  .have q1:=ef a
   have q2:=ef b
   cases e:lessL a b with
   | true=>have:=hl.1 e; rw [if_pos (by omega)]; rfl
   | false=>have:=hn e; rw [if_neg (by omega)]; rfl
  .have:=hb.val_pos rfl
   have q1:=ef a
   have q2:=et b
   rw [if_neg (by omega)]; rfl
  .have:=ha.val_pos rfl
   have q1:=et a
   have q2:=ef b
   rw [if_pos (by omega)]; rfl
  .have q1:=et a
   have q2:=et b
   cases e:lessL a b with
   | true=>have:=hl.1 e; rw [if_neg (by omega)]; rfl
   | false=>have:=hn e; rw [if_pos (by omega)]; rfl
theorem order_ok:NOk Tryz.prog (fun _=>none) hG0 55 (mSpec hG0 .i64 [.st [.nu .b,.li],.st [.nu .b,.li]] orV):=by
 refine msp_runs (fun xs ys p t e h=>?_) ⟨_,Tryz.func55,rfl⟩
 unfold orV at e
 split at e
 .rename_i p q a b
  cases e
  obtain ⟨ha,hb⟩:=h
  exact ⟨cL2,300,suArgs p q a b,_,_,_,_,_,cL2_ok,rfl,rfl,⟨⟨rfl,rfl,trivial⟩,⟨rfl,rfl,trivial⟩,trivial⟩,or_t p q a b,rfl,⟨⟨⟨rfl,rfl⟩,ha.2.2.2,hb.2.2.2⟩,fun _ _=>⟨⟨⟨rfl,rfl⟩,ha.2.2.2,hb.2.2.2⟩,rfl⟩⟩,rfl,rfl,or_eq ha hb⟩
 .cases e
def tL3:List (FuncId×NSpec):=(104,mSpec hG0 .i64 [.st [.nu .b,.li],.st [.nu .b,.li]] dfV) :: (55,mSpec hG0 .i64 [.st [.nu .b,.li],.st [.nu .b,.li]] orV) :: tL2
theorem tL3_ok:∀ x∈tL3,NOk Tryz.prog (fun _=>none) hG0 x.1 x.2:=by
 intro x hx
 simp only [tL3,List.mem_cons] at hx
 rcases hx with rfl|rfl|hx
 .exact diff2_ok
 .exact order_ok
 .exact tL2_ok x hx
def cSd:Ctx:=hinting (mkN Tryz.prog (fun _=>none) hG0 tL3 [] noExt) (hintsT [(12,.bool false false),(17,.bool false false),(23,.bool false true)])
theorem cSd_ok:CtxOk cSd:=hinting_ok (mkN_ok prog_ok (noExt_ok _) tL3_ok (fun x h=>by cases h)) _
end
end Go.Proofs.YtkbndjnibcjchaaGreatDoor.K
namespace Go.Proofs.YtkbndjnibcjchaaGreatDoor.K
open Go Go.Eng Go.Dg
noncomputable section
def sd_t_nd (p q:Bool) (a b:List Int):Prop:=(((↑a.length:Int)==(0:Int))=false/\((↑b.length:Int)==(0:Int))=false/\(!p==q)=true/\((↑b.length:Int)=(↑b.length:Int)/\okL q b)/\(p=p/\(↑a.length:Int)=(↑a.length:Int))/\((↑a.length:Int)=(↑a.length:Int)/\(↑(digs (-zv q b).natAbs).length:Int)=(↑(digs (-zv q b).natAbs).length:Int))/\okL p a/\okL (decide (-zv q b<(0:Int))) (digs (-zv q b).natAbs)/\p=decide (-zv q b<(0:Int))/\a≠[]/\digs (-zv q b).natAbs≠[])
def sd_t_v (p q:Bool) (a b:List Int):AV:=(AV.agg [AV.bool true (decide (zv p a - zv (decide (-zv q b<(0:Int))) (digs (-zv q b).natAbs)<(0:Int))),AV.lslice 2 (↑(digs (zv p a - zv (decide (-zv q b<(0:Int))) (digs (-zv q b).natAbs)).natAbs).length:Int)])
def sd_t_h (p q:Bool) (a b:List Int):Hp:=⟨[{ wr:=22,body:=ABody.rows IntKind.i64 (digs (zv p a - zv (decide (-zv q b<(0:Int))) (digs (-zv q b).natAbs)).natAbs) },{ wr:=(0:Nat),body:=ABody.rows IntKind.i64 b },{ wr:=(0:Nat),body:=ABody.rows IntKind.i64 a }],3,23⟩
theorem sd_t (p q:Bool) (a b:List Int):(run cSd 300).call 87 (suArgs p q a b) (leH a b)=some ⟨.p (sd_t_nd p q a b),[⟨.tt,sd_t_v p q a b,sd_t_h p q a b⟩]⟩:=by kernel_rfl
end
end Go.Proofs.YtkbndjnibcjchaaGreatDoor.K
namespace Go.Proofs.YtkbndjnibcjchaaGreatDoor.K
open Go Go.Eng Go.Dg
noncomputable section
def sumV:List Nu->List (List Int)->Option (Prop×To)
 | [.t p,.t q],[a,b]=>some (okL p a/\okL q b/\a≠[]/\b≠[]/\val a+val b<pw 400000,lgT false (zv p a+zv q b))
 | _,_=>none
theorem sum_ok:NOk Tryz.prog (fun _=>none) hG0 87 (mSpec hG0 .i64 [.st [.nu .b,.li],.st [.nu .b,.li]] sumV):=by
 refine msp_runs (fun xs ys p t e h=>?_) ⟨_,Tryz.func87,rfl⟩
 unfold sumV at e
 split at e
 .rename_i p q a b
  cases e
  obtain ⟨ha,hb,na,nb,hlt⟩:=h
  by_cases hpq:p=q
  .subst hpq
   exact su_same ha hb na nb hlt
  .have la:=List.length_pos_iff.2 na
   have lb:=List.length_pos_iff.2 nb
   have vb:=val_ne hb.1 hb.2.1 nb
   have v0:=val_nonneg hb.1
   have e:zv p a - -zv q b=zv p a+zv q b:=by omega
   have hz:(-zv q b).natAbs=(val b).toNat:=(abs_eq (p:=!q) (v:=val b) v0 (by cases q <;> simp [zv])).symm
   have ok:=okL_digs (z:=-zv q b) (by rw [hz]; have:=abs_lt hb; omega)
   have hs:p=decide (-zv q b<0):=by
    rw [<- sgn_eq (p:=!q) (v:=val b) v0 (by cases q <;> simp [zv])]
    rw [decide_eq_true vb]
    cases p <;> cases q <;> first|rfl|exact absurd rfl hpq
   refine ⟨cSd,300,suArgs p q a b,_,_,_,_,_,cSd_ok,rfl,rfl,⟨⟨rfl,rfl,trivial⟩,⟨rfl,rfl,trivial⟩,trivial⟩,sd_t p q a b,rfl,⟨neb.2 (by omega),neb.2 (by omega),by cases p <;> cases q <;> first|rfl|exact absurd rfl hpq,⟨rfl,hb⟩,⟨rfl,rfl⟩,⟨rfl,rfl⟩,ha,ok,hs,na,fun h=>by have:=digs_nil.1 h; omega⟩,rfl,rfl,⟨?_,?_,?_⟩⟩
   .show decide (zv p a - zv (decide (-zv q b<0)) (digs (-zv q b).natAbs)<0)=_
    rw [zv_digs,e]
   .rfl
   .show digs (zv p a - zv (decide (-zv q b<0)) (digs (-zv q b).natAbs)).natAbs=_
    rw [zv_digs,e]
 .cases e
end
end Go.Proofs.YtkbndjnibcjchaaGreatDoor.K
namespace Go.Dg
open Go Go.Eng
def padL:Nat->Int->List Int
 | 0,_=>[]
 | n+1,v=>v % 1000000000 :: padL n (v / 1000000000)
theorem padL_len:∀ (n:Nat) (v:Int),(padL n v).length=n
 | 0,_=>rfl
 | n+1,v=>by simp [padL,padL_len n]
theorem padL_dig:∀ (n:Nat) (v:Int),Dig (padL n v)
 | 0,_=>dig_nil
 | n+1,v=>dig_cons.2 ⟨by omega,padL_dig n _⟩
theorem padL_val:∀ {n:Nat} {v:Int},0<=v->v<pw n->val (padL n v)=v
 | 0,v,h0,h1=>by
  have:pw 0=1:=rfl
  simp only [padL,val]; omega
 | n+1,v,h0,h1=>by
  simp only [padL,val]
  have h2:pw (n+1)=(1000000000:Int)*pw n:=rfl
  rw [padL_val (by omega) (by omega)]
  omega
theorem padL_eq:∀ {d:List Int},Dig d->d=padL d.length (val d)
 | [],_=>rfl
 | x :: l,h=>by
  have h:=dig_cons.1 h
  simp only [List.length_cons,padL,val]
  rw [show (x+(1000000000:Int)*val l) % (1000000000:Int)=x by omega,show (x+(1000000000:Int)*val l) / (1000000000:Int)=val l by omega,<- padL_eq h.2]
theorem padL_rep:∀ n,List.replicate n (0:Int)=padL n 0
 | 0=>rfl
 | n+1=>by simp [List.replicate_succ,padL,<- padL_rep n]
theorem padL_uni {d:List Int} (h:Dig d) {n:Nat} {v:Int} (hl:d.length=n) (hv:val d=v):d=padL n v:=by
 subst hl hv; exact padL_eq h
theorem ndf {p:Prop} [Decidable p] (h:¬p):decide p=false:=decide_eq_false h
def prV (a b:List Int) (i k:Int):Int:=val (a.take i.toNat)*val b+pw i.toNat*(a.getD i.toNat 0*val (b.take k.toNat))
def prL (a b:List Int) (i k:Int):List Int:=padL (a.length+b.length) (prV a b i k)
theorem take_le {b:List Int} (hb:Dig b) (k:Nat):val (b.take k)<=val b:=by
 have e:val b=val (b.take k)+pw (b.take k).length*val (b.drop k):=by rw [<- val_app,List.take_append_drop]
 have:=Int.mul_nonneg (Int.le_of_lt (pw_pos (b.take k).length)) (val_nonneg (hb.drop k))
 omega
theorem prV_bd {a b:List Int} (ha:Dig a) (hb:Dig b) (i k:Int):0<=prV a b i k/\prV a b i k<pw (a.length+b.length):=by
 have h1:=ha.get i.toNat
 have h2:=val_nonneg hb
 have h3:=val_nonneg (ha.take i.toNat)
 have h4:=val_nonneg (hb.take k.toNat)
 have h5:=Int.mul_nonneg h3 h2
 have h6:=Int.mul_nonneg (Int.le_of_lt (pw_pos i.toNat)) (Int.mul_nonneg h1.1 h4)
 refine ⟨by unfold prV; omega,?_⟩
 have q1:pw i.toNat*(a.getD i.toNat 0*val (b.take k.toNat))<=pw i.toNat*(a.getD i.toNat 0*val b):=Int.mul_le_mul_of_nonneg_left (Int.mul_le_mul_of_nonneg_left (take_le hb _) h1.1) (Int.le_of_lt (pw_pos _))
 have q2:=mul_row a b i.toNat
 have q3:val (a.take (i.toNat+1))*val b<=val a*val b:=Int.mul_le_mul_of_nonneg_right (take_le ha _) h2
 have q4:val a*val b<pw (a.length+b.length):=by
  rcases mul_lt ha hb with h|⟨h,h'⟩
  .exact h
  .rw [h',h]; decide
 unfold prV
 omega
theorem prV_next {a b:List Int} {i k:Int} (hk:0<=k):prV a b i (k+1)=prV a b i k+pw (i.toNat+k.toNat)*(a.getD i.toNat 0*b.getD k.toNat 0):=by
 unfold prV
 rw [show (k+1).toNat=k.toNat+1 by omega,mul_take_succ]
 omega
theorem prV_row {a b:List Int} {i:Int} (hi:0<=i):prV a b i b.length=prV a b (i+1) 0:=by
 unfold prV
 rw [show (i+1).toNat=i.toNat+1 by omega,mul_row,show ((b.length:Int)).toNat=b.length by omega,List.take_length,show (0:Int).toNat=0 from rfl]
 simp [val]
def prI (a b:List Int) (i k:Int) (j n:Int) (d:List Int):Prop:=
 Dig d/\d.length=a.length+b.length/\0<=j/\0<=n/\n<=1000000000000000000/\val d+pw j.toNat*n=prV a b i (k+1)
theorem prI_end {a b:List Int} {i k j n:Int} {d:List Int} (h:prI a b i k j n d) (h0:¬ n>0):d=prL a b i (k+1):=by
 obtain ⟨h1,h2,h3,h4,h5,h6⟩:=h
 have:n=0:=by omega
 subst this
 exact padL_uni h1 h2 (by rw [<- h6]; simp)
theorem prI_in {a b:List Int} {i k j n:Int} {d:List Int} (ha:Dig a) (hb:Dig b) (h:prI a b i k j n d) (h0:n>0):j.toNat<d.length:=by
 obtain ⟨h1,h2,h3,h4,h5,h6⟩:=h
 have:=prV_bd ha hb i (k+1)
 exact carry_in h1 h0 (by rw [h6,h2]; exact this.2)
theorem prI_step {a b:List Int} {i k j n:Int} {d:List Int} (ha:Dig a) (hb:Dig b) (h:prI a b i k j n d) (h0:n>0):prI a b i k (j+1) ((n+d.getD j.toNat 0).tdiv 1000000000) (d.set j.toNat ((n+d.getD j.toNat 0).tmod 1000000000)):=by
 have hj:=prI_in ha hb h h0
 obtain ⟨h1,h2,h3,h4,h5,h6⟩:=h
 obtain ⟨s1,s2,s3,_⟩:=carry_step h1 h4 hj
 have hg:=h1.get j.toNat
 refine ⟨s1,by rw [List.length_set,h2],by omega,s2,?_,?_⟩
 .rw [Int.tdiv_eq_ediv_of_nonneg (by omega)]; omega
 .rw [show (j+1).toNat=j.toNat+1 by omega,s3,h6]
theorem prI_start {a b:List Int} (ha:Dig a) (hb:Dig b) {i k:Int} (hi:0<=i) (hk:0<=k):prI a b i k (i+k) (a.getD i.toNat 0*b.getD k.toNat 0) (prL a b i k):=by
 have h1:=ha.get i.toNat
 have h2:=hb.get k.toNat
 have h3:=prV_bd ha hb i k
 have hm:=Int.mul_nonneg h1.1 h2.1
 have hu:a.getD i.toNat 0*b.getD k.toNat 0<=1000000000*1000000000:=Int.mul_le_mul (by omega) (by omega) h2.1 (by decide)
 refine ⟨padL_dig _ _,padL_len _ _,by omega,hm,by omega,?_⟩
 unfold prL
 rw [padL_val h3.1 h3.2,prV_next hk,show (i+k).toNat=i.toNat+k.toNat by omega]
end Go.Dg
namespace Go.Proofs.YtkbndjnibcjchaaGreatDoor.K
open Go Go.Eng Go.Dg
noncomputable section
def prFr:AFr:=⟨88,none⟩
def prAo:Code:=loopOf Tryz.prog 88 0
def prAm:Code:=loopOf Tryz.prog 88 1
def prAi:Code:=loopOf Tryz.prog 88 2
noncomputable def poS (p q:Bool) (a b:List Int):St:=stAt cL2 300 88 (suArgs p q a b) (leH a b)
def poP (a b:List Int) (i:Int):Patch:=⟨(6,.int true .i64 i) :: (7,.any false) :: (8,.any false) :: (9,.any false) :: deadT 18 45,[(5,.ints .i64 (prL a b i 0))],[]⟩
def poU (a b:List Int):SumL Int:=
 {
  S:=poP a b
  I:=fun i=>0<=i/\i<=a.length
  μ:=fun i=>(a.length - i).toNat
  F:=fun _=>(.exit 0,poP a b a.length)
  next:=fun i=>IntKind.i64.wrap (i+1)
  ids:=fun _=>[]
  X:=fun i _=>some (poP a b i,[]) }
noncomputable def pmS (p q:Bool) (a b:List Int) (i:Int):St:=stIn cL2 300 prFr prAo (patch (poS p q a b) (poP a b i))
def pmP (a b:List Int) (i k:Int):Patch:=⟨(7,.int true .i64 k) :: (8,.any false) :: (9,.any false) :: deadT 25 38,[(5,.ints .i64 (prL a b i k))],[]⟩
def pmU (a b:List Int) (i:Int):SumL Int:=
 {
  S:=pmP a b i
  I:=fun k=>0<=k/\k<=b.length
  μ:=fun k=>(b.length - k).toNat
  F:=fun _=>(.exit 2,pmP a b i b.length)
  next:=fun k=>IntKind.i64.wrap (k+1)
  ids:=fun _=>[]
  X:=fun k _=>some (pmP a b i k,[]) }
noncomputable def piS (p q:Bool) (a b:List Int) (i k:Int):St:=stIn cL2 300 prFr prAm (patch (pmS p q a b i) (pmP a b i k))
def piP (j n:Int) (d:List Int):Patch:=⟨(8,.int true .i64 n) :: (9,.int true .i64 j) :: deadT 46 17,[(5,.ints .i64 d)],[]⟩
def piX (d:List Int):Patch:=⟨(8,.any false) :: (9,.any false) :: deadT 46 17,[(5,.ints .i64 d)],[]⟩
def piU (a b:List Int) (i k:Int):SumL (Int×Int×List Int):=
 {
  S:=fun (j,n,d)=>piP j n d
  I:=fun (j,n,d)=>prI a b i k j n d
  μ:=fun (j,_,_)=>(a.length+b.length - j).toNat
  F:=fun _=>(.exit 4,piX (prL a b i (k+1)))
  next:=fun (j,n,d)=>(IntKind.i64.wrap (j+1),IntKind.i64.wrap ((IntKind.i64.wrap (n+d.getD j.toNat 0)).tdiv 1000000000),d.set j.toNat ((IntKind.i64.wrap (n+d.getD j.toNat 0)).tmod 1000000000))
  ids:=fun _=>[]
  X:=fun (_,_,d) _=>some (piX d,[]) }
noncomputable def cPi (p q:Bool) (a b:List Int) (i k:Int):Ctx:=withLoops cL2 [oneLoop 88 (piS p q a b i k).hp.clock prFr prAi (piS p q a b i k) (.exit 4) (piX (prL a b i (k+1)))]
noncomputable def cPm (p q:Bool) (a b:List Int) (i:Int):Ctx:=withLoops cL2 [oneLoop 88 (pmS p q a b i).hp.clock prFr prAm (pmS p q a b i) (.exit 2) (pmP a b i b.length)]
noncomputable def cPo (p q:Bool) (a b:List Int):Ctx:=withLoops cL2 [oneLoop 88 (poS p q a b).hp.clock prFr prAo (poS p q a b) (.exit 0) (poP a b a.length)]
end
end Go.Proofs.YtkbndjnibcjchaaGreatDoor.K
namespace Go.Proofs.YtkbndjnibcjchaaGreatDoor.K
open Go Go.Eng Go.Dg
noncomputable section
def po_start_nd (p q:Bool) (a b:List Int):Prop:=(0:Int)=(0:Int)/\List.replicate (IntKind.i64.wrap ((↑a.length:Int)+(↑b.length:Int))).toNat (0:Int)=prL a b (0:Int) (0:Int)
theorem po_start (p q:Bool) (a b:List Int):fit (poS p q a b) (poS p q a b) (patch (poS p q a b) ((poU a b).S 0)) ([])=some (.p (po_start_nd p q a b)):=by kernel_rfl
def pm_start_nd (p q:Bool) (a b:List Int) (i:Int):Prop:=(0:Int)=(0:Int)/\prL a b i (0:Int)=prL a b i (0:Int)
theorem pm_start (p q:Bool) (a b:List Int) (i:Int):fit (pmS p q a b i) (pmS p q a b i) (patch (pmS p q a b i) ((pmU a b i).S 0)) ([])=some (.p (pm_start_nd p q a b i)):=by kernel_rfl
def pi_start_nd (p q:Bool) (a b:List Int) (i k:Int):Prop:=(IntKind.i64.wrap (a.getD i.toNat (0:Int)*b.getD k.toNat (0:Int))=IntKind.i64.wrap (a.getD i.toNat (0:Int)*b.getD k.toNat (0:Int))/\IntKind.i64.wrap (i+k)=IntKind.i64.wrap (i+k))/\prL a b i k=prL a b i k
theorem pi_start (p q:Bool) (a b:List Int) (i k:Int):fit (piS p q a b i k) (piS p q a b i k) (patch (piS p q a b i k) ((piU a b i k).S (IntKind.i64.wrap (i+k),IntKind.i64.wrap (a.getD i.toNat 0*b.getD k.toNat 0),prL a b i k))) ([])=some (.p (pi_start_nd p q a b i k)):=by kernel_rfl
def pi_body_nd (p q:Bool) (a b:List Int) (i k j n:Int) (d:List Int):Prop:=(decide (n>(0:Int))=true->(((0:Int)<=j/\j<IntKind.i64.wrap ((↑a.length:Int)+(↑b.length:Int)))/\((0:Int)+j).toNat<d.length)/\((0:Int)<=j/\j<IntKind.i64.wrap ((↑a.length:Int)+(↑b.length:Int)))/\((0:Int)+j).toNat<d.length)/\((!decide (n>(0:Int)))=true->d=d/\(piU a b i k).F (j,n,d)=(Ex.exit (4:Nat),piX d))/\(decide (n>(0:Int))=true->((IntKind.i64.wrap ((IntKind.i64.wrap (n+d.getD ((0:Int)+j).toNat (0:Int))).tdiv (1000000000:Int))=IntKind.i64.wrap ((IntKind.i64.wrap (n+d.getD j.toNat (0:Int))).tdiv (1000000000:Int))/\IntKind.i64.wrap (j+(1:Int))=IntKind.i64.wrap (j+(1:Int)))/\d.set ((0:Int)+j).toNat ((IntKind.i64.wrap (n+d.getD ((0:Int)+j).toNat (0:Int))).tmod (1000000000:Int))=d.set j.toNat ((IntKind.i64.wrap (n+d.getD j.toNat (0:Int))).tmod (1000000000:Int)))/\(piU a b i k).I ((piU a b i k).next (j,n,d))/\(piU a b i k).μ ((piU a b i k).next (j,n,d))<(piU a b i k).μ (j,n,d)/\(piU a b i k).F ((piU a b i k).next (j,n,d))=(piU a b i k).F (j,n,d))
theorem pi_body (p q:Bool) (a b:List Int) (i k j n:Int) (d:List Int):chkR (piS p q a b i k) ((piU a b i k).way ((j,n,d))) ((run cL2 300).code prFr prAi (patch (piS p q a b i k) ((piU a b i k).S (j,n,d))))=some (.p (pi_body_nd p q a b i k j n d)):=by kernel_rfl
def pm_body_nd (p q:Bool) (a b:List Int) (i k:Int):Prop:=(decide (k<(↑b.length:Int))=true->(((0:Int)<=i/\i<(↑a.length:Int))/\i.toNat<a.length/\((0:Int)<=k/\k<(↑b.length:Int))/\k.toNat<b.length)/\At (prFr) (prFr) (prAi) (prAi) (piS p q a b i k) (piS p q a b i k))/\((!decide (k<(↑b.length:Int)))=true->(k=k/\prL a b i k=prL a b i k)/\(pmU a b i).F k=(Ex.exit (2:Nat),pmP a b i k))/\(decide (k<(↑b.length:Int))=true->(IntKind.i64.wrap (k+(1:Int))=(pmU a b i).next k/\prL a b i (k+(1:Int))=prL a b i ((pmU a b i).next k))/\(pmU a b i).I ((pmU a b i).next k)/\(pmU a b i).μ ((pmU a b i).next k)<(pmU a b i).μ k/\(pmU a b i).F ((pmU a b i).next k)=(pmU a b i).F k)
theorem pm_body (p q:Bool) (a b:List Int) (i k:Int):chkR (pmS p q a b i) ((pmU a b i).way (k)) ((run (cPi p q a b i k) 300).code prFr prAm (patch (pmS p q a b i) ((pmU a b i).S k)))=some (.p (pm_body_nd p q a b i k)):=by kernel_rfl
def po_body_nd (p q:Bool) (a b:List Int) (i:Int):Prop:=(decide (i<(↑a.length:Int))=true->At (prFr) (prFr) (prAm) (prAm) (pmS p q a b i) (pmS p q a b i))/\((!decide (i<(↑a.length:Int)))=true->(i=i/\prL a b i (0:Int)=prL a b i (0:Int))/\(poU a b).F i=(Ex.exit (0:Nat),poP a b i))/\(decide (i<(↑a.length:Int))=true->(IntKind.i64.wrap (i+(1:Int))=(poU a b).next i/\prL a b i (↑b.length:Int)=prL a b ((poU a b).next i) (0:Int))/\(poU a b).I ((poU a b).next i)/\(poU a b).μ ((poU a b).next i)<(poU a b).μ i/\(poU a b).F ((poU a b).next i)=(poU a b).F i)
theorem po_body (p q:Bool) (a b:List Int) (i:Int):chkR (poS p q a b) ((poU a b).way (i)) ((run (cPm p q a b i) 300).code prFr prAo (patch (poS p q a b) ((poU a b).S i)))=some (.p (po_body_nd p q a b i)):=by kernel_rfl
def pr_t_nd (p q:Bool) (a b:List Int):Prop:=((IntKind.i64.wrap ((↑a.length:Int)+(↑b.length:Int))=IntKind.i64.wrap ((↑a.length:Int)+(↑b.length:Int))/\(0:Int)<=IntKind.i64.wrap ((↑a.length:Int)+(↑b.length:Int))/\IntKind.i64.wrap ((↑a.length:Int)+(↑b.length:Int))<=(1048576:Int))/\At (prFr) (prFr) (prAo) (prAo) (poS p q a b) (poS p q a b)/\((0:Int)<=(0:Int)/\(0:Int)<=IntKind.i64.wrap ((↑a.length:Int)+(↑b.length:Int))/\(0:Int)+IntKind.i64.wrap ((↑a.length:Int)+(↑b.length:Int))<=(↑(prL a b (↑a.length:Int) (0:Int)).length:Int))/\Dig (List.take (IntKind.i64.wrap ((↑a.length:Int)+(↑b.length:Int))).toNat (List.drop (Int.toNat (0:Int)) (prL a b (↑a.length:Int) (0:Int))))/\Sm (List.take (IntKind.i64.wrap ((↑a.length:Int)+(↑b.length:Int))).toNat (List.drop (Int.toNat (0:Int)) (prL a b (↑a.length:Int) (0:Int)))))
def pr_t_v (p q:Bool) (a b:List Int):AV:=(AV.agg [AV.bool true (!p==q&&decide (val (List.take (IntKind.i64.wrap ((↑a.length:Int)+(↑b.length:Int))).toNat (List.drop (Int.toNat (0:Int)) (prL a b (↑a.length:Int) (0:Int))))≠(0:Int))),AV.islice true 2 (0:Int) (↑(digs (val (List.take (IntKind.i64.wrap ((↑a.length:Int)+(↑b.length:Int))).toNat (List.drop (Int.toNat (0:Int)) (prL a b (↑a.length:Int) (0:Int))))).toNat).length:Int)])
def pr_t_h (p q:Bool) (a b:List Int):Hp:=⟨[{ wr:=24,body:=ABody.ints IntKind.i64 (digs (val (List.take (IntKind.i64.wrap ((↑a.length:Int)+(↑b.length:Int))).toNat (List.drop (Int.toNat (0:Int)) (prL a b (↑a.length:Int) (0:Int))))).toNat) },{ wr:=(0:Nat),body:=ABody.rows IntKind.i64 b },{ wr:=(0:Nat),body:=ABody.rows IntKind.i64 a }],3,25⟩
theorem pr_t (p q:Bool) (a b:List Int):(run (cPo p q a b) 300).call 88 (suArgs p q a b) (leH a b)=some ⟨.p (pr_t_nd p q a b),[⟨.tt,pr_t_v p q a b,pr_t_h p q a b⟩]⟩:=by kernel_rfl
def cHf (t:Nat):Ctx:=hinting cL2 (hintsT [(t,.bool false false)])
theorem cHf_ok (t:Nat):CtxOk (cHf t):=hinting_ok cL2_ok _
def pm_end_nd (p q:Bool) (a b:List Int) (i k:Int):Prop:=decide (k<(↑b.length:Int))=false/\(true=true->(k=k/\prL a b i k=prL a b i k)/\(pmU a b i).F k=(Ex.exit (2:Nat),pmP a b i k))
theorem pm_end (p q:Bool) (a b:List Int) (i k:Int):chkR (pmS p q a b i) ((pmU a b i).way (k)) ((run (cHf 29) 300).code prFr prAm (patch (pmS p q a b i) ((pmU a b i).S k)))=some (.p (pm_end_nd p q a b i k)):=by kernel_rfl
def po_end_nd (p q:Bool) (a b:List Int) (i:Int):Prop:=decide (i<(↑a.length:Int))=false/\(true=true->(i=i/\prL a b i (0:Int)=prL a b i (0:Int))/\(poU a b).F i=(Ex.exit (0:Nat),poP a b i))
theorem po_end (p q:Bool) (a b:List Int) (i:Int):chkR (poS p q a b) ((poU a b).way (i)) ((run (cHf 22) 300).code prFr prAo (patch (poS p q a b) ((poU a b).S i)))=some (.p (po_end_nd p q a b i)):=by kernel_rfl
end
end Go.Proofs.YtkbndjnibcjchaaGreatDoor.K
