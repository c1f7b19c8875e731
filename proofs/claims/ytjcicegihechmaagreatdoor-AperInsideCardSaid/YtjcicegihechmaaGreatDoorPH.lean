/- What is proved: AperInside returns true, whatever the input (part 8). No conditions beyond those of the row. -/
import Derived.Test.YtjcicegihechmaaGreatDoorPG
set_option linter.unusedVariables false
set_option linter.unusedSimpArgs false
set_option linter.unusedSectionVars false
namespace Go.Dg
def val:List Int->Int
 | []=>0
 | x :: l=>x+(1000000000:Int)*val l
def Dig (xs:List Int):Prop:=∀ x∈xs,0<=x/\x<(1000000000:Int)
def pw:Nat->Int
 | 0=>1
 | n+1=>(1000000000:Int)*pw n
theorem pw_pos:∀ n,0<pw n
 | 0=>by decide
 | n+1=>Int.mul_pos (by decide) (pw_pos n)
theorem pw_add:∀ m n,pw (m+n)=pw m*pw n
 | 0,n=>by simp [pw]
 | m+1,n=>by rw [Nat.succ_add]; simp only [pw]; rw [pw_add m n,Int.mul_assoc]
theorem dig_nil:Dig []:=fun _ h=>by cases h
theorem dig_cons {x:Int} {l:List Int}:Dig (x :: l) ↔ (0<=x/\x<(1000000000:Int))/\Dig l:=by
 constructor
 .intro h; exact ⟨h x (by simp),fun y hy=>h y (by simp [hy])⟩
 .rintro ⟨h1,h2⟩ y hy
  rcases List.mem_cons.1 hy with rfl|hy
  .exact h1
  .exact h2 y hy
theorem dig_app {l m:List Int}:Dig (l++m) ↔ Dig l/\Dig m:=by
 constructor
 .intro h; exact ⟨fun y hy=>h y (by simp [hy]),fun y hy=>h y (by simp [hy])⟩
 .rintro ⟨h1,h2⟩ y hy
  rcases List.mem_append.1 hy with hy|hy
  .exact h1 y hy
  .exact h2 y hy
theorem Dig.take {l:List Int} (h:Dig l) (n:Nat):Dig (l.take n):=fun x hx=>h x (List.mem_of_mem_take hx)
theorem Dig.drop {l:List Int} (h:Dig l) (n:Nat):Dig (l.drop n):=fun x hx=>h x (List.mem_of_mem_drop hx)
theorem Dig.get {l:List Int} (h:Dig l) (i:Nat):0<=l.getD i 0/\l.getD i 0<(1000000000:Int):=by
 rw [List.getD_eq_getElem?_getD]
 cases e:l[i]? with
 | none=>exact ⟨Int.le_refl _,by decide⟩
 | some x=>exact h x (List.mem_of_getElem? e)
theorem Dig.set {l:List Int} (h:Dig l) (i:Nat) {x:Int} (hx:0<=x/\x<(1000000000:Int)):Dig (l.set i x):=fun y hy=>by
 rcases List.mem_or_eq_of_mem_set hy with h1|rfl
 .exact h y h1
 .exact hx
theorem val_app:∀ (l m:List Int),val (l++m)=val l+pw l.length*val m
 | [],m=>by simp [val,pw]
 | x :: l,m=>by
  simp only [List.cons_append,val,List.length_cons,pw]
  rw [val_app l m,Int.mul_add,Int.mul_assoc]; omega
theorem val_nonneg:∀ {l:List Int},Dig l->0<=val l
 | [],_=>Int.le_refl _
 | x :: l,h=>by
  have h:=dig_cons.1 h
  have:=val_nonneg h.2
  simp only [val]
  omega
theorem val_lt:∀ {l:List Int},Dig l->val l<pw l.length
 | [],_=>by decide
 | x :: l,h=>by
  have h:=dig_cons.1 h
  have:=val_lt h.2
  simp only [val,List.length_cons,pw]
  have h3:(1000000000:Int)*val l+(1000000000:Int)<=(1000000000:Int)*pw l.length:=by
   have:(1000000000:Int)*(val l+1)<=(1000000000:Int)*pw l.length:=Int.mul_le_mul_of_nonneg_left (by omega) (by decide)
   rw [Int.mul_add] at this
   simpa using this
  have:=h.1.2
  omega
theorem val_set:∀ (l:List Int) (i:Nat) (x:Int),i<l.length->val (l.set i x)=val l+pw i*(x - l.getD i 0)
 | [],i,x,h=>by simp at h
 | y :: l,0,x,h=>by simp [val,pw]; omega
 | y :: l,i+1,x,h=>by
  simp only [List.set_cons_succ,val,pw,List.getD_cons_succ]
  rw [val_set l i x (by simpa using h),Int.mul_add,Int.mul_assoc]
  omega
theorem val_take_succ {l:List Int} {n:Nat} (h:n<l.length):val (l.take (n+1))=val (l.take n)+pw n*l.getD n 0:=by
 rw [List.take_add_one,List.getElem?_eq_getElem h,val_app,List.length_take,Nat.min_eq_left (by omega),List.getD_eq_getElem?_getD,List.getElem?_eq_getElem h]
 simp [val]
def digs (n:Nat):List Int:=
 if h:n=0 then [] else ((n % 1000000000:Nat):Int) :: digs (n / 1000000000)
termination_by n
decreasing_by exact Nat.div_lt_self (Nat.pos_of_ne_zero h) (by decide)
theorem digs_zero:digs 0=[]:=by rw [digs]; simp
theorem digs_pos {n:Nat} (h:n≠0):digs n=((n % 1000000000:Nat):Int) :: digs (n / 1000000000):=by rw [digs]; simp [h]
theorem val_digs (n:Nat):val (digs n)=n:=by
 induction n using Nat.strongRecOn with
 | _ n ih=>
  by_cases h:n=0
  .subst h; rw [digs_zero]; rfl
  .rw [digs_pos h,val,ih _ (Nat.div_lt_self (Nat.pos_of_ne_zero h) (by decide))]
   omega
theorem dig_digs (n:Nat):Dig (digs n):=by
 induction n using Nat.strongRecOn with
 | _ n ih=>
  by_cases h:n=0
  .subst h; rw [digs_zero]; exact dig_nil
  .rw [digs_pos h]
   exact dig_cons.2 ⟨by omega,ih _ (Nat.div_lt_self (Nat.pos_of_ne_zero h) (by decide))⟩
def Top (l:List Int):Prop:=l=[]\/l.getD (l.length - 1) 0≠0
theorem top_cons {x y:Int} {l:List Int}:Top (x :: y :: l) ↔ Top (y :: l):=by
 constructor
 .intro h
  rcases h with h|h
  .cases h
  .exact .inr (by simpa using h)
 .intro h
  rcases h with h|h
  .cases h
  .exact .inr (by simpa using h)
theorem val_ne {l:List Int}:Dig l->Top l->l≠[]->val l≠0:=by
 induction l with
 | nil=>intro _ _ h; exact absurd rfl h
 | cons x l ih=>
  intro hd ht _
  have h:=dig_cons.1 hd
  have h2:=val_nonneg h.2
  simp only [val]
  cases l with
  | nil=>
   rcases ht with ht|ht
   .cases ht
   .have:x≠0:=by simpa using ht
    simp only [val]; omega
  | cons y l=>
   have:=ih h.2 (top_cons.1 ht) (by simp)
   omega
theorem digs_val:∀ {l:List Int},Dig l->Top l->digs (val l).toNat=l
 | [],_,_=>digs_zero
 | x :: l,hd,ht=>by
  have h:=dig_cons.1 hd
  have h2:=val_nonneg h.2
  have h0:val (x :: l)≠0:=val_ne hd ht (by simp)
  have h1:0<=val (x :: l):=val_nonneg hd
  have ht':Top l:=by
   cases l with
   | nil=>exact .inl rfl
   | cons y l=>exact top_cons.1 ht
  rw [digs_pos (by omega)]
  simp only [val] at h1 ⊢
  have e1:(x+(1000000000:Int)*val l).toNat % 1000000000=x.toNat:=by omega
  have e2:(x+(1000000000:Int)*val l).toNat / 1000000000=(val l).toNat:=by omega
  rw [e1,e2,digs_val h.2 ht',Int.toNat_of_nonneg h.1.1]
theorem top_digs (n:Nat):Top (digs n):=by
 induction n using Nat.strongRecOn with
 | _ n ih=>
  by_cases h:n=0
  .subst h; rw [digs_zero]; exact .inl rfl
  .by_cases h2:n / 1000000000=0
   .rw [digs_pos h,h2,digs_zero]
    right
    simp
    omega
   .have:=ih (n / 1000000000) (Nat.div_lt_self (Nat.pos_of_ne_zero h) (by decide))
    rw [digs_pos h]
    rw [digs_pos h2] at this ⊢
    exact top_cons.2 this
theorem digs_len_pos {n:Nat} (h:n≠0):0<(digs n).length:=by rw [digs_pos h]; simp
theorem digs_nil {n:Nat}:digs n=[] ↔ n=0:=by
 constructor
 .intro h
  by_cases h0:n=0
  .exact h0
  .rw [digs_pos h0] at h; cases h
 .rintro rfl; exact digs_zero
def tl (l:List Int):Nat->Nat
 | 0=>0
 | n+1=>if l.getD n 0=0 then tl l n else n+1
theorem tl_le (l:List Int):∀ n,tl l n<=n
 | 0=>Nat.le_refl _
 | n+1=>by
  simp only [tl]
  split
  .exact Nat.le_succ_of_le (tl_le l n)
  .exact Nat.le_refl _
theorem val_tl {l:List Int}:∀ {n},n<=l.length->val (l.take (tl l n))=val (l.take n)
 | 0,_=>rfl
 | n+1,h=>by
  simp only [tl]
  split
  .rename_i h0
   rw [val_tl (by omega),val_take_succ (by omega),h0]
   simp
  .rfl
theorem top_tl {l:List Int}:∀ {n},n<=l.length->Top (l.take (tl l n))
 | 0,_=>.inl rfl
 | n+1,h=>by
  simp only [tl]
  split
  .exact top_tl (by omega)
  .rename_i h0
   right
   rw [List.length_take,Nat.min_eq_left (by omega)]
   simpa [List.getD_eq_getElem?_getD,List.getElem?_take] using h0
theorem take_tl {l:List Int} (h:Dig l):l.take (tl l l.length)=digs (val l).toNat:=by
 have h1:=digs_val (h.take (tl l l.length)) (top_tl (Nat.le_refl _))
 rw [val_tl (Nat.le_refl _),List.take_length] at h1
 exact h1.symm
theorem tl_zero {l:List Int} (h:Dig l):tl l l.length=0 ↔ val l=0:=by
 have e:=take_tl h
 have h0:=val_nonneg h
 have hle:=tl_le l l.length
 constructor
 .intro ht
  rw [ht,List.take_zero] at e
  have:=digs_nil.1 e.symm
  omega
 .intro hv
  rw [hv] at e
  have e:l.take (tl l l.length)=[]:=by rw [e]; exact digs_zero
  have:=congrArg List.length e
  rw [List.length_take,Nat.min_eq_left hle] at this
  exact this
end Go.Dg
namespace Go.Dg
def lessB (a b:List Int):Nat->Bool
 | 0=>false
 | n+1=>if a.getD n 0=b.getD n 0 then lessB a b n else decide (a.getD n 0<b.getD n 0)
theorem lessB_iff {a b:List Int} (ha:Dig a) (hb:Dig b):∀ {n:Nat},n<=a.length->n<=b.length->(lessB a b n=true ↔ val (a.take n)<val (b.take n))
 | 0,_,_=>by simp [lessB,val]
 | n+1,h1,h2=>by
  have ih:=lessB_iff ha hb (n:=n) (by omega) (by omega)
  simp only [lessB]
  rw [val_take_succ (by omega),val_take_succ (by omega)]
  split
  .rename_i he
   rw [ih,he]
   omega
  .rename_i he
   have x1:=val_lt (ha.take n)
   have x2:=val_lt (hb.take n)
   have y1:=val_nonneg (ha.take n)
   have y2:=val_nonneg (hb.take n)
   rw [List.length_take,Nat.min_eq_left (by omega)] at x1 x2
   have hp:=pw_pos n
   simp only [decide_eq_true_eq]
   constructor
   .intro hlt
    have:pw n*(a.getD n 0+1)<=pw n*b.getD n 0:=Int.mul_le_mul_of_nonneg_left (by omega) (by omega)
    rw [Int.mul_add] at this
    omega
   .intro hlt
    rcases (show a.getD n 0<b.getD n 0\/b.getD n 0<=a.getD n 0 by omega) with h|h
    .exact h
    .have:pw n*(b.getD n 0+1)<=pw n*a.getD n 0:=Int.mul_le_mul_of_nonneg_left (by omega) (by omega)
     rw [Int.mul_add] at this
     omega
theorem pw_mono {m n:Nat} (h:m<=n):pw m<=pw n:=by
 obtain ⟨k,rfl⟩:=Nat.le.dest h
 rw [pw_add]
 have h1:=pw_pos m
 have h2:=pw_pos k
 calc pw m=pw m*1:=(Int.mul_one _).symm
  _<=pw m*pw k:=Int.mul_le_mul_of_nonneg_left h2 (Int.le_of_lt h1)
theorem val_ge {l:List Int} (h:Dig l) (ht:Top l) (hne:l≠[]):pw (l.length - 1)<=val l:=by
 have hpos:0<l.length:=List.length_pos_iff.2 hne
 have h1:val l=val (l.take (l.length - 1))+pw (l.length - 1)*l.getD (l.length - 1) 0:=by
  have:=val_take_succ (l:=l) (n:=l.length - 1) (by omega)
  rw [show l.length - 1+1=l.length by omega,List.take_length] at this
  exact this
 have h2:=val_nonneg (h.take (l.length - 1))
 have h3:1<=l.getD (l.length - 1) 0:=by
  rcases ht with ht|ht
  .exact absurd ht hne
  .have:=h.get (l.length - 1); omega
 have h4:pw (l.length - 1)*1<=pw (l.length - 1)*l.getD (l.length - 1) 0:=Int.mul_le_mul_of_nonneg_left h3 (Int.le_of_lt (pw_pos _))
 omega
theorem val_len_lt {a b:List Int} (ha:Dig a) (hb:Dig b) (tb:Top b) (h:a.length<b.length):val a<val b:=by
 have h1:=val_lt ha
 have h2:=val_ge hb tb (by rintro rfl; simp at h)
 have h3:=pw_mono (show a.length<=b.length - 1 by omega)
 omega
def lessL (a b:List Int):Bool:=if a.length=b.length then lessB a b a.length else decide (a.length<b.length)
theorem lessL_iff {a b:List Int} (ha:Dig a) (hb:Dig b) (ta:Top a) (tb:Top b):lessL a b=true ↔ val a<val b:=by
 unfold lessL
 split
 .rename_i h
  rw [lessB_iff ha hb (Nat.le_refl _) (by omega),List.take_length,h,List.take_length]
 .rename_i h
  simp only [decide_eq_true_eq]
  constructor
  .exact fun hl=>val_len_lt ha hb tb hl
  .intro hv
   rcases Nat.lt_or_ge a.length b.length with h1|h1
   .exact h1
   .have:=val_len_lt hb ha ta (by omega)
    omega
theorem getD_ge {l:List Int} {i:Nat} (h:l.length<=i):l.getD i 0=0:=by
 rw [List.getD_eq_getElem?_getD,List.getElem?_eq_none h]; rfl
theorem val_take_succ' (l:List Int) (n:Nat):val (l.take (n+1))=val (l.take n)+pw n*l.getD n 0:=by
 rcases Nat.lt_or_ge n l.length with h|h
 .exact val_take_succ h
 .rw [List.take_of_length_le (by omega),List.take_of_length_le (by omega),getD_ge h]; simp
end Go.Dg
namespace Go.Dg
theorem pw_lt {m n:Nat} (h:pw m<pw n):m<n:=by
 rcases Nat.lt_or_ge m n with h1|h1
 .exact h1
 .have:=pw_mono h1; omega
theorem carry_in {d:List Int} (hd:Dig d) {j:Nat} {n:Int} (h0:0<n) (hlt:val d+pw j*n<pw d.length):j<d.length:=by
 have h1:=val_nonneg hd
 have h2:pw j*1<=pw j*n:=Int.mul_le_mul_of_nonneg_left h0 (Int.le_of_lt (pw_pos j))
 exact pw_lt (by omega)
theorem carry_step {d:List Int} (hd:Dig d) {j:Nat} {n:Int} (h0:0<=n) (hj:j<d.length):
  Dig (d.set j ((n+d.getD j 0).tmod (1000000000:Int)))/\0<=(n+d.getD j 0).tdiv (1000000000:Int)/\val (d.set j ((n+d.getD j 0).tmod (1000000000:Int)))+pw (j+1)*(n+d.getD j 0).tdiv (1000000000:Int)=val d+pw j*n/\0<=(n+d.getD j 0).tmod (1000000000:Int)/\(n+d.getD j 0).tmod (1000000000:Int)<(1000000000:Int):=by
 have h1:=hd.get j
 have key:0<=(n+d.getD j 0).tmod (1000000000:Int)/\(n+d.getD j 0).tmod (1000000000:Int)<(1000000000:Int)/\0<=(n+d.getD j 0).tdiv (1000000000:Int)/\(n+d.getD j 0).tmod (1000000000:Int)+(1000000000:Int)*(n+d.getD j 0).tdiv (1000000000:Int)=n+d.getD j 0:=by
  have hs:0<=n+d.getD j 0:=by omega
  rw [Int.tmod_eq_emod_of_nonneg hs,Int.tdiv_eq_ediv_of_nonneg hs]
  omega
 obtain ⟨k1,k2,k3,k4⟩:=key
 refine ⟨hd.set j ⟨k1,k2⟩,k3,?_,k1,k2⟩
 rw [val_set d j _ hj]
 simp only [pw]
 have e:pw j*((n+d.getD j 0).tmod (1000000000:Int)+(1000000000:Int)*(n+d.getD j 0).tdiv (1000000000:Int))=pw j*(n+d.getD j 0):=by rw [k4]
 rw [Int.mul_add,Int.mul_add] at e
 rw [Int.mul_sub,Int.mul_comm (1000000000:Int),Int.mul_assoc]
 omega
theorem mul_take_succ (x:Int) (b:List Int) (i k:Nat):pw i*(x*val (b.take (k+1)))=pw i*(x*val (b.take k))+pw (i+k)*(x*b.getD k 0):=by
 rw [val_take_succ',Int.mul_add,Int.mul_add,pw_add,Int.mul_assoc (pw i) (pw k)]
 congr 2
 rw [Int.mul_left_comm]
theorem mul_row (a b:List Int) (i:Nat):val (a.take (i+1))*val b=val (a.take i)*val b+pw i*(a.getD i 0*val b):=by
 rw [val_take_succ',Int.add_mul,Int.mul_assoc]
theorem mul_lt {a b:List Int} (ha:Dig a) (hb:Dig b):val a*val b<pw (a.length+b.length)\/(a.length+b.length=0/\val a*val b=0):=by
 left
 rw [pw_add]
 have h1:=val_lt ha
 have h2:=val_lt hb
 have h3:=val_nonneg ha
 have h4:=val_nonneg hb
 have q1:val a*val b<=val a*pw b.length:=Int.mul_le_mul_of_nonneg_left (by omega) h3
 have q2:(val a+1)*pw b.length<=pw a.length*pw b.length:=Int.mul_le_mul_of_nonneg_right (by omega) (Int.le_of_lt (pw_pos _))
 rw [Int.add_mul] at q2
 have:=pw_pos b.length
 omega
end Go.Dg
namespace Go.Dg
def fr (x:Int):Int:=if x.tmod (1000000000:Int)<0 then x.tmod (1000000000:Int)+(1000000000:Int) else x.tmod (1000000000:Int)
def fq (x:Int):Int:=if x.tmod (1000000000:Int)<0 then x.tdiv (1000000000:Int) - 1 else x.tdiv (1000000000:Int)
theorem f_spec (x:Int):0<=fr x/\fr x<(1000000000:Int)/\fr x+(1000000000:Int)*fq x=x:=by
 have h1:=Int.mul_tdiv_add_tmod x (1000000000:Int)
 have h2:-(1000000000:Int)<x.tmod (1000000000:Int)/\x.tmod (1000000000:Int)<(1000000000:Int):=by
  have:=Int.natAbs_tmod x (1000000000:Int)
  have h3:x.natAbs % 1000000000<1000000000:=Nat.mod_lt _ (by decide)
  have h4:(x.tmod (1000000000:Int)).natAbs<1000000000:=by rw [this]; exact h3
  omega
 unfold fr fq
 split <;> omega
def estK (d b:List Int):Int:=(d.getD b.length 0*(1000000000:Int)+d.getD (b.length - 1) 0).tdiv (b.getD (b.length - 1) 0+1)
theorem val_top {l:List Int} (hne:l≠[]):val l=val (l.take (l.length - 1))+pw (l.length - 1)*l.getD (l.length - 1) 0:=by
 have hpos:0<l.length:=List.length_pos_iff.2 hne
 have:=val_take_succ (l:=l) (n:=l.length - 1) (by omega)
 rw [show l.length - 1+1=l.length by omega,List.take_length] at this
 exact this
theorem est_spec {d b:List Int} (hd:Dig d) (hb:Dig b) (td:Top d) (tb:Top b) (hbn:b≠[]) (hge:val b<=val d) (hlt:val d<(1000000000:Int)*val b):
  b.length<=d.length/\d.length<=b.length+1/\0<=estK d b/\estK d b<(1000000000:Int)/\estK d b*val b<=val d:=by
 have hpos:0<b.length:=List.length_pos_iff.2 hbn
 have hp:=pw_pos (b.length - 1)
 have hl1:b.length<=d.length:=by
  rcases Nat.lt_or_ge d.length b.length with h|h
  .have:=val_len_lt hd hb tb h; omega
  .exact h
 have hdn:d≠[]:=by rintro rfl; exact hbn (by simpa using hl1)
 have hl2:d.length<=b.length+1:=by
  rcases Nat.lt_or_ge (b.length+1) d.length with h|h
  .have q1:=val_ge hd td hdn
   have q2:=val_lt hb
   have q3:=pw_mono (show b.length+1<=d.length - 1 by omega)
   simp only [pw] at q3
   omega
  .exact h
 have hbt:=hb.get (b.length - 1)
 have hbv:=val_top hbn
 have hbl:=val_lt (hb.take (b.length - 1))
 rw [List.length_take,Nat.min_eq_left (by omega)] at hbl
 have hT:pw (b.length - 1)*(d.getD b.length 0*(1000000000:Int)+d.getD (b.length - 1) 0)<=val d:=by
  have e1:=val_take_succ' d (b.length - 1)
  rw [show b.length - 1+1=b.length by omega] at e1
  have e2:=val_take_succ' d b.length
  rw [List.take_of_length_le hl2] at e2
  have e3:=val_nonneg (hd.take (b.length - 1))
  have e4:pw b.length=(1000000000:Int)*pw (b.length - 1):=by
   conv=>lhs; rw [show b.length=b.length - 1+1 by omega]
   rfl
  rw [e4] at e2
  rw [Int.mul_add,<- Int.mul_assoc,Int.mul_right_comm,Int.mul_comm (pw (b.length - 1)) (1000000000:Int)]
  omega
 have hd1:=hd.get b.length
 have hd2:=hd.get (b.length - 1)
 generalize hTT:d.getD b.length 0*(1000000000:Int)+d.getD (b.length - 1) 0=T at *
 have hT0:0<=T:=by omega
 generalize hbb:b.getD (b.length - 1) 0=t at *
 have hk:estK d b=T / (t+1):=by
  unfold estK
  rw [hTT,hbb,Int.tdiv_eq_ediv_of_nonneg hT0]
 have k0:0<=T / (t+1):=Int.ediv_nonneg hT0 (by omega)
 have k1:T / (t+1)*(t+1)<=T:=Int.ediv_mul_le T (by omega)
 have k2:pw (b.length - 1)*(T / (t+1)*(t+1))<=pw (b.length - 1)*T:=Int.mul_le_mul_of_nonneg_left k1 (Int.le_of_lt hp)
 have k3:T / (t+1)*val b<=T / (t+1)*(pw (b.length - 1)*(t+1)):=by
  refine Int.mul_le_mul_of_nonneg_left ?_ k0
  rw [Int.mul_add]
  omega
 have k4:T / (t+1)*(pw (b.length - 1)*(t+1))=pw (b.length - 1)*(T / (t+1)*(t+1)):=Int.mul_left_comm ..
 refine ⟨hl1,hl2,by rw [hk]; exact k0,?_,by rw [hk]; omega⟩
 rw [hk]
 have k5:pw (b.length - 1)*T<pw (b.length - 1)*((1000000000:Int)*(t+1)):=by
  have:(1000000000:Int)*val b<(1000000000:Int)*(pw (b.length - 1)*(t+1)):=by
   rw [Int.mul_add (pw (b.length - 1))]
   omega
  rw [Int.mul_left_comm]
  omega
 have k6:T<(1000000000:Int)*(t+1):=Int.lt_of_mul_lt_mul_left k5 (Int.le_of_lt hp)
 exact Int.ediv_lt_of_lt_mul (by omega) k6
end Go.Dg
namespace Go.Dg
open Go Go.Eng
theorem bt {p:Prop} [Decidable p] {b:Bool}:(bif decide p then b else false)=true ↔ p/\b=true:=by
 by_cases h:p <;> simp [h]
theorem bo {p:Prop} [Decidable p] {b:Bool}:(bif decide p then true else b)=true ↔ p\/b=true:=by
 by_cases h:p <;> simp [h]
theorem nbt {p:Prop} [Decidable p] {b:Bool}:(!bif decide p then b else false)=true ↔ (p->b=false):=by
 by_cases h:p <;> simp [h]
theorem eb {x y:Int}:(x==y)=true ↔ x=y:=⟨eq_of_beq,fun h=>by rw [h]; exact beq_self_eq_true y⟩
theorem neb {x y:Int}:(x==y)=false ↔ x≠y:=by
 constructor
 .intro h e; rw [eb.2 e] at h; cases h
 .intro h
  cases e:(x==y) with
  | false=>rfl
  | true=>exact absurd (eb.1 e) h
theorem dt {p:Prop} [Decidable p]:decide p=true ↔ p:=decide_eq_true_iff
theorem ndt {p:Prop} [Decidable p]:(!decide p)=true ↔ ¬p:=by by_cases h:p <;> simp [h]
def Sm (d:List Int):Prop:=d.length<=500000
theorem Sm.le {d:List Int} (h:Sm d):d.length<=500000:=h
theorem iw {n:Int} (h0:-9223372036854775808<=n) (h1:n<9223372036854775808):IntKind.i64.wrap n=n:=Go.Ar.i64w h0 h1
end Go.Dg
