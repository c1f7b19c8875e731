/- What is proved: AperInside returns true, whatever the input (part 11). No conditions beyond those of the row. -/
import Derived.Test.YtjcicegihechmaaGreatDoorPF
import Derived.Test.YtjcicegihechmaaGreatDoorPG
import Derived.Test.YtjcicegihechmaaGreatDoorPJ
set_option linter.unusedVariables false
set_option linter.unusedSimpArgs false
set_option linter.unusedSectionVars false
namespace Go.Ar
open Go
def pwS (v:Int):Int:=IntKind.u64.wrap (if IntKind.i64.wrap (0 - v)>v then IntKind.i64.wrap (0 - v) else v)
def pw2 (v:Int):Int:=1*pwS v
def pw3 (v:Int):Int:=pw2 v % two64
def pw4 (v:Int):Int:=pw3 v+0+0
def pw5 (v:Int):Int:=pw4 v % 18446744073709551616
def pw6 (v:Int):Int:=pw5 v*pwS v
def pw7 (v:Int):Int:=pw6 v % two64
def pw8 (v:Int):Int:=IntKind.u64.wrap (pw2 v / two64+pw4 v / 18446744073709551616)
def pw9 (v:Int):Int:=pw8 v*pwS v
def pw10 (v:Int):Int:=pw9 v % two64
def pw11 (v:Int):Int:=pw7 v+0+0
def pw12 (v:Int):Int:=IntKind.u64.wrap (pw6 v / two64+pw11 v / 18446744073709551616)
def pw13 (v:Int):Int:=pw10 v+pw12 v+0
def pw14 (v:Int):Int:=pw13 v % 18446744073709551616
def pw15:Int:=2 ^ min (Int.ofNat 32).toNat IntKind.u64.bits
def pw16 (v:Int):Bool:=decide ((pw14 v).fdiv pw15>0)
def pw17 (v:Int):Int:=IntKind.u64.wrap (pw9 v / two64+pw13 v / 18446744073709551616)
def pw18 (v:Int):Bool:=decide (pw17 v>0)
def pw19 (v:Int):Int:=pw11 v % 18446744073709551616
def pw20 (v:Int):Int:=bif pw16 v then 0 else bif pw18 v then 0 else
 IntKind.u64.wrap ↑(BitVec.ofInt IntKind.u64.bits ((pw19 v).fdiv pw15) ||| BitVec.ofInt IntKind.u64.bits (IntKind.u64.wrap (pw14 v*pw15))).toNat
def pw21 (v:Int):Int:=IntKind.u64.wrap ↑(BitVec.ofInt IntKind.u64.bits (pw19 v) &&& BitVec.ofInt IntKind.u64.bits 4294967295).toNat
def pwBig (v:Int):Bool:=bif !(bif pw16 v then false else bif pw18 v then false else true) then true else decide (pw20 v>4503599627370496)
def pwD (v:Int):Int:=bif pwBig v then 0 else IntKind.i64.wrap (pw20 v)
def pwU (v:Int):Int:=bif pwBig v then 0 else bif bif pw16 v then false else bif pw18 v then false else decide (pw21 v>0) then IntKind.i64.wrap (IntKind.i64.wrap (pw20 v)+1) else IntKind.i64.wrap (pw20 v)
def pwE (v:Int):Int:=bif pwBig v then 6 else 0
def xAdd (x y:Int):Prop:=decide (0<=x/\0<=y/\(0:Int)<=0/\(0:Int)<=1)=true
def pwN (v:Int):Prop:=(xIn 1 (pwS v)/\xAdd (pw3 v) 0)/\(xIn (pw5 v) (pwS v)/\xAdd (pw7 v) 0)/\xIn (pw8 v) (pwS v)/\xAdd (pw10 v) (pw12 v)
def sqD (v:Int):Int:=bif decide (v*v / 4294967296>4503599627370496) then 0 else rd (v*v) 4294967296 false
def sqU (v:Int):Int:=bif decide (v*v / 4294967296>4503599627370496) then 0 else rd (v*v) 4294967296 true
def sqE (v:Int):Int:=bif decide (v*v / 4294967296>4503599627370496) then 6 else 0
theorem pwS_eq {v:Int} (h:okF v=true):pwS v=sg v v:=by
 have h:=okF_iff.1 h
 unfold pwS
 rw [i64w (n:=0 - v) (by omega) (by omega)]
 rcases sg_cases v with ⟨h1,e⟩|⟨h1,e⟩ <;> rw [e] <;> split <;> rw [u64w (by omega) (by omega)] <;> omega
theorem and32 (n:Nat) (h:n<18446744073709551616):IntKind.u64.wrap ↑(BitVec.ofInt IntKind.u64.bits (n:Int) &&& BitVec.ofInt IntKind.u64.bits 4294967295).toNat=((n % 4294967296:Nat):Int):=Go.Eng.dLow_eq n h
theorem pw_law {v:Int} (h:okF v=true):pwD v=sqD v/\pwU v=sqU v/\pwE v=sqE v/\pwN v:=by
 obtain ⟨_,s1,s2⟩:=sz_of h
 have e1:=pwS_eq h
 have es:v*v=sg v v*sg v v:=by
  rcases sg_cases v with ⟨_,e⟩|⟨_,e⟩ <;> rw [e]
  rw [Int.neg_mul,Int.mul_neg,Int.neg_neg]
 have hq:sg v v*sg v v<=4503599627370496*4503599627370496:=Int.mul_le_mul s2 s2 s1 (by decide)
 have hq0:0<=sg v v*sg v v:=Int.mul_nonneg s1 s1
 have q2:pw2 v=sg v v:=by unfold pw2; rw [e1]; omega
 have q3:pw3 v=sg v v:=by unfold pw3 two64; rw [q2]; omega
 have q4:pw4 v=sg v v:=by unfold pw4; rw [q3]; omega
 have q5:pw5 v=sg v v:=by unfold pw5; rw [q4]; omega
 have q6:pw6 v=sg v v*sg v v:=by unfold pw6; rw [q5,e1]
 have q8:pw8 v=0:=by unfold pw8 two64; rw [q2,q4,u64w] <;> omega
 have q9:pw9 v=0:=by unfold pw9; rw [q8]; omega
 have q10:pw10 v=0:=by unfold pw10 two64; rw [q9]; rfl
 generalize hP:sg v v*sg v v=P at *
 have q7:pw7 v=P % 18446744073709551616:=by unfold pw7 two64; rw [q6]
 have q11:pw11 v=P % 18446744073709551616:=by unfold pw11; rw [q7]; omega
 have q12:pw12 v=P / 18446744073709551616:=by unfold pw12 two64; rw [q6,q11,u64w] <;> omega
 have q13:pw13 v=P / 18446744073709551616:=by unfold pw13; rw [q10,q12]; omega
 have q14:pw14 v=P / 18446744073709551616:=by unfold pw14; rw [q13]; omega
 have q15:pw15=4294967296:=by decide
 have q16:pw16 v=decide (4294967296<=P / 18446744073709551616):=by
  unfold pw16
  rw [q14,q15,Int.fdiv_eq_ediv_of_nonneg _ (by decide)]
  rw [Bool.eq_iff_iff]; simp only [decide_eq_true_eq]; omega
 have q17:pw17 v=0:=by unfold pw17 two64; rw [q9,q13,u64w] <;> omega
 have q18:pw18 v=false:=by unfold pw18; rw [q17]; rfl
 have q19:pw19 v=P % 18446744073709551616:=by unfold pw19; rw [q11]; omega
 have nd:pwN v:=by
  unfold pwN
  rw [e1,q3,q5,q7,q8,q10,q12]
  refine ⟨⟨xIn_of (by omega) (by omega) (by omega) (by omega),?_⟩,⟨xIn_of (by omega) (by omega) (by omega) (by omega),?_⟩,xIn_of (by omega) (by omega) (by omega) (by omega),?_⟩ <;> unfold xAdd <;> rw [decide_eq_true_eq] <;> omega
 have e21:pw21 v=P % 4294967296:=by
  unfold pw21
  rw [q19]
  obtain ⟨n,hn⟩:=Int.eq_ofNat_of_zero_le (show 0<=P % 18446744073709551616 by omega)
  rw [hn,and32 n (by omega)]
  omega
 have big:pwBig v=decide (v*v / 4294967296>4503599627370496)/\(pwBig v=false->pw20 v=P / 4294967296/\pw16 v=false):=by
  unfold pwBig
  rw [q18,q16]
  by_cases hb:4294967296<=P / 18446744073709551616
  .refine ⟨?_,fun h=>by simp [hb] at h⟩
   rw [es]
   simp [hb]; omega
  .have hor:pw20 v=P / 4294967296:=by
    unfold pw20
    rw [q16,q18,q19,q14,q15,decide_eq_false hb]
    simp only [cond_false]
    rw [Int.fdiv_eq_ediv_of_nonneg _ (by decide),u64w (n:=P / 18446744073709551616*4294967296) (by omega) (by omega)]
    obtain ⟨n,hn⟩:=Int.eq_ofNat_of_zero_le (show 0<=P % 18446744073709551616 / 4294967296 by omega)
    obtain ⟨m,hm⟩:=Int.eq_ofNat_of_zero_le (show 0<=P / 18446744073709551616 by omega)
    rw [hn,hm,show (m:Int)*4294967296=((m*4294967296:Nat):Int) by omega,Go.Eng.dOr_eq _ _ (by omega) (by omega)]
    have:n ||| m*4294967296=m*4294967296+n:=by
     rw [Nat.or_comm,Nat.mul_comm]
     exact (Nat.two_pow_add_eq_or_of_lt (i:=32) (show n<2 ^ 32 by omega) m).symm
    rw [this]
    omega
   rw [hor,decide_eq_false hb,es]
   exact ⟨rfl,fun _=>⟨rfl,rfl⟩⟩
 obtain ⟨b1,b2⟩:=big
 refine ⟨?_,?_,?_,nd⟩
 .unfold pwD sqD
  cases hb:pwBig v with
  | true=>rw [<- b1,hb]; rfl
  | false=>
   rw [<- b1,hb,(b2 hb).1,es]
   rw [hb] at b1
   have b1:=of_decide_eq_false b1.symm
   rw [es] at b1
   simp only [cond_false]
   rw [i64w (by omega) (by omega)]; rfl
 .unfold pwU sqU
  cases hb:pwBig v with
  | true=>rw [<- b1,hb]; rfl
  | false=>
   obtain ⟨b3,b4⟩:=b2 hb
   rw [<- b1,hb,b3,b4,q18,e21,es]
   rw [hb] at b1
   have b1:=of_decide_eq_false b1.symm
   rw [es] at b1
   simp only [cond_false]
   rw [i64w (n:=P / 4294967296) (by omega) (by omega),i64w (n:=P / 4294967296+1) (by omega) (by omega)]
   unfold rd
   simp only [cond_true]
   by_cases hr:P % 4294967296>0
   .rw [decide_eq_true hr]; simp only [cond_true]; omega
   .rw [decide_eq_false hr]; simp only [cond_false]; omega
 .unfold pwE sqE; rw [b1]
end Go.Ar
namespace Go.Ar
open Go
def xaM (a b:Int):Int:=if IntKind.i64.wrap (0 - b)>a then IntKind.i64.wrap (0 - b) else a
def xaL0 (a b:Int):Int:=if 0>xaM a b then 0 else xaM a b
def xaH0 (a b:Int):Int:=if IntKind.i64.wrap (0 - a)>b then IntKind.i64.wrap (0 - a) else b
def xaL (a b:Int):Int:=bif xCS a b != 0 then 0 else bif xTb (xaL0 a b) (xaH0 a b) then 0 else xaL0 a b
def xaH (a b:Int):Int:=bif xCS a b != 0 then 0 else bif xTb (xaL0 a b) (xaH0 a b) then 0 else xaH0 a b
def xsqBad (a b:Int):Bool:=bif sqE (xaL a b) != 0 then true else sqE (xaH a b) != 0
def xSqrS (a b:Int):Sp:=
 ⟨bif xCS a b != 0 then 0 else bif xsqBad a b then 0 else bif xTb (sqD (xaL a b)) (sqU (xaH a b)) then 0 else sqD (xaL a b),
  bif xCS a b != 0 then 0 else bif xsqBad a b then 0 else bif xTb (sqD (xaL a b)) (sqU (xaH a b)) then 0 else sqU (xaH a b),
  bif xCS a b != 0 then xCS a b else bif xsqBad a b then 6 else bif xTb (sqD (xaL a b)) (sqU (xaH a b)) then 6 else 0⟩
def xSqrN (a b:Int):Prop:=(!(xCS a b != 0))=true->okF (xaL a b)=true/\okF (xaH a b)=true
theorem xa_eq {a b:Int} (h:okSp a b=true):xaL a b=abL a b/\xaH a b=abH a b/\0<=abL a b/\abL a b<=abH a b/\abH a b<=4503599627370496:=by
 have k:=okSp_iff.1 h
 have l0:xaL0 a b=abL a b:=by
  unfold xaL0 xaM abL mx
  rw [i64w (by omega) (by omega)]
  by_cases h1:a < -b
  .rw [if_pos (show 0 - b>a by omega),decide_eq_true h1]
   simp only [cond_true]
   by_cases h2:-b<0
   .rw [if_pos (by omega),decide_eq_true h2]; rfl
   .rw [if_neg (by omega),decide_eq_false h2]; simp only [cond_false]; omega
  .rw [if_neg (show ¬ 0 - b>a by omega),decide_eq_false h1]
   simp only [cond_false]
   by_cases h2:a<0
   .rw [if_pos (by omega),decide_eq_true h2]; rfl
   .rw [if_neg (by omega),decide_eq_false h2]; rfl
 have h0:xaH0 a b=abH a b:=by
  unfold xaH0 abH mx
  rw [i64w (by omega) (by omega)]
  by_cases h1:b < -a
  .rw [if_pos (show 0 - a>b by omega),decide_eq_true h1]; simp only [cond_true]; omega
  .rw [if_neg (show ¬ 0 - a>b by omega),decide_eq_false h1]; rfl
 have bl:0<=abL a b/\abL a b<=abH a b/\abH a b<=4503599627370496:=by
  unfold abL abH
  have m1:=le_mx a (-b); have m2:=le_mx (mx a (-b)) 0; have m3:=le_mx b (-a)
  omega
 have ht:xTb (abL a b) (abH a b)=false:=by
  unfold xTb; rw [decide_eq_false (by omega),decide_eq_false (by omega)]; rfl
 unfold xaL xaH
 rw [l0,h0,ht,xCS_eq,h]
 exact ⟨rfl,rfl,bl⟩
theorem xSqrN_all (a b:Int):xSqrN a b:=by
 intro h
 rw [xCS_eq] at h
 cases k:okSp a b with
 | false=>rw [k] at h; cases h
 | true=>
  obtain ⟨e1,e2,b1,b2,b3⟩:=xa_eq k
  rw [e1,e2,okF_iff,okF_iff]; omega
theorem xSqrS_eq (a b:Int):xSqrS a b=sqrS a b:=by
 unfold xSqrS sqrS
 rw [xCS_eq]
 cases h:okSp a b with
 | false=>simp [err]
 | true=>
  obtain ⟨e1,e2,b1,b2,b3⟩:=xa_eq h
  unfold xsqBad
  rw [e1,e2]
  have q:abL a b*abL a b<=abH a b*abH a b:=Int.mul_le_mul b2 b2 b1 (by omega)
  have q0:0<=abL a b*abL a b:=Int.mul_nonneg b1 b1
  unfold sqE sqD sqU toldS
  generalize hP:abL a b*abL a b=P at *
  generalize hQ:abH a b*abH a b=Q at *
  have u1:rd P 4294967296 false=P / 4294967296:=rfl
  have u2:rd Q 4294967296 true=Q / 4294967296+(if 0<Q % 4294967296 then 1 else 0):=by
   unfold rd; simp only [cond_true]; rw [neg_div (by decide)]; omega
  have okl:okF (rd P 4294967296 false)=!decide (P / 4294967296>4503599627370496):=by
   rw [u1]; unfold okF
   rw [decide_eq_true (show (-4503599627370496:Int)<=P / 4294967296 by omega),Bool.true_and,Bool.eq_iff_iff]
   simp only [decide_eq_true_eq,Bool.not_eq_true',decide_eq_false_iff_not]; omega
  cases hp:decide (P / 4294967296>4503599627370496) with
  | true=>rw [okl,hp]; simp [err]
  | false=>
   have hp':=of_decide_eq_false hp
   cases hq:decide (Q / 4294967296>4503599627370496) with
   | true=>
    have hq':=of_decide_eq_true hq
    have:okF (rd Q 4294967296 true)=false:=by rw [okF_false,u2]; split <;> omega
    rw [this]; simp [err]
   | false=>
    have hq':=of_decide_eq_false hq
    simp only [cond_false,cond_true,bne_self_eq_false]
    rw [xTb_eq (by rw [u1,u2]; split <;> omega)]
    cases okF (rd P 4294967296 false)&&okF (rd Q 4294967296 true) <;> simp [err]
theorem rd_lt_rd {n m d:Int} (hd:0<d) (h:n<=m) (up:Bool):rd n d up<=rd m d up:=by
 unfold rd
 cases up with
 | false=>exact Int.ediv_le_ediv hd h
 | true=>
  have:=Int.ediv_le_ediv hd (show -m<=-n by omega)
  simp only [cond_true]; omega
theorem sc_law {x n d:Int} (hx:okF x=true) (hn:0<=n) (hr:okR n d=true) (hb:sg x x*n<18446744073709551615*d) (up:Bool):xScV x n d up=fitV (rd (x*n) d up)/\xScE x n d up=fitE (rd (x*n) d up):=by
 obtain ⟨a1,a2,a3⟩:=sz_of hx
 simp only [okR,Bool.and_eq_true,decide_eq_true_eq] at hr
 obtain ⟨⟨⟨n1,n2⟩,d1⟩,d2⟩:=hr
 have en:xSz n=n:=by rw [xSz_eq (by omega) (by omega)]; rcases sg_cases n with ⟨_,e⟩|⟨_,e⟩ <;> omega
 have esn:sg n n=n:=by rcases sg_cases n with ⟨_,e⟩|⟨_,e⟩ <;> omega
 have ed:IntKind.u64.wrap d=d:=u64w (by omega) (by omega)
 have ok:xOkS x n d=false:=by
  rw [xOkS_eq]; unfold okS; rw [hx,decide_eq_true n1,decide_eq_true n2,decide_eq_true d1,decide_eq_true d2]; rfl
 have hm:sg x x*n<=4503599627370496*4611686018427387904:=Int.mul_le_mul a3 n2 hn (by decide)
 obtain ⟨v,e,_⟩:=xN_eq (p:=sg x x*n) (d:=d) (Int.mul_nonneg a2 hn) (by omega) (by omega) (by omega) up (xNeg x n) (x*n) (by have:=xNeg_mul x n; rw [esn] at this; exact this) (.inl hb)
 unfold xScV xScE
 rw [ok,a1,en,ed]
 exact ⟨v,e⟩
theorem sc_bad {x n d:Int} (h:okR n d=false) (up:Bool):xScE x n d up=2:=by
 unfold xScE
 have:xOkS x n d=true:=by
  rw [xOkS_eq]; unfold okS okR at *; rw [h,Bool.and_false]; rfl
 rw [this]; rfl
theorem xScaleS_eq (a b n d:Int) (hb:okSp a b=true->okR n d=true->abH a b*sg n n<18446744073709551615*d):xScaleS a b n d=scaleS a b n d:=by
 unfold xScaleS scaleS
 rw [xCS_eq]
 cases h:okSp a b with
 | false=>simp [err]
 | true=>
  have k:=okSp_iff.1 h
  cases hr:okR n d with
  | false=>
   have hx:xsOk n=true->xsBad a b n d=true/\xScE (xsA a b n) (xsN n) d false=2/\xScE (xsB a b n) (xsN n) d true=2:=by
    intro ho
    have hr2:okR (xsN n) d=false:=by
     unfold xsN
     by_cases hn:n<0
     .simp only [xsOk,hn,decide_true,cond_true,Bool.not_eq_true',decide_eq_false_iff_not] at ho
      rw [decide_eq_true hn,cond_true,i64w (by omega) (by omega)]
      simp only [okR,Bool.and_eq_false_iff,decide_eq_false_iff_not] at hr ⊢
      omega
     .rw [decide_eq_false hn]; exact hr
    have e1:=sc_bad (x:=xsA a b n) hr2 false
    have e2:=sc_bad (x:=xsB a b n) hr2 true
    exact ⟨by unfold xsBad; rw [e1]; rfl,e1,e2⟩
   cases ho:xsOk n with
   | false=>simp [err]
   | true=>
    obtain ⟨h1,h2,h3⟩:=hx ho
    simp [h1,h2,h3,err]
  | true=>
   have hb:=hb h hr
   have hr':=hr
   simp only [okR,Bool.and_eq_true,decide_eq_true_eq] at hr'
   obtain ⟨⟨⟨n1,n2⟩,d1⟩,d2⟩:=hr'
   have ho:xsOk n=true:=by
    unfold xsOk
    by_cases hn:n<0
    .rw [decide_eq_true hn,decide_eq_false (by omega)]; rfl
    .rw [decide_eq_false hn]; rfl
   have m3:=le_mx b (-a)
   have core:∀ (x y m:Int),0<=m->m<=4611686018427387904->okF x=true->okF y=true->x<=y->sg x x<=abH a b->sg y y<=abH a b->abH a b*m<18446744073709551615*d ->
     (⟨bif (bif xScE x m d false != 0 then true else xScE y m d true != 0) then 0 else xScV x m d false,bif (bif xScE x m d false != 0 then true else xScE y m d true != 0) then 0 else xScV y m d true,
      bif (bif xScE x m d false != 0 then true else xScE y m d true != 0) then (if xScE y m d true>xScE x m d false then xScE y m d true else xScE x m d false) else 0⟩:Sp)=toldS (rd (x*m) d false) (rd (y*m) d true):=by
    intro x y m m0 m1 hx hy hxy sx sy hbm
    have hr2:okR m d=true:=by simp [okR]; omega
    have bx:sg x x*m<18446744073709551615*d:=Int.lt_of_le_of_lt (Int.mul_le_mul_of_nonneg_right sx m0) hbm
    have by':sg y y*m<18446744073709551615*d:=Int.lt_of_le_of_lt (Int.mul_le_mul_of_nonneg_right sy m0) hbm
    obtain ⟨v1,e1⟩:=sc_law hx m0 hr2 bx false
    obtain ⟨v2,e2⟩:=sc_law hy m0 hr2 by' true
    rw [v1,e1,v2,e2]
    unfold toldS
    rcases fitE_cases (rd (x*m) d false) with ⟨p1,p2,p3⟩|⟨p1,p2,p3⟩ <;> rcases fitE_cases (rd (y*m) d true) with ⟨q1,q2,q3⟩|⟨q1,q2,q3⟩ <;> rw [p1,p2,p3,q1,q2,q3] <;> rfl
   unfold xsBad
   rw [ho]
   simp only [bne_self_eq_false,cond_false,cond_true]
   by_cases hn:n<0
   .have ea:xsA a b n=-b:=by unfold xsA; rw [decide_eq_true hn,cond_true,i64w (by omega) (by omega)]; omega
    have eb:xsB a b n=-a:=by unfold xsB; rw [decide_eq_true hn,cond_true,i64w (by omega) (by omega)]; omega
    have en:xsN n=-n:=by unfold xsN; rw [decide_eq_true hn,cond_true,i64w (by omega) (by omega)]; omega
    have esn:sg n n=-n:=by rcases sg_cases n with ⟨_,e⟩|⟨_,e⟩ <;> omega
    rw [esn] at hb
    rw [ea,eb,en]
    rw [core (-b) (-a) (-n) (by omega) (by omega) (okF_iff.2 (by omega)) (okF_iff.2 (by omega)) (by omega)
     (by unfold abH; rcases sg_cases (-b) with ⟨_,e⟩|⟨_,e⟩ <;> omega) (by unfold abH; rcases sg_cases (-a) with ⟨_,e⟩|⟨_,e⟩ <;> omega) hb]
    have hmul:b*n<=a*n:=Int.mul_le_mul_of_nonpos_right k.2.1 (by omega)
    have e1:mn (a*n) (b*n)=b*n:=by
     unfold mn; by_cases h2:b*n<a*n
     .rw [decide_eq_true h2]; rfl
     .rw [decide_eq_false h2]; simp only [cond_false]; omega
    have e2:mx (a*n) (b*n)=a*n:=by
     unfold mx; rw [decide_eq_false (by omega)]; rfl
    rw [e1,e2,Int.neg_mul_neg,Int.neg_mul_neg]
   .have ea:xsA a b n=a:=by unfold xsA; rw [decide_eq_false hn]; rfl
    have eb:xsB a b n=b:=by unfold xsB; rw [decide_eq_false hn]; rfl
    have en:xsN n=n:=by unfold xsN; rw [decide_eq_false hn]; rfl
    have esn:sg n n=n:=by rcases sg_cases n with ⟨_,e⟩|⟨_,e⟩ <;> omega
    rw [esn] at hb
    rw [ea,eb,en]
    rw [core a b n (by omega) n2 (okF_iff.2 (by omega)) (okF_iff.2 (by omega)) k.2.1
     (by unfold abH; rcases sg_cases a with ⟨_,e⟩|⟨_,e⟩ <;> omega) (by unfold abH; rcases sg_cases b with ⟨_,e⟩|⟨_,e⟩ <;> omega) hb]
    have hmul:a*n<=b*n:=Int.mul_le_mul_of_nonneg_right k.2.1 (by omega)
    have e1:mn (a*n) (b*n)=a*n:=by
     unfold mn; rw [decide_eq_false (by omega)]; rfl
    have e2:mx (a*n) (b*n)=b*n:=by
     unfold mx; by_cases h2:a*n<b*n
     .rw [decide_eq_true h2]; rfl
     .rw [decide_eq_false h2]; simp only [cond_false]; omega
    rw [e1,e2]
end Go.Ar
namespace Go.Rd
open Go Go.Eng Go.Ar
structure Bd (s:Sp) (M:Int):Prop where
 e:s.e=0
 lo:-M<=s.lo
 le:s.lo<=s.hi
 hi:s.hi<=M
structure En (s:Sp) (N D:Int):Prop where
 lo:s.lo*D<=N
 hi:N<=s.hi*D
theorem rd_f {n d:Int} (hd:0<d):rd n d false*d<=n/\n<rd n d false*d+d:=by
 have h1:=Int.mul_ediv_add_emod n d
 have h2:=Int.emod_nonneg n (show d≠0 by omega)
 have h3:=Int.emod_lt_of_pos n hd
 show n / d*d<=n/\n<n / d*d+d
 rw [Int.mul_comm] at h1
 omega
theorem rd_t {n d:Int} (hd:0<d):n<=rd n d true*d/\rd n d true*d<n+d:=by
 have:=rd_f (n:=-n) hd
 have e:rd n d true=-(rd (-n) d false):=rfl
 rw [e,Int.neg_mul]
 omega
theorem rd_le_of {n d M:Int} (hd:0<d) (h:n<=M*d):rd n d true<=M:=by
 have:=(rd_t (n:=n) hd).2
 rcases Int.lt_or_le M (rd n d true) with c|c
 .have:(M+1)*d<=rd n d true*d:=Int.mul_le_mul_of_nonneg_right (by omega) (by omega)
  rw [Int.add_mul] at this
  omega
 .exact c
theorem le_rd_of {n d M:Int} (hd:0<d) (h:M*d<=n):M<=rd n d false:=by
 have:=(rd_f (n:=n) hd).2
 rcases Int.lt_or_le (rd n d false) M with c|c
 .have:(rd n d false+1)*d<=M*d:=Int.mul_le_mul_of_nonneg_right (by omega) (by omega)
  rw [Int.add_mul] at this
  omega
 .exact c
end Go.Rd
namespace Go.Rd
open Go Go.Eng Go.Ar
theorem le_of_sq {a b:Int} (hb:0<=b) (h:a*a<=b*b):a<=b:=by
 rcases Int.lt_or_le b a with c|c
 .have:=Int.mul_le_mul (show b+1<=a by omega) (show b+1<=a by omega) (show 0<=b+1 by omega) (show 0<=a by omega)
  rw [Int.add_mul,Int.mul_add] at this
  omega
 .exact c
theorem lt_of_sq {a b:Int} (hb:0<=b) (h:a*a<b*b):a<b:=by
 rcases Int.lt_or_le a b with c|c
 .exact c
 .have:=Int.mul_le_mul c c hb (Int.le_trans hb c)
  omega
theorem rtV_t {a:Int} (h:sqOk a=true):0<=rtV a true/\a*4294967296<=rtV a true*rtV a true/\(rtV a true=sqR a\/rtV a true=sqR a+1/\sqR a*sqR a<a*4294967296):=by
 obtain ⟨q0,q1,q2,_⟩:=sqR_spec h
 unfold rtV
 cases hh:sqR a*sqR a==a*4294967296 with
 | true=>
  have:=of_decide_eq_true (show decide (sqR a*sqR a=a*4294967296)=true from hh)
  exact ⟨q0,by show _<=sqR a*sqR a; omega,.inl rfl⟩
 | false=>
  have:=of_decide_eq_false (show decide (sqR a*sqR a=a*4294967296)=false from hh)
  exact ⟨by show 0<=sqR a+1; omega,by show _<=(sqR a+1)*(sqR a+1); omega,.inr ⟨rfl,by omega⟩⟩
end Go.Rd
namespace Go.Rd
open Go Go.Eng Go.Ar
theorem mn4 (p q r s:Int):mn (mn (mn p q) r) s<=p/\mn (mn (mn p q) r) s<=q/\mn (mn (mn p q) r) s<=r/\mn (mn (mn p q) r) s<=s/\(∀ m,m<=p->m<=q->m<=r->m<=s->m<=mn (mn (mn p q) r) s):=by
 have h1:=mn_le p q
 have h2:=mn_le (mn p q) r
 have h3:=mn_le (mn (mn p q) r) s
 refine ⟨by omega,by omega,by omega,by omega,fun m _ _ _ _=>by omega⟩
theorem mx4 (p q r s:Int):p<=mx (mx (mx p q) r) s/\q<=mx (mx (mx p q) r) s/\r<=mx (mx (mx p q) r) s/\s<=mx (mx (mx p q) r) s/\(∀ m,p<=m->q<=m->r<=m->s<=m->mx (mx (mx p q) r) s<=m):=by
 have h1:=le_mx p q
 have h2:=le_mx (mx p q) r
 have h3:=le_mx (mx (mx p q) r) s
 refine ⟨by omega,by omega,by omega,by omega,fun m _ _ _ _=>by omega⟩
end Go.Rd
namespace Go.Rd
open Go Go.Eng Go.Ar
def ax0 (a:Int) (b:Int) (x:Int) (y:Int):Int:=IntKind.i64.wrap (1+IntKind.i64.wrap (a.tmod 2000000))
def ax1 (a:Int) (b:Int) (x:Int) (y:Int):Int:=(IntKind.i64.wrap b).tmod (ax0 a b x y)
def ax2 (a:Int) (b:Int) (x:Int) (y:Int):Int:=IntKind.i64.wrap (IntKind.i64.wrap x*16777216)
def ax3 (a:Int) (b:Int) (x:Int) (y:Int):Int:=IntKind.i64.wrap (IntKind.i64.wrap y*16777216)
def ax5 (a:Int) (b:Int) (x:Int) (y:Int):Int:=IntKind.i64.wrap (ax0 a b x y*ax0 a b x y)
def ax6 (a:Int) (b:Int) (x:Int) (y:Int):Int:=IntKind.u64.wrap (ax5 a b x y)
def ax8 (a:Int) (b:Int) (x:Int) (y:Int):Int:=IntKind.u64.wrap
 (addS (sqrS (ax2 a b x y) (ax2 a b x y)).lo (sqrS (ax2 a b x y) (ax2 a b x y)).hi
   (sqrS (ax3 a b x y) (ax3 a b x y)).lo (sqrS (ax3 a b x y) (ax3 a b x y)).hi).lo
def ax18 (a:Int) (b:Int) (x:Int) (y:Int):Int:=IntKind.u64.wrap
 (addS (sqrS (ax2 a b x y) (ax2 a b x y)).lo (sqrS (ax2 a b x y) (ax2 a b x y)).hi
   (sqrS (ax3 a b x y) (ax3 a b x y)).lo (sqrS (ax3 a b x y) (ax3 a b x y)).hi).hi
def ax19 (a:Int) (b:Int) (x:Int) (y:Int):Int:=IntKind.i64.wrap (ax1 a b x y*ax1 a b x y)
def ax20 (a:Int) (b:Int) (x:Int) (y:Int):Int:=IntKind.u64.wrap (ax19 a b x y)
def ax31 (a:Int) (b:Int) (x:Int) (y:Int):Int:=IntKind.i64.wrap
 (IntKind.i64.wrap
   (IntKind.i64.wrap (IntKind.i64.wrap x*IntKind.i64.wrap x) +
    IntKind.i64.wrap (IntKind.i64.wrap y*IntKind.i64.wrap y)) *
  1000000000000)
def ax32 (a:Int) (b:Int) (x:Int) (y:Int):Int:=IntKind.i64.wrap (ax5 a b x y*65536)
def ax33 (a:Int) (b:Int) (x:Int) (y:Int):Int:=IntKind.i64.wrap (ax19 a b x y*65536)
end Go.Rd
namespace Go.Rd
open Go Go.Eng Go.Ar
theorem two_words (u v:Int) (hu:0<=u) (hv:0<=v):(bif decide (u / 18446744073709551616<v / 18446744073709551616) then true else bif u / 18446744073709551616==v / 18446744073709551616 then decide (u % 18446744073709551616<v % 18446744073709551616) else false)=decide (u<v):=by
 have a:=Int.mul_ediv_add_emod u 18446744073709551616
 have b:=Int.mul_ediv_add_emod v 18446744073709551616
 have c:=Int.emod_nonneg u (show (18446744073709551616:Int)≠0 by decide)
 have d:=Int.emod_nonneg v (show (18446744073709551616:Int)≠0 by decide)
 have e:=Int.emod_lt_of_pos u (show (0:Int)<18446744073709551616 by decide)
 have f:=Int.emod_lt_of_pos v (show (0:Int)<18446744073709551616 by decide)
 generalize u / 18446744073709551616=q at *
 generalize v / 18446744073709551616=r at *
 generalize u % 18446744073709551616=s at *
 generalize v % 18446744073709551616=t at *
 rcases Int.lt_trichotomy q r with h|h|h
 .rw [decide_eq_true h,decide_eq_true (show u<v by omega)]; rfl
 .subst h
  rw [decide_eq_false (show ¬ q<q by omega),beq_self_eq_true]
  show decide (s<t)=decide (u<v)
  congr 1
  apply propext
  omega
 .rw [decide_eq_false (show ¬ q<r by omega),decide_eq_false (show ¬ u<v by omega)]
  cases hq:q==r with
  | false=>rfl
  | true=>have:=eq_of_beq hq; omega
structure AxIn (a b x y:Int):Prop where
 a0:0<=a
 a1:a<=4294967295
 b0:0<=b
 b1:b<=4294967295
 x0:-128<=x
 x1:x<=127
 y0:-128<=y
 y1:y<=127
structure AxIs (a b x y S H Q:Int):Prop where
 S0:1<=S
 S1:S<=2000000
 H0:0<=H
 H1:H<S
 Q0:0<=Q
 Q1:Q<=32768
 SS:0<=S*S/\S*S<=4000000000000
 HH:0<=H*H/\H*H<=4000000000000
 e0:ax0 a b x y=S
 e1:ax1 a b x y=H
 e2:sqrS (ax2 a b x y) (ax2 a b x y)=⟨x*x*65536,x*x*65536,0⟩
 e3:sqrS (ax3 a b x y) (ax3 a b x y)=⟨y*y*65536,y*y*65536,0⟩
 o2:okSp (ax2 a b x y) (ax2 a b x y)=true
 o3:okSp (ax3 a b x y) (ax3 a b x y)=true
 ad:addS (x*x*65536) (x*x*65536) (y*y*65536) (y*y*65536)=⟨Q*65536,Q*65536,0⟩
 e6:ax6 a b x y=S*S
 e8:ax8 a b x y=Q*65536
 e18:ax18 a b x y=Q*65536
 e20:ax20 a b x y=H*H
 e31:ax31 a b x y=Q*1000000000000
 e32:ax32 a b x y=S*S*65536
 e33:ax33 a b x y=H*H*65536
theorem u64w {n:Int} (h1:0<=n) (h2:n<=18446744073709551615):IntKind.u64.wrap n=n:=by
 simp [IntKind.wrap,IntKind.bits,IntKind.signed]; omega
section
variable {a b x y S H Q:Int} (n:AxIs a b x y S H Q)
include n
end
end Go.Rd
namespace Go.Rd
def g1:ByteArray:=⟨#[66,75,55]⟩
def g2:ByteArray:=⟨#[83,70,45,49]⟩
def g3:ByteArray:=⟨#[77,73,82,82,79,82]⟩
def g4:ByteArray:=⟨#[102,95,50]⟩
def isG (b:ByteArray):Prop:=b=g1\/b=g2\/b=g3\/b=g4
end Go.Rd
namespace Go.Rd
open Go Go.Eng Go.Ar
def cb2 (c:Int) (k:Int) (l:Int) (m:Int) (th:Int) (s:ByteArray) (se:Int) (ho:Int):Bool:=bif decide (c<(-1000000000:Int)) then true else decide (c>1000000000)
def cb3 (c:Int) (k:Int) (l:Int) (m:Int) (th:Int) (s:ByteArray) (se:Int) (ho:Int):Bool:=bif decide (l<(-1000000000:Int)) then true else decide (l>1000000000)
end Go.Rd
namespace Go.Rd
open Go Go.Eng Go.Ar
def inL (x:Int):Prop:=-1000000000<=x/\x<=1000000000
def inK (x:Int):Prop:=-100000000<=x/\x<=100000000
def inA (x:Int):Prop:=-90000000<=x/\x<=90000000
def inSH (se ho:Int):Prop:=0<=se/\se<=1000000000/\0<=ho/\ho<=1000000000/\(se=0\/ho<se)
def inG (s:ByteArray):Prop:=s=⟨#[]⟩\/isG s
structure vStd (c k a0 a1 a2 a3 f0 f1 o th:Int) (s:ByteArray) (se ho:Int):Prop where
 hc:inL c
 hk:inK k
 h0:inL a0
 h1:inL a1
 h2:inL a2
 h3:inL a3
 hf:inL f0
 hg:inL f1
 ho':-3<=o/\o<=3
 ht:inL th
 hs:inG s
 sh:inSH se ho
 ph:(f0=0/\f1=0/\o=0)\/(o≠0/\s≠g3)
structure vBic (c k l m th:Int) (s:ByteArray) (se ho:Int):Prop where
 hc:inL c
 hk:inK k
 hl:inL l
 hm:inK m
 ht:inL th
 hs:inG s
 sh:inSH se ho
structure vBrk (th dx dy ax ay az:Int):Prop where
 ht:inL th
 hx:inL dx
 hy:inL dy
 ha:inA ax
 hb:inA ay
 hc:inA az
structure vIdl (c th se ho:Int):Prop where
 hc:inL c
 ht:inL th
 sh:inSH se ho
end Go.Rd
namespace Go.Rd
open Go Go.Eng Go.Ar
end Go.Rd
namespace Go.Rd
open Go Go.Eng Go.Ar
end Go.Rd
namespace Go.Rd
open Go Go.Eng Go.Ar
def ij0 (se ho a b x y:Int):Bool:=se != 0
def ij1 (se ho a b x y:Int):Int:=IntKind.u64.wrap (IntKind.i64.wrap (se*se))
def ij3 (se ho a b x y:Int):Int:=IntKind.u64.wrap (addS (sqrS a b).lo (sqrS a b).hi (sqrS x y).lo (sqrS x y).hi).lo
def ij5 (se ho a b x y:Int):Int:=ij1 se ho a b x y*(4294967296:Int)
def ij6 (se ho a b x y:Int):Int:=ij5 se ho a b x y / two64
def ij7 (se ho a b x y:Int):Int:=ij3 se ho a b x y*(1000000000000:Int)
def ij8 (se ho a b x y:Int):Int:=ij7 se ho a b x y / two64
def ij9 (se ho a b x y:Int):Int:=ij5 se ho a b x y % two64
def ij10 (se ho a b x y:Int):Int:=ij7 se ho a b x y % two64
def ij11 (se ho a b x y:Int):Bool:=bif decide (ij6 se ho a b x y<ij8 se ho a b x y) then true
else
 bif ij6 se ho a b x y==ij8 se ho a b x y then
  decide (ij9 se ho a b x y<ij10 se ho a b x y)
 else false
def ij12 (se ho a b x y:Int):Bool:=ho != 0
def ij13 (se ho a b x y:Int):Int:=IntKind.u64.wrap (addS (sqrS a b).lo (sqrS a b).hi (sqrS x y).lo (sqrS x y).hi).hi
def ij14 (se ho a b x y:Int):Int:=IntKind.u64.wrap (IntKind.i64.wrap (ho*ho))
def ij15 (se ho a b x y:Int):Int:=ij13 se ho a b x y*(1000000000000:Int)
def ij16 (se ho a b x y:Int):Int:=ij15 se ho a b x y / two64
def ij17 (se ho a b x y:Int):Int:=ij14 se ho a b x y*(4294967296:Int)
def ij18 (se ho a b x y:Int):Int:=ij17 se ho a b x y / two64
def ij19 (se ho a b x y:Int):Int:=ij15 se ho a b x y % two64
def ij20 (se ho a b x y:Int):Int:=ij17 se ho a b x y % two64
def ij21 (se ho a b x y:Int):Bool:=bif ij12 se ho a b x y then
 bif decide (ij16 se ho a b x y<ij18 se ho a b x y) then true
 else
  bif ij16 se ho a b x y==ij18 se ho a b x y then
   decide (ij19 se ho a b x y<ij20 se ho a b x y)
  else false
else false
def ij22 (se ho a b x y:Int):Bool:=!bif ij0 se ho a b x y then bif ij11 se ho a b x y then true else ij21 se ho a b x y
 else ij21 se ho a b x y
def ij23 (se ho a b x y:Int):Bool:=bif decide (ij6 se ho a b x y<ij16 se ho a b x y) then true
else
 bif ij6 se ho a b x y==ij16 se ho a b x y then
  decide (ij9 se ho a b x y<ij19 se ho a b x y)
 else false
def ij24 (se ho a b x y:Int):Bool:=bif ij12 se ho a b x y then
 bif decide (ij8 se ho a b x y<ij18 se ho a b x y) then true
 else
  bif ij8 se ho a b x y==ij18 se ho a b x y then
   decide (ij10 se ho a b x y<ij20 se ho a b x y)
  else false
else false
def ijN (se ho a b x y:Int):Prop:=(
    (okSp a b=true/\okSp x y=true) /\
     ((sqrS a b).e=0 /\
       (sqrS x y).e=0/\(addS (sqrS a b).lo (sqrS a b).hi (sqrS x y).lo (sqrS x y).hi).e=0) /\
      ((ij0 se ho a b x y=true ->
         (decide
             (0<=ij1 se ho a b x y /\
              ij1 se ho a b x y<18446744073709551616 /\
               0<=(4294967296:Int) /\
                (4294967296:Int)<18446744073709551616) =
            true /\
           decide
             (0<=ij3 se ho a b x y /\
              ij3 se ho a b x y<18446744073709551616 /\
               0<=(1000000000000:Int) /\
                (1000000000000:Int)<18446744073709551616) =
            true) /\
          (ij11 se ho a b x y=false ->
           ij12 se ho a b x y=true ->
            decide
               (0<=ij13 se ho a b x y /\
                ij13 se ho a b x y<18446744073709551616 /\
                 0<=(1000000000000:Int) /\
                  (1000000000000:Int)<18446744073709551616) =
              true /\
             decide
               (0<=ij14 se ho a b x y /\
                ij14 se ho a b x y<18446744073709551616 /\
                 0<=(4294967296:Int) /\
                  (4294967296:Int)<18446744073709551616) =
              true)) /\
        (ij0 se ho a b x y=false ->
         ij12 se ho a b x y=true ->
          decide
             (0<=ij13 se ho a b x y /\
              ij13 se ho a b x y<18446744073709551616 /\
               0<=(1000000000000:Int) /\
                (1000000000000:Int)<18446744073709551616) =
            true /\
           decide
             (0<=ij14 se ho a b x y /\
              ij14 se ho a b x y<18446744073709551616 /\
               0<=(4294967296:Int) /\
                (4294967296:Int)<18446744073709551616) =
            true)) /\
       (ij22 se ho a b x y=true ->
        (ij0 se ho a b x y=true ->
          (decide
              (0<=ij1 se ho a b x y /\
               ij1 se ho a b x y<18446744073709551616 /\
                0<=(4294967296:Int) /\
                 (4294967296:Int)<18446744073709551616) =
             true /\
            decide
              (0<=ij13 se ho a b x y /\
               ij13 se ho a b x y<18446744073709551616 /\
                0<=(1000000000000:Int) /\
                 (1000000000000:Int)<18446744073709551616) =
             true) /\
           (ij23 se ho a b x y=false ->
            ij12 se ho a b x y=true ->
             decide
                (0<=ij3 se ho a b x y /\
                 ij3 se ho a b x y<18446744073709551616 /\
                  0<=(1000000000000:Int) /\
                   (1000000000000:Int)<18446744073709551616) =
               true /\
              decide
                (0<=ij14 se ho a b x y /\
                 ij14 se ho a b x y<18446744073709551616 /\
                  0<=(4294967296:Int) /\
                   (4294967296:Int)<18446744073709551616) =
               true)) /\
         (ij0 se ho a b x y=false ->
          ij12 se ho a b x y=true ->
           decide
              (0<=ij3 se ho a b x y /\
               ij3 se ho a b x y<18446744073709551616 /\
                0<=(1000000000000:Int) /\
                 (1000000000000:Int)<18446744073709551616) =
             true /\
            decide
              (0<=ij14 se ho a b x y /\
               ij14 se ho a b x y<18446744073709551616 /\
                0<=(4294967296:Int) /\
                 (4294967296:Int)<18446744073709551616) =
             true)))
def ijV (se ho a b x y:Int):Int:=(bif ij22 se ho a b x y then
      bif
        !!bif ij0 se ho a b x y then
           bif ij23 se ho a b x y then true else ij24 se ho a b x y
          else ij24 se ho a b x y then
       (2:Int)
      else (1:Int)
     else 0)
end Go.Rd
namespace Go.Rd
open Go Go.Eng Go.Ar
def qL (a b x y:Int):Int:=(addS (sqrS a b).lo (sqrS a b).hi (sqrS x y).lo (sqrS x y).hi).lo
def qH (a b x y:Int):Int:=(addS (sqrS a b).lo (sqrS a b).hi (sqrS x y).lo (sqrS x y).hi).hi
def holeB (ho q:Int):Bool:=bif ho != 0 then decide (q*1000000000000<ho*ho*4294967296) else false
def judB (se ho p q:Int):Bool:=bif se != 0 then (bif decide (se*se*4294967296<p*1000000000000) then true else holeB ho q) else holeB ho q
def insV (se ho L H:Int):Int:=bif !judB se ho L H then (bif !!judB se ho H L then 2 else 1) else 0
structure InsIn (se ho X Y U V:Int):Prop where
 s0:0<=se
 s1:se<=1000000000
 h0:0<=ho
 h1:ho<=1000000000
 x0:-32768<=X
 x1:X<=Y
 x2:Y<=32767
 u0:-32768<=U
 u1:U<=V
 u2:V<=32767
end Go.Rd
namespace Go.Rd
open Go Go.Eng Go.Ar
structure Wi (s t:Sp):Prop where
 lo:t.lo<=s.lo
 le:s.lo<=s.hi
 hi:s.hi<=t.hi
structure Ri (s:Sp):Prop where
 lo:-4503599627370496<=s.lo
 le:s.lo<=s.hi
 hi:s.hi<=4503599627370496
theorem Ri.ok {s:Sp} (h:Ri s):okSp s.lo s.hi=true:=okSp_iff.2 ⟨h.lo,h.le,h.hi⟩
theorem Ri.of {s:Sp} (h:okSp s.lo s.hi=true):Ri s:=let k:=okSp_iff.1 h; ⟨k.1,k.2.1,k.2.2⟩
theorem Wi.ri {s t:Sp} (w:Wi s t) (h:Ri t):Ri s:=⟨Int.le_trans h.lo w.lo,w.le,Int.le_trans w.hi h.hi⟩
theorem Wi.refl {s:Sp} (h:s.lo<=s.hi):Wi s s:=⟨Int.le_refl _,h,Int.le_refl _⟩
theorem told_ok {lo hi:Int} (h:(toldS lo hi).e=0):toldS lo hi=⟨lo,hi,0⟩/\-4503599627370496<=lo/\lo<=4503599627370496/\-4503599627370496<=hi/\hi<=4503599627370496:=by
 unfold toldS at h ⊢
 cases h1:okF lo <;> cases h2:okF hi <;> rw [h1,h2] at h
 .cases h
 .cases h
 .cases h
 .have:=okF_iff.1 h1
  have:=okF_iff.1 h2
  exact ⟨rfl,by omega,by omega,by omega,by omega⟩
theorem told_of {lo hi:Int} (h1:-4503599627370496<=lo) (h2:lo<=4503599627370496) (h3:-4503599627370496<=hi) (h4:hi<=4503599627370496):toldS lo hi=⟨lo,hi,0⟩:=by
 unfold toldS
 rw [okF_iff.2 (by omega),okF_iff.2 (by omega)]
 rfl
theorem both_ok {a b c d:Int} {r:Sp} (h:(both a b c d r).e=0):okSp a b=true/\okSp c d=true/\both a b c d r=r:=by
 unfold both at h ⊢
 cases h1:okSp a b <;> cases h2:okSp c d <;> rw [h1,h2] at h
 .cases h
 .cases h
 .cases h
 .exact ⟨rfl,rfl,rfl⟩
theorem both_of {a b c d:Int} {r:Sp} (h1:okSp a b=true) (h2:okSp c d=true):both a b c d r=r:=by
 unfold both
 rw [h1,h2]
 rfl
def Mo2 (F:Int->Int->Int->Int->Sp):Prop:=∀ {s t s' t':Sp},Wi s' s->Wi t' t->(F s.lo s.hi t.lo t.hi).e=0->(F s'.lo s'.hi t'.lo t'.hi).e=0/\Wi (F s'.lo s'.hi t'.lo t'.hi) (F s.lo s.hi t.lo t.hi)
def Mo1 (F:Int->Int->Sp):Prop:=∀ {s s':Sp},Wi s' s->(F s.lo s.hi).e=0->(F s'.lo s'.hi).e=0/\Wi (F s'.lo s'.hi) (F s.lo s.hi)
theorem add_mo:Mo2 addS:=by
 intro s t s' t' w v h
 unfold addS at h ⊢
 obtain ⟨h1,h2,h3⟩:=both_ok h
 rw [h3] at h ⊢
 obtain ⟨h4,h5,h6,h7,h8⟩:=told_ok h
 have r:=Ri.of h1
 have q:=Ri.of h2
 rw [both_of (w.ri r).ok (v.ri q).ok]
 obtain ⟨w1,w2,w3⟩:=w
 obtain ⟨v1,v2,v3⟩:=v
 rw [h4,told_of (by omega) (by omega) (by omega) (by omega)]
 exact ⟨rfl,by show s.lo+t.lo<=s'.lo+t'.lo; omega,by show s'.lo+t'.lo<=s'.hi+t'.hi; omega,by show s'.hi+t'.hi<=s.hi+t.hi; omega⟩
theorem sub_mo:Mo2 subS:=by
 intro s t s' t' w v h
 unfold subS at h ⊢
 obtain ⟨h1,h2,h3⟩:=both_ok h
 rw [h3] at h ⊢
 obtain ⟨h4,h5,h6,h7,h8⟩:=told_ok h
 have r:=Ri.of h1
 have q:=Ri.of h2
 rw [both_of (w.ri r).ok (v.ri q).ok]
 obtain ⟨w1,w2,w3⟩:=w
 obtain ⟨v1,v2,v3⟩:=v
 rw [h4,told_of (by omega) (by omega) (by omega) (by omega)]
 exact ⟨rfl,by show s.lo - t.hi<=s'.lo - t'.hi; omega,by show s'.lo - t'.hi<=s'.hi - t'.lo; omega,by show s'.hi - t'.lo<=s.hi - t.lo; omega⟩
theorem mid_le {a b x n M:Int} (h1:a<=x) (h2:x<=b) (u1:a*n<=M) (u2:b*n<=M):x*n<=M:=by
 rcases Int.lt_or_le n 0 with c|c
 .have:=Int.mul_le_mul_of_nonpos_right h1 (Int.le_of_lt c); omega
 .have:=Int.mul_le_mul_of_nonneg_right h2 c; omega
theorem mid_ge {a b x n M:Int} (h1:a<=x) (h2:x<=b) (u1:M<=a*n) (u2:M<=b*n):M<=x*n:=by
 rcases Int.lt_or_le n 0 with c|c
 .have:=Int.mul_le_mul_of_nonpos_right h2 (Int.le_of_lt c); omega
 .have:=Int.mul_le_mul_of_nonneg_right h1 c; omega
theorem box_le {a b c d x y M:Int} (h1:a<=x) (h2:x<=b) (k1:c<=y) (k2:y<=d) (u1:a*c<=M) (u2:a*d<=M) (u3:b*c<=M) (u4:b*d<=M):x*y<=M:=by
 have e1:x*c<=M:=mid_le h1 h2 u1 u3
 have e2:x*d<=M:=mid_le h1 h2 u2 u4
 rw [Int.mul_comm] at e1 e2 ⊢
 exact mid_le k1 k2 e1 e2
theorem box_ge {a b c d x y M:Int} (h1:a<=x) (h2:x<=b) (k1:c<=y) (k2:y<=d) (u1:M<=a*c) (u2:M<=a*d) (u3:M<=b*c) (u4:M<=b*d):M<=x*y:=by
 have e1:M<=x*c:=mid_ge h1 h2 u1 u3
 have e2:M<=x*d:=mid_ge h1 h2 u2 u4
 rw [Int.mul_comm] at e1 e2 ⊢
 exact mid_ge k1 k2 e1 e2
theorem hull_mo {F:Int->Int->Bool->Int} {a b c d a' b' c' d':Int} (h:(hull4 F a b c d).e=0) (hF:∀ x y,(x=a'\/x=b')->(y=c'\/y=d')->F x y false<=F x y true)
  (h1:∀ m x y,(x=a'\/x=b')->(y=c'\/y=d')->m<=F a c false->m<=F a d false->m<=F b c false->m<=F b d false->m<=F x y false)
  (h2:∀ m x y,(x=a'\/x=b')->(y=c'\/y=d')->F a c true<=m->F a d true<=m->F b c true<=m->F b d true<=m->F x y true<=m):
  (hull4 F a' b' c' d').e=0/\Wi (hull4 F a' b' c' d') (hull4 F a b c d):=by
 unfold hull4 at h ⊢
 obtain ⟨h4,h5,h6,h7,h8⟩:=told_ok h
 obtain ⟨m1,m2,m3,m4,_⟩:=mn4 (F a c false) (F a d false) (F b c false) (F b d false)
 obtain ⟨k1,k2,k3,k4,_⟩:=mx4 (F a c true) (F a d true) (F b c true) (F b d true)
 obtain ⟨i1,i2,i3,i4,i5⟩:=mn4 (F a' c' false) (F a' d' false) (F b' c' false) (F b' d' false)
 obtain ⟨j1,j2,j3,j4,j5⟩:=mx4 (F a' c' true) (F a' d' true) (F b' c' true) (F b' d' true)
 rw [h4]
 generalize mn (mn (mn (F a c false) (F a d false)) (F b c false)) (F b d false)=lo at *
 generalize mx (mx (mx (F a c true) (F a d true)) (F b c true)) (F b d true)=hi at *
 have l:=i5 lo (h1 lo _ _ (.inl rfl) (.inl rfl) m1 m2 m3 m4) (h1 lo _ _ (.inl rfl) (.inr rfl) m1 m2 m3 m4) (h1 lo _ _ (.inr rfl) (.inl rfl) m1 m2 m3 m4) (h1 lo _ _ (.inr rfl) (.inr rfl) m1 m2 m3 m4)
 have u:=j5 hi (h2 hi _ _ (.inl rfl) (.inl rfl) k1 k2 k3 k4) (h2 hi _ _ (.inl rfl) (.inr rfl) k1 k2 k3 k4) (h2 hi _ _ (.inr rfl) (.inl rfl) k1 k2 k3 k4) (h2 hi _ _ (.inr rfl) (.inr rfl) k1 k2 k3 k4)
 have f:=hF _ _ (.inl rfl) (.inl rfl)
 generalize mn (mn (mn (F a' c' false) (F a' d' false)) (F b' c' false)) (F b' d' false)=lo' at *
 generalize mx (mx (mx (F a' c' true) (F a' d' true)) (F b' c' true)) (F b' d' true)=hi' at *
 rw [told_of (by omega) (by omega) (by omega) (by omega)]
 exact ⟨rfl,l,by show lo'<=hi'; omega,u⟩
theorem rd_ge_iff {n d m:Int} (hd:0<d):m<=rd n d false ↔ m*d<=n:=by
 constructor
 .intro h
  have:=(rd_f (n:=n) hd).1
  have:=Int.mul_le_mul_of_nonneg_right h (Int.le_of_lt hd)
  omega
 .exact le_rd_of hd
theorem rd_le_iff {n d m:Int} (hd:0<d):rd n d true<=m ↔ n<=m*d:=by
 constructor
 .intro h
  have:=(rd_t (n:=n) hd).1
  have:=Int.mul_le_mul_of_nonneg_right h (Int.le_of_lt hd)
  omega
 .exact rd_le_of hd
theorem Wi.at {s t:Sp} (w:Wi s t) {x:Int} (h:x=s.lo\/x=s.hi):t.lo<=x/\x<=t.hi:=by
 obtain ⟨w1,w2,w3⟩:=w
 omega
theorem mul_mo:Mo2 mulS:=by
 intro s t s' t' w v h
 unfold mulS at h ⊢
 obtain ⟨h1,h2,h3⟩:=both_ok h
 rw [h3] at h ⊢
 rw [both_of (w.ri (Ri.of h1)).ok (v.ri (Ri.of h2)).ok]
 refine hull_mo h (fun x y _ _=>rd_le _ _ (by decide)) ?_ ?_
 .intro m x y hx hy u1 u2 u3 u4
  have a:=w.at hx
  have b:=v.at hy
  exact (rd_ge_iff (by decide)).2 (box_ge a.1 a.2 b.1 b.2 ((rd_ge_iff (by decide)).1 u1) ((rd_ge_iff (by decide)).1 u2) ((rd_ge_iff (by decide)).1 u3) ((rd_ge_iff (by decide)).1 u4))
 .intro m x y hx hy u1 u2 u3 u4
  have a:=w.at hx
  have b:=v.at hy
  exact (rd_le_iff (by decide)).2 (box_le a.1 a.2 b.1 b.2 ((rd_le_iff (by decide)).1 u1) ((rd_le_iff (by decide)).1 u2) ((rd_le_iff (by decide)).1 u3) ((rd_le_iff (by decide)).1 u4))
theorem dF_ge_p {x y m:Int} (hy:0<y):m<=dF x y false ↔ m*y<=x*4294967296:=by
 unfold dF sg
 rw [decide_eq_false (show ¬ y<0 by omega)]
 exact rd_ge_iff hy
theorem dF_le_p {x y m:Int} (hy:0<y):dF x y true<=m ↔ x*4294967296<=m*y:=by
 unfold dF sg
 rw [decide_eq_false (show ¬ y<0 by omega)]
 exact rd_le_iff hy
theorem dF_ge_n {x y m:Int} (hy:y<0):m<=dF x y false ↔ x*4294967296<=m*y:=by
 unfold dF sg
 rw [decide_eq_true hy,cond_true,cond_true,rd_ge_iff (by omega),Int.mul_neg]
 omega
theorem dF_le_n {x y m:Int} (hy:y<0):dF x y true<=m ↔ m*y<=x*4294967296:=by
 unfold dF sg
 rw [decide_eq_true hy,cond_true,cond_true,rd_le_iff (by omega),Int.mul_neg]
 omega
theorem dF_le {x y:Int} (hy:y≠0):dF x y false<=dF x y true:=by
 unfold dF sg
 cases h:decide (y<0) with
 | true=>exact rd_le _ _ (by show 0 < -y; have:=of_decide_eq_true h; omega)
 | false=>exact rd_le _ _ (by show 0<y; have:=of_decide_eq_false h; omega)
theorem lin_ge {a b c d x y m:Int} (h1:a<=x) (_h2:x<=b) (k1:c<=y) (k2:y<=d) (u1:m*c<=a*4294967296) (u2:m*d<=a*4294967296):m*y<=x*4294967296:=by
 have:y*m<=a*4294967296:=mid_le k1 k2 (by rw [Int.mul_comm]; exact u1) (by rw [Int.mul_comm]; exact u2)
 rw [Int.mul_comm] at this
 omega
theorem lin_le {a b c d x y m:Int} (_h1:a<=x) (h2:x<=b) (k1:c<=y) (k2:y<=d) (u1:b*4294967296<=m*c) (u2:b*4294967296<=m*d):x*4294967296<=m*y:=by
 have:b*4294967296<=y*m:=mid_ge k1 k2 (by rw [Int.mul_comm c m]; exact u1) (by rw [Int.mul_comm d m]; exact u2)
 rw [Int.mul_comm y m] at this
 omega
theorem div_ok {a b c d:Int} (h:(divS a b c d).e=0):okSp a b=true/\okSp c d=true/\(0<c\/d<0)/\divS a b c d=hull4 dF a b c d:=by
 unfold divS at h ⊢
 obtain ⟨h1,h2,h3⟩:=both_ok h
 rw [h3] at h ⊢
 cases h4:decide (c<=0) <;> cases h5:decide (0<=d) <;> rw [h4,h5] at h
 .have:=of_decide_eq_false h4; exact ⟨h1,h2,.inl (by omega),rfl⟩
 .have:=of_decide_eq_false h4; exact ⟨h1,h2,.inl (by omega),rfl⟩
 .have:=of_decide_eq_false h5; exact ⟨h1,h2,.inr (by omega),rfl⟩
 .cases h
theorem div_of {a b c d:Int} (h1:okSp a b=true) (h2:okSp c d=true) (h3:0<c\/d<0):divS a b c d=hull4 dF a b c d:=by
 unfold divS
 rw [both_of h1 h2]
 rcases h3 with h|h
 .rw [decide_eq_false (show ¬ c<=0 by omega)]; rfl
 .rw [decide_eq_false (show ¬ 0<=d by omega),Bool.and_false]; rfl
theorem div_mo:Mo2 divS:=by
 intro s t s' t' w v h
 obtain ⟨h1,h2,h3,h4⟩:=div_ok h
 rw [h4] at h ⊢
 obtain ⟨v1,v2,v3⟩:=id v
 rw [div_of (w.ri (Ri.of h1)).ok (v.ri (Ri.of h2)).ok (by omega)]
 rcases h3 with h3|h3
 .refine hull_mo h (fun x y _ hy=>dF_le (by have:=v.at hy; omega)) ?_ ?_
  .intro m x y hx hy u1 u2 u3 u4
   have a:=w.at hx
   have b:=v.at hy
   exact (dF_ge_p (by omega)).2 (lin_ge a.1 a.2 b.1 b.2 ((dF_ge_p (by omega)).1 u1) ((dF_ge_p (by omega)).1 u2))
  .intro m x y hx hy u1 u2 u3 u4
   have a:=w.at hx
   have b:=v.at hy
   exact (dF_le_p (by omega)).2 (lin_le a.1 a.2 b.1 b.2 ((dF_le_p (by omega)).1 u3) ((dF_le_p (by omega)).1 u4))
 .refine hull_mo h (fun x y _ hy=>dF_le (by have:=v.at hy; omega)) ?_ ?_
  .intro m x y hx hy u1 u2 u3 u4
   have a:=w.at hx
   have b:=v.at hy
   exact (dF_ge_n (by omega)).2 (lin_le a.1 a.2 b.1 b.2 ((dF_ge_n (by omega)).1 u3) ((dF_ge_n (by omega)).1 u4))
  .intro m x y hx hy u1 u2 u3 u4
   have a:=w.at hx
   have b:=v.at hy
   exact (dF_le_n (by omega)).2 (lin_ge a.1 a.2 b.1 b.2 ((dF_le_n (by omega)).1 u1) ((dF_le_n (by omega)).1 u2))
theorem abs_mo {s s':Sp} (w:Wi s' s):abL s.lo s.hi<=abL s'.lo s'.hi/\abH s'.lo s'.hi<=abH s.lo s.hi/\0<=abL s.lo s.hi/\abL s'.lo s'.hi<=abH s'.lo s'.hi:=by
 obtain ⟨w1,w2,w3⟩:=w
 unfold abL abH
 have:=le_mx s.lo (-s.hi)
 have:=le_mx (mx s.lo (-s.hi)) 0
 have:=le_mx s'.lo (-s'.hi)
 have:=le_mx (mx s'.lo (-s'.hi)) 0
 have:=le_mx s.hi (-s.lo)
 have:=le_mx s'.hi (-s'.lo)
 omega
theorem sq_le {a b:Int} (h:0<=a) (k:a<=b):a*a<=b*b:=Int.mul_le_mul k k h (Int.le_trans h k)
theorem sqr_mo:Mo1 sqrS:=by
 intro s s' w h
 unfold sqrS at h ⊢
 cases h1:okSp s.lo s.hi <;> rw [h1] at h
 .cases h
 .rw [(w.ri (Ri.of h1)).ok]
  rw [cond_true] at h ⊢
  rw [cond_true]
  obtain ⟨h4,h5,h6,h7,h8⟩:=told_ok h
  obtain ⟨p1,p2,p3,p4⟩:=abs_mo w
  rw [h4]
  have l:=rd_lt_rd (d:=4294967296) (by decide) (sq_le p3 p1) false
  have u:=rd_lt_rd (d:=4294967296) (by decide) (sq_le (Int.le_trans (Int.le_trans p3 p1) p4) p2) true
  have m:=Int.le_trans (rd_lt_rd (d:=4294967296) (by decide) (sq_le (Int.le_trans p3 p1) p4) false) (rd_le (abH s'.lo s'.hi*abH s'.lo s'.hi) 4294967296 (by decide))
  generalize rd (abL s.lo s.hi*abL s.lo s.hi) 4294967296 false=lo at *
  generalize rd (abH s.lo s.hi*abH s.lo s.hi) 4294967296 true=hi at *
  generalize rd (abL s'.lo s'.hi*abL s'.lo s'.hi) 4294967296 false=lo' at *
  generalize rd (abH s'.lo s'.hi*abH s'.lo s'.hi) 4294967296 true=hi' at *
  rw [told_of (by omega) (by omega) (by omega) (by omega)]
  exact ⟨rfl,l,m,u⟩
theorem sqR_mono {a b:Int} (ha:sqOk a=true) (hb:sqOk b=true) (h:a<=b):sqR a<=sqR b:=by
 obtain ⟨u0,u1,u2,_⟩:=sqR_spec ha
 obtain ⟨v0,v1,v2,_⟩:=sqR_spec hb
 have:=lt_of_sq (a:=sqR a) (b:=sqR b+1) (by omega) (by omega)
 omega
theorem rtT_mono {a b:Int} (ha:sqOk a=true) (hb:sqOk b=true) (h:a<=b):rtV a true<=rtV b true:=by
 obtain ⟨u0,u1,u2⟩:=rtV_t ha
 obtain ⟨v0,v1,v2⟩:=rtV_t hb
 rcases u2 with u2|⟨u2,u3⟩
 .obtain ⟨q0,q1,_,_⟩:=sqR_spec ha
  rw [u2]
  exact le_of_sq v0 (by omega)
 .have:=lt_of_sq (a:=sqR a) (b:=rtV b true) v0 (by omega)
  omega
theorem sqrt_mo:Mo1 sqrtS:=by
 intro s s' w h
 unfold sqrtS at h ⊢
 cases h1:okSp s.lo s.hi <;> rw [h1] at h
 .cases h
 .have r:=Ri.of h1
  have r':=w.ri r
  rw [r'.ok]
  rw [cond_true] at h ⊢
  rw [cond_true]
  obtain ⟨w1,w2,w3⟩:=w
  obtain ⟨r1,r2,r3⟩:=r
  cases h2:decide (s.lo<0) <;> rw [h2] at h
  .have:=of_decide_eq_false h2
   rw [decide_eq_false (show ¬ s'.lo<0 by omega)]
   have k1:sqOk s.lo=true:=by unfold sqOk; rw [okF_iff.2 (by omega)]; simpa using (show 0<=s.lo by omega)
   have k2:sqOk s.hi=true:=by unfold sqOk; rw [okF_iff.2 (by omega)]; simpa using (show 0<=s.hi by omega)
   have k3:sqOk s'.lo=true:=by unfold sqOk; rw [okF_iff.2 (by omega)]; simpa using (show 0<=s'.lo by omega)
   have k4:sqOk s'.hi=true:=by unfold sqOk; rw [okF_iff.2 (by omega)]; simpa using (show 0<=s'.hi by omega)
   obtain ⟨a0,a1,a2⟩:=rtV_t k4
   obtain ⟨b0,b1,_,_⟩:=sqR_spec k3
   exact ⟨rfl,sqR_mono k1 k3 w1,show sqR s'.lo<=rtV s'.hi true from le_of_sq a0 (by omega),rtT_mono k4 k2 w3⟩
  .cases h
theorem scale_mo (n d:Int):Mo1 fun a b=>scaleS a b n d:=by
 intro s s' w h
 show (scaleS s'.lo s'.hi n d).e=0/\Wi (scaleS s'.lo s'.hi n d) (scaleS s.lo s.hi n d)
 have h:(scaleS s.lo s.hi n d).e=0:=h
 unfold scaleS at h ⊢
 cases h1:okSp s.lo s.hi <;> rw [h1] at h
 .cases h
 .rw [(w.ri (Ri.of h1)).ok]
  rw [cond_true] at h ⊢
  rw [cond_true]
  cases h2:okR n d <;> rw [h2] at h
  .cases h
  .rw [cond_true] at h ⊢
   rw [cond_true]
   have hd:0<d:=by
    unfold okR at h2
    simp only [Bool.and_eq_true,decide_eq_true_eq] at h2
    omega
   obtain ⟨h4,h5,h6,h7,h8⟩:=told_ok h
   have m1:=mn_le (s.lo*n) (s.hi*n)
   have m2:=mn_le (s'.lo*n) (s'.hi*n)
   have m3:=le_mx (s.lo*n) (s.hi*n)
   have m4:=le_mx (s'.lo*n) (s'.hi*n)
   obtain ⟨w1,w2,w3⟩:=w
   have c1:=mid_ge w1 (Int.le_trans w2 w3) m1.1 m1.2.1
   have c2:=mid_ge (Int.le_trans w1 w2) w3 m1.1 m1.2.1
   have c3:=mid_le w1 (Int.le_trans w2 w3) m3.1 m3.2.1
   have c4:=mid_le (Int.le_trans w1 w2) w3 m3.1 m3.2.1
   rw [h4]
   have l:=rd_lt_rd hd (show mn (s.lo*n) (s.hi*n)<=mn (s'.lo*n) (s'.hi*n) by omega) false
   have u:=rd_lt_rd hd (show mx (s'.lo*n) (s'.hi*n)<=mx (s.lo*n) (s.hi*n) by omega) true
   have m:=Int.le_trans (rd_lt_rd hd (show mn (s'.lo*n) (s'.hi*n)<=mx (s'.lo*n) (s'.hi*n) by omega) false) (rd_le (mx (s'.lo*n) (s'.hi*n)) d hd)
   generalize rd (mn (s.lo*n) (s.hi*n)) d false=lo at *
   generalize rd (mx (s.lo*n) (s.hi*n)) d true=hi at *
   generalize rd (mn (s'.lo*n) (s'.hi*n)) d false=lo' at *
   generalize rd (mx (s'.lo*n) (s'.hi*n)) d true=hi' at *
   rw [told_of (by omega) (by omega) (by omega) (by omega)]
   exact ⟨rfl,l,m,u⟩
end Go.Rd
namespace Go.Ar
open Go Go.Eng
noncomputable section
def two (a b:Int):Tm:=.u [.n .i64 a,.n .i64 b]
def sMul (up:Bool):PSpec:=numSpec [.i .i64,.i .i64] none fun
 | [.n a,.n b]=>two (xMulV a b up) (xMulE a b up)
 | _=>.u []
def sDiv (up:Bool):PSpec:=numSpec [.i .i64,.i .i64] none fun
 | [.n a,.n b]=>two (xDivV a b up) (xDivE a b up)
 | _=>.u []
def sScale (up:Bool):PSpec:=numSpec [.i .i64,.i .i64,.i .i64] none fun
 | [.n a,.n n,.n d]=>two (xScV a n d up) (xScE a n d up)
 | _=>.u []
def sSqrt (up:Bool):PSpec:=numSpec [.i .i64] none fun
 | [.n a]=>two (xSqV a up) (xSqE a up)
 | _=>.u []
end
end Go.Ar
namespace Go.Ar
open Go Go.Eng
end Go.Ar
namespace Go.Ar
open Go Go.Eng
def rmA (x:Int):Int:=IntKind.u64.wrap (x.tdiv 67108864)
def rRt (x:Int):Bool:=bif decide (x>=-4503599627370496) then decide (x<=4503599627370496) else false
theorem rRt_eq (x:Int):rRt x=okF x:=by
 unfold rRt okF
 by_cases h:x>=-4503599627370496
 .rw [decide_eq_true h]; rfl
 .rw [decide_eq_false h]; rfl
end Go.Ar
namespace Go.Ar
open Go Go.Eng
def pN (o x y c:Int):Int:=IntKind.i64.wrap (IntKind.i64.wrap (o+IntKind.i64.wrap (x*y))+c)
def rowP (x:Int):List Int->List Int->Int->List Int
 | y :: ys,o :: os,c=>(pN o x y c).tmod 65536 :: rowP x ys os (IntKind.i64.wrap ((pN o x y c).tdiv 65536))
 | [],_ :: os,c=>c :: os
 | _,[],_=>[]
def prodP:List Int->List Int->List Int->List Int
 | x :: xs,ys,out=>match rowP x ys out 0 with
  | o :: os=>o :: prodP xs ys os
  | []=>[]
 | [],_,out=>out
def dgP:Nat->Int->List Int
 | 0,_=>[]
 | k+1,v=>v.tmod 65536 :: dgP k (IntKind.i64.wrap (v.tdiv 65536))
def zeroP:Nat->List Int
 | 0=>[]
 | k+1=>0 :: zeroP k
def pwL (k:Nat) (v:Int):List Int:=prodP (prodP [1] (dgP k v) (zeroP (1+k))) (dgP k v) (zeroP (1+k+k))
def nxP (o x:Int):Int:=IntKind.i64.wrap (IntKind.i64.wrap (o*65536)+x)
def topV:List Int->Int->Int
 | [],o=>o
 | x :: xs,o=>topV xs (nxP o x)
def topG:List Int->Int->Bool
 | [],_=>true
 | x :: xs,o=>match xs with
  | []=>!decide (o>68719476736)
  | _ :: _=>!decide (o>68719476736)&&topG xs (nxP o x)
def topL (k:Nat) (v:Int):List Int:=((pwL k v).drop 2).reverse
def lowP (l:List Int):Bool:=match l with
 | a :: b :: _=>bif decide (a>0) then true else decide (b>0)
 | _=>false
def outP (k:Nat) (v:Int) (up:Bool):Int:=match topL k v with
 | []=>0
 | t :: r=>bif (bif up then lowP (pwL k v) else false) then IntKind.i64.wrap (topV r (nxP 0 t)+1) else topV r (nxP 0 t)
def fitP (k:Nat) (v:Int):Bool:=match topL k v with
 | []=>true
 | t :: r=>topG r (nxP 0 t)
def valP:List Int->Int
 | []=>0
 | x :: l=>x+65536*valP l
def digP (l:List Int):Prop:=∀ x∈l,0<=x/\x<65536
theorem digP_cons {x:Int} {l:List Int}:digP (x :: l) ↔ (0<=x/\x<65536)/\digP l:=by simp [digP]
theorem valP_nonneg:∀ {l:List Int},digP l->0<=valP l
 | [],_=>by simp [valP]
 | x :: l,h=>by
  have h:=digP_cons.1 h
  have:=valP_nonneg h.2
  simp only [valP]; omega
theorem pN_eq {o x y c:Int} (ho:0<=o/\o<65536) (hx:0<=x/\x<65536) (hy:0<=y/\y<65536) (hc:0<=c/\c<65536):pN o x y c=o+x*y+c/\0<=x*y/\x*y<=65535*65535:=by
 have h1:0<=x*y:=Int.mul_nonneg hx.1 hy.1
 have h2:x*y<=65535*65535:=Int.mul_le_mul (by omega) (by omega) hy.1 (by decide)
 unfold pN
 rw [i64w (n:=x*y) (by omega) (by omega),i64w (n:=o+x*y) (by omega) (by omega),i64w (by omega) (by omega)]
 exact ⟨rfl,h1,h2⟩
theorem row_law {x:Int} (hx:0<=x/\x<65536):∀ (ys out:List Int) (c:Int),digP ys->digP out->(0<=c/\c<65536)->ys.length<out.length->(∀ j,ys.length<=j->∀ z,out[j]?=some z->z=0) ->
  digP (rowP x ys out c)/\(rowP x ys out c).length=out.length/\valP (rowP x ys out c)=valP out+x*valP ys+c/\∀ j,ys.length+1<=j->∀ z,(rowP x ys out c)[j]?=some z->z=0
 | ys,[],c,_,_,_,h,_=>by simp at h
 | [],o :: os,c,_,ho,hc,_,hz=>by
  have ho:=digP_cons.1 ho
  have h0:o=0:=hz 0 (Nat.le_refl _) o rfl
  subst h0
  refine ⟨digP_cons.2 ⟨hc,ho.2⟩,rfl,by simp only [rowP,valP]; omega,fun j hj z hjz=>?_⟩
  cases j with
  | zero=>simp at hj
  | succ j=>exact hz (j+1) (Nat.zero_le _) z hjz
 | y :: ys,o :: os,c,hy,ho,hc,hl,hz=>by
  have hy:=digP_cons.1 hy
  have ho:=digP_cons.1 ho
  obtain ⟨e,p0,p1⟩:=pN_eq ho.1 hx hy.1 hc
  have n0:0<=pN o x y c:=by omega
  have n1:pN o x y c<4294967296:=by omega
  have em:(pN o x y c).tmod 65536=pN o x y c % 65536:=Int.tmod_eq_emod_of_nonneg n0
  have ed:IntKind.i64.wrap ((pN o x y c).tdiv 65536)=pN o x y c / 65536:=by
   rw [Int.tdiv_eq_ediv_of_nonneg n0,i64w (by omega) (by omega)]
  obtain ⟨i1,i2,i3,i4⟩:=row_law hx ys os (pN o x y c / 65536) hy.2 ho.2 (by omega) (by simpa using hl) fun j hj z hjz=>hz (j+1) (by simp; omega) z (by simpa using hjz)
  simp only [rowP]
  rw [em,ed]
  refine ⟨digP_cons.2 ⟨by omega,i1⟩,by simp [i2],?_,fun j hj z hjz=>?_⟩
  .simp only [valP]
   rw [i3,e]
   have h5:x*(y+65536*valP ys)=x*y+65536*(x*valP ys):=by rw [Int.mul_add,Int.mul_left_comm]
   rw [h5]
   generalize x*valP ys=A
   omega
  .cases j with
   | zero=>simp at hj
   | succ j=>exact i4 j (by simp at hj; omega) z (by simpa using hjz)
theorem prod_law:∀ (xs ys out:List Int),digP xs->digP ys->digP out->out.length=xs.length+ys.length->(∀ j,ys.length<=j->∀ z,out[j]?=some z->z=0) ->
  digP (prodP xs ys out)/\(prodP xs ys out).length=out.length/\valP (prodP xs ys out)=valP out+valP xs*valP ys
 | [],ys,out,_,_,ho,_,_=>⟨ho,rfl,by simp [prodP,valP]⟩
 | x :: xs,ys,out,hx,hy,ho,hl,hz=>by
  have hx:=digP_cons.1 hx
  obtain ⟨r1,r2,r3,r4⟩:=row_law hx.1 ys out 0 hy ho (by omega) (by simp at hl; omega) hz
  simp only [prodP]
  cases hr:rowP x ys out 0 with
  | nil=>rw [hr] at r2; simp at r2 hl; omega
  | cons o os=>
   rw [hr] at r1 r2 r3 r4
   have r1:=digP_cons.1 r1
   obtain ⟨i1,i2,i3⟩:=prod_law xs ys os hx.2 hy r1.2 (by simp at r2 hl; omega) fun j hj z hjz=>r4 (j+1) (by omega) z (by simpa using hjz)
   refine ⟨digP_cons.2 ⟨r1.1,i1⟩,by simp at r2 ⊢; omega,?_⟩
   simp only [valP] at r3 ⊢
   rw [i3,Int.add_mul,Int.mul_add,Int.mul_assoc]
   omega
theorem zero_law:∀ k,digP (zeroP k)/\(zeroP k).length=k/\valP (zeroP k)=0/\∀ (j:Nat) z,(zeroP k)[j]?=some z->z=0
 | 0=>⟨fun x h=>(by cases h),rfl,rfl,fun j z h=>(by simp [zeroP] at h)⟩
 | k+1=>by
  obtain ⟨h1,h2,h3,h4⟩:=zero_law k
  refine ⟨digP_cons.2 ⟨by omega,h1⟩,by simp [zeroP,h2],by simp [zeroP,valP,h3],fun j z h=>?_⟩
  cases j with
  | zero=>simp [zeroP] at h; exact h.symm
  | succ j=>exact h4 j z (by simpa [zeroP] using h)
theorem dg_law:∀ (k:Nat) (v:Int),0<=v->v<9223372036854775808->v<65536 ^ k->digP (dgP k v)/\(dgP k v).length=k/\valP (dgP k v)=v
 | 0,v,h0,_,h1=>by
  rw [Int.pow_zero] at h1
  exact ⟨fun x h=>(by cases h),rfl,by simp only [dgP,valP]; omega⟩
 | k+1,v,h0,hb,h1=>by
  have ed:IntKind.i64.wrap (v.tdiv 65536)=v / 65536:=by rw [Int.tdiv_eq_ediv_of_nonneg h0,i64w (by omega) (by omega)]
  obtain ⟨i1,i2,i3⟩:=dg_law k (v / 65536) (by omega) (by omega) (by rw [Int.pow_succ] at h1; omega)
  simp only [dgP]
  rw [ed,Int.tmod_eq_emod_of_nonneg h0]
  exact ⟨digP_cons.2 ⟨by omega,i1⟩,by simp [i2],by simp only [valP,i3]; omega⟩
theorem pwL_law (k:Nat) (v:Int) (h0:0<=v) (hb:v<9223372036854775808) (h1:v<65536 ^ k):digP (pwL k v)/\(pwL k v).length=1+k+k/\valP (pwL k v)=v*v:=by
 obtain ⟨d1,d2,d3⟩:=dg_law k v h0 hb h1
 obtain ⟨z1,z2,z3,z4⟩:=zero_law (1+k)
 obtain ⟨y1,y2,y3,y4⟩:=zero_law (1+k+k)
 obtain ⟨p1,p2,p3⟩:=prod_law [1] (dgP k v) (zeroP (1+k)) (digP_cons.2 ⟨by omega,fun x h=>by cases h⟩) d1 z1 (by simp [z2,d2]) fun j _ z h=>z4 j z h
 obtain ⟨q1,q2,q3⟩:=prod_law _ (dgP k v) (zeroP (1+k+k)) p1 d1 y1 (by rw [p2,z2,d2,y2]) fun j _ z h=>y4 j z h
 refine ⟨q1,by rw [pwL,q2,y2],?_⟩
 rw [pwL,q3,p3,y3,z3,d3]
 simp [valP]
def tvP:List Int->Int->Int
 | [],o=>o
 | x :: xs,o=>tvP xs (o*65536+x)
theorem tv_mono:∀ {l:List Int} {o:Int},digP l->0<=o->o<=tvP l o/\(l≠[]->o<=tvP l o / 65536)
 | [],o,_,h=>⟨by simp [tvP],fun h=>absurd rfl h⟩
 | x :: l,o,hd,h=>by
  have hd:=digP_cons.1 hd
  obtain ⟨i1,i2⟩:=tv_mono (l:=l) (o:=o*65536+x) hd.2 (by omega)
  simp only [tvP]
  exact ⟨by omega,fun _=>by omega⟩
theorem top_law:∀ {l:List Int} {o:Int},digP l->0<=o->l≠[]->topG l o=decide (tvP l o / 65536<=68719476736)/\(topG l o=true->topV l o=tvP l o)
 | [],o,_,_,h=>absurd rfl h
 | [x],o,hd,h,_=>by
  have hd:=digP_cons.1 hd
  have e:(o*65536+x) / 65536=o:=by omega
  have hs:topG [x] o=!decide (o>68719476736):=rfl
  have ht:tvP [x] o=o*65536+x:=rfl
  have hv:topV [x] o=nxP o x:=rfl
  rw [hs,ht,hv]
  refine ⟨by rw [Bool.eq_iff_iff,Bool.not_eq_true',decide_eq_false_iff_not,decide_eq_true_eq]; omega,fun hg=>?_⟩
  rw [Bool.not_eq_true',decide_eq_false_iff_not] at hg
  unfold nxP
  rw [i64w (n:=o*65536) (by omega) (by omega),i64w (by omega) (by omega)]
 | x :: y :: l,o,hd,h,_=>by
  have hd:=digP_cons.1 hd
  have m:=tv_mono (l:=x :: y :: l) (o:=o) (digP_cons.2 hd) h
  have hstep:topG (x :: y :: l) o=(!decide (o>68719476736)&&topG (y :: l) (nxP o x)):=rfl
  have hv:topV (x :: y :: l) o=topV (y :: l) (nxP o x):=rfl
  have ht:tvP (x :: y :: l) o=tvP (y :: l) (o*65536+x):=rfl
  by_cases c:o>68719476736
  .have m2:=m.2 (by simp)
   rw [hstep,decide_eq_true c]
   refine ⟨?_,fun hg=>by simp at hg⟩
   rw [decide_eq_false (by omega)]; rfl
  .have e:nxP o x=o*65536+x:=by
    unfold nxP; rw [i64w (n:=o*65536) (by omega) (by omega),i64w (by omega) (by omega)]
   obtain ⟨i1,i2⟩:=top_law (l:=y :: l) (o:=o*65536+x) hd.2 (by omega) (by simp)
   rw [hstep,hv,ht,e,decide_eq_false c]
   exact ⟨by rw [i1]; rfl,fun hg=>i2 (by simpa using hg)⟩
theorem tv_append:∀ (l:List Int) (x o:Int),tvP (l++[x]) o=tvP l o*65536+x
 | [],x,o=>rfl
 | y :: l,x,o=>by simp only [List.cons_append,tvP]; exact tv_append l x _
theorem tv_rev:∀ l:List Int,tvP l.reverse 0=valP l
 | []=>rfl
 | x :: l=>by rw [List.reverse_cons,tv_append,tv_rev l]; simp only [valP]; omega
def pEarly (v:Int):Bool:=decide (v*v / 4294967296 / 65536>68719476736)
def pV (v:Int) (up:Bool):Int:=bif pEarly v then 0 else rd (v*v) 4294967296 up
def pB (v:Int) (up:Bool):Bool:=bif pEarly v then false else decide (rd (v*v) 4294967296 up<=4503599627370496)
theorem pw_core (k:Nat) (hk:1<=k) (v:Int) (h0:0<=v) (hb:v<=4503599627370496) (h1:v<65536 ^ k):∃ t r,topL k v=t :: r/\(r=[]->k=1) /\
  (2<=k->topG r (nxP 0 t)=!pEarly v)/\(k=1->pEarly v=false/\r=[])/\(pEarly v=false->∀ up,outP k v up=rd (v*v) 4294967296 up):=by
 obtain ⟨l1,l2,l3⟩:=pwL_law k v h0 (by omega) h1
 match hL:pwL k v,l1,l2,l3 with
 | [],_,l2,_=>simp at l2; omega
 | [_],_,l2,_=>simp at l2; omega
 | a :: b :: l,l1,l2,l3=>
  have a1:=digP_cons.1 l1
  have b1:=digP_cons.1 a1.2
  simp only [valP] at l3
  have hl:l.length=2*k - 1:=by simp at l2; omega
  have hT:topL k v=l.reverse:=by unfold topL; rw [hL]; rfl
  have hq:v*v / 4294967296=valP l/\v*v % 4294967296=a+65536*b:=by
   have:=valP_nonneg b1.2
   generalize v*v=P at l3 ⊢
   omega
  have hd:digP l.reverse:=fun x hx=>b1.2 x (List.mem_reverse.1 hx)
  cases hr:l.reverse with
  | nil=>
   have:l.length=0:=by rw [<- List.length_reverse,hr]; rfl
   omega
  | cons t r=>
   have hlen:r.length=2*k - 2:=by have:=congrArg List.length hr; simp at this; omega
   rw [hr] at hd
   have hd:=digP_cons.1 hd
   have tv:=tv_rev l
   rw [hr] at tv
   simp only [tvP] at tv
   have e0:nxP 0 t=0*65536+t:=by
    unfold nxP; rw [i64w (n:=0*65536) (by omega) (by omega),i64w (by omega) (by omega)]
   have low:lowP (a :: b :: l)=decide (0<v*v % 4294967296):=by
    have hlow:lowP (a :: b :: l)=(bif decide (a>0) then true else decide (b>0)):=rfl
    rw [hlow,hq.2]
    by_cases ha:a>0
    .rw [decide_eq_true ha,cond_true,decide_eq_true (by omega)]
    .rw [decide_eq_false ha,cond_false,Bool.eq_iff_iff,decide_eq_true_eq,decide_eq_true_eq]; omega
   have out:(r≠[]->topG r (nxP 0 t)=true)->valP l / 65536<=68719476736->∀ up,outP k v up=rd (v*v) 4294967296 up:=by
    intro hg hle up
    have ht:topV r (nxP 0 t)=valP l:=by
     by_cases hn:r=[]
     .subst hn
      rw [e0]; exact tv
     .have:=(top_law (l:=r) (o:=nxP 0 t) hd.2 (by rw [e0]; omega) hn).2 (hg hn)
      rw [this,e0,tv]
    unfold outP
    rw [hT,hr]
    simp only
    rw [ht,hL,low]
    have hv:=valP_nonneg b1.2
    unfold rd
    cases up with
    | false=>simp [hq.1]
    | true=>
     simp only [cond_true]
     have:=neg_div (p:=v*v) (d:=4294967296) (by decide)
     rw [this,hq.1]
     by_cases hm:0<v*v % 4294967296
     .rw [decide_eq_true hm,cond_true,if_pos hm,i64w (by omega) (by omega)]; omega
     .rw [decide_eq_false hm,cond_false,if_neg hm]; omega
   refine ⟨t,r,by rw [hT,hr],fun h=>?_,fun h2=>?_,fun h1=>⟨?_,?_⟩,fun he up=>?_⟩
   .subst h; simp at hlen; omega
   .have hn:r≠[]:=by intro h; subst h; simp at hlen; omega
    have:=(top_law (l:=r) (o:=nxP 0 t) hd.2 (by rw [e0]; omega) hn).1
    rw [this,e0,tv]
    unfold pEarly
    rw [hq.1,Bool.eq_iff_iff,decide_eq_true_eq,Bool.not_eq_true',decide_eq_false_iff_not]; omega
   .subst h1
    unfold pEarly
    rw [decide_eq_false]
    rw [Int.pow_one] at h1
    have:v*v<=65535*65535:=Int.mul_le_mul (by omega) (by omega) h0 (by decide)
    generalize v*v=P at this ⊢
    omega
   .subst h1; exact List.length_eq_zero_iff.1 (by omega)
   .unfold pEarly at he
    rw [hq.1,decide_eq_false_iff_not] at he
    refine out (fun hn=>?_) (by omega) up
    have:=(top_law (l:=r) (o:=nxP 0 t) hd.2 (by rw [e0]; omega) hn).1
    rw [this,e0,tv,decide_eq_true (by omega)]
end Go.Ar
namespace Go.Ar
open Go Go.Eng
noncomputable section
def shS:Sh:=.a [.i .i64,.i .i64]
def outS (s:Sp):Tm:=.u [.a [.n .i64 s.lo,.n .i64 s.hi],.n .i64 s.e]
def sBin (F:Int->Int->Int->Int->Sp):PSpec:=numSpec [shS,shS] none fun
 | [.n a,.n b,.n c,.n d]=>outS (F a b c d)
 | _=>.u []
def sUn (F:Int->Int->Sp):PSpec:=numSpec [shS] none fun
 | [.n a,.n b]=>outS (F a b)
 | _=>.u []
def chkS (a b:Int):Int:=bif okSp a b then 0 else 20
def sChk:PSpec:=numSpec [shS] none fun
 | [.n a,.n b]=>.n .i64 (chkS a b)
 | _=>.u []
def sPow:PSpec:=numSpec [.i .i64,.c (.int false .i64 2)] (some fun
 | [.n v]=>okF v
 | _=>false) fun
 | [.n v]=>.u [.n .i64 (sqD v),.n .i64 (sqU v),.n .i64 (sqE v)]
 | _=>.u []
def sRPow (up:Bool):PSpec:=numSpec [.i .i64,.c (.int false .i64 2),.c (.bool false up)] (some fun
 | [.n v]=>decide (0<=v)&&okF v
 | _=>false) fun
 | [.n v]=>.u [.n .i64 (pV v up),.t (pB v up)]
 | _=>.u []
def orS (s t:PSpec):PSpec:=fun args=>match s args with
 | some x=>some x
 | none=>t args
theorem orS_ok {P:Program} {f:FuncId} {s t:PSpec} (hs:PureOk P f s) (ht:PureOk P f t):PureOk P f (orS s t):=by
 refine ⟨hs.fn,fun args nd v e=>?_⟩
 unfold orS at e
 split at e
 .rename_i x hx
  cases e
  exact hs.run args nd v hx
 .exact ht.run args nd v e
end
end Go.Ar
namespace Go.Rd
open Go Go.Eng Go.Ar
def okCK (c k:Int):Prop:=(-1000000000<=c/\c<=1000000000)/\(-100000000<=k/\k<=100000000)
def s0 (c k a b d e:Int):Sp:=(sqrS a b)
def s1 (c k a b d e:Int):Sp:=(sqrS d e)
def s2 (c k a b d e:Int):Sp:=(addS (s0 c k a b d e).lo (s0 c k a b d e).hi (s1 c k a b d e).lo (s1 c k a b d e).hi)
def s3 (c k a b d e:Int):Sp:=(xScaleS (s2 c k a b d e).lo (s2 c k a b d e).hi c 1000000000)
def s4 (c k a b d e:Int):Sp:=(xScaleS (s3 c k a b d e).lo (s3 c k a b d e).hi c 1000000000)
def s5 (c k a b d e:Int):Sp:=(xScaleS (s4 c k a b d e).lo (s4 c k a b d e).hi (IntKind.i64.wrap (1000000+k)) 1000000)
def s6 (c k a b d e:Int):Sp:=(subS 4294967296 4294967296 (s5 c k a b d e).lo (s5 c k a b d e).hi)
def s7 (c k a b d e:Int):Sp:=(sqrtS (s6 c k a b d e).lo (s6 c k a b d e).hi)
def s8 (c k a b d e:Int):Sp:=(addS (s3 c k a b d e).lo (s3 c k a b d e).hi 0 0)
def s9 (c k a b d e:Int):Sp:=(addS 4294967296 4294967296 (s7 c k a b d e).lo (s7 c k a b d e).hi)
def s10 (c k a b d e:Int):Sp:=(divS (s8 c k a b d e).lo (s8 c k a b d e).hi (s9 c k a b d e).lo (s9 c k a b d e).hi)
def s11 (c k a b d e:Int):Sp:=(xScaleS d e c 1000000000)
def s12 (c k a b d e:Int):Sp:=(divS (s11 c k a b d e).lo (s11 c k a b d e).hi (s7 c k a b d e).lo (s7 c k a b d e).hi)
def s13 (c k a b d e:Int):Sp:=(xScaleS a b c 1000000000)
def s14 (c k a b d e:Int):Sp:=(divS (s13 c k a b d e).lo (s13 c k a b d e).hi (s7 c k a b d e).lo (s7 c k a b d e).hi)
def b0 (c k l m a b d e:Int):Sp:=(sqrS a b)
def b1 (c k l m a b d e:Int):Sp:=(xScaleS (b0 c k l m a b d e).lo (b0 c k l m a b d e).hi l 1000000000)
def b2 (c k l m a b d e:Int):Sp:=(sqrS d e)
def b3 (c k l m a b d e:Int):Sp:=(xScaleS (b2 c k l m a b d e).lo (b2 c k l m a b d e).hi c 1000000000)
def b4 (c k l m a b d e:Int):Sp:=(xScaleS (b1 c k l m a b d e).lo (b1 c k l m a b d e).hi l 1000000000)
def b5 (c k l m a b d e:Int):Sp:=(xScaleS (b3 c k l m a b d e).lo (b3 c k l m a b d e).hi c 1000000000)
def b6 (c k l m a b d e:Int):Sp:=(xScaleS (b4 c k l m a b d e).lo (b4 c k l m a b d e).hi (IntKind.i64.wrap (1000000+m)) 1000000)
def b7 (c k l m a b d e:Int):Sp:=(xScaleS (b5 c k l m a b d e).lo (b5 c k l m a b d e).hi (IntKind.i64.wrap (1000000+k)) 1000000)
def b8 (c k l m a b d e:Int):Sp:=(addS (b6 c k l m a b d e).lo (b6 c k l m a b d e).hi (b7 c k l m a b d e).lo (b7 c k l m a b d e).hi)
def b9 (c k l m a b d e:Int):Sp:=(subS 4294967296 4294967296 (b8 c k l m a b d e).lo (b8 c k l m a b d e).hi)
def b10 (c k l m a b d e:Int):Sp:=(sqrtS (b9 c k l m a b d e).lo (b9 c k l m a b d e).hi)
def b11 (c k l m a b d e:Int):Sp:=(addS (b1 c k l m a b d e).lo (b1 c k l m a b d e).hi (b3 c k l m a b d e).lo (b3 c k l m a b d e).hi)
def b12 (c k l m a b d e:Int):Sp:=(addS 4294967296 4294967296 (b10 c k l m a b d e).lo (b10 c k l m a b d e).hi)
def b13 (c k l m a b d e:Int):Sp:=(divS (b11 c k l m a b d e).lo (b11 c k l m a b d e).hi (b12 c k l m a b d e).lo (b12 c k l m a b d e).hi)
def b14 (c k l m a b d e:Int):Sp:=(xScaleS a b l 1000000000)
def b15 (c k l m a b d e:Int):Sp:=(xScaleS (b14 c k l m a b d e).lo (b14 c k l m a b d e).hi l 1000000000)
def b16 (c k l m a b d e:Int):Sp:=(xScaleS (b15 c k l m a b d e).lo (b15 c k l m a b d e).hi (IntKind.i64.wrap (1000000+m)) 1000000)
def b17 (c k l m a b d e:Int):Sp:=(divS (b16 c k l m a b d e).lo (b16 c k l m a b d e).hi (b10 c k l m a b d e).lo (b10 c k l m a b d e).hi)
def b18 (c k l m a b d e:Int):Sp:=(xScaleS d e c 1000000000)
def b19 (c k l m a b d e:Int):Sp:=(xScaleS (b18 c k l m a b d e).lo (b18 c k l m a b d e).hi c 1000000000)
def b20 (c k l m a b d e:Int):Sp:=(xScaleS (b19 c k l m a b d e).lo (b19 c k l m a b d e).hi (IntKind.i64.wrap (1000000+k)) 1000000)
def b21 (c k l m a b d e:Int):Sp:=(divS (b20 c k l m a b d e).lo (b20 c k l m a b d e).hi (b10 c k l m a b d e).lo (b10 c k l m a b d e).hi)
def b22 (c k l m a b d e:Int):Sp:=(mulS (b13 c k l m a b d e).lo (b13 c k l m a b d e).hi (b21 c k l m a b d e).lo (b21 c k l m a b d e).hi)
def b23 (c k l m a b d e:Int):Sp:=(xScaleS (b18 c k l m a b d e).lo (b18 c k l m a b d e).hi 2 1)
def b24 (c k l m a b d e:Int):Sp:=(addS (b23 c k l m a b d e).lo (b23 c k l m a b d e).hi (b22 c k l m a b d e).lo (b22 c k l m a b d e).hi)
def b25 (c k l m a b d e:Int):Sp:=(divS (b24 c k l m a b d e).lo (b24 c k l m a b d e).hi (b12 c k l m a b d e).lo (b12 c k l m a b d e).hi)
def b26 (c k l m a b d e:Int):Sp:=(mulS (b13 c k l m a b d e).lo (b13 c k l m a b d e).hi (b17 c k l m a b d e).lo (b17 c k l m a b d e).hi)
def b27 (c k l m a b d e:Int):Sp:=(xScaleS (b14 c k l m a b d e).lo (b14 c k l m a b d e).hi 2 1)
def b28 (c k l m a b d e:Int):Sp:=(addS (b27 c k l m a b d e).lo (b27 c k l m a b d e).hi (b26 c k l m a b d e).lo (b26 c k l m a b d e).hi)
def b29 (c k l m a b d e:Int):Sp:=(divS (b28 c k l m a b d e).lo (b28 c k l m a b d e).hi (b12 c k l m a b d e).lo (b12 c k l m a b d e).hi)
structure PsagSF (c k a b d e:Int):Prop where
 h0:okCK c k
 h1:okSp a b=true
 h2:okSp d e=true
 h3:(s0 c k a b d e).e=0
 h4:(s1 c k a b d e).e=0
 h5:(s2 c k a b d e).e=0
 h6:(s3 c k a b d e).e=0
 h7:(s4 c k a b d e).e=0
 h8:(s5 c k a b d e).e=0
 h9:(s6 c k a b d e).e=0
 h10:decide ((s6 c k a b d e).lo<=0)=true
structure PsagSG (c k a b d e:Int):Prop where
 h0:okCK c k
 h1:okSp a b=true
 h2:okSp d e=true
 h3:(s0 c k a b d e).e=0
 h4:(s1 c k a b d e).e=0
 h5:(s2 c k a b d e).e=0
 h6:(s3 c k a b d e).e=0
 h7:(s4 c k a b d e).e=0
 h8:(s5 c k a b d e).e=0
 h9:(s6 c k a b d e).e=0
 h10:decide ((s6 c k a b d e).lo<=0)=false
 h11:(s7 c k a b d e).e=0
 h12:(s8 c k a b d e).e=0
 h13:(s9 c k a b d e).e=0
 h14:(s10 c k a b d e).e=0
structure PsagBF (c k l m a b d e:Int):Prop where
 h0:okCK c k
 h1:okCK l m
 h2:okSp a b=true
 h3:okSp d e=true
 h4:(b0 c k l m a b d e).e=0
 h5:(b1 c k l m a b d e).e=0
 h6:(b2 c k l m a b d e).e=0
 h7:(b3 c k l m a b d e).e=0
 h8:(b4 c k l m a b d e).e=0
 h9:(b6 c k l m a b d e).e=0
 h10:(b5 c k l m a b d e).e=0
 h11:(b7 c k l m a b d e).e=0
 h12:(b8 c k l m a b d e).e=0
 h13:(b9 c k l m a b d e).e=0
 h14:decide ((b9 c k l m a b d e).lo<=0)=true
structure PsagBG (c k l m a b d e:Int):Prop where
 h0:okCK c k
 h1:okCK l m
 h2:okSp a b=true
 h3:okSp d e=true
 h4:(b0 c k l m a b d e).e=0
 h5:(b1 c k l m a b d e).e=0
 h6:(b2 c k l m a b d e).e=0
 h7:(b3 c k l m a b d e).e=0
 h8:(b4 c k l m a b d e).e=0
 h9:(b6 c k l m a b d e).e=0
 h10:(b5 c k l m a b d e).e=0
 h11:(b7 c k l m a b d e).e=0
 h12:(b8 c k l m a b d e).e=0
 h13:(b9 c k l m a b d e).e=0
 h14:decide ((b9 c k l m a b d e).lo<=0)=false
 h15:(b10 c k l m a b d e).e=0
 h16:(b11 c k l m a b d e).e=0
 h17:(b12 c k l m a b d e).e=0
 h18:(b13 c k l m a b d e).e=0
structure PslopeS (c k a b d e:Int):Prop where
 h0:okCK c k
 h1:okSp a b=true
 h2:okSp d e=true
 h3:(s0 c k a b d e).e=0
 h4:(s1 c k a b d e).e=0
 h5:(s2 c k a b d e).e=0
 h6:(s3 c k a b d e).e=0
 h7:(s4 c k a b d e).e=0
 h8:(s5 c k a b d e).e=0
 h9:(s6 c k a b d e).e=0
 h10:decide ((s6 c k a b d e).lo<=0)=false
 h11:(s7 c k a b d e).e=0
 h12:(s8 c k a b d e).e=0
 h13:(s9 c k a b d e).e=0
 h14:(s10 c k a b d e).e=0
 h15:(s13 c k a b d e).e=0
 h16:(s14 c k a b d e).e=0
 h17:(s11 c k a b d e).e=0
 h18:(s12 c k a b d e).e=0
structure PslopeB (c k l m a b d e:Int):Prop where
 h0:okCK c k
 h1:okCK l m
 h2:okSp a b=true
 h3:okSp d e=true
 h4:(b0 c k l m a b d e).e=0
 h5:(b1 c k l m a b d e).e=0
 h6:(b2 c k l m a b d e).e=0
 h7:(b3 c k l m a b d e).e=0
 h8:(b4 c k l m a b d e).e=0
 h9:(b6 c k l m a b d e).e=0
 h10:(b5 c k l m a b d e).e=0
 h11:(b7 c k l m a b d e).e=0
 h12:(b8 c k l m a b d e).e=0
 h13:(b9 c k l m a b d e).e=0
 h14:decide ((b9 c k l m a b d e).lo<=0)=false
 h15:(b10 c k l m a b d e).e=0
 h16:(b11 c k l m a b d e).e=0
 h17:(b12 c k l m a b d e).e=0
 h18:(b13 c k l m a b d e).e=0
 h19:(b14 c k l m a b d e).e=0
 h20:(b15 c k l m a b d e).e=0
 h21:(b16 c k l m a b d e).e=0
 h22:(b17 c k l m a b d e).e=0
 h23:(b27 c k l m a b d e).e=0
 h24:(b26 c k l m a b d e).e=0
 h25:(b28 c k l m a b d e).e=0
 h26:(b29 c k l m a b d e).e=0
 h27:(b18 c k l m a b d e).e=0
 h28:(b19 c k l m a b d e).e=0
 h29:(b20 c k l m a b d e).e=0
 h30:(b21 c k l m a b d e).e=0
 h31:(b23 c k l m a b d e).e=0
 h32:(b22 c k l m a b d e).e=0
 h33:(b24 c k l m a b d e).e=0
 h34:(b25 c k l m a b d e).e=0
end Go.Rd
namespace Go.Rd
open Go Go.Eng Go.Ar
end Go.Rd
namespace Go.Rd
open Go Go.Eng Go.Ar
def ng (s:Sp):Sp:=⟨-s.hi,-s.lo,s.e⟩
end Go.Rd
namespace Go.Rd
open Go Go.Eng Go.Ar
def gt:List Sp->Nat->Sp
 | [],_=>⟨0,0,0⟩
 | a :: _,0=>a
 | _ :: l,i+1=>gt l i
def sq1 (i:Nat) (r:List Sp):Sp:=sqrS (gt r i).lo (gt r i).hi
def rt1 (i:Nat) (r:List Sp):Sp:=sqrtS (gt r i).lo (gt r i).hi
def ad2 (i j:Nat) (r:List Sp):Sp:=addS (gt r i).lo (gt r i).hi (gt r j).lo (gt r j).hi
def sb2 (i j:Nat) (r:List Sp):Sp:=subS (gt r i).lo (gt r i).hi (gt r j).lo (gt r j).hi
def ml2 (i j:Nat) (r:List Sp):Sp:=mulS (gt r i).lo (gt r i).hi (gt r j).lo (gt r j).hi
def dv2 (i j:Nat) (r:List Sp):Sp:=divS (gt r i).lo (gt r i).hi (gt r j).lo (gt r j).hi
def sc1 (i:Nat) (n d:Int) (r:List Sp):Sp:=xScaleS (gt r i).lo (gt r i).hi n d
inductive Wis:List Sp->List Sp->Prop where
 | nil:Wis [] []
 | cons {a b:Sp} {l m:List Sp}:Wi a b->Wis l m->Wis (a :: l) (b :: m)
theorem Wis.gt {l m:List Sp} (h:Wis l m):∀ i,Wi (gt l i) (gt m i):=by
 induction h with
 | nil=>exact fun _=>⟨Int.le_refl _,Int.le_refl _,Int.le_refl _⟩
 | cons w _ ih=>
  intro i
  cases i with
  | zero=>exact w
  | succ i=>exact ih i
def Mo (f:List Sp->Sp):Prop:=∀ {l m:List Sp},Wis l m->(f m).e=0->(f l).e=0/\Wi (f l) (f m)
theorem sq1_mo (i:Nat):Mo (sq1 i):=fun h e=>sqr_mo (h.gt i) e
theorem rt1_mo (i:Nat):Mo (rt1 i):=fun h e=>sqrt_mo (h.gt i) e
theorem ad2_mo (i j:Nat):Mo (ad2 i j):=fun h e=>add_mo (h.gt i) (h.gt j) e
theorem sb2_mo (i j:Nat):Mo (sb2 i j):=fun h e=>sub_mo (h.gt i) (h.gt j) e
theorem ml2_mo (i j:Nat):Mo (ml2 i j):=fun h e=>mul_mo (h.gt i) (h.gt j) e
theorem dv2_mo (i j:Nat):Mo (dv2 i j):=fun h e=>div_mo (h.gt i) (h.gt j) e
def okSc (n d:Int):Prop:=okR n d=true->4503599627370496*sg n n<18446744073709551615*d
theorem abH_le {a b:Int} (h:okSp a b=true):0<=abH a b/\abH a b<=4503599627370496:=by
 have:=okSp_iff.1 h
 unfold abH
 have:=le_mx b (-a)
 omega
theorem sc_eq {a b n d:Int} (k:okSc n d):xScaleS a b n d=scaleS a b n d:=by
 refine xScaleS_eq a b n d fun h1 h2=>?_
 have:=k h2
 have p:=abH_le h1
 have q:0<=sg n n:=by
  unfold sg
  cases h:decide (n<0) with
  | true=>have:=of_decide_eq_true h; show 0<=-n; omega
  | false=>have:=of_decide_eq_false h; show 0<=n; omega
 have:=Int.mul_le_mul_of_nonneg_right p.2 q
 omega
theorem sc1_mo (i:Nat) {n d:Int} (k:okSc n d):Mo (sc1 i n d):=fun {l m} h e=>by
 unfold sc1 at e ⊢
 rw [sc_eq k] at e ⊢
 rw [sc_eq k]
 exact scale_mo n d (h.gt i) e
theorem bne0 {E:Int} (h:E≠0):(E != 0)=true:=by simpa using h
theorem beq0 {E:Int} (h:E≠0):(E==0)=false:=by simpa using h
def tn (b:Bool) (s:Sp):Sp:=bif b then ng s else s
inductive Tns:List Bool->List Sp->List Sp->Prop where
 | nil:Tns [] [] []
 | cons {b:Bool} {a c:Sp} {bs:List Bool} {l m:List Sp}:a=tn b c->Tns bs l m->Tns (b :: bs) (a :: l) (c :: m)
def bt:List Bool->Nat->Bool
 | [],_=>false
 | a :: _,0=>a
 | _ :: l,i+1=>bt l i
theorem Tns.gt {bs:List Bool} {l m:List Sp} (h:Tns bs l m):∀ i,gt l i=tn (bt bs i) (gt m i):=by
 induction h with
 | nil=>exact fun _=>rfl
 | cons e _ ih=>intro i; cases i with
  | zero=>exact e
  | succ i=>exact ih i
theorem Tns.e {bs:List Bool} {l m:List Sp} (h:Tns bs l m) (i:Nat):(Go.Rd.gt l i).e=(Go.Rd.gt m i).e:=by
 rw [h.gt i]; cases bt bs i <;> rfl
def evS (acc v c:Sp):Sp:=
 ⟨bif (mulS acc.lo acc.hi v.lo v.hi).e==0 then (addS (mulS acc.lo acc.hi v.lo v.hi).lo (mulS acc.lo acc.hi v.lo v.hi).hi c.lo c.hi).lo else (mulS acc.lo acc.hi v.lo v.hi).lo,
  bif (mulS acc.lo acc.hi v.lo v.hi).e==0 then (addS (mulS acc.lo acc.hi v.lo v.hi).lo (mulS acc.lo acc.hi v.lo v.hi).hi c.lo c.hi).hi else (mulS acc.lo acc.hi v.lo v.hi).hi,
  bif (mulS acc.lo acc.hi v.lo v.hi).e==0 then (addS (mulS acc.lo acc.hi v.lo v.hi).lo (mulS acc.lo acc.hi v.lo v.hi).hi c.lo c.hi).e else (mulS acc.lo acc.hi v.lo v.hi).e⟩
def ev1 (v c3:Sp):Sp:=evS ⟨0,0,0⟩ v c3
def ev2 (v c2 c3:Sp):Sp:=evS (ev1 v c3) v c2
def ev3 (v c1 c2 c3:Sp):Sp:=evS (ev2 v c2 c3) v c1
def ev4 (v c0 c1 c2 c3:Sp):Sp:=evS (ev3 v c1 c2 c3) v c0
def evB (v c0 c1 c2 c3:Sp):Bool:=
 (ev1 v c3).e != 0||!((ev1 v c3).e != 0)&&((ev2 v c2 c3).e != 0||!((ev2 v c2 c3).e != 0)&&((ev3 v c1 c2 c3).e != 0||!((ev3 v c1 c2 c3).e != 0)&&(ev4 v c0 c1 c2 c3).e != 0))
def evG (v c0 c1 c2 c3:Sp) (g:Sp->Int):Int:=
 bif evB v c0 c1 c2 c3 then bif (ev1 v c3).e != 0 then g (ev1 v c3) else bif (ev2 v c2 c3).e != 0 then g (ev2 v c2 c3) else bif (ev3 v c1 c2 c3).e != 0 then g (ev3 v c1 c2 c3) else g (ev4 v c0 c1 c2 c3) else g (ev4 v c0 c1 c2 c3)
def evalS (v c0 c1 c2 c3:Sp):Sp:=⟨evG v c0 c1 c2 c3 Sp.lo,evG v c0 c1 c2 c3 Sp.hi,evG v c0 c1 c2 c3 Sp.e⟩
theorem evG_ok {v c0 c1 c2 c3:Sp} (h:(evalS v c0 c1 c2 c3).e=0):(ev1 v c3).e=0/\(ev2 v c2 c3).e=0/\(ev3 v c1 c2 c3).e=0/\(ev4 v c0 c1 c2 c3).e=0:=by
 have h:evG v c0 c1 c2 c3 Sp.e=0:=h
 unfold evG evB at h
 rcases Decidable.em ((ev1 v c3).e=0) with d1|d1
 .rcases Decidable.em ((ev2 v c2 c3).e=0) with d2|d2
  .rcases Decidable.em ((ev3 v c1 c2 c3).e=0) with d3|d3
   .refine ⟨d1,d2,d3,?_⟩
    simp only [d1,d2,d3] at h
    simpa using h
   .simp only [d1,d2,bne0 d3,Bool.true_or,Bool.or_true,Bool.and_true,bne_self_eq_false,Bool.not_false,Bool.true_and,cond_true,cond_false] at h
    exact absurd h d3
  .simp only [d1,bne0 d2,Bool.true_or,Bool.or_true,Bool.and_true,bne_self_eq_false,Bool.not_false,Bool.true_and,cond_true,cond_false] at h
   exact absurd h d2
 .simp only [bne0 d1,Bool.true_or,cond_true] at h
  exact absurd h d1
theorem evG_of {v c0 c1 c2 c3:Sp} (h1:(ev1 v c3).e=0) (h2:(ev2 v c2 c3).e=0) (h3:(ev3 v c1 c2 c3).e=0) (h4:(ev4 v c0 c1 c2 c3).e=0):evalS v c0 c1 c2 c3=ev4 v c0 c1 c2 c3:=by
 unfold evalS evG evB
 simp only [h1,h2,h3,h4,bne_self_eq_false,Bool.not_false,Bool.true_and,Bool.or_self,cond_false]
 exact Eq.trans (by rw [h4]) (show (⟨(ev4 v c0 c1 c2 c3).lo,(ev4 v c0 c1 c2 c3).hi,(ev4 v c0 c1 c2 c3).e⟩:Sp)=_ from rfl)
def Oks (l:List Sp):Prop:=∀ i,Ri (gt l i)
theorem Wis.refl:∀ {l:List Sp},Oks l->Wis l l
 | [],_=>.nil
 | _ :: _,h=>.cons ⟨Int.le_refl _,(h 0).le,Int.le_refl _⟩ (Wis.refl fun i=>h (i+1))
def Ok (f:List Sp->Sp):Prop:=∀ {l:List Sp},Oks l->(f l).e=0->Ri (f l)
theorem told_ri {lo hi:Int} (h:(toldS lo hi).e=0) (k:(toldS lo hi).lo<=(toldS lo hi).hi):Ri (toldS lo hi):=by
 obtain ⟨h1,h2,h3,h4,h5⟩:=told_ok h
 rw [h1] at k ⊢
 exact ⟨h2,k,h5⟩
theorem sq1_ok (i:Nat):Ok (sq1 i):=fun {l} h e=>by
 have w:=(sq1_mo i (Wis.refl h) e).2.le
 unfold sq1 sqrS at e w ⊢
 rw [(h i).ok] at e w ⊢
 exact told_ri e w
theorem ad2_ok (i j:Nat):Ok (ad2 i j):=fun {l} h e=>by
 have w:=(ad2_mo i j (Wis.refl h) e).2.le
 unfold ad2 addS at e w ⊢
 rw [both_of (h i).ok (h j).ok] at e w ⊢
 exact told_ri e w
theorem sb2_ok (i j:Nat):Ok (sb2 i j):=fun {l} h e=>by
 have w:=(sb2_mo i j (Wis.refl h) e).2.le
 unfold sb2 subS at e w ⊢
 rw [both_of (h i).ok (h j).ok] at e w ⊢
 exact told_ri e w
theorem ml2_ok (i j:Nat):Ok (ml2 i j):=fun {l} h e=>by
 have w:=(ml2_mo i j (Wis.refl h) e).2.le
 unfold ml2 mulS at e w ⊢
 rw [both_of (h i).ok (h j).ok] at e w ⊢
 exact told_ri e w
theorem dv2_ok (i j:Nat):Ok (dv2 i j):=fun {l} h e=>by
 have w:=(dv2_mo i j (Wis.refl h) e).2.le
 unfold dv2 at e w ⊢
 have q:=(div_ok e).2.2.2
 rw [q] at e w ⊢
 exact told_ri e w
theorem sc1_ok (i:Nat) {n d:Int} (k:okSc n d):Ok (sc1 i n d):=fun {l} h e=>by
 have w:=(sc1_mo i k (Wis.refl h) e).2.le
 unfold sc1 at e w ⊢
 rw [sc_eq k] at e w ⊢
 unfold scaleS at e w ⊢
 rw [(h i).ok] at e w ⊢
 cases q:okR n d with
 | false=>rw [q] at e; cases e
 | true=>rw [q] at e w; exact told_ri e w
theorem rt1_ok (i:Nat):Ok (rt1 i):=fun {l} h e=>by
 have w:=(rt1_mo i (Wis.refl h) e).2.le
 unfold rt1 sqrtS at e w ⊢
 have r:=h i
 have r1:=r.lo
 have r2:=r.le
 have r3:=r.hi
 rw [r.ok] at e w ⊢
 cases q:decide ((gt l i).lo<0) with
 | true=>rw [q] at e; cases e
 | false=>
  have:=of_decide_eq_false q
  rw [q] at w
  have k1:sqOk (gt l i).lo=true:=by unfold sqOk; rw [okF_iff.2 (by omega)]; simpa using (show 0<=(gt l i).lo by omega)
  have k2:sqOk (gt l i).hi=true:=by unfold sqOk; rw [okF_iff.2 (by omega)]; simpa using (show 0<=(gt l i).hi by omega)
  have a:=rtV_range k1 false
  have b:=rtV_range k2 true
  exact ⟨by show -4503599627370496<=rtV (gt l i).lo false; omega,w,by
   rcases (rtV_t k2).2.2 with c|⟨c,_⟩
   .show rtV (gt l i).hi true<=4503599627370496
    have:=(sqR_spec k2).2.1
    have:rtV (gt l i).hi true<=4398046511104:=by
     rw [c]; exact le_of_sq (by omega) (by omega)
    omega
   .show rtV (gt l i).hi true<=4503599627370496
    have:=(sqR_spec k2).2.1
    have:sqR (gt l i).hi<=4398046511104:=le_of_sq (by omega) (by omega)
    omega⟩
theorem zero_ri:Ri ⟨0,0,0⟩:=⟨by decide,by decide,by decide⟩
theorem evS_ok {a v c:Sp} (ha:Ri a) (hv:Ri v) (hc:Ri c) (e:(evS a v c).e=0):Ri (evS a v c):=by
 have e0:(mulS a.lo a.hi v.lo v.hi).e=0:=by
  rcases Decidable.em ((mulS a.lo a.hi v.lo v.hi).e=0) with d|d
  .exact d
  .unfold evS at e
   simp only [beq0 d,cond_false] at e
   exact e
 have m:Ri (mulS a.lo a.hi v.lo v.hi):=ml2_ok 0 1 (l:=[a,v]) (fun i=>match i with|0=>ha|1=>hv|i+2=>zero_ri) e0
 have s:(addS (mulS a.lo a.hi v.lo v.hi).lo (mulS a.lo a.hi v.lo v.hi).hi c.lo c.hi).e=0:=by
  unfold evS at e
  simp only [e0] at e
  exact e
 have r:Ri (addS (mulS a.lo a.hi v.lo v.hi).lo (mulS a.lo a.hi v.lo v.hi).hi c.lo c.hi):=ad2_ok 0 1 (l:=[mulS a.lo a.hi v.lo v.hi,c]) (fun i=>match i with|0=>m|1=>hc|i+2=>zero_ri) s
 unfold evS
 simp only [e0]
 exact r
def okE (s:Sp):Prop:=s.e=0\/s=⟨0,0,6⟩
theorem told_six (lo hi:Int):okE (toldS lo hi):=by
 unfold toldS
 cases okF lo&&okF hi
 .exact .inr rfl
 .exact .inl rfl
theorem e_sqr {s:Sp} (h:Ri s):okE (sqrS s.lo s.hi):=by unfold sqrS; rw [h.ok]; exact told_six _ _
theorem e_add {s t:Sp} (h:Ri s) (k:Ri t):okE (addS s.lo s.hi t.lo t.hi):=by unfold addS; rw [both_of h.ok k.ok]; exact told_six _ _
theorem e_sub {s t:Sp} (h:Ri s) (k:Ri t):okE (subS s.lo s.hi t.lo t.hi):=by unfold subS; rw [both_of h.ok k.ok]; exact told_six _ _
theorem e_mul {s t:Sp} (h:Ri s) (k:Ri t):okE (mulS s.lo s.hi t.lo t.hi):=by unfold mulS; rw [both_of h.ok k.ok]; exact told_six _ _
theorem e_div {s t:Sp} (h:Ri s) (k:Ri t) (p:0<t.lo):okE (divS s.lo s.hi t.lo t.hi):=by rw [div_of h.ok k.ok (.inl p)]; exact told_six _ _
theorem e_sc {s:Sp} {n d:Int} (h:Ri s) (k:okSc n d) (o:okR n d=true):okE (xScaleS s.lo s.hi n d):=by
 rw [sc_eq k]; unfold scaleS; rw [h.ok,o]; exact told_six _ _
theorem e_rt {s:Sp} (h:Ri s) (p:0<s.lo):okE (sqrtS s.lo s.hi):=by
 unfold sqrtS; rw [h.ok,decide_eq_false (show ¬ s.lo<0 by omega)]; exact .inl rfl
theorem fn2_ok {s t:Sp} (h:Ri s) (k:Ri t):Oks [s,t]:=fun i=>match i with|0=>h|1=>k|i+2=>zero_ri
theorem r_sqr {s:Sp} (h:Ri s) (e:(sqrS s.lo s.hi).e=0):Ri (sqrS s.lo s.hi):=sq1_ok 0 (fn2_ok h h) e
theorem r_rt {s:Sp} (h:Ri s) (e:(sqrtS s.lo s.hi).e=0):Ri (sqrtS s.lo s.hi):=rt1_ok 0 (fn2_ok h h) e
theorem r_add {s t:Sp} (h:Ri s) (k:Ri t) (e:(addS s.lo s.hi t.lo t.hi).e=0):Ri (addS s.lo s.hi t.lo t.hi):=ad2_ok 0 1 (fn2_ok h k) e
theorem r_sub {s t:Sp} (h:Ri s) (k:Ri t) (e:(subS s.lo s.hi t.lo t.hi).e=0):Ri (subS s.lo s.hi t.lo t.hi):=sb2_ok 0 1 (fn2_ok h k) e
theorem r_mul {s t:Sp} (h:Ri s) (k:Ri t) (e:(mulS s.lo s.hi t.lo t.hi).e=0):Ri (mulS s.lo s.hi t.lo t.hi):=ml2_ok 0 1 (fn2_ok h k) e
theorem r_div {s t:Sp} (h:Ri s) (k:Ri t) (e:(divS s.lo s.hi t.lo t.hi).e=0):Ri (divS s.lo s.hi t.lo t.hi):=dv2_ok 0 1 (fn2_ok h k) e
theorem r_sc {s:Sp} {n d:Int} (h:Ri s) (k:okSc n d) (e:(xScaleS s.lo s.hi n d).e=0):Ri (xScaleS s.lo s.hi n d):=sc1_ok 0 k (fn2_ok h h) e
theorem rt_pos {s:Sp} (h:Ri s) (p:0<s.lo):0<(sqrtS s.lo s.hi).lo:=by
 unfold sqrtS; rw [h.ok,decide_eq_false (show ¬ s.lo<0 by omega)]
 show 0<rtV s.lo false
 have r1:=h.lo
 have r2:=h.le
 have r3:=h.hi
 have k1:sqOk s.lo=true:=by unfold sqOk; rw [okF_iff.2 (by omega)]; simpa using (show 0<=s.lo by omega)
 obtain ⟨u0,u1,u2,_⟩:=sqR_spec k1
 show 0<sqR s.lo
 have:=lt_of_sq (a:=1) (b:=sqR s.lo+1) (by omega) (by omega)
 omega
theorem add_pos {s t:Sp} (h:Ri s) (k:Ri t) (e:(addS s.lo s.hi t.lo t.hi).e=0) (p:0<s.lo) (q:0<=t.lo):0<(addS s.lo s.hi t.lo t.hi).lo:=by
 unfold addS at e ⊢
 rw [both_of h.ok k.ok] at e ⊢
 rw [(told_ok e).1]
 show 0<s.lo+t.lo
 omega
theorem six_of {s:Sp} (h:okE s) (e:s.e≠0):s=⟨0,0,6⟩:=h.resolve_left e
theorem evS_e {a v c:Sp} (ha:Ri a) (hv:Ri v) (hc:Ri c):okE (evS a v c):=by
 rcases e_mul ha hv with e0|e0
 .have m:=r_mul ha hv e0
  unfold evS
  simp only [e0]
  exact e_add m hc
 .unfold evS
  rw [e0]
  exact .inr rfl
theorem evl_e {v c0 c1 c2 c3:Sp} (hv:Ri v) (h0:Ri c0) (h1:Ri c1) (h2:Ri c2) (h3:Ri c3):okE (evalS v c0 c1 c2 c3):=by
 have z:Ri (⟨0,0,0⟩:Sp):=zero_ri
 have k1:okE (ev1 v c3):=evS_e z hv h3
 rcases Decidable.em ((ev1 v c3).e=0) with d1|d1
 .have r1:Ri (ev1 v c3):=evS_ok z hv h3 d1
  have k2:okE (ev2 v c2 c3):=evS_e r1 hv h2
  rcases Decidable.em ((ev2 v c2 c3).e=0) with d2|d2
  .have r2:Ri (ev2 v c2 c3):=evS_ok r1 hv h2 d2
   have k3:okE (ev3 v c1 c2 c3):=evS_e r2 hv h1
   rcases Decidable.em ((ev3 v c1 c2 c3).e=0) with d3|d3
   .have r3:Ri (ev3 v c1 c2 c3):=evS_ok r2 hv h1 d3
    have k4:okE (ev4 v c0 c1 c2 c3):=evS_e r3 hv h0
    rcases Decidable.em ((ev4 v c0 c1 c2 c3).e=0) with d4|d4
    .rw [evG_of d1 d2 d3 d4]; exact .inl d4
    .right
     unfold evalS evG evB
     rw [d1,d2,d3,six_of k4 d4]; rfl
   .right
    unfold evalS evG evB
    rw [d1,d2,six_of k3 d3]; rfl
  .right
   unfold evalS evG evB
   rw [d1,six_of k2 d2]; rfl
 .right
  unfold evalS evG evB
  rw [six_of k1 d1]; rfl
theorem evl_r {v c0 c1 c2 c3:Sp} (hv:Ri v) (h0:Ri c0) (h1:Ri c1) (h2:Ri c2) (h3:Ri c3) (e:(evalS v c0 c1 c2 c3).e=0):Ri (evalS v c0 c1 c2 c3):=by
 obtain ⟨d1,d2,d3,d4⟩:=evG_ok e
 rw [evG_of d1 d2 d3 d4]
 exact evS_ok (evS_ok (evS_ok (evS_ok zero_ri hv h3 d1) hv h2 d2) hv h1 d3) hv h0 d4
end Go.Rd
namespace Go.Rd
open Go Go.Eng Go.Ar
def z0 (s:Sp):Bool:=s.e==0
section
variable (c k a0 a1 a2 a3 a b d e:Int)
def u0:Sp:=xScaleS (s2 c k a b d e).lo (s2 c k a b d e).hi 1 100
def ca (n:Int):Sp:=xScaleS 4294967296 4294967296 n 1000000
def u1:Sp:=evalS (u0 c k a b d e) (ca a0) (ca a1) (ca a2) (ca a3)
def u2:Sp:=sqrS (u0 c k a b d e).lo (u0 c k a b d e).hi
def u3:Sp:=mulS (u2 c k a b d e).lo (u2 c k a b d e).hi (u1 c k a0 a1 a2 a3 a b d e).lo (u1 c k a0 a1 a2 a3 a b d e).hi
def u4:Sp:=addS (s10 c k a b d e).lo (s10 c k a b d e).hi (u3 c k a0 a1 a2 a3 a b d e).lo (u3 c k a0 a1 a2 a3 a b d e).hi
end
section
variable (c k l m a b d e:Int)
end
end Go.Rd
namespace Go.Rd
open Go Go.Eng Go.Ar
structure Su where
 kd:Int
 c:Int
 k:Int
 l:Int
 m:Int
 a0:Int
 a1:Int
 a2:Int
 a3:Int
 f0:Int
 f1:Int
 o:Int
 th:Int
 g:ByteArray
 se:Int
 ho:Int
 dx:Int
 dy:Int
 ax:Int
 ay:Int
 az:Int
def Su.nus (s:Su):List Nu:=[.n s.kd,.n s.c,.n s.k,.n s.l,.n s.m,.n s.a0,.n s.a1,.n s.a2,.n s.a3,.n s.f0,.n s.f1,.n s.o,.n s.th,.s s.g,.n s.se,.n s.ho,.n s.dx,.n s.dy,.n s.ax,.n s.ay,.n s.az]
def Su.cells (s:Su) (kd:AV):List AV:=[kd,.int true .i64 s.c,.int true .i64 s.k,.int true .i64 s.l,.int true .i64 s.m,.int true .i64 s.a0,.int true .i64 s.a1,.int true .i64 s.a2,.int true .i64 s.a3,.int true .i64 s.f0,.int true .i64 s.f1,.int true .i64 s.o,.int true .i64 s.th,.str true s.g,
 .int true .i64 s.se,.int true .i64 s.ho,.int true .i64 s.dx,.int true .i64 s.dy,.int true .i64 s.ax,.int true .i64 s.ay,.int true .i64 s.az]
def Su.ini (s:Su):List AV:=s.cells (.int true .i64 s.kd)
def suI:List Sh:=[.i .i64,.i .i64,.i .i64,.i .i64,.i .i64,.i .i64,.i .i64,.i .i64,.i .i64,.i .i64,.i .i64,.i .i64,.i .i64,.str,.i .i64,.i .i64,.i .i64,.i .i64,.i .i64,.i .i64,.i .i64]
def suOf:List Nu->Option Su
 | [.n kd,.n c,.n k,.n l,.n m,.n a0,.n a1,.n a2,.n a3,.n f0,.n f1,.n o,.n th,.s g,.n se,.n ho,.n dx,.n dy,.n ax,.n ay,.n az]=>some ⟨kd,c,k,l,m,a0,a1,a2,a3,f0,f1,o,th,g,se,ho,dx,dy,ax,ay,az⟩
 | _=>none
theorem suOf_eq {xs:List Nu} {s:Su} (h:suOf xs=some s):xs=s.nus:=by
 unfold suOf at h
 split at h
 .cases h; rfl
 .cases h
def spinF:Nat->Nat->(Nat->Int)->List Int
 | 0,_,_=>[]
 | n+1,i,x=>x i :: spinF n (i+1) x
theorem spinF_of:∀ (ys pre:List Int),spinF ys.length pre.length (fun i=>(pre++ys).getD i 0)=ys
 | [],_=>rfl
 | y :: ys,pre=>by
  have:=spinF_of ys (pre++[y])
  simp only [List.length_cons,spinF]
  rw [List.append_assoc,List.length_append] at this
  simp only [List.length_cons,List.length_nil,List.cons_append,List.nil_append] at this
  rw [this]
  simp
def okF3 (n:Int) (ys:List Int):Prop:=0<=n/\n<=12/\ys.length=3*n.toNat
theorem okF3_of {n:Int} {ys:List Int} (h:okF3 n ys):∃ (k:Nat) (x:Nat->Int),k<=12/\n=(k:Int)/\ys=spinF (3*k) 0 x:=by
 obtain ⟨h1,h2,h3⟩:=h
 refine ⟨n.toNat,fun i=>ys.getD i 0,by omega,by omega,?_⟩
 have:=spinF_of ys []
 simp only [List.nil_append,List.length_nil] at this
 rw [<- h3,this]
def film1 (i p q:Int):Bool:=decide (10000000<=i)&&decide (i<=40000000)&&(decide (0<=p)&&decide (p<=1000))&&(decide (1<=q)&&decide (q<=1000))
def filmsB:List Int->Bool
 | i :: p :: q :: r=>film1 i p q&&filmsB r
 | _=>true
end Go.Rd
namespace Go.Rd
open Go Go.Eng Go.Ar
def cAt (b:ByteArray) (i:Int):Int:=((b.data.toList.getD i.toNat 0).toNat:Int)
def nmAll (L:Int->Bool) (b:ByteArray):Nat->Int->Bool
 | 0,_=>true
 | n+1,i=>L (cAt b i)&&nmAll L b n (IntKind.i64.wrap (i+1))
def let0 (c:Int):Bool:=bif c==45 then true else c==95
def let1 (c:Int):Bool:=bif decide (c>=48) then bif decide (c<=57) then true else let0 c else let0 c
def let2 (c:Int):Bool:=bif decide (c>=97) then bif decide (c<=122) then true else let1 c else let1 c
def letP (c:Int):Bool:=bif decide (c>=65) then bif decide (c<=90) then true else let2 c else let2 c
def lnt0 (c:Int):Bool:=bif c==45 then false else !(c==95)
def lnt1 (c:Int):Bool:=bif decide (c>=48) then bif decide (c<=57) then false else lnt0 c else lnt0 c
def lnt2 (c:Int):Bool:=bif decide (c>=97) then bif decide (c<=122) then false else lnt1 c else lnt1 c
def letN (c:Int):Bool:=bif decide (c>=65) then bif decide (c<=90) then false else lnt2 c else lnt2 c
theorem letN_eq (c:Int):letN c=!letP c:=by
 unfold letN lnt2 lnt1 lnt0 letP let2 let1 let0
 cases decide (c>=65) <;> cases decide (c<=90) <;> cases decide (c>=97) <;> cases decide (c<=122) <;> cases decide (c>=48) <;> cases decide (c<=57) <;> cases c==45 <;> rfl
def nmLen (n:Int):Bool:=bif decide (n>=1) then decide (n<=16) else false
def nameB (b:ByteArray):Bool:=nmAll letP b b.size 0&&nmLen b.size
end Go.Rd
namespace Go.Rd
open Go Go.Eng Go.Ar
def inR (lo hi n:Int):Bool:=decide (lo<=n)&&decide (n<=hi)
def noG (s:Su):Bool:=eqBytes s.g ⟨#[]⟩
def isM (s:Su):Bool:=eqBytes s.g ⟨#[77,73,82,82,79,82]⟩
def numsB (s:Su):Bool:=
 (inR (-1000000000) 1000000000 s.c&&inR (-1000000000) 1000000000 s.l&&inR (-1000000000) 1000000000 s.th&&inR (-1000000000) 1000000000 s.dx&&inR (-1000000000) 1000000000 s.dy) &&
 (inR (-1000000000) 1000000000 s.a0&&inR (-1000000000) 1000000000 s.a1&&inR (-1000000000) 1000000000 s.a2&&inR (-1000000000) 1000000000 s.a3)&&(inR (-1000000000) 1000000000 s.f0&&inR (-1000000000) 1000000000 s.f1) &&
 ((inR (-100000000) 100000000 s.k&&inR (-100000000) 100000000 s.m)&&(inR (-90000000) 90000000 s.ax&&inR (-90000000) 90000000 s.ay&&inR (-90000000) 90000000 s.az)) &&
 (inR (-3) 3 s.o&&(inR 0 1000000000 s.se&&inR 0 1000000000 s.ho))&&(s.se==0||decide (s.ho<s.se))&&(noG s||nameB s.g)
def noX (s:Su):Bool:=s.l==0&&s.m==0
def noA (s:Su):Bool:=s.a0==0&&s.a1==0&&s.a2==0&&s.a3==0
def noP (s:Su):Bool:=s.f0==0&&s.f1==0
def noT (s:Su):Bool:=s.dx==0&&s.dy==0&&s.ax==0&&s.ay==0&&s.az==0
def kindB (s:Su) (e:Bool):Bool:=
 (s.kd==1&&(noX s&&noT s&&(!(s.o==0||isM s)||(s.o==0&&noP s)))) ||
 (s.kd==2&&(noA s&&noP s&&s.o==0&&noT s)) ||
 (s.kd==3&&(noX s&&noA s&&noP s&&s.o==0&&noG s&&e&&s.c==0&&s.k==0&&s.se==0&&s.ho==0)) ||
 (s.kd==4&&(noX s&&noA s&&noP s&&s.o==0&&noT s&&noG s&&e&&s.k==0))
def rightS (s:Su) (ys:List Int):Bool:=numsB s&&kindB s ys.isEmpty&&filmsB ys&&decide (ys.length<=24)
def oR (lo hi n:Int):Bool:=bif decide (n<lo) then true else decide (n>hi)
theorem oR_eq (lo hi n:Int):oR lo hi n=!inR lo hi n:=by
 unfold oR inR
 cases h1:decide (n<lo) <;> cases h2:decide (n>hi) <;> simp_all <;> omega
def ix1 (p:Bool):Int:=bif p then 0 else -1
def ix2 (p q:Bool):Int:=bif !p&&!q then -1 else bif p then 0 else 1
def ix3 (p q r:Bool):Int:=bif p||!p&&(q||!q&&r) then bif p then 0 else bif q then 1 else 2 else -1
def ix4 (p q r t:Bool):Int:=bif !p&&(!q&&(!r&&!t)) then -1 else bif p then 0 else bif q then 1 else bif r then 2 else 3
def ix5 (p q r t u:Bool):Int:=bif p||!p&&(q||!q&&(r||!r&&(t||!t&&u))) then bif p then 0 else bif q then 1 else bif r then 2 else bif t then 3 else 4 else -1
theorem ix1_eq (p:Bool):decide (ix1 p>=0)=p:=by cases p <;> rfl
theorem ix2_eq (p q:Bool):decide (ix2 p q>=0)=(p||q):=by cases p <;> cases q <;> rfl
theorem ix3_eq (p q r:Bool):decide (ix3 p q r>=0)=(p||q||r):=by cases p <;> cases q <;> cases r <;> rfl
theorem ix4_eq (p q r t:Bool):decide (ix4 p q r t>=0)=(p||q||r||t):=by cases p <;> cases q <;> cases r <;> cases t <;> rfl
theorem ix5_eq (p q r t u:Bool):decide (ix5 p q r t u>=0)=(p||q||r||t||u):=by cases p <;> cases q <;> cases r <;> cases t <;> cases u <;> rfl
section
variable (s:Su)
def cT2:Bool:=!bif !decide (ix5 (oR (-1000000000) 1000000000 s.c) (oR (-1000000000) 1000000000 s.l) (oR (-1000000000) 1000000000 s.th) (oR (-1000000000) 1000000000 s.dx) (oR (-1000000000) 1000000000 s.dy)>=0) then
 bif !decide (ix4 (oR (-1000000000) 1000000000 s.a0) (oR (-1000000000) 1000000000 s.a1) (oR (-1000000000) 1000000000 s.a2) (oR (-1000000000) 1000000000 s.a3)>=0) then !decide (ix2 (oR (-1000000000) 1000000000 s.f0) (oR (-1000000000) 1000000000 s.f1)>=0) else false else false
def cT3:Bool:=!bif !decide (ix2 (oR (-100000000) 100000000 s.k) (oR (-100000000) 100000000 s.m)>=0) then !decide (ix3 (oR (-90000000) 90000000 s.ax) (oR (-90000000) 90000000 s.ay) (oR (-90000000) 90000000 s.az)>=0) else false
def cT4:Bool:=!bif !decide (ix1 (oR (-3) 3 s.o)>=0) then !decide (ix2 (oR 0 1000000000 s.se) (oR 0 1000000000 s.ho)>=0) else false
def cT5:Bool:=!bif s.se==0 then true else decide (s.ho<s.se)
def cE0 (f:Bool):Int:=bif f then 110 else bif cT2 s then 110 else bif cT3 s then 110 else bif cT4 s then 110 else bif cT5 s then 110 else bif !bif noG s then true else nameB s.g then 110 else 0
theorem cT2_eq:cT2 s=!((inR (-1000000000) 1000000000 s.c&&inR (-1000000000) 1000000000 s.l&&inR (-1000000000) 1000000000 s.th&&inR (-1000000000) 1000000000 s.dx&&inR (-1000000000) 1000000000 s.dy) &&
 (inR (-1000000000) 1000000000 s.a0&&inR (-1000000000) 1000000000 s.a1&&inR (-1000000000) 1000000000 s.a2&&inR (-1000000000) 1000000000 s.a3)&&(inR (-1000000000) 1000000000 s.f0&&inR (-1000000000) 1000000000 s.f1)):=by
 unfold cT2
 simp only [ix2_eq,ix4_eq,ix5_eq,oR_eq,<- Bool.not_and,Bool.not_not]
 generalize (inR (-1000000000) 1000000000 s.c&&inR (-1000000000) 1000000000 s.l&&inR (-1000000000) 1000000000 s.th&&inR (-1000000000) 1000000000 s.dx&&inR (-1000000000) 1000000000 s.dy)=x
 generalize (inR (-1000000000) 1000000000 s.a0&&inR (-1000000000) 1000000000 s.a1&&inR (-1000000000) 1000000000 s.a2&&inR (-1000000000) 1000000000 s.a3)=y
 generalize (inR (-1000000000) 1000000000 s.f0&&inR (-1000000000) 1000000000 s.f1)=z
 cases x <;> cases y <;> cases z <;> rfl
theorem cT3_eq:cT3 s=!((inR (-100000000) 100000000 s.k&&inR (-100000000) 100000000 s.m)&&(inR (-90000000) 90000000 s.ax&&inR (-90000000) 90000000 s.ay&&inR (-90000000) 90000000 s.az)):=by
 unfold cT3
 simp only [ix2_eq,ix3_eq,oR_eq,<- Bool.not_and,Bool.not_not]
 generalize (inR (-100000000) 100000000 s.k&&inR (-100000000) 100000000 s.m)=x
 generalize (inR (-90000000) 90000000 s.ax&&inR (-90000000) 90000000 s.ay&&inR (-90000000) 90000000 s.az)=y
 cases x <;> cases y <;> rfl
theorem cT4_eq:cT4 s=!(inR (-3) 3 s.o&&(inR 0 1000000000 s.se&&inR 0 1000000000 s.ho)):=by
 unfold cT4
 simp only [ix1_eq,ix2_eq,oR_eq,<- Bool.not_and,Bool.not_not]
 cases inR (-3) 3 s.o <;> cases (inR 0 1000000000 s.se&&inR 0 1000000000 s.ho) <;> rfl
theorem cT5_eq:cT5 s=!(s.se==0||decide (s.ho<s.se)):=by
 unfold cT5
 cases s.se==0 <;> rfl
theorem cE0_eq (f:Bool):cE0 s f=bif !f&&numsB s then 0 else 110:=by
 unfold cE0 numsB
 rw [cT2_eq,cT3_eq,cT4_eq,cT5_eq]
 generalize ((inR (-1000000000) 1000000000 s.c&&inR (-1000000000) 1000000000 s.l&&inR (-1000000000) 1000000000 s.th&&inR (-1000000000) 1000000000 s.dx&&inR (-1000000000) 1000000000 s.dy) &&
 (inR (-1000000000) 1000000000 s.a0&&inR (-1000000000) 1000000000 s.a1&&inR (-1000000000) 1000000000 s.a2&&inR (-1000000000) 1000000000 s.a3)&&(inR (-1000000000) 1000000000 s.f0&&inR (-1000000000) 1000000000 s.f1))=x
 generalize ((inR (-100000000) 100000000 s.k&&inR (-100000000) 100000000 s.m)&&(inR (-90000000) 90000000 s.ax&&inR (-90000000) 90000000 s.ay&&inR (-90000000) 90000000 s.az))=y
 generalize (inR (-3) 3 s.o&&(inR 0 1000000000 s.se&&inR 0 1000000000 s.ho))=z
 generalize (s.se==0||decide (s.ho<s.se))=t
 generalize nameB s.g=u
 cases f <;> cases x <;> cases y <;> cases z <;> cases t <;> cases noG s <;> cases u <;> rfl
def fStep (e i p q:Int):Int:=
 bif bif e==0 then !bif !decide (ix1 (oR 10000000 40000000 i)>=0) then bif !decide (ix1 (oR 0 1000 p)>=0) then !decide (ix1 (oR 1 1000 q)>=0) else false else false else false then 110 else e
def fE (e:Int):List Int->Int
 | i :: p :: q :: r=>fE (fStep e i p q) r
 | _=>e
end
theorem fStep_0 (i p q:Int):fStep 0 i p q=bif film1 i p q then 0 else 110:=by
 unfold fStep film1
 simp only [ix1_eq,oR_eq]
 show (bif (bif true then _ else false) then _ else _)=_
 simp only [cond_true,Bool.not_not]
 rw [show (decide (10000000<=i)&&decide (i<=40000000))=inR 10000000 40000000 i from rfl,show (decide (0<=p)&&decide (p<=1000))=inR 0 1000 p from rfl,show (decide (1<=q)&&decide (q<=1000))=inR 1 1000 q from rfl]
 cases inR 10000000 40000000 i <;> cases inR 0 1000 p <;> cases inR 1 1000 q <;> rfl
theorem fStep_1 (i p q:Int):fStep 110 i p q=110:=rfl
theorem fE_1:∀ ys:List Int,fE 110 ys=110
 | []=>rfl
 | [_]=>rfl
 | [_,_]=>rfl
 | i :: p :: q :: r=>by rw [fE,fStep_1]; exact fE_1 r
theorem fE_0:∀ ys:List Int,fE 0 ys=bif filmsB ys then 0 else 110
 | []=>rfl
 | [_]=>rfl
 | [_,_]=>rfl
 | i :: p :: q :: r=>by
  rw [fE,fStep_0,filmsB]
  cases film1 i p q with
  | true=>exact fE_0 r
  | false=>exact fE_1 r
def dj:List Bool->Bool
 | []=>false
 | b :: l=>match l with
  | []=>b
  | _ :: _=>b||!b&&dj l
def cj:List Bool->Bool
 | []=>true
 | b :: l=>match l with
  | []=>!b
  | _ :: _=>!b&&cj l
def par {α:Type}:List α->Bool
 | []=>false
 | _ :: l=>match par l with
  | true=>false
  | false=>true
def sel {β:Type} (l:List Bool) (bad good:β):β:=match l with
 | []=>good
 | b :: r=>match par (b :: r) with
  | true=>bif dj (b :: r) then bad else good
  | false=>bif cj (b :: r) then good else bad
def anyB:List Bool->Bool
 | []=>false
 | b :: l=>b||anyB l
theorem dj_eq:∀ l:List Bool,dj l=anyB l
 | []=>rfl
 | [b]=>by cases b <;> rfl
 | b :: c :: l=>by
  have:=dj_eq (c :: l)
  show (b||!b&&dj (c :: l))=(b||anyB (c :: l))
  rw [this]
  cases b <;> rfl
theorem cj_eq:∀ l:List Bool,cj l=!anyB l
 | []=>rfl
 | [b]=>by cases b <;> rfl
 | b :: c :: l=>by
  have:=cj_eq (c :: l)
  show (!b&&cj (c :: l))=!(b||anyB (c :: l))
  rw [this]
  cases b <;> rfl
theorem sel_eq {β:Type} (l:List Bool) (bad good:β):sel l bad good=bif anyB l then bad else good:=by
 unfold sel
 split
 .rfl
 .split
  .rw [dj_eq]
  .rw [cj_eq]
   generalize anyB _=z
   cases z <;> rfl
def eqL:List Int->List Bool
 | i :: p :: q :: r=>(!(i==i&&(p==p&&(q==q&&true)))) :: eqL r
 | _=>[]
theorem eqL_f:∀ ys:List Int,anyB (eqL ys)=false
 | []=>rfl
 | [_]=>rfl
 | [_,_]=>rfl
 | i :: p :: q :: r=>by
  simp only [eqL,anyB,eqL_f r]
  simp
def fQ (ys:List Int):Bool:=sel (eqL ys) false true
theorem fQ_t (ys:List Int):fQ ys=true:=by
 unfold fQ
 rw [sel_eq,eqL_f]; rfl
section
variable (s:Su) (ys:List Int)
def k1P:Bool:=bif s.o != 0 then !isM s else false
def k1N:Bool:=1==1&&(s.c==s.c&&(s.k==s.k&&(s.l==0&&(s.m==0&&(s.o==(bif k1P s then s.o else 0)&&(s.th==(bif k1P s then s.th else s.th)&&(s.se==s.se&&(s.ho==s.ho&&(s.dx==0&&(s.dy==0&&(s.ax==0&&(s.ay==0&&(s.az==0&&(0==0&&(0==0 &&
 (s.a0==(bif k1P s then s.a0 else s.a0)&&(s.a1==(bif k1P s then s.a1 else s.a1)&&(s.a2==(bif k1P s then s.a2 else s.a2)&&(s.a3==(bif k1P s then s.a3 else s.a3)&&(s.f0==(bif k1P s then s.f0 else 0)&&(s.f1==(bif k1P s then s.f1 else 0)&&(eqBytes s.g s.g&&true))))))))))))))))))))))
def k2N:Bool:=2==2&&(s.c==s.c&&(s.k==s.k&&(s.l==s.l&&(s.m==s.m&&(s.o==0&&(s.th==s.th&&(s.se==s.se&&(s.ho==s.ho&&(s.dx==0&&(s.dy==0&&(s.ax==0&&(s.ay==0&&(s.az==0&&(0==0&&(0==0&&(s.a0==0&&(s.a1==0&&(s.a2==0&&(s.a3==0&&(s.f0==0&&(s.f1==0&&(eqBytes s.g s.g&&true))))))))))))))))))))))
def k3N:Bool:=3==3&&(s.c==0&&(s.k==0&&(s.l==0&&(s.m==0&&(s.o==0&&(s.th==s.th&&(s.se==0&&(s.ho==0&&(s.dx==s.dx&&(s.dy==s.dy&&(s.ax==s.ax&&(s.ay==s.ay&&(s.az==s.az&&(0==0&&(0==0&&(s.a0==0&&(s.a1==0&&(s.a2==0&&(s.a3==0&&(s.f0==0&&(s.f1==0&&(noG s&&true))))))))))))))))))))))
def k4N:Bool:=4==4&&(s.c==s.c&&(s.k==0&&(s.l==0&&(s.m==0&&(s.o==0&&(s.th==s.th&&(s.se==s.se&&(s.ho==s.ho&&(s.dx==0&&(s.dy==0&&(s.ax==0&&(s.ay==0&&(s.az==0&&(0==0&&(0==0&&(s.a0==0&&(s.a1==0&&(s.a2==0&&(s.a3==0&&(s.f0==0&&(s.f1==0&&(noG s&&true))))))))))))))))))))))
def k1F:Bool:=!bif k1N s then fQ ys else false
def k2F:Bool:=!bif k2N s then fQ ys else false
def k3F:Bool:=!bif k3N s then true else false
def k4F:Bool:=!bif k4N s then true else false
def chk1V:Int:=fE (cE0 s (k1F s ys)) ys
def chk2V:Int:=fE (cE0 s (k2F s ys)) ys
def nmC (f:Bool):Prop:=(!f)=true->(!cT2 s)=true->(!cT3 s)=true->(!cT4 s)=true->(!cT5 s)=true->noG s=false->s.g.size<1000000000
def same20:Prop:=s.c=s.c/\s.k=s.k/\s.l=s.l/\s.m=s.m/\s.a0=s.a0/\s.a1=s.a1/\s.a2=s.a2/\s.a3=s.a3/\s.f0=s.f0/\s.f1=s.f1/\s.o=s.o/\s.th=s.th/\s.g=s.g/\s.se=s.se/\s.ho=s.ho/\s.dx=s.dx/\s.dy=s.dy/\s.ax=s.ax/\s.ay=s.ay/\s.az=s.az
def w1:Prop:=(s.ho=s.ho/\s.se=s.se/\s.g=s.g/\s.k=s.k)/\(s.ho=s.ho/\s.se=s.se/\s.g=s.g)/\(s.ho=s.ho/\s.se=s.se)/\s.ho=s.ho
def chk1N:Prop:=(((k1P s=true->s.f0=s.f0/\s.f1=s.f1)/\w1 s)/\same20 s/\s.c=s.c/\s.k=s.k/\(bif k1P s then s.a0 else s.a0)=(bif k1P s then s.a0 else s.a0)/\(bif k1P s then s.a1 else s.a1)=(bif k1P s then s.a1 else s.a1)/\(bif k1P s then s.a2 else s.a2)=(bif k1P s then s.a2 else s.a2)/\(bif k1P s then s.a3 else s.a3)=(bif k1P s then s.a3 else s.a3) /\
 (bif k1P s then s.f0 else 0)=(bif k1P s then s.f0 else 0)/\(bif k1P s then s.f1 else 0)=(bif k1P s then s.f1 else 0)/\(bif k1P s then s.o else 0)=(bif k1P s then s.o else 0)/\(bif k1P s then s.th else s.th)=(bif k1P s then s.th else s.th)/\s.g=s.g/\s.se=s.se/\s.ho=s.ho)/\nmC s (k1F s ys)
def chk2N:Prop:=((s.m=s.m/\w1 s)/\same20 s/\s.c=s.c/\s.k=s.k/\s.l=s.l/\s.m=s.m/\s.th=s.th/\s.g=s.g/\s.se=s.se/\s.ho=s.ho)/\nmC s (k2F s ys)
def w3:Prop:=((s.az=s.az/\s.ay=s.ay/\s.ax=s.ax/\s.dy=s.dy)/\(s.az=s.az/\s.ay=s.ay/\s.ax=s.ax)/\(s.az=s.az/\s.ay=s.ay)/\s.az=s.az)/\same20 s/\s.th=s.th/\s.dx=s.dx/\s.dy=s.dy/\s.ax=s.ax/\s.ay=s.ay/\s.az=s.az
def w4:Prop:=((s.ho=s.ho/\s.se=s.se)/\s.ho=s.ho)/\same20 s/\s.c=s.c/\s.th=s.th/\s.se=s.se/\s.ho=s.ho
def chk3N:Prop:=w3 s/\nmC s (k3F s)
def chk4N:Prop:=w4 s/\nmC s (k4F s)
def kdO:Bool:=!decide (ix1 (oR 1 4 s.kd)>=0)
variable {s} {ys}
theorem same20_t:same20 s:=by unfold same20; simp
theorem nmC_t {f:Bool} (h:s.g.size<1000000000):nmC s f:=fun _ _ _ _ _ _=>h
theorem chk1N_t (h:s.g.size<1000000000):chk1N s ys:=⟨⟨⟨fun _=>⟨rfl,rfl⟩,by unfold w1; simp⟩,same20_t,by simp⟩,nmC_t h⟩
theorem chk2N_t (h:s.g.size<1000000000):chk2N s ys:=⟨⟨⟨rfl,by unfold w1; simp⟩,same20_t,by simp⟩,nmC_t h⟩
theorem w3_t:w3 s:=⟨by simp,same20_t,by simp⟩
theorem w4_t:w4 s:=⟨by simp,same20_t,by simp⟩
end
def rI (lo hi n:Int):Bool:=bif decide (n>=lo) then decide (n<=hi) else false
theorem rI_eq (lo hi n:Int):rI lo hi n=inR lo hi n:=by
 unfold rI inR
 cases h:decide (n>=lo) <;> cases h':decide (lo<=n) <;> simp_all <;> omega
def rFilm (i p q:Int):Bool:=bif decide (i>=10000000) then bif decide (i<=40000000) then bif decide (p>=0) then bif decide (p<=1000) then bif decide (q>=1) then decide (q<=1000) else false else false else false else false else false
theorem rFilm_eq (i p q:Int):rFilm i p q=film1 i p q:=by
 have e:film1 i p q=(inR 10000000 40000000 i&&inR 0 1000 p&&inR 1 1000 q):=rfl
 have e2:rFilm i p q=(rI 10000000 40000000 i&&(rI 0 1000 p&&rI 1 1000 q)):=by
  unfold rFilm rI
  cases decide (i>=10000000) <;> cases decide (i<=40000000) <;> cases decide (p>=0) <;> cases decide (p<=1000) <;> rfl
 rw [e,e2,rI_eq,rI_eq,rI_eq,Bool.and_assoc]
def rL:List Int->List Bool
 | i :: p :: q :: r=>(!rFilm i p q) :: rL r
 | _=>[]
theorem rL_eq:∀ ys:List Int,anyB (rL ys)=!filmsB ys
 | []=>rfl
 | [_]=>rfl
 | [_,_]=>rfl
 | i :: p :: q :: r=>by
  simp only [rL,anyB,rL_eq r,filmsB,rFilm_eq]
  cases film1 i p q <;> rfl
section
variable (s:Su) (ys:List Int)
def rT1:Bool:=(!!rI (-1000000000) 1000000000 s.a0)&&((!!rI (-1000000000) 1000000000 s.a1)&&((!!rI (-1000000000) 1000000000 s.a2)&&!!rI (-1000000000) 1000000000 s.a3))
def rT2:Bool:=bif !rI (-1000000000) 1000000000 s.c then true else bif !rI (-1000000000) 1000000000 s.l then true else bif !rI (-100000000) 100000000 s.k then true else bif !rI (-100000000) 100000000 s.m then true else bif !rI (-1000000000) 1000000000 s.f0 then true else !rI (-1000000000) 1000000000 s.f1
def rT3:Bool:=bif !rI (-1000000000) 1000000000 s.th then true else bif !rI (-1000000000) 1000000000 s.dx then true else bif !rI (-1000000000) 1000000000 s.dy then true else bif !rI (-90000000) 90000000 s.ax then true else bif !rI (-90000000) 90000000 s.ay then true else !rI (-90000000) 90000000 s.az
def rT4:Bool:=bif decide (s.se<0) then true else bif decide (s.se>1000000000) then true else bif decide (s.ho<0) then true else bif decide (s.ho>1000000000) then true else bif decide (s.se>0) then decide (s.ho>=s.se) else false
def rT5:Bool:=bif decide (s.o>=-3) then bif decide (s.o<=3) then bif noG s then true else nameB s.g else false else false
def rSm:Bool:=bif rT1 s then sel (rL ys) false (bif rT2 s then false else bif rT3 s then false else bif rT4 s then false else rT5 s) else false
def rX:Bool:=bif s.l==0 then s.m==0 else false
def rS:Bool:=bif s.dx==0 then bif s.dy==0 then bif s.ax==0 then bif s.ay==0 then s.az==0 else false else false else false else false
def rP:Bool:=s.f0==0&&(s.f1==0&&true)
def rA:Bool:=bif s.a0==0&&(s.a1==0&&(s.a2==0&&(s.a3==0&&true))) then bif rP s then s.o==0 else false else false
def rK1:Bool:=bif bif s.o==0 then true else isM s then bif rX s then bif rS s then bif s.o==0 then rP s else false else false else false else bif rX s then rS s else false
def rK2:Bool:=bif rA s then rS s else false
def rK3:Bool:=bif rX s then bif rA s then bif bif noG s then true else false then bif s.c==0 then bif s.k==0 then bif s.se==0 then s.ho==0 else false else false else false else false else false else false
def rK4:Bool:=bif rX s then bif rA s then bif rS s then bif bif noG s then true else false then s.k==0 else false else false else false else false
def rKd:Bool:=bif !(s.kd==1)&&(!(s.kd==2)&&(!(s.kd==3)&&!(s.kd==4))) then false else bif s.kd==1 then rK1 s else bif s.kd==2 then rK2 s else (match ys with|[]=>bif s.kd==3 then rK3 s else rK4 s|_ :: _=>false)
def rRight:Bool:=bif !rSm s ys then false else rKd s ys
def rTail:Prop:=(!rT2 s)=true->(!rT3 s)=true->(!rT4 s)=true->decide (s.o>=-3)=true->decide (s.o<=3)=true->noG s=false->s.g.size<1000000000
def rRightN:Prop:=rT1 s=true->(match rL ys with|[]=>rTail s|b :: r=>cj (b :: r)=true->rTail s)
theorem rRightN_t {s:Su} {ys:List Int} (h:s.g.size<1000000000):rRightN s ys:=by
 intro _
 split
 .exact fun _ _ _ _ _ _=>h
 .exact fun _ _ _ _ _ _ _=>h
end
end Go.Rd
namespace Go.Rd
open Go Go.Eng Go.Ar
theorem fE_eq (s:Su) (ys:List Int) (f:Bool):fE (cE0 s f) ys=bif !f&&numsB s&&filmsB ys then 0 else 110:=by
 rw [cE0_eq]
 cases hb:(!f&&numsB s) with
 | true=>simp only [cond_true,fE_0,Bool.true_and]
 | false=>simp only [cond_false,fE_1,Bool.false_and]
theorem len24 {ys:List Int} (h:ys.length<=24):decide (ys.length<=24)=true:=decide_eq_true h
theorem sel_kind {s:Su} {ys:List Int} {f:Bool} (h:ys.length<=24) (k:kindB s ys.isEmpty=f):rightS s ys=(f&&numsB s&&filmsB ys):=by
 unfold rightS
 rw [len24 h,k]
 cases f <;> cases numsB s <;> cases filmsB ys <;> rfl
theorem k1_eq {s:Su} {e:Bool} (hk:s.kd=1):kindB s e=k1N s:=by
 unfold kindB k1N noX noT noP
 rw [hk]
 have hp:k1P s=!(s.o==0||isM s):=by
  unfold k1P
  cases h:s.o==0 <;> simp [bne,h]
 simp only [beq_self_eq_true,Bool.true_and,Bool.and_true,show ((1:Int)==2)=false from rfl,show ((1:Int)==3)=false from rfl,show ((1:Int)==4)=false from rfl,Bool.false_and,Bool.or_false]
 have eb:∀ b:ByteArray,eqBytes b b=true:=fun b=>(eqBytes_iff _ _).2 rfl
 rw [hp,eb]
 cases h:(s.o==0||isM s) with
 | true=>
  simp only [Bool.not_true,cond_false,Bool.false_or,beq_self_eq_true,Bool.true_and,Bool.and_true]
  cases s.o==0 <;> cases s.l==0 <;> cases s.m==0 <;> cases s.dx==0 <;> cases s.dy==0 <;> cases s.ax==0 <;> cases s.ay==0 <;> cases s.az==0 <;> simp
 | false=>
  simp only [Bool.not_false,cond_true,Bool.true_or,beq_self_eq_true,Bool.true_and,Bool.and_true]
  cases s.l==0 <;> cases s.m==0 <;> cases s.dx==0 <;> cases s.dy==0 <;> cases s.ax==0 <;> cases s.ay==0 <;> cases s.az==0 <;> rfl
theorem k2_eq {s:Su} {e:Bool} (hk:s.kd=2):kindB s e=k2N s:=by
 unfold kindB k2N noA noT noP
 rw [hk]
 have eb:∀ b:ByteArray,eqBytes b b=true:=fun b=>(eqBytes_iff _ _).2 rfl
 simp only [eb,beq_self_eq_true,Bool.true_and,Bool.and_true,show ((2:Int)==1)=false from rfl,show ((2:Int)==3)=false from rfl,show ((2:Int)==4)=false from rfl,Bool.false_and,Bool.or_false,Bool.false_or]
 cases s.o==0 <;> cases s.dx==0 <;> cases s.dy==0 <;> cases s.ax==0 <;> cases s.ay==0 <;> cases s.az==0 <;> simp [Bool.and_assoc]
theorem k3_eq {s:Su} (hk:s.kd=3):kindB s true=k3N s:=by
 unfold kindB k3N noX noA noP
 rw [hk]
 simp only [beq_self_eq_true,Bool.true_and,Bool.and_true,show ((3:Int)==1)=false from rfl,show ((3:Int)==2)=false from rfl,show ((3:Int)==4)=false from rfl,Bool.false_and,Bool.or_false,Bool.false_or]
 cases s.o==0 <;> cases s.l==0 <;> cases s.m==0 <;> cases s.c==0 <;> cases s.k==0 <;> cases s.se==0 <;> cases s.ho==0 <;> cases noG s <;> simp [Bool.and_assoc]
theorem k4_eq {s:Su} (hk:s.kd=4):kindB s true=k4N s:=by
 unfold kindB k4N noX noA noP noT
 rw [hk]
 simp only [beq_self_eq_true,Bool.true_and,Bool.and_true,show ((4:Int)==1)=false from rfl,show ((4:Int)==2)=false from rfl,show ((4:Int)==3)=false from rfl,Bool.false_and,Bool.or_false,Bool.false_or]
 cases s.o==0 <;> cases s.l==0 <;> cases s.m==0 <;> cases s.k==0 <;> cases s.dx==0 <;> cases s.dy==0 <;> cases s.ax==0 <;> cases s.ay==0 <;> cases s.az==0 <;> cases noG s <;> simp [Bool.and_assoc]
theorem k34_f {s:Su} (hk:s.kd=3\/s.kd=4):kindB s false=false:=by
 unfold kindB
 rcases hk with hk|hk <;> rw [hk] <;> simp
theorem k0_f {s:Su} {e:Bool} (hk:inR 1 4 s.kd=false):kindB s e=false:=by
 unfold inR at hk
 unfold kindB
 have h:∀ k:Int,1<=k->k<=4->(s.kd==k)=false:=by
  intro k h1 h2
  simp only [Bool.and_eq_false_iff,decide_eq_false_iff_not] at hk
  rw [beq_eq_false_iff_ne]
  omega
 rw [h 1 (by decide) (by decide),h 2 (by decide) (by decide),h 3 (by decide) (by decide),h 4 (by decide) (by decide)]
 rfl
theorem chk1_eq {s:Su} {ys:List Int} (hk:s.kd=1) (h:ys.length<=24):chk1V s ys=bif rightS s ys then 0 else 110:=by
 unfold chk1V k1F
 rw [fE_eq,sel_kind h (k1_eq hk),fQ_t]
 cases k1N s <;> rfl
theorem chk2_eq {s:Su} {ys:List Int} (hk:s.kd=2) (h:ys.length<=24):chk2V s ys=bif rightS s ys then 0 else 110:=by
 unfold chk2V k2F
 rw [fE_eq,sel_kind h (k2_eq hk),fQ_t]
 cases k2N s <;> rfl
theorem chk3_eq {s:Su} (hk:s.kd=3):cE0 s (k3F s)=bif rightS s [] then 0 else 110:=by
 unfold k3F
 rw [cE0_eq,sel_kind (ys:=[]) (by decide) (k3_eq hk)]
 cases k3N s <;> cases numsB s <;> rfl
theorem chk4_eq {s:Su} (hk:s.kd=4):cE0 s (k4F s)=bif rightS s [] then 0 else 110:=by
 unfold k4F
 rw [cE0_eq,sel_kind (ys:=[]) (by decide) (k4_eq hk)]
 cases k4N s <;> cases numsB s <;> rfl
theorem right_long {s:Su} {ys:List Int} (h:24<ys.length):rightS s ys=false:=by
 unfold rightS
 rw [decide_eq_false (by omega),Bool.and_false]
theorem right_kind {s:Su} {ys:List Int} (h:kindB s ys.isEmpty=false):rightS s ys=false:=by
 unfold rightS
 rw [h,Bool.and_false,Bool.false_and,Bool.false_and]
theorem rT4_eq (s:Su):rT4 s=!(inR 0 1000000000 s.se&&inR 0 1000000000 s.ho&&(s.se==0||decide (s.ho<s.se))):=by
 unfold rT4 inR
 have e:∀ a b:Int,decide (a<b)=!decide (b<=a):=fun a b=>by
  cases h:decide (b<=a) <;> simp_all <;> omega
 have e2:∀ a b:Int,decide (a>b)=!decide (a<=b):=fun a b=>by
  cases h:decide (a<=b) <;> simp_all
 rw [e s.se 0,e s.ho 0,e2 s.se 1000000000,e2 s.ho 1000000000]
 cases h1:decide (0<=s.se) <;> cases h2:decide (s.se<=1000000000) <;> cases h3:decide (0<=s.ho) <;> cases h4:decide (s.ho<=1000000000) <;> try rfl
 have h1:=of_decide_eq_true h1
 cases h5:s.se==0 with
 | true=>
  have:=eq_of_beq h5
  rw [this]; rfl
 | false=>
  have:=beq_eq_false_iff_ne.1 h5
  rw [decide_eq_true (show s.se>0 by omega)]
  cases h6:decide (s.ho<s.se) <;> simp_all
theorem rSm_eq (s:Su) (ys:List Int):rSm s ys=(numsB s&&filmsB ys):=by
 unfold rSm rT1 rT2 rT3 rT5 numsB
 rw [sel_eq,rL_eq,rT4_eq]
 simp only [rI_eq,Bool.not_not]
 have e:(bif decide (s.o>=-3) then bif decide (s.o<=3) then bif noG s then true else nameB s.g else false else false)=(inR (-3) 3 s.o&&(noG s||nameB s.g)):=by
  have:decide (s.o>=-3)=decide (-3<=s.o):=rfl
  rw [this]
  unfold inR
  cases decide (-3<=s.o) <;> cases decide (s.o<=3) <;> cases noG s <;> rfl
 rw [e]
 generalize inR (-3) 3 s.o=y0
 generalize (noG s||nameB s.g)=y1
 generalize (s.se==0||decide (s.ho<s.se))=y2
 generalize inR 0 1000000000 s.se=y3
 generalize inR 0 1000000000 s.ho=y4
 generalize inR (-1000000000) 1000000000 s.c=x0
 generalize inR (-1000000000) 1000000000 s.l=x1
 generalize inR (-1000000000) 1000000000 s.th=x2
 generalize inR (-1000000000) 1000000000 s.dx=x3
 generalize inR (-1000000000) 1000000000 s.dy=x4
 generalize inR (-1000000000) 1000000000 s.a0=x5
 generalize inR (-1000000000) 1000000000 s.a1=x6
 generalize inR (-1000000000) 1000000000 s.a2=x7
 generalize inR (-1000000000) 1000000000 s.a3=x8
 generalize inR (-1000000000) 1000000000 s.f0=x9
 generalize inR (-1000000000) 1000000000 s.f1=x10
 generalize inR (-100000000) 100000000 s.k=z0
 generalize inR (-100000000) 100000000 s.m=z1
 generalize inR (-90000000) 90000000 s.ax=z2
 generalize inR (-90000000) 90000000 s.ay=z3
 generalize inR (-90000000) 90000000 s.az=z4
 generalize filmsB ys=f
 have cb:∀ a b:Bool,(bif !a then true else b)=(!a||b):=fun a b=>by cases a <;> rfl
 have cb2:∀ a b:Bool,(bif a then false else b)=(!a&&b):=fun a b=>by cases a <;> rfl
 have cb3:∀ a b:Bool,(bif a then b else false)=(a&&b):=fun a b=>by cases a <;> rfl
 simp only [cb,cb2,cb3,Bool.not_or,Bool.not_and,Bool.not_not]
 ac_rfl
theorem rRight_eq {s:Su} {ys:List Int} (h:ys.length<=24) (h3:3 ∣ ys.length):rRight s ys=rightS s ys:=by
 unfold rRight rightS
 rw [rSm_eq,len24 h,Bool.and_true]
 have hk:rKd s ys=kindB s ys.isEmpty:=by
  unfold rKd kindB rK1 rK2 rK3 rK4 rX rS rA rP noX noT noA noP
  have cb3:∀ a b:Bool,(bif a then b else false)=(a&&b):=fun a b=>by cases a <;> rfl
  by_cases c1:s.kd=1
  .rw [c1]
   simp only [beq_self_eq_true,Bool.not_true,Bool.false_and,cond_false,cond_true,Bool.true_and,show ((1:Int)==2)=false from rfl,show ((1:Int)==3)=false from rfl,show ((1:Int)==4)=false from rfl,Bool.or_false]
   cases s.o==0 <;> cases isM s <;> cases s.l==0 <;> cases s.m==0 <;> cases s.dx==0 <;> cases s.dy==0 <;> cases s.ax==0 <;> cases s.ay==0 <;> cases s.az==0 <;> simp
  .by_cases c2:s.kd=2
   .rw [c2]
    simp only [beq_self_eq_true,Bool.not_true,Bool.false_and,cond_false,cond_true,Bool.true_and,show ((2:Int)==1)=false from rfl,show ((2:Int)==3)=false from rfl,show ((2:Int)==4)=false from rfl,Bool.or_false,Bool.not_false,Bool.false_or]
    simp only [cb3,Bool.and_true]
    ac_rfl
   .by_cases c3:s.kd=3
    .rw [c3]
     simp only [beq_self_eq_true,Bool.not_true,Bool.false_and,cond_false,cond_true,Bool.true_and,show ((3:Int)==1)=false from rfl,show ((3:Int)==2)=false from rfl,show ((3:Int)==4)=false from rfl,Bool.or_false,Bool.not_false,Bool.false_or]
     cases ys with
     | nil=>
      simp only [cb3,Bool.and_true,List.isEmpty_nil,show ∀ a:Bool,(bif a then true else false)=a from fun a=>by cases a <;> rfl]
      ac_rfl
     | cons y l=>simp
    .by_cases c4:s.kd=4
     .rw [c4]
      simp only [beq_self_eq_true,Bool.not_true,Bool.false_and,cond_false,cond_true,Bool.true_and,show ((4:Int)==1)=false from rfl,show ((4:Int)==2)=false from rfl,show ((4:Int)==3)=false from rfl,Bool.or_false,Bool.not_false,Bool.false_or,Bool.and_false]
      cases ys with
      | nil=>
       simp only [cb3,Bool.and_true,List.isEmpty_nil,show ∀ a:Bool,(bif a then true else false)=a from fun a=>by cases a <;> rfl]
       ac_rfl
      | cons y l=>simp
     .rw [beq_eq_false_iff_ne.2 c1,beq_eq_false_iff_ne.2 c2,beq_eq_false_iff_ne.2 c3,beq_eq_false_iff_ne.2 c4]; rfl
 rw [hk]
 cases numsB s <;> cases filmsB ys <;> cases kindB s ys.isEmpty <;> rfl
theorem spinF_len:∀ (n i:Nat) (x:Nat->Int),(spinF n i x).length=n
 | 0,_,_=>rfl
 | n+1,i,x=>by rw [spinF,List.length_cons,spinF_len n]
theorem kdO_t {s:Su} (h:inR 1 4 s.kd=false):kdO s=false:=by
 unfold kdO
 rw [ix1_eq,oR_eq,h]; rfl
theorem inR_no {n:Int} (h1:n≠1) (h2:n≠2) (h3:n≠3) (h4:n≠4):inR 1 4 n=false:=by
 unfold inR
 cases a:decide (1<=n) <;> cases b:decide (n<=4) <;> simp_all <;> omega
end Go.Rd
namespace Go.Rd
open Go Go.Eng Go.Ar
section
variable (c k a0 a1 a2 a3 a b d e:Int)
def cb (n m:Int):Sp:=xScaleS 4294967296 4294967296 (IntKind.i64.wrap (n*m)) 1000000
def q1:Sp:=evalS (u0 c k a b d e) (cb a0 2) (cb a1 3) (cb a2 4) (cb a3 5)
def q2:Sp:=mulS (u0 c k a b d e).lo (u0 c k a b d e).hi (q1 c k a0 a1 a2 a3 a b d e).lo (q1 c k a0 a1 a2 a3 a b d e).hi
end
section
variable (c k l m a b d e:Int)
end
def t1 (g:Int):Bool:=bif g != 0 then true else false
end Go.Rd
namespace Go.Rd
open Go Go.Eng Go.Ar
section
variable (c k a0 a1 a2 a3 a b d e:Int)
end
end Go.Rd
namespace Go.Rd
open Go Go.Eng Go.Ar
structure Vs where
 c:Int
 k:Int
 a0:Int
 a1:Int
 a2:Int
 a3:Int
 a:Int
 b:Int
 x:Int
 y:Int
structure Vx where
 c:Int
 k:Int
 l:Int
 m:Int
 a:Int
 b:Int
 x:Int
 y:Int
end Go.Rd
namespace Go.Rd
open Go Go.Eng Go.Ar
theorem okSc_of {n d M:Int} (hn:-M<=n/\n<=M) (h:4503599627370496*M<18446744073709551615*d):okSc n d:=fun _=>by
 have:sg n n<=M:=by
  unfold sg
  cases h:decide (n<0) with
  | true=>show -n<=M; omega
  | false=>show n<=M; omega
 omega
theorem okR_of {n d:Int} (h1:-4611686018427387904<=n) (h2:n<=4611686018427387904) (h3:1<=d) (h4:d<=4611686018427387904):okR n d=true:=by
 unfold okR; simp [h1,h2,h3,h4]
theorem sc_c {c:Int} (h:inL c):okSc c 1000000000:=okSc_of (M:=1000000000) h (by decide)
theorem sc_a {c:Int} (h:inL c):okSc c 1000000:=okSc_of (M:=1000000000) h (by decide)
theorem ok_c {c:Int} (h:inL c):okR c 1000000000=true:=by unfold inL at h; exact okR_of (by omega) (by omega) (by decide) (by decide)
theorem wkK {k:Int} (h:inK k):IntKind.i64.wrap (1000000+k)=1000000+k:=i64w (by unfold inK at h; omega) (by unfold inK at h; omega)
theorem sc_k {k:Int} (h:inK k):okSc (IntKind.i64.wrap (1000000+k)) 1000000:=by
 rw [wkK h]
 exact okSc_of (M:=101000000) (by unfold inK at h; omega) (by decide)
theorem ok_k {k:Int} (h:inK k):okR (IntKind.i64.wrap (1000000+k)) 1000000=true:=by
 rw [wkK h]; unfold inK at h; exact okR_of (by omega) (by omega) (by decide) (by decide)
theorem sc_h:okSc 1 100:=okSc_of (M:=1) (by decide) (by decide)
theorem z0e {s:Sp} (h:z0 s=true):s.e=0:=by unfold z0 at h; simpa using h
theorem one_ri:Ri ⟨4294967296,4294967296,0⟩:=⟨by decide,by decide,by decide⟩
section
variable {c k a0 a1 a2 a3 a b x y:Int} (hc:inL c) (hk:inK k) (hx:okSp a b=true) (hy:okSp x y=true)
include hx in theorem K0:okE (s0 c k a b x y):=e_sqr (s:=⟨a,b,0⟩) (Ri.of hx)
include hx in theorem R0 (h:z0 (s0 c k a b x y)=true):Ri (s0 c k a b x y):=r_sqr (s:=⟨a,b,0⟩) (Ri.of hx) (z0e h)
include hy in theorem K1:okE (s1 c k a b x y):=e_sqr (s:=⟨x,y,0⟩) (Ri.of hy)
include hy in theorem R1 (h:z0 (s1 c k a b x y)=true):Ri (s1 c k a b x y):=r_sqr (s:=⟨x,y,0⟩) (Ri.of hy) (z0e h)
include hx hy in theorem K2 (h0:z0 (s0 c k a b x y)=true) (h1:z0 (s1 c k a b x y)=true):okE (s2 c k a b x y):=e_add (R0 hx h0) (R1 hy h1)
include hx hy in theorem R2 (h0:z0 (s0 c k a b x y)=true) (h1:z0 (s1 c k a b x y)=true) (h2:z0 (s2 c k a b x y)=true):Ri (s2 c k a b x y):=r_add (R0 hx h0) (R1 hy h1) (z0e h2)
include hx hy hc in theorem K3 (h0:z0 (s0 c k a b x y)=true) (h1:z0 (s1 c k a b x y)=true) (h2:z0 (s2 c k a b x y)=true):okE (s3 c k a b x y):=e_sc (R2 hx hy h0 h1 h2) (sc_c hc) (ok_c hc)
include hx hy hc in theorem R3 (h0:z0 (s0 c k a b x y)=true) (h1:z0 (s1 c k a b x y)=true) (h2:z0 (s2 c k a b x y)=true) (h3:z0 (s3 c k a b x y)=true):Ri (s3 c k a b x y):=r_sc (R2 hx hy h0 h1 h2) (sc_c hc) (z0e h3)
include hx hy hc in theorem K4 (h0:z0 (s0 c k a b x y)=true) (h1:z0 (s1 c k a b x y)=true) (h2:z0 (s2 c k a b x y)=true) (h3:z0 (s3 c k a b x y)=true):okE (s4 c k a b x y):=e_sc (R3 hc hx hy h0 h1 h2 h3) (sc_c hc) (ok_c hc)
include hx hy hc in theorem R4 (h0:z0 (s0 c k a b x y)=true) (h1:z0 (s1 c k a b x y)=true) (h2:z0 (s2 c k a b x y)=true) (h3:z0 (s3 c k a b x y)=true) (h4:z0 (s4 c k a b x y)=true):Ri (s4 c k a b x y):=r_sc (R3 hc hx hy h0 h1 h2 h3) (sc_c hc) (z0e h4)
include hx hy hc hk in theorem K5 (h0:z0 (s0 c k a b x y)=true) (h1:z0 (s1 c k a b x y)=true) (h2:z0 (s2 c k a b x y)=true) (h3:z0 (s3 c k a b x y)=true) (h4:z0 (s4 c k a b x y)=true):okE (s5 c k a b x y):=e_sc (R4 hc hx hy h0 h1 h2 h3 h4) (sc_k hk) (ok_k hk)
include hx hy hc hk in theorem R5 (h0:z0 (s0 c k a b x y)=true) (h1:z0 (s1 c k a b x y)=true) (h2:z0 (s2 c k a b x y)=true) (h3:z0 (s3 c k a b x y)=true) (h4:z0 (s4 c k a b x y)=true) (h5:z0 (s5 c k a b x y)=true):Ri (s5 c k a b x y):=r_sc (R4 hc hx hy h0 h1 h2 h3 h4) (sc_k hk) (z0e h5)
include hx hy hc hk in theorem K6 (h0:z0 (s0 c k a b x y)=true) (h1:z0 (s1 c k a b x y)=true) (h2:z0 (s2 c k a b x y)=true) (h3:z0 (s3 c k a b x y)=true) (h4:z0 (s4 c k a b x y)=true) (h5:z0 (s5 c k a b x y)=true):okE (s6 c k a b x y):=e_sub one_ri (R5 hc hk hx hy h0 h1 h2 h3 h4 h5)
def H6 (c k a b x y:Int):Prop:=z0 (s0 c k a b x y)=true/\z0 (s1 c k a b x y)=true/\z0 (s2 c k a b x y)=true/\z0 (s3 c k a b x y)=true/\z0 (s4 c k a b x y)=true/\z0 (s5 c k a b x y)=true/\z0 (s6 c k a b x y)=true
include hx hy hc hk in theorem R6 (h:H6 c k a b x y):Ri (s6 c k a b x y):=r_sub one_ri (R5 hc hk hx hy h.1 h.2.1 h.2.2.1 h.2.2.2.1 h.2.2.2.2.1 h.2.2.2.2.2.1) (z0e h.2.2.2.2.2.2)
include hx hy hc hk in theorem K7 (h:H6 c k a b x y) (p:0<(s6 c k a b x y).lo):okE (s7 c k a b x y):=e_rt (R6 hc hk hx hy h) p
include hx hy hc hk in theorem R7 (h:H6 c k a b x y) (h7:z0 (s7 c k a b x y)=true):Ri (s7 c k a b x y):=r_rt (R6 hc hk hx hy h) (z0e h7)
include hx hy hc hk in theorem P7 (h:H6 c k a b x y) (p:0<(s6 c k a b x y).lo):0<(s7 c k a b x y).lo:=rt_pos (R6 hc hk hx hy h) p
include hx hy hc in theorem K8 (h:H6 c k a b x y):okE (s8 c k a b x y):=e_add (R3 hc hx hy h.1 h.2.1 h.2.2.1 h.2.2.2.1) (t:=⟨0,0,0⟩) zero_ri
include hx hy hc in theorem R8 (h:H6 c k a b x y) (h8:z0 (s8 c k a b x y)=true):Ri (s8 c k a b x y):=r_add (R3 hc hx hy h.1 h.2.1 h.2.2.1 h.2.2.2.1) (t:=⟨0,0,0⟩) zero_ri (z0e h8)
include hx hy hc hk in theorem K9 (h:H6 c k a b x y) (h7:z0 (s7 c k a b x y)=true):okE (s9 c k a b x y):=e_add one_ri (R7 hc hk hx hy h h7)
include hx hy hc hk in theorem R9 (h:H6 c k a b x y) (h7:z0 (s7 c k a b x y)=true) (h9:z0 (s9 c k a b x y)=true):Ri (s9 c k a b x y):=r_add one_ri (R7 hc hk hx hy h h7) (z0e h9)
include hx hy hc hk in theorem P9 (h:H6 c k a b x y) (p:0<(s6 c k a b x y).lo) (h7:z0 (s7 c k a b x y)=true) (h9:z0 (s9 c k a b x y)=true):0<(s9 c k a b x y).lo:=add_pos one_ri (R7 hc hk hx hy h h7) (z0e h9) (by decide) (by have:=P7 hc hk hx hy h p; omega)
include hx hy hc hk in theorem K10 (h:H6 c k a b x y) (p:0<(s6 c k a b x y).lo) (h7:z0 (s7 c k a b x y)=true) (h8:z0 (s8 c k a b x y)=true) (h9:z0 (s9 c k a b x y)=true):okE (s10 c k a b x y):=e_div (R8 hc hx hy h h8) (R9 hc hk hx hy h h7 h9) (P9 hc hk hx hy h p h7 h9)
include hx hy hc hk in theorem R10 (h:H6 c k a b x y) (h7:z0 (s7 c k a b x y)=true) (h8:z0 (s8 c k a b x y)=true) (h9:z0 (s9 c k a b x y)=true) (h10:z0 (s10 c k a b x y)=true):Ri (s10 c k a b x y):=r_div (R8 hc hx hy h h8) (R9 hc hk hx hy h h7 h9) (z0e h10)
include hx hy in theorem KU0 (h0:z0 (s0 c k a b x y)=true) (h1:z0 (s1 c k a b x y)=true) (h2:z0 (s2 c k a b x y)=true):okE (u0 c k a b x y):=e_sc (R2 hx hy h0 h1 h2) sc_h (by decide)
include hx hy in theorem RU0 (h0:z0 (s0 c k a b x y)=true) (h1:z0 (s1 c k a b x y)=true) (h2:z0 (s2 c k a b x y)=true) (u:z0 (u0 c k a b x y)=true):Ri (u0 c k a b x y):=r_sc (R2 hx hy h0 h1 h2) sc_h (z0e u)
theorem RCA {n:Int} (h:inL n) (u:z0 (ca n)=true):Ri (ca n):=r_sc (s:=⟨4294967296,4294967296,0⟩) one_ri (sc_a h) (z0e u)
variable (i0:inL a0) (i1:inL a1) (i2:inL a2) (i3:inL a3)
def HU (c k a0 a1 a2 a3 a b x y:Int):Prop:=(z0 (s0 c k a b x y)=true/\z0 (s1 c k a b x y)=true/\z0 (s2 c k a b x y)=true/\z0 (u0 c k a b x y)=true)/\z0 (ca a0)=true/\z0 (ca a1)=true/\z0 (ca a2)=true/\z0 (ca a3)=true
include hx hy in theorem HU.r (h:HU c k a0 a1 a2 a3 a b x y):Ri (u0 c k a b x y):=RU0 hx hy h.1.1 h.1.2.1 h.1.2.2.1 h.1.2.2.2
include hx hy i0 i1 i2 i3 in theorem KU1 (h:HU c k a0 a1 a2 a3 a b x y):okE (u1 c k a0 a1 a2 a3 a b x y):=evl_e (h.r hx hy) (RCA i0 h.2.1) (RCA i1 h.2.2.1) (RCA i2 h.2.2.2.1) (RCA i3 h.2.2.2.2)
include hx hy i0 i1 i2 i3 in theorem RU1 (h:HU c k a0 a1 a2 a3 a b x y) (u:z0 (u1 c k a0 a1 a2 a3 a b x y)=true):Ri (u1 c k a0 a1 a2 a3 a b x y):=evl_r (h.r hx hy) (RCA i0 h.2.1) (RCA i1 h.2.2.1) (RCA i2 h.2.2.2.1) (RCA i3 h.2.2.2.2) (z0e u)
include hx hy in theorem KU2 (h:HU c k a0 a1 a2 a3 a b x y):okE (u2 c k a b x y):=e_sqr (h.r hx hy)
include hx hy in theorem RU2 (h:HU c k a0 a1 a2 a3 a b x y) (u:z0 (u2 c k a b x y)=true):Ri (u2 c k a b x y):=r_sqr (h.r hx hy) (z0e u)
include hx hy i0 i1 i2 i3 in theorem KU3 (h:HU c k a0 a1 a2 a3 a b x y) (v1:z0 (u1 c k a0 a1 a2 a3 a b x y)=true) (v2:z0 (u2 c k a b x y)=true):okE (u3 c k a0 a1 a2 a3 a b x y):=e_mul (RU2 hx hy h v2) (RU1 hx hy i0 i1 i2 i3 h v1)
include hx hy i0 i1 i2 i3 in theorem RU3 (h:HU c k a0 a1 a2 a3 a b x y) (v1:z0 (u1 c k a0 a1 a2 a3 a b x y)=true) (v2:z0 (u2 c k a b x y)=true) (v3:z0 (u3 c k a0 a1 a2 a3 a b x y)=true):Ri (u3 c k a0 a1 a2 a3 a b x y):=r_mul (RU2 hx hy h v2) (RU1 hx hy i0 i1 i2 i3 h v1) (z0e v3)
include hx hy hc hk i0 i1 i2 i3 in theorem KU4 (g:H6 c k a b x y) (h7:z0 (s7 c k a b x y)=true) (h8:z0 (s8 c k a b x y)=true) (h9:z0 (s9 c k a b x y)=true) (h10:z0 (s10 c k a b x y)=true) (h:HU c k a0 a1 a2 a3 a b x y) (v1:z0 (u1 c k a0 a1 a2 a3 a b x y)=true) (v2:z0 (u2 c k a b x y)=true) (v3:z0 (u3 c k a0 a1 a2 a3 a b x y)=true):okE (u4 c k a0 a1 a2 a3 a b x y):=e_add (R10 hc hk hx hy g h7 h8 h9 h10) (RU3 hx hy i0 i1 i2 i3 h v1 v2 v3)
end
end Go.Rd
