/- What is proved: a law of hits returns true, whatever the input (part 15). No conditions beyond those of the row. -/
import Derived.Test.YtjmhddncomglmaaGreatDoorPN
set_option linter.unusedVariables false
set_option linter.unusedSimpArgs false
set_option linter.unusedSectionVars false
namespace Go.Ht
open Go Go.Eng Go.Ar Go.Rd Go.Vc
def kS (E:Int) (s:Sp):Sp:=⟨kI E s.e s.lo,kI E s.e s.hi,kE E s.e⟩
theorem kS_0 {s:Sp} (h:s.e=0):kS 0 s=s:=by
 unfold kS kI kE
 rw [h]
 cases s
 cases h
 rfl
theorem kS_e {s:Sp} (h:s.e≠0):(kS 0 s).e=s.e:=by
 have:(s.e != 0)=true:=by simpa using h
 show (bif (0:Int) != 0 then 0 else bif s.e != 0 then s.e else 0)=s.e
 rw [this]; rfl
theorem kS_k {E:Int} {s:Sp} (h:E≠0):(kS E s).e=E:=by
 have:(E != 0)=true:=by simpa using h
 show (bif E != 0 then E else bif s.e != 0 then s.e else E)=E
 rw [this]; rfl
theorem st_two (s:Sp):(s.e=0/\∀ {α:Type} (k:Except Int α),st s k=k)\/(s.e≠0/\∀ {α:Type} (k:Except Int α),st s k=.error (why s.e)):=by
 unfold st ok0
 by_cases h:s.e=0
 .exact .inl ⟨h,fun k=>by rw [h]; rfl⟩
 .have:(s.e==0)=false:=by simpa using h
  exact .inr ⟨h,fun k=>by rw [this]; rfl⟩
theorem le_lt (x:Int):decide (x<=0)=decide (x<1):=by
 by_cases h:x<=0
 .rw [decide_eq_true h,decide_eq_true (by omega)]
 .rw [decide_eq_false h,decide_eq_false (by omega)]
section
variable (F:HF) (p w:Ve) (c k:Int)
def k1:Sp:=kS 0 (F.sq p.a p.b)
def k2:Sp:=kS (k1 F p).e (F.sq p.c p.d)
def k3:Sp:=kS (k2 F p).e (F.ad (k1 F p).lo (k1 F p).hi (k2 F p).lo (k2 F p).hi)
def k4:Sp:=kS (k3 F p).e (F.sc (k3 F p).lo (k3 F p).hi c 1000000000)
def k5:Sp:=kS (k4 F p c).e (F.mu w.a w.b p.a p.b)
def k6:Sp:=kS (k5 F p w c).e (F.mu w.c w.d p.c p.d)
def k7:Sp:=kS (k6 F p w c).e (F.ad (k5 F p w c).lo (k5 F p w c).hi (k6 F p w c).lo (k6 F p w c).hi)
def k8:Sp:=kS (k7 F p w c).e (F.sc (k7 F p w c).lo (k7 F p w c).hi c 1000000000)
def k9:Sp:=kS (k8 F p w c).e (F.su w.e w.f (k8 F p w c).lo (k8 F p w c).hi)
def k10:Sp:=kS (k9 F p w c).e (F.sq (k9 F p w c).lo (k9 F p w c).hi)
def k11:Sp:=kS (k10 F p w c).e (F.sc (k4 F p c).lo (k4 F p c).hi c 1000000000)
def k12:Sp:=kS (k11 F p w c).e (F.sq w.a w.b)
def k13:Sp:=kS (k12 F p w c).e (F.sq w.c w.d)
def k14:Sp:=kS (k13 F p w c).e (F.ad (k12 F p w c).lo (k12 F p w c).hi (k13 F p w c).lo (k13 F p w c).hi)
def k15:Sp:=kS (k14 F p w c).e (F.sq w.e w.f)
def k16:Sp:=kS (k15 F p w c).e (F.sc (k15 F p w c).lo (k15 F p w c).hi (kW k) 1000000)
def k17:Sp:=kS (k16 F p w c k).e (F.ad (k14 F p w c).lo (k14 F p w c).hi (k16 F p w c k).lo (k16 F p w c k).hi)
def k18:Sp:=kS (k17 F p w c k).e (F.mu (k11 F p w c).lo (k11 F p w c).hi (k17 F p w c k).lo (k17 F p w c k).hi)
def k19:Sp:=kS (k18 F p w c k).e (F.su (k10 F p w c).lo (k10 F p w c).hi (k18 F p w c k).lo (k18 F p w c k).hi)
def k20:Sp:=kS (k19 F p w c k).e (F.rt (k19 F p w c k).lo (k19 F p w c k).hi)
def k21:Sp:=kS (k20 F p w c k).e (F.ng (k20 F p w c k).lo (k20 F p w c k).hi)
def kR:Sp:=⟨bif cBk w then (k21 F p w c k).lo else (k20 F p w c k).lo,bif cBk w then (k21 F p w c k).hi else (k20 F p w c k).hi,bif cBk w then (k21 F p w c k).e else (k20 F p w c k).e⟩
def k22:Sp:=kS (kR F p w c k).e (F.ad (k9 F p w c).lo (k9 F p w c).hi (kR F p w c k).lo (kR F p w c k).hi)
def k23:Sp:=kS (k22 F p w c k).e (F.di (k4 F p c).lo (k4 F p c).hi (k22 F p w c k).lo (k22 F p w c k).hi)
def k24:Sp:=kS (k23 F p w c k).e (F.mu (k23 F p w c k).lo (k23 F p w c k).hi w.e w.f)
def k25:Sp:=kS (k24 F p w c k).e (F.sc (k24 F p w c k).lo (k24 F p w c k).hi (kW k) 1000000)
def k26:Sp:=kS (k25 F p w c k).e (F.sc (k25 F p w c k).lo (k25 F p w c k).hi c 1000000000)
def k27:Sp:=kS (k26 F p w c k).e (F.su 4294967296 4294967296 (k26 F p w c k).lo (k26 F p w c k).hi)
theorem f_k19 (_:(k19 F p w c k).e≠0):(k19 F p w c k).e=(k19 F p w c k).e:=rfl
theorem f_k18 (h:(k18 F p w c k).e≠0):(k19 F p w c k).e=(k18 F p w c k).e:=by
 have e:(k19 F p w c k).e=(k18 F p w c k).e:=kS_k h
 exact (f_k19 F p w c k (by rw [e]; exact h)).trans e
theorem f_k17 (h:(k17 F p w c k).e≠0):(k19 F p w c k).e=(k17 F p w c k).e:=by
 have e:(k18 F p w c k).e=(k17 F p w c k).e:=kS_k h
 exact (f_k18 F p w c k (by rw [e]; exact h)).trans e
theorem f_k16 (h:(k16 F p w c k).e≠0):(k19 F p w c k).e=(k16 F p w c k).e:=by
 have e:(k17 F p w c k).e=(k16 F p w c k).e:=kS_k h
 exact (f_k17 F p w c k (by rw [e]; exact h)).trans e
theorem f_k15 (h:(k15 F p w c).e≠0):(k19 F p w c k).e=(k15 F p w c).e:=by
 have e:(k16 F p w c k).e=(k15 F p w c).e:=kS_k h
 exact (f_k16 F p w c k (by rw [e]; exact h)).trans e
theorem f_k14 (h:(k14 F p w c).e≠0):(k19 F p w c k).e=(k14 F p w c).e:=by
 have e:(k15 F p w c).e=(k14 F p w c).e:=kS_k h
 exact (f_k15 F p w c k (by rw [e]; exact h)).trans e
theorem f_k13 (h:(k13 F p w c).e≠0):(k19 F p w c k).e=(k13 F p w c).e:=by
 have e:(k14 F p w c).e=(k13 F p w c).e:=kS_k h
 exact (f_k14 F p w c k (by rw [e]; exact h)).trans e
theorem f_k12 (h:(k12 F p w c).e≠0):(k19 F p w c k).e=(k12 F p w c).e:=by
 have e:(k13 F p w c).e=(k12 F p w c).e:=kS_k h
 exact (f_k13 F p w c k (by rw [e]; exact h)).trans e
theorem f_k11 (h:(k11 F p w c).e≠0):(k19 F p w c k).e=(k11 F p w c).e:=by
 have e:(k12 F p w c).e=(k11 F p w c).e:=kS_k h
 exact (f_k12 F p w c k (by rw [e]; exact h)).trans e
theorem f_k10 (h:(k10 F p w c).e≠0):(k19 F p w c k).e=(k10 F p w c).e:=by
 have e:(k11 F p w c).e=(k10 F p w c).e:=kS_k h
 exact (f_k11 F p w c k (by rw [e]; exact h)).trans e
theorem f_k9 (h:(k9 F p w c).e≠0):(k19 F p w c k).e=(k9 F p w c).e:=by
 have e:(k10 F p w c).e=(k9 F p w c).e:=kS_k h
 exact (f_k10 F p w c k (by rw [e]; exact h)).trans e
theorem f_k8 (h:(k8 F p w c).e≠0):(k19 F p w c k).e=(k8 F p w c).e:=by
 have e:(k9 F p w c).e=(k8 F p w c).e:=kS_k h
 exact (f_k9 F p w c k (by rw [e]; exact h)).trans e
theorem f_k7 (h:(k7 F p w c).e≠0):(k19 F p w c k).e=(k7 F p w c).e:=by
 have e:(k8 F p w c).e=(k7 F p w c).e:=kS_k h
 exact (f_k8 F p w c k (by rw [e]; exact h)).trans e
theorem f_k6 (h:(k6 F p w c).e≠0):(k19 F p w c k).e=(k6 F p w c).e:=by
 have e:(k7 F p w c).e=(k6 F p w c).e:=kS_k h
 exact (f_k7 F p w c k (by rw [e]; exact h)).trans e
theorem f_k5 (h:(k5 F p w c).e≠0):(k19 F p w c k).e=(k5 F p w c).e:=by
 have e:(k6 F p w c).e=(k5 F p w c).e:=kS_k h
 exact (f_k6 F p w c k (by rw [e]; exact h)).trans e
theorem f_k4 (h:(k4 F p c).e≠0):(k19 F p w c k).e=(k4 F p c).e:=by
 have e:(k5 F p w c).e=(k4 F p c).e:=kS_k h
 exact (f_k5 F p w c k (by rw [e]; exact h)).trans e
theorem f_k3 (h:(k3 F p).e≠0):(k19 F p w c k).e=(k3 F p).e:=by
 have e:(k4 F p c).e=(k3 F p).e:=kS_k h
 exact (f_k4 F p w c k (by rw [e]; exact h)).trans e
theorem f_k2 (h:(k2 F p).e≠0):(k19 F p w c k).e=(k2 F p).e:=by
 have e:(k3 F p).e=(k2 F p).e:=kS_k h
 exact (f_k3 F p w c k (by rw [e]; exact h)).trans e
theorem f_k1 (h:(k1 F p).e≠0):(k19 F p w c k).e=(k1 F p).e:=by
 have e:(k2 F p).e=(k1 F p).e:=kS_k h
 exact (f_k2 F p w c k (by rw [e]; exact h)).trans e
theorem f_k27 (_:(k27 F p w c k).e≠0):(k27 F p w c k).e=(k27 F p w c k).e:=rfl
theorem f_k26 (h:(k26 F p w c k).e≠0):(k27 F p w c k).e=(k26 F p w c k).e:=by
 have e:(k27 F p w c k).e=(k26 F p w c k).e:=kS_k h
 exact (f_k27 F p w c k (by rw [e]; exact h)).trans e
theorem f_k25 (h:(k25 F p w c k).e≠0):(k27 F p w c k).e=(k25 F p w c k).e:=by
 have e:(k26 F p w c k).e=(k25 F p w c k).e:=kS_k h
 exact (f_k26 F p w c k (by rw [e]; exact h)).trans e
theorem f_k24 (h:(k24 F p w c k).e≠0):(k27 F p w c k).e=(k24 F p w c k).e:=by
 have e:(k25 F p w c k).e=(k24 F p w c k).e:=kS_k h
 exact (f_k25 F p w c k (by rw [e]; exact h)).trans e
theorem f_k23 (h:(k23 F p w c k).e≠0):(k27 F p w c k).e=(k23 F p w c k).e:=by
 have e:(k24 F p w c k).e=(k23 F p w c k).e:=kS_k h
 exact (f_k24 F p w c k (by rw [e]; exact h)).trans e
theorem f_k22 (h:(k22 F p w c k).e≠0):(k27 F p w c k).e=(k22 F p w c k).e:=by
 have e:(k23 F p w c k).e=(k22 F p w c k).e:=kS_k h
 exact (f_k23 F p w c k (by rw [e]; exact h)).trans e
def kLo (z:Int):Int:=bif (k19 F p w c k).e != 0 then 0 else bif decide ((k19 F p w c k).hi<0) then 0 else bif decide ((k19 F p w c k).lo<0) then 0 else bif (k27 F p w c k).e != 0 then 0 else bif decide ((k27 F p w c k).hi<=0) then 0 else bif decide ((k27 F p w c k).lo<=0) then 0 else z
def kC:Int:=bif (k19 F p w c k).e != 0 then why (k19 F p w c k).e else bif decide ((k19 F p w c k).hi<0) then 1 else bif decide ((k19 F p w c k).lo<0) then 2 else bif (k27 F p w c k).e != 0 then why (k27 F p w c k).e else bif decide ((k27 F p w c k).hi<=0) then 1 else bif decide ((k27 F p w c k).lo<=0) then 2 else 0
def kAv:AV:=.tuple [.agg [.int true .i64 (kLo F p w c k (k23 F p w c k).lo),.int true .i64 (kLo F p w c k (k23 F p w c k).hi)],.int true .i64 (kC F p w c k)]
theorem k19_er {e:Int} (h:(k19 F p w c k).e=e) (h0:e≠0):kAv F p w c k=tryV (.error (why e)):=by
 have:((k19 F p w c k).e != 0)=true:=by rw [h]; simpa using h0
 unfold kAv kLo kC
 rw [this,h]; rfl
theorem conicR_st:conicR F p w c k=(st (cX2 F p) <| st (cY2 F p) <| st (cRR F p) <| st (cF F p c) <| st (cLX F p w) <| st (cMY F p w) <| st (cLM F p w) <| st (cCL F p w c) <| st (cG F p w c) <| st (cG2 F p w c) <| st (cFC F p c) <| st (cL2 F w) <| st (cM2 F w) <| st (cS2 F w) <| st (cN2 F w) <| st (cKN F w k) <| st (cA F w k) <| st (cFA F p w c k) <| st (cH F p w c k) <| (bif h1 F p w c k then .error 1 else bif h2 F p w c k then .error 2 else st (cRt F p w c k) <| ng (cBk w) (cNg F p w c k) <| st (cD F p w c k) <| st (cT F p w c k) <| st (cZ F p w c k) <| st (cKZ F p w c k) <| st (cCZ F p w c k) <| st (cQ F p w c k) <| bif q1 F p w c k then .error 1 else bif q2' F p w c k then .error 2 else .ok ⟨(cT F p w c k).lo,(cT F p w c k).hi⟩)):=by
 simp only [conicR,sqr,add,scl,mul,sub,div,op_bind,pos_bind,ng_bind]
 rfl
theorem kAv_eq:kAv F p w c k=tryV (conicR F p w c k):=by
 rw [conicR_st]
 rcases st_two (cX2 F p) with ⟨x0,y0⟩|⟨x0,y0⟩
 rotate_left
 .rw [y0]
  have q:(k1 F p)=kS 0 (cX2 F p):=by
   show kS 0 (F.sq p.a p.b)=_
   rfl
  refine k19_er F p w c k ((f_k1 F p w c k ?_).trans ?_) x0
  .rw [q,kS_e x0]; exact x0
  .rw [q,kS_e x0]
 rw [y0]
 have q0:(k1 F p)=cX2 F p:=by
  show kS 0 (F.sq p.a p.b)=_
  exact kS_0 x0
 have z0:(k1 F p).e=0:=by rw [q0]; exact x0
 rcases st_two (cY2 F p) with ⟨x1,y1⟩|⟨x1,y1⟩
 rotate_left
 .rw [y1]
  have q:(k2 F p)=kS 0 (cY2 F p):=by
   show kS (k1 F p).e (F.sq p.c p.d)=_
   rw [z0]
   rfl
  refine k19_er F p w c k ((f_k2 F p w c k ?_).trans ?_) x1
  .rw [q,kS_e x1]; exact x1
  .rw [q,kS_e x1]
 rw [y1]
 have q1:(k2 F p)=cY2 F p:=by
  show kS (k1 F p).e (F.sq p.c p.d)=_
  rw [z0]
  exact kS_0 x1
 have z1:(k2 F p).e=0:=by rw [q1]; exact x1
 rcases st_two (cRR F p) with ⟨x2,y2⟩|⟨x2,y2⟩
 rotate_left
 .rw [y2]
  have q:(k3 F p)=kS 0 (cRR F p):=by
   show kS (k2 F p).e (F.ad (k1 F p).lo (k1 F p).hi (k2 F p).lo (k2 F p).hi)=_
   rw [z1,q0,q1]
   rfl
  refine k19_er F p w c k ((f_k3 F p w c k ?_).trans ?_) x2
  .rw [q,kS_e x2]; exact x2
  .rw [q,kS_e x2]
 rw [y2]
 have q2:(k3 F p)=cRR F p:=by
  show kS (k2 F p).e (F.ad (k1 F p).lo (k1 F p).hi (k2 F p).lo (k2 F p).hi)=_
  rw [z1,q0,q1]
  exact kS_0 x2
 have z2:(k3 F p).e=0:=by rw [q2]; exact x2
 rcases st_two (cF F p c) with ⟨x3,y3⟩|⟨x3,y3⟩
 rotate_left
 .rw [y3]
  have q:(k4 F p c)=kS 0 (cF F p c):=by
   show kS (k3 F p).e (F.sc (k3 F p).lo (k3 F p).hi c 1000000000)=_
   rw [z2,q2]
   rfl
  refine k19_er F p w c k ((f_k4 F p w c k ?_).trans ?_) x3
  .rw [q,kS_e x3]; exact x3
  .rw [q,kS_e x3]
 rw [y3]
 have q3:(k4 F p c)=cF F p c:=by
  show kS (k3 F p).e (F.sc (k3 F p).lo (k3 F p).hi c 1000000000)=_
  rw [z2,q2]
  exact kS_0 x3
 have z3:(k4 F p c).e=0:=by rw [q3]; exact x3
 rcases st_two (cLX F p w) with ⟨x4,y4⟩|⟨x4,y4⟩
 rotate_left
 .rw [y4]
  have q:(k5 F p w c)=kS 0 (cLX F p w):=by
   show kS (k4 F p c).e (F.mu w.a w.b p.a p.b)=_
   rw [z3]
   rfl
  refine k19_er F p w c k ((f_k5 F p w c k ?_).trans ?_) x4
  .rw [q,kS_e x4]; exact x4
  .rw [q,kS_e x4]
 rw [y4]
 have q4:(k5 F p w c)=cLX F p w:=by
  show kS (k4 F p c).e (F.mu w.a w.b p.a p.b)=_
  rw [z3]
  exact kS_0 x4
 have z4:(k5 F p w c).e=0:=by rw [q4]; exact x4
 rcases st_two (cMY F p w) with ⟨x5,y5⟩|⟨x5,y5⟩
 rotate_left
 .rw [y5]
  have q:(k6 F p w c)=kS 0 (cMY F p w):=by
   show kS (k5 F p w c).e (F.mu w.c w.d p.c p.d)=_
   rw [z4]
   rfl
  refine k19_er F p w c k ((f_k6 F p w c k ?_).trans ?_) x5
  .rw [q,kS_e x5]; exact x5
  .rw [q,kS_e x5]
 rw [y5]
 have q5:(k6 F p w c)=cMY F p w:=by
  show kS (k5 F p w c).e (F.mu w.c w.d p.c p.d)=_
  rw [z4]
  exact kS_0 x5
 have z5:(k6 F p w c).e=0:=by rw [q5]; exact x5
 rcases st_two (cLM F p w) with ⟨x6,y6⟩|⟨x6,y6⟩
 rotate_left
 .rw [y6]
  have q:(k7 F p w c)=kS 0 (cLM F p w):=by
   show kS (k6 F p w c).e (F.ad (k5 F p w c).lo (k5 F p w c).hi (k6 F p w c).lo (k6 F p w c).hi)=_
   rw [z5,q4,q5]
   rfl
  refine k19_er F p w c k ((f_k7 F p w c k ?_).trans ?_) x6
  .rw [q,kS_e x6]; exact x6
  .rw [q,kS_e x6]
 rw [y6]
 have q6:(k7 F p w c)=cLM F p w:=by
  show kS (k6 F p w c).e (F.ad (k5 F p w c).lo (k5 F p w c).hi (k6 F p w c).lo (k6 F p w c).hi)=_
  rw [z5,q4,q5]
  exact kS_0 x6
 have z6:(k7 F p w c).e=0:=by rw [q6]; exact x6
 rcases st_two (cCL F p w c) with ⟨x7,y7⟩|⟨x7,y7⟩
 rotate_left
 .rw [y7]
  have q:(k8 F p w c)=kS 0 (cCL F p w c):=by
   show kS (k7 F p w c).e (F.sc (k7 F p w c).lo (k7 F p w c).hi c 1000000000)=_
   rw [z6,q6]
   rfl
  refine k19_er F p w c k ((f_k8 F p w c k ?_).trans ?_) x7
  .rw [q,kS_e x7]; exact x7
  .rw [q,kS_e x7]
 rw [y7]
 have q7:(k8 F p w c)=cCL F p w c:=by
  show kS (k7 F p w c).e (F.sc (k7 F p w c).lo (k7 F p w c).hi c 1000000000)=_
  rw [z6,q6]
  exact kS_0 x7
 have z7:(k8 F p w c).e=0:=by rw [q7]; exact x7
 rcases st_two (cG F p w c) with ⟨x8,y8⟩|⟨x8,y8⟩
 rotate_left
 .rw [y8]
  have q:(k9 F p w c)=kS 0 (cG F p w c):=by
   show kS (k8 F p w c).e (F.su w.e w.f (k8 F p w c).lo (k8 F p w c).hi)=_
   rw [z7,q7]
   rfl
  refine k19_er F p w c k ((f_k9 F p w c k ?_).trans ?_) x8
  .rw [q,kS_e x8]; exact x8
  .rw [q,kS_e x8]
 rw [y8]
 have q8:(k9 F p w c)=cG F p w c:=by
  show kS (k8 F p w c).e (F.su w.e w.f (k8 F p w c).lo (k8 F p w c).hi)=_
  rw [z7,q7]
  exact kS_0 x8
 have z8:(k9 F p w c).e=0:=by rw [q8]; exact x8
 rcases st_two (cG2 F p w c) with ⟨x9,y9⟩|⟨x9,y9⟩
 rotate_left
 .rw [y9]
  have q:(k10 F p w c)=kS 0 (cG2 F p w c):=by
   show kS (k9 F p w c).e (F.sq (k9 F p w c).lo (k9 F p w c).hi)=_
   rw [z8,q8]
   rfl
  refine k19_er F p w c k ((f_k10 F p w c k ?_).trans ?_) x9
  .rw [q,kS_e x9]; exact x9
  .rw [q,kS_e x9]
 rw [y9]
 have q9:(k10 F p w c)=cG2 F p w c:=by
  show kS (k9 F p w c).e (F.sq (k9 F p w c).lo (k9 F p w c).hi)=_
  rw [z8,q8]
  exact kS_0 x9
 have z9:(k10 F p w c).e=0:=by rw [q9]; exact x9
 rcases st_two (cFC F p c) with ⟨x10,y10⟩|⟨x10,y10⟩
 rotate_left
 .rw [y10]
  have q:(k11 F p w c)=kS 0 (cFC F p c):=by
   show kS (k10 F p w c).e (F.sc (k4 F p c).lo (k4 F p c).hi c 1000000000)=_
   rw [z9,q3]
   rfl
  refine k19_er F p w c k ((f_k11 F p w c k ?_).trans ?_) x10
  .rw [q,kS_e x10]; exact x10
  .rw [q,kS_e x10]
 rw [y10]
 have q10:(k11 F p w c)=cFC F p c:=by
  show kS (k10 F p w c).e (F.sc (k4 F p c).lo (k4 F p c).hi c 1000000000)=_
  rw [z9,q3]
  exact kS_0 x10
 have z10:(k11 F p w c).e=0:=by rw [q10]; exact x10
 rcases st_two (cL2 F w) with ⟨x11,y11⟩|⟨x11,y11⟩
 rotate_left
 .rw [y11]
  have q:(k12 F p w c)=kS 0 (cL2 F w):=by
   show kS (k11 F p w c).e (F.sq w.a w.b)=_
   rw [z10]
   rfl
  refine k19_er F p w c k ((f_k12 F p w c k ?_).trans ?_) x11
  .rw [q,kS_e x11]; exact x11
  .rw [q,kS_e x11]
 rw [y11]
 have q11:(k12 F p w c)=cL2 F w:=by
  show kS (k11 F p w c).e (F.sq w.a w.b)=_
  rw [z10]
  exact kS_0 x11
 have z11:(k12 F p w c).e=0:=by rw [q11]; exact x11
 rcases st_two (cM2 F w) with ⟨x12,y12⟩|⟨x12,y12⟩
 rotate_left
 .rw [y12]
  have q:(k13 F p w c)=kS 0 (cM2 F w):=by
   show kS (k12 F p w c).e (F.sq w.c w.d)=_
   rw [z11]
   rfl
  refine k19_er F p w c k ((f_k13 F p w c k ?_).trans ?_) x12
  .rw [q,kS_e x12]; exact x12
  .rw [q,kS_e x12]
 rw [y12]
 have q12:(k13 F p w c)=cM2 F w:=by
  show kS (k12 F p w c).e (F.sq w.c w.d)=_
  rw [z11]
  exact kS_0 x12
 have z12:(k13 F p w c).e=0:=by rw [q12]; exact x12
 rcases st_two (cS2 F w) with ⟨x13,y13⟩|⟨x13,y13⟩
 rotate_left
 .rw [y13]
  have q:(k14 F p w c)=kS 0 (cS2 F w):=by
   show kS (k13 F p w c).e (F.ad (k12 F p w c).lo (k12 F p w c).hi (k13 F p w c).lo (k13 F p w c).hi)=_
   rw [z12,q11,q12]
   rfl
  refine k19_er F p w c k ((f_k14 F p w c k ?_).trans ?_) x13
  .rw [q,kS_e x13]; exact x13
  .rw [q,kS_e x13]
 rw [y13]
 have q13:(k14 F p w c)=cS2 F w:=by
  show kS (k13 F p w c).e (F.ad (k12 F p w c).lo (k12 F p w c).hi (k13 F p w c).lo (k13 F p w c).hi)=_
  rw [z12,q11,q12]
  exact kS_0 x13
 have z13:(k14 F p w c).e=0:=by rw [q13]; exact x13
 rcases st_two (cN2 F w) with ⟨x14,y14⟩|⟨x14,y14⟩
 rotate_left
 .rw [y14]
  have q:(k15 F p w c)=kS 0 (cN2 F w):=by
   show kS (k14 F p w c).e (F.sq w.e w.f)=_
   rw [z13]
   rfl
  refine k19_er F p w c k ((f_k15 F p w c k ?_).trans ?_) x14
  .rw [q,kS_e x14]; exact x14
  .rw [q,kS_e x14]
 rw [y14]
 have q14:(k15 F p w c)=cN2 F w:=by
  show kS (k14 F p w c).e (F.sq w.e w.f)=_
  rw [z13]
  exact kS_0 x14
 have z14:(k15 F p w c).e=0:=by rw [q14]; exact x14
 rcases st_two (cKN F w k) with ⟨x15,y15⟩|⟨x15,y15⟩
 rotate_left
 .rw [y15]
  have q:(k16 F p w c k)=kS 0 (cKN F w k):=by
   show kS (k15 F p w c).e (F.sc (k15 F p w c).lo (k15 F p w c).hi (kW k) 1000000)=_
   rw [z14,q14]
   rfl
  refine k19_er F p w c k ((f_k16 F p w c k ?_).trans ?_) x15
  .rw [q,kS_e x15]; exact x15
  .rw [q,kS_e x15]
 rw [y15]
 have q15:(k16 F p w c k)=cKN F w k:=by
  show kS (k15 F p w c).e (F.sc (k15 F p w c).lo (k15 F p w c).hi (kW k) 1000000)=_
  rw [z14,q14]
  exact kS_0 x15
 have z15:(k16 F p w c k).e=0:=by rw [q15]; exact x15
 rcases st_two (cA F w k) with ⟨x16,y16⟩|⟨x16,y16⟩
 rotate_left
 .rw [y16]
  have q:(k17 F p w c k)=kS 0 (cA F w k):=by
   show kS (k16 F p w c k).e (F.ad (k14 F p w c).lo (k14 F p w c).hi (k16 F p w c k).lo (k16 F p w c k).hi)=_
   rw [z15,q13,q15]
   rfl
  refine k19_er F p w c k ((f_k17 F p w c k ?_).trans ?_) x16
  .rw [q,kS_e x16]; exact x16
  .rw [q,kS_e x16]
 rw [y16]
 have q16:(k17 F p w c k)=cA F w k:=by
  show kS (k16 F p w c k).e (F.ad (k14 F p w c).lo (k14 F p w c).hi (k16 F p w c k).lo (k16 F p w c k).hi)=_
  rw [z15,q13,q15]
  exact kS_0 x16
 have z16:(k17 F p w c k).e=0:=by rw [q16]; exact x16
 rcases st_two (cFA F p w c k) with ⟨x17,y17⟩|⟨x17,y17⟩
 rotate_left
 .rw [y17]
  have q:(k18 F p w c k)=kS 0 (cFA F p w c k):=by
   show kS (k17 F p w c k).e (F.mu (k11 F p w c).lo (k11 F p w c).hi (k17 F p w c k).lo (k17 F p w c k).hi)=_
   rw [z16,q10,q16]
   rfl
  refine k19_er F p w c k ((f_k18 F p w c k ?_).trans ?_) x17
  .rw [q,kS_e x17]; exact x17
  .rw [q,kS_e x17]
 rw [y17]
 have q17:(k18 F p w c k)=cFA F p w c k:=by
  show kS (k17 F p w c k).e (F.mu (k11 F p w c).lo (k11 F p w c).hi (k17 F p w c k).lo (k17 F p w c k).hi)=_
  rw [z16,q10,q16]
  exact kS_0 x17
 have z17:(k18 F p w c k).e=0:=by rw [q17]; exact x17
 rcases st_two (cH F p w c k) with ⟨x18,y18⟩|⟨x18,y18⟩
 rotate_left
 .rw [y18]
  have q:(k19 F p w c k)=kS 0 (cH F p w c k):=by
   show kS (k18 F p w c k).e (F.su (k10 F p w c).lo (k10 F p w c).hi (k18 F p w c k).lo (k18 F p w c k).hi)=_
   rw [z17,q9,q17]
   rfl
  refine k19_er F p w c k ((f_k19 F p w c k ?_).trans ?_) x18
  .rw [q,kS_e x18]; exact x18
  .rw [q,kS_e x18]
 rw [y18]
 have q18:(k19 F p w c k)=cH F p w c k:=by
  show kS (k18 F p w c k).e (F.su (k10 F p w c).lo (k10 F p w c).hi (k18 F p w c k).lo (k18 F p w c k).hi)=_
  rw [z17,q9,q17]
  exact kS_0 x18
 have z18:(k19 F p w c k).e=0:=by rw [q18]; exact x18
 unfold kAv kLo kC
 rw [z18,show decide ((k19 F p w c k).hi<0)=h1 F p w c k by rw [q18]; rfl,show decide ((k19 F p w c k).lo<0)=h2 F p w c k by rw [q18]; rfl]
 cases hh1:h1 F p w c k with
 | true=>rfl
 | false=>
 cases hh2:h2 F p w c k with
 | true=>rfl
 | false=>
 simp only [bne_self_eq_false,cond_false]
 have er:∀ e:Int,(k27 F p w c k).e=e->e≠0->AV.tuple [.agg [.int true .i64 (bif (k27 F p w c k).e != 0 then 0 else bif decide ((k27 F p w c k).hi<=0) then 0 else bif decide ((k27 F p w c k).lo<=0) then 0 else (k23 F p w c k).lo),.int true .i64 (bif (k27 F p w c k).e != 0 then 0 else bif decide ((k27 F p w c k).hi<=0) then 0 else bif decide ((k27 F p w c k).lo<=0) then 0 else (k23 F p w c k).hi)],.int true .i64 (bif (k27 F p w c k).e != 0 then why (k27 F p w c k).e else bif decide ((k27 F p w c k).hi<=0) then 1 else bif decide ((k27 F p w c k).lo<=0) then 2 else 0)]=tryV (.error (why e)):=by
  intro e h h0
  have:((k27 F p w c k).e != 0)=true:=by rw [h]; simpa using h0
  rw [this,h]; rfl
 rcases st_two (cRt F p w c k) with ⟨x19,y19⟩|⟨x19,y19⟩
 rotate_left
 .rw [y19]
  have q:k20 F p w c k=kS 0 (cRt F p w c k):=by
   show kS (k19 F p w c k).e (F.rt (k19 F p w c k).lo (k19 F p w c k).hi)=_
   rw [z18,q18]
   rfl
  have e20:(k20 F p w c k).e=(cRt F p w c k).e:=by rw [q,kS_e x19]
  have n20:(k20 F p w c k).e≠0:=by rw [e20]; exact x19
  have e21:(k21 F p w c k).e=(k20 F p w c k).e:=kS_k n20
  have eR:(kR F p w c k).e=(k20 F p w c k).e:=by
   unfold kR
   cases cBk w
   .rfl
   .exact e21
  have e22:(k22 F p w c k).e=(kR F p w c k).e:=kS_k (by rw [eR]; exact n20)
  refine er _ ((f_k22 F p w c k (by rw [e22,eR]; exact n20)).trans (e22.trans (eR.trans e20))) x19
 rw [y19]
 have q19:k20 F p w c k=cRt F p w c k:=by
  show kS (k19 F p w c k).e (F.rt (k19 F p w c k).lo (k19 F p w c k).hi)=_
  rw [z18,q18]
  exact kS_0 x19
 have z19:(k20 F p w c k).e=0:=by rw [q19]; exact x19
 have q20:k21 F p w c k=kS 0 (cNg F p w c k):=by
  show kS (k20 F p w c k).e (F.ng (k20 F p w c k).lo (k20 F p w c k).hi)=_
  rw [z19,q19]
  rfl
 have hn:((kR F p w c k).e=0/\(kR F p w c k).lo=(bif cBk w then (cNg F p w c k).lo else (cRt F p w c k).lo)/\(kR F p w c k).hi=(bif cBk w then (cNg F p w c k).hi else (cRt F p w c k).hi)/\∀ {α:Type} (r:Except Int α),ng (cBk w) (cNg F p w c k) r=r)\/((kR F p w c k).e≠0/\∀ {α:Type} (r:Except Int α),ng (cBk w) (cNg F p w c k) r=.error (why (kR F p w c k).e)):=by
  unfold kR ng ok0
  cases cBk w with
  | false=>exact .inl ⟨z19,by rw [q19]; rfl,by rw [q19]; rfl,fun _=>rfl⟩
  | true=>
   simp only [cond_true,Bool.true_and]
   by_cases h:(cNg F p w c k).e=0
   .left
    rw [q20,kS_0 h,h]
    exact ⟨rfl,rfl,rfl,fun _=>rfl⟩
   .right
    have hb:((cNg F p w c k).e==0)=false:=by simpa using h
    rw [q20,kS_e h,hb]
    exact ⟨h,fun _=>rfl⟩
 rcases hn with ⟨zR,l1,l2,yR⟩|⟨xR,yR⟩
 rotate_left
 .rw [yR]
  have e22:(k22 F p w c k).e=(kR F p w c k).e:=kS_k xR
  refine er _ ((f_k22 F p w c k (by rw [e22]; exact xR)).trans e22) xR
 rw [yR]
 rcases st_two (cD F p w c k) with ⟨x21,y21⟩|⟨x21,y21⟩
 rotate_left
 .rw [y21]
  have q:(k22 F p w c k)=kS 0 (cD F p w c k):=by
   show kS (kR F p w c k).e (F.ad (k9 F p w c).lo (k9 F p w c).hi (kR F p w c k).lo (kR F p w c k).hi)=_
   rw [zR,l1,l2,q8]
   rfl
  refine er _ ((f_k22 F p w c k ?_).trans ?_) x21
  .rw [q,kS_e x21]; exact x21
  .rw [q,kS_e x21]
 rw [y21]
 have q21:(k22 F p w c k)=cD F p w c k:=by
  show kS (kR F p w c k).e (F.ad (k9 F p w c).lo (k9 F p w c).hi (kR F p w c k).lo (kR F p w c k).hi)=_
  rw [zR,l1,l2,q8]
  exact kS_0 x21
 have z21:(k22 F p w c k).e=0:=by rw [q21]; exact x21
 rcases st_two (cT F p w c k) with ⟨x22,y22⟩|⟨x22,y22⟩
 rotate_left
 .rw [y22]
  have q:(k23 F p w c k)=kS 0 (cT F p w c k):=by
   show kS (k22 F p w c k).e (F.di (k4 F p c).lo (k4 F p c).hi (k22 F p w c k).lo (k22 F p w c k).hi)=_
   rw [z21,q3,q21]
   rfl
  refine er _ ((f_k23 F p w c k ?_).trans ?_) x22
  .rw [q,kS_e x22]; exact x22
  .rw [q,kS_e x22]
 rw [y22]
 have q22:(k23 F p w c k)=cT F p w c k:=by
  show kS (k22 F p w c k).e (F.di (k4 F p c).lo (k4 F p c).hi (k22 F p w c k).lo (k22 F p w c k).hi)=_
  rw [z21,q3,q21]
  exact kS_0 x22
 have z22:(k23 F p w c k).e=0:=by rw [q22]; exact x22
 rcases st_two (cZ F p w c k) with ⟨x23,y23⟩|⟨x23,y23⟩
 rotate_left
 .rw [y23]
  have q:(k24 F p w c k)=kS 0 (cZ F p w c k):=by
   show kS (k23 F p w c k).e (F.mu (k23 F p w c k).lo (k23 F p w c k).hi w.e w.f)=_
   rw [z22,q22]
   rfl
  refine er _ ((f_k24 F p w c k ?_).trans ?_) x23
  .rw [q,kS_e x23]; exact x23
  .rw [q,kS_e x23]
 rw [y23]
 have q23:(k24 F p w c k)=cZ F p w c k:=by
  show kS (k23 F p w c k).e (F.mu (k23 F p w c k).lo (k23 F p w c k).hi w.e w.f)=_
  rw [z22,q22]
  exact kS_0 x23
 have z23:(k24 F p w c k).e=0:=by rw [q23]; exact x23
 rcases st_two (cKZ F p w c k) with ⟨x24,y24⟩|⟨x24,y24⟩
 rotate_left
 .rw [y24]
  have q:(k25 F p w c k)=kS 0 (cKZ F p w c k):=by
   show kS (k24 F p w c k).e (F.sc (k24 F p w c k).lo (k24 F p w c k).hi (kW k) 1000000)=_
   rw [z23,q23]
   rfl
  refine er _ ((f_k25 F p w c k ?_).trans ?_) x24
  .rw [q,kS_e x24]; exact x24
  .rw [q,kS_e x24]
 rw [y24]
 have q24:(k25 F p w c k)=cKZ F p w c k:=by
  show kS (k24 F p w c k).e (F.sc (k24 F p w c k).lo (k24 F p w c k).hi (kW k) 1000000)=_
  rw [z23,q23]
  exact kS_0 x24
 have z24:(k25 F p w c k).e=0:=by rw [q24]; exact x24
 rcases st_two (cCZ F p w c k) with ⟨x25,y25⟩|⟨x25,y25⟩
 rotate_left
 .rw [y25]
  have q:(k26 F p w c k)=kS 0 (cCZ F p w c k):=by
   show kS (k25 F p w c k).e (F.sc (k25 F p w c k).lo (k25 F p w c k).hi c 1000000000)=_
   rw [z24,q24]
   rfl
  refine er _ ((f_k26 F p w c k ?_).trans ?_) x25
  .rw [q,kS_e x25]; exact x25
  .rw [q,kS_e x25]
 rw [y25]
 have q25:(k26 F p w c k)=cCZ F p w c k:=by
  show kS (k25 F p w c k).e (F.sc (k25 F p w c k).lo (k25 F p w c k).hi c 1000000000)=_
  rw [z24,q24]
  exact kS_0 x25
 have z25:(k26 F p w c k).e=0:=by rw [q25]; exact x25
 rcases st_two (cQ F p w c k) with ⟨x26,y26⟩|⟨x26,y26⟩
 rotate_left
 .rw [y26]
  have q:(k27 F p w c k)=kS 0 (cQ F p w c k):=by
   show kS (k26 F p w c k).e (F.su 4294967296 4294967296 (k26 F p w c k).lo (k26 F p w c k).hi)=_
   rw [z25,q25]
   rfl
  refine er _ ((f_k27 F p w c k ?_).trans ?_) x26
  .rw [q,kS_e x26]; exact x26
  .rw [q,kS_e x26]
 rw [y26]
 have q26:(k27 F p w c k)=cQ F p w c k:=by
  show kS (k26 F p w c k).e (F.su 4294967296 4294967296 (k26 F p w c k).lo (k26 F p w c k).hi)=_
  rw [z25,q25]
  exact kS_0 x26
 have z26:(k27 F p w c k).e=0:=by rw [q26]; exact x26
 rw [z26,le_lt,le_lt,show decide ((k27 F p w c k).hi<1)=Ht.q1 F p w c k by rw [q26]; rfl,show decide ((k27 F p w c k).lo<1)=q2' F p w c k by rw [q26]; rfl,q22]
 cases Ht.q1 F p w c k
 .cases q2' F p w c k <;> rfl
 .rfl
end
end Go.Ht
namespace Go.Ht
open Go Go.Eng Go.Ar Go.Rd Go.Vc
section
variable (F:HF) (S:Su) (ys:List Int) (p w:Ve) (t:Iv)
def j1:Sp:=kS 0 (F.mu (nU F t) (nU F t) w.a w.b)
def j2:Sp:=kS (j1 F w t).e (F.ad p.a p.b (j1 F w t).lo (j1 F w t).hi)
def j3:Sp:=kS (j2 F p w t).e (F.mu (nU F t) (nU F t) w.c w.d)
def j4:Sp:=kS (j3 F p w t).e (F.ad p.c p.d (j3 F p w t).lo (j3 F p w t).hi)
def j5:Sp:=kS (j4 F p w t).e (F.sg S ys (j2 F p w t).lo (j2 F p w t).hi (j4 F p w t).lo (j4 F p w t).hi)
def j6:Sp:=kS (j5 F S ys p w t).e (F.mu (nU F t) (nU F t) w.e w.f)
def j7:Sp:=kS (j6 F S ys p w t).e (F.su (j6 F S ys p w t).lo (j6 F S ys p w t).hi (j5 F S ys p w t).lo (j5 F S ys p w t).hi)
def j8:Sp:=kS (j7 F S ys p w t).e (F.mu t.lo t.hi w.a w.b)
def j9:Sp:=kS (j8 F S ys p w t).e (F.ad p.a p.b (j8 F S ys p w t).lo (j8 F S ys p w t).hi)
def j10:Sp:=kS (j9 F S ys p w t).e (F.mu t.lo t.hi w.c w.d)
def j11:Sp:=kS (j10 F S ys p w t).e (F.ad p.c p.d (j10 F S ys p w t).lo (j10 F S ys p w t).hi)
def jV (i:Nat):Int:=F.sl S ys (j9 F S ys p w t).lo (j9 F S ys p w t).hi (j11 F S ys p w t).lo (j11 F S ys p w t).hi i
def j12:Sp:=kS (j11 F S ys p w t).e (F.mu (jV F S ys p w t 0) (jV F S ys p w t 1) w.a w.b)
def j13:Sp:=kS (j12 F S ys p w t).e (F.su w.e w.f (j12 F S ys p w t).lo (j12 F S ys p w t).hi)
def j14:Sp:=kS (j13 F S ys p w t).e (F.mu (jV F S ys p w t 2) (jV F S ys p w t 3) w.c w.d)
def j15:Sp:=kS (j14 F S ys p w t).e (F.su (j13 F S ys p w t).lo (j13 F S ys p w t).hi (j14 F S ys p w t).lo (j14 F S ys p w t).hi)
def j16:Sp:=kS (j15 F S ys p w t).e (F.di (j7 F S ys p w t).lo (j7 F S ys p w t).hi (j15 F S ys p w t).lo (j15 F S ys p w t).hi)
def j17:Sp:=kS (j16 F S ys p w t).e (F.su (nU F t) (nU F t) (j16 F S ys p w t).lo (j16 F S ys p w t).hi)
theorem f_j17 (_:(j17 F S ys p w t).e≠0):(j17 F S ys p w t).e≠0:=by assumption
theorem f_j16 (h:(j16 F S ys p w t).e≠0):(j17 F S ys p w t).e≠0:=by
 have e:(j17 F S ys p w t).e=(j16 F S ys p w t).e:=kS_k h
 exact f_j17 F S ys p w t (by rw [e]; exact h)
theorem f_j15 (h:(j15 F S ys p w t).e≠0):(j17 F S ys p w t).e≠0:=by
 have e:(j16 F S ys p w t).e=(j15 F S ys p w t).e:=kS_k h
 exact f_j16 F S ys p w t (by rw [e]; exact h)
theorem f_j14 (h:(j14 F S ys p w t).e≠0):(j17 F S ys p w t).e≠0:=by
 have e:(j15 F S ys p w t).e=(j14 F S ys p w t).e:=kS_k h
 exact f_j15 F S ys p w t (by rw [e]; exact h)
theorem f_j13 (h:(j13 F S ys p w t).e≠0):(j17 F S ys p w t).e≠0:=by
 have e:(j14 F S ys p w t).e=(j13 F S ys p w t).e:=kS_k h
 exact f_j14 F S ys p w t (by rw [e]; exact h)
theorem f_j12 (h:(j12 F S ys p w t).e≠0):(j17 F S ys p w t).e≠0:=by
 have e:(j13 F S ys p w t).e=(j12 F S ys p w t).e:=kS_k h
 exact f_j13 F S ys p w t (by rw [e]; exact h)
theorem f_j11 (h:(j11 F S ys p w t).e≠0):(j17 F S ys p w t).e≠0:=by
 have e:(j12 F S ys p w t).e=(j11 F S ys p w t).e:=kS_k h
 exact f_j12 F S ys p w t (by rw [e]; exact h)
theorem f_j10 (h:(j10 F S ys p w t).e≠0):(j17 F S ys p w t).e≠0:=by
 have e:(j11 F S ys p w t).e=(j10 F S ys p w t).e:=kS_k h
 exact f_j11 F S ys p w t (by rw [e]; exact h)
theorem f_j9 (h:(j9 F S ys p w t).e≠0):(j17 F S ys p w t).e≠0:=by
 have e:(j10 F S ys p w t).e=(j9 F S ys p w t).e:=kS_k h
 exact f_j10 F S ys p w t (by rw [e]; exact h)
theorem f_j8 (h:(j8 F S ys p w t).e≠0):(j17 F S ys p w t).e≠0:=by
 have e:(j9 F S ys p w t).e=(j8 F S ys p w t).e:=kS_k h
 exact f_j9 F S ys p w t (by rw [e]; exact h)
theorem f_j7 (h:(j7 F S ys p w t).e≠0):(j17 F S ys p w t).e≠0:=by
 have e:(j8 F S ys p w t).e=(j7 F S ys p w t).e:=kS_k h
 exact f_j8 F S ys p w t (by rw [e]; exact h)
theorem f_j6 (h:(j6 F S ys p w t).e≠0):(j17 F S ys p w t).e≠0:=by
 have e:(j7 F S ys p w t).e=(j6 F S ys p w t).e:=kS_k h
 exact f_j7 F S ys p w t (by rw [e]; exact h)
theorem f_j5 (h:(j5 F S ys p w t).e≠0):(j17 F S ys p w t).e≠0:=by
 have e:(j6 F S ys p w t).e=(j5 F S ys p w t).e:=kS_k h
 exact f_j6 F S ys p w t (by rw [e]; exact h)
theorem f_j4 (h:(j4 F p w t).e≠0):(j17 F S ys p w t).e≠0:=by
 have e:(j5 F S ys p w t).e=(j4 F p w t).e:=kS_k h
 exact f_j5 F S ys p w t (by rw [e]; exact h)
theorem f_j3 (h:(j3 F p w t).e≠0):(j17 F S ys p w t).e≠0:=by
 have e:(j4 F p w t).e=(j3 F p w t).e:=kS_k h
 exact f_j4 F S ys p w t (by rw [e]; exact h)
theorem f_j2 (h:(j2 F p w t).e≠0):(j17 F S ys p w t).e≠0:=by
 have e:(j3 F p w t).e=(j2 F p w t).e:=kS_k h
 exact f_j3 F S ys p w t (by rw [e]; exact h)
theorem f_j1 (h:(j1 F w t).e≠0):(j17 F S ys p w t).e≠0:=by
 have e:(j2 F p w t).e=(j1 F w t).e:=kS_k h
 exact f_j2 F S ys p w t (by rw [e]; exact h)
def jIs:Bool:=bif ok0 (F.md t.lo t.hi) then bif jV F S ys p w t 4==0 then (j17 F S ys p w t).e==0 else false else false
def jSel (x:Int):Int:=bif ok0 (F.md t.lo t.hi) then bif jV F S ys p w t 4==0 then x else x else x
theorem jSel_eq (x:Int):jSel F S ys p w t x=x:=by
 unfold jSel
 cases ok0 (F.md t.lo t.hi) <;> cases jV F S ys p w t 4==0 <;> rfl
def jAv:AV:=.tuple [.agg [.int true .i64 (jSel F S ys p w t (j17 F S ys p w t).lo),.int true .i64 (jSel F S ys p w t (j17 F S ys p w t).hi)],.bool true (jIs F S ys p w t)]
theorem nearR_st:nearR F S ys p w t=(st (F.md t.lo t.hi) <| st (p1 F p w (nU F t) (nU F t)) <| st (p2 F p w (nU F t) (nU F t)) <| st (p3 F p w (nU F t) (nU F t)) <| st (p4 F p w (nU F t) (nU F t)) <| st (nZ F S ys p w t) <| st (p5 F p w (nU F t) (nU F t)) <| st (nE F S ys p w t) <| st (p1 F p w t.lo t.hi) <| st (p2 F p w t.lo t.hi) <| st (p3 F p w t.lo t.hi) <| st (p4 F p w t.lo t.hi) <| bif nV F S ys p w t 4==0 then (st (nX F S ys p w t) <| st (nD1 F S ys p w t) <| st (nY F S ys p w t) <| st (nD F S ys p w t) <| st (nQ F S ys p w t) <| st (nR F S ys p w t) <| .ok ⟨(nR F S ys p w t).lo,(nR F S ys p w t).hi⟩) else .error 2):=by
 simp only [nearR,add,mul,sub,div,op_bind]
 have fin:∀ s:Sp,op s=st s (.ok ⟨s.lo,s.hi⟩):=fun _=>rfl
 simp only [fin]
 rfl
theorem nearR_two:(jIs F S ys p w t=true/\nearR F S ys p w t=.ok ⟨(j17 F S ys p w t).lo,(j17 F S ys p w t).hi⟩)\/(jIs F S ys p w t=false/\∃ c,nearR F S ys p w t=.error c):=by
 rw [nearR_st]
 have no:(j17 F S ys p w t).e≠0->jIs F S ys p w t=false:=fun h=>by
  have:((j17 F S ys p w t).e==0)=false:=by simpa using h
  unfold jIs
  rw [this]
  cases ok0 (F.md t.lo t.hi) <;> cases jV F S ys p w t 4==0 <;> rfl
 rcases st_two (F.md t.lo t.hi) with ⟨xm,ym⟩|⟨xm,ym⟩
 rotate_left
 .rw [ym]
  have:ok0 (F.md t.lo t.hi)=false:=by unfold ok0; simpa using xm
  exact .inr ⟨by unfold jIs; rw [this]; rfl,_,rfl⟩
 rw [ym]
 have mok:ok0 (F.md t.lo t.hi)=true:=by unfold ok0; rw [xm]; rfl
 rcases st_two (p1 F p w (nU F t) (nU F t)) with ⟨x0,y0⟩|⟨x0,y0⟩
 rotate_left
 .rw [y0]
  have q:(j1 F w t)=kS 0 (p1 F p w (nU F t) (nU F t)):=by
   show kS 0 (F.mu (nU F t) (nU F t) w.a w.b)=_
   rfl
  exact .inr ⟨no (f_j1 F S ys p w t (by rw [q,kS_e x0]; exact x0)),_,rfl⟩
 rw [y0]
 have q0:(j1 F w t)=p1 F p w (nU F t) (nU F t):=by
  show kS 0 (F.mu (nU F t) (nU F t) w.a w.b)=_
  exact kS_0 x0
 have z0:(j1 F w t).e=0:=by rw [q0]; exact x0
 rcases st_two (p2 F p w (nU F t) (nU F t)) with ⟨x1,y1⟩|⟨x1,y1⟩
 rotate_left
 .rw [y1]
  have q:(j2 F p w t)=kS 0 (p2 F p w (nU F t) (nU F t)):=by
   show kS (j1 F w t).e (F.ad p.a p.b (j1 F w t).lo (j1 F w t).hi)=_
   rw [z0,q0]
   rfl
  exact .inr ⟨no (f_j2 F S ys p w t (by rw [q,kS_e x1]; exact x1)),_,rfl⟩
 rw [y1]
 have q1:(j2 F p w t)=p2 F p w (nU F t) (nU F t):=by
  show kS (j1 F w t).e (F.ad p.a p.b (j1 F w t).lo (j1 F w t).hi)=_
  rw [z0,q0]
  exact kS_0 x1
 have z1:(j2 F p w t).e=0:=by rw [q1]; exact x1
 rcases st_two (p3 F p w (nU F t) (nU F t)) with ⟨x2,y2⟩|⟨x2,y2⟩
 rotate_left
 .rw [y2]
  have q:(j3 F p w t)=kS 0 (p3 F p w (nU F t) (nU F t)):=by
   show kS (j2 F p w t).e (F.mu (nU F t) (nU F t) w.c w.d)=_
   rw [z1]
   rfl
  exact .inr ⟨no (f_j3 F S ys p w t (by rw [q,kS_e x2]; exact x2)),_,rfl⟩
 rw [y2]
 have q2:(j3 F p w t)=p3 F p w (nU F t) (nU F t):=by
  show kS (j2 F p w t).e (F.mu (nU F t) (nU F t) w.c w.d)=_
  rw [z1]
  exact kS_0 x2
 have z2:(j3 F p w t).e=0:=by rw [q2]; exact x2
 rcases st_two (p4 F p w (nU F t) (nU F t)) with ⟨x3,y3⟩|⟨x3,y3⟩
 rotate_left
 .rw [y3]
  have q:(j4 F p w t)=kS 0 (p4 F p w (nU F t) (nU F t)):=by
   show kS (j3 F p w t).e (F.ad p.c p.d (j3 F p w t).lo (j3 F p w t).hi)=_
   rw [z2,q2]
   rfl
  exact .inr ⟨no (f_j4 F S ys p w t (by rw [q,kS_e x3]; exact x3)),_,rfl⟩
 rw [y3]
 have q3:(j4 F p w t)=p4 F p w (nU F t) (nU F t):=by
  show kS (j3 F p w t).e (F.ad p.c p.d (j3 F p w t).lo (j3 F p w t).hi)=_
  rw [z2,q2]
  exact kS_0 x3
 have z3:(j4 F p w t).e=0:=by rw [q3]; exact x3
 rcases st_two (nZ F S ys p w t) with ⟨x4,y4⟩|⟨x4,y4⟩
 rotate_left
 .rw [y4]
  have q:(j5 F S ys p w t)=kS 0 (nZ F S ys p w t):=by
   show kS (j4 F p w t).e (F.sg S ys (j2 F p w t).lo (j2 F p w t).hi (j4 F p w t).lo (j4 F p w t).hi)=_
   rw [z3,q1,q3]
   rfl
  exact .inr ⟨no (f_j5 F S ys p w t (by rw [q,kS_e x4]; exact x4)),_,rfl⟩
 rw [y4]
 have q4:(j5 F S ys p w t)=nZ F S ys p w t:=by
  show kS (j4 F p w t).e (F.sg S ys (j2 F p w t).lo (j2 F p w t).hi (j4 F p w t).lo (j4 F p w t).hi)=_
  rw [z3,q1,q3]
  exact kS_0 x4
 have z4:(j5 F S ys p w t).e=0:=by rw [q4]; exact x4
 rcases st_two (p5 F p w (nU F t) (nU F t)) with ⟨x5,y5⟩|⟨x5,y5⟩
 rotate_left
 .rw [y5]
  have q:(j6 F S ys p w t)=kS 0 (p5 F p w (nU F t) (nU F t)):=by
   show kS (j5 F S ys p w t).e (F.mu (nU F t) (nU F t) w.e w.f)=_
   rw [z4]
   rfl
  exact .inr ⟨no (f_j6 F S ys p w t (by rw [q,kS_e x5]; exact x5)),_,rfl⟩
 rw [y5]
 have q5:(j6 F S ys p w t)=p5 F p w (nU F t) (nU F t):=by
  show kS (j5 F S ys p w t).e (F.mu (nU F t) (nU F t) w.e w.f)=_
  rw [z4]
  exact kS_0 x5
 have z5:(j6 F S ys p w t).e=0:=by rw [q5]; exact x5
 rcases st_two (nE F S ys p w t) with ⟨x6,y6⟩|⟨x6,y6⟩
 rotate_left
 .rw [y6]
  have q:(j7 F S ys p w t)=kS 0 (nE F S ys p w t):=by
   show kS (j6 F S ys p w t).e (F.su (j6 F S ys p w t).lo (j6 F S ys p w t).hi (j5 F S ys p w t).lo (j5 F S ys p w t).hi)=_
   rw [z5,q5,q4]
   rfl
  exact .inr ⟨no (f_j7 F S ys p w t (by rw [q,kS_e x6]; exact x6)),_,rfl⟩
 rw [y6]
 have q6:(j7 F S ys p w t)=nE F S ys p w t:=by
  show kS (j6 F S ys p w t).e (F.su (j6 F S ys p w t).lo (j6 F S ys p w t).hi (j5 F S ys p w t).lo (j5 F S ys p w t).hi)=_
  rw [z5,q5,q4]
  exact kS_0 x6
 have z6:(j7 F S ys p w t).e=0:=by rw [q6]; exact x6
 rcases st_two (p1 F p w t.lo t.hi) with ⟨x7,y7⟩|⟨x7,y7⟩
 rotate_left
 .rw [y7]
  have q:(j8 F S ys p w t)=kS 0 (p1 F p w t.lo t.hi):=by
   show kS (j7 F S ys p w t).e (F.mu t.lo t.hi w.a w.b)=_
   rw [z6]
   rfl
  exact .inr ⟨no (f_j8 F S ys p w t (by rw [q,kS_e x7]; exact x7)),_,rfl⟩
 rw [y7]
 have q7:(j8 F S ys p w t)=p1 F p w t.lo t.hi:=by
  show kS (j7 F S ys p w t).e (F.mu t.lo t.hi w.a w.b)=_
  rw [z6]
  exact kS_0 x7
 have z7:(j8 F S ys p w t).e=0:=by rw [q7]; exact x7
 rcases st_two (p2 F p w t.lo t.hi) with ⟨x8,y8⟩|⟨x8,y8⟩
 rotate_left
 .rw [y8]
  have q:(j9 F S ys p w t)=kS 0 (p2 F p w t.lo t.hi):=by
   show kS (j8 F S ys p w t).e (F.ad p.a p.b (j8 F S ys p w t).lo (j8 F S ys p w t).hi)=_
   rw [z7,q7]
   rfl
  exact .inr ⟨no (f_j9 F S ys p w t (by rw [q,kS_e x8]; exact x8)),_,rfl⟩
 rw [y8]
 have q8:(j9 F S ys p w t)=p2 F p w t.lo t.hi:=by
  show kS (j8 F S ys p w t).e (F.ad p.a p.b (j8 F S ys p w t).lo (j8 F S ys p w t).hi)=_
  rw [z7,q7]
  exact kS_0 x8
 have z8:(j9 F S ys p w t).e=0:=by rw [q8]; exact x8
 rcases st_two (p3 F p w t.lo t.hi) with ⟨x9,y9⟩|⟨x9,y9⟩
 rotate_left
 .rw [y9]
  have q:(j10 F S ys p w t)=kS 0 (p3 F p w t.lo t.hi):=by
   show kS (j9 F S ys p w t).e (F.mu t.lo t.hi w.c w.d)=_
   rw [z8]
   rfl
  exact .inr ⟨no (f_j10 F S ys p w t (by rw [q,kS_e x9]; exact x9)),_,rfl⟩
 rw [y9]
 have q9:(j10 F S ys p w t)=p3 F p w t.lo t.hi:=by
  show kS (j9 F S ys p w t).e (F.mu t.lo t.hi w.c w.d)=_
  rw [z8]
  exact kS_0 x9
 have z9:(j10 F S ys p w t).e=0:=by rw [q9]; exact x9
 rcases st_two (p4 F p w t.lo t.hi) with ⟨x10,y10⟩|⟨x10,y10⟩
 rotate_left
 .rw [y10]
  have q:(j11 F S ys p w t)=kS 0 (p4 F p w t.lo t.hi):=by
   show kS (j10 F S ys p w t).e (F.ad p.c p.d (j10 F S ys p w t).lo (j10 F S ys p w t).hi)=_
   rw [z9,q9]
   rfl
  exact .inr ⟨no (f_j11 F S ys p w t (by rw [q,kS_e x10]; exact x10)),_,rfl⟩
 rw [y10]
 have q10:(j11 F S ys p w t)=p4 F p w t.lo t.hi:=by
  show kS (j10 F S ys p w t).e (F.ad p.c p.d (j10 F S ys p w t).lo (j10 F S ys p w t).hi)=_
  rw [z9,q9]
  exact kS_0 x10
 have z10:(j11 F S ys p w t).e=0:=by rw [q10]; exact x10
 have hv:∀ i,jV F S ys p w t i=nV F S ys p w t i:=fun i=>by
  show F.sl S ys (j9 F S ys p w t).lo (j9 F S ys p w t).hi (j11 F S ys p w t).lo (j11 F S ys p w t).hi i=_
  rw [q8,q10]
  rfl
 cases hs:nV F S ys p w t 4==0 with
 | false=>exact .inr ⟨by unfold jIs; rw [mok,hv,hs]; rfl,_,rfl⟩
 | true=>
 simp only [cond_true]
 rcases st_two (nX F S ys p w t) with ⟨x11,y11⟩|⟨x11,y11⟩
 rotate_left
 .rw [y11]
  have q:(j12 F S ys p w t)=kS 0 (nX F S ys p w t):=by
   show kS (j11 F S ys p w t).e (F.mu (jV F S ys p w t 0) (jV F S ys p w t 1) w.a w.b)=_
   rw [z10,hv,hv]
   rfl
  exact .inr ⟨no (f_j12 F S ys p w t (by rw [q,kS_e x11]; exact x11)),_,rfl⟩
 rw [y11]
 have q11:(j12 F S ys p w t)=nX F S ys p w t:=by
  show kS (j11 F S ys p w t).e (F.mu (jV F S ys p w t 0) (jV F S ys p w t 1) w.a w.b)=_
  rw [z10,hv,hv]
  exact kS_0 x11
 have z11:(j12 F S ys p w t).e=0:=by rw [q11]; exact x11
 rcases st_two (nD1 F S ys p w t) with ⟨x12,y12⟩|⟨x12,y12⟩
 rotate_left
 .rw [y12]
  have q:(j13 F S ys p w t)=kS 0 (nD1 F S ys p w t):=by
   show kS (j12 F S ys p w t).e (F.su w.e w.f (j12 F S ys p w t).lo (j12 F S ys p w t).hi)=_
   rw [z11,q11]
   rfl
  exact .inr ⟨no (f_j13 F S ys p w t (by rw [q,kS_e x12]; exact x12)),_,rfl⟩
 rw [y12]
 have q12:(j13 F S ys p w t)=nD1 F S ys p w t:=by
  show kS (j12 F S ys p w t).e (F.su w.e w.f (j12 F S ys p w t).lo (j12 F S ys p w t).hi)=_
  rw [z11,q11]
  exact kS_0 x12
 have z12:(j13 F S ys p w t).e=0:=by rw [q12]; exact x12
 rcases st_two (nY F S ys p w t) with ⟨x13,y13⟩|⟨x13,y13⟩
 rotate_left
 .rw [y13]
  have q:(j14 F S ys p w t)=kS 0 (nY F S ys p w t):=by
   show kS (j13 F S ys p w t).e (F.mu (jV F S ys p w t 2) (jV F S ys p w t 3) w.c w.d)=_
   rw [z12,hv,hv]
   rfl
  exact .inr ⟨no (f_j14 F S ys p w t (by rw [q,kS_e x13]; exact x13)),_,rfl⟩
 rw [y13]
 have q13:(j14 F S ys p w t)=nY F S ys p w t:=by
  show kS (j13 F S ys p w t).e (F.mu (jV F S ys p w t 2) (jV F S ys p w t 3) w.c w.d)=_
  rw [z12,hv,hv]
  exact kS_0 x13
 have z13:(j14 F S ys p w t).e=0:=by rw [q13]; exact x13
 rcases st_two (nD F S ys p w t) with ⟨x14,y14⟩|⟨x14,y14⟩
 rotate_left
 .rw [y14]
  have q:(j15 F S ys p w t)=kS 0 (nD F S ys p w t):=by
   show kS (j14 F S ys p w t).e (F.su (j13 F S ys p w t).lo (j13 F S ys p w t).hi (j14 F S ys p w t).lo (j14 F S ys p w t).hi)=_
   rw [z13,q12,q13]
   rfl
  exact .inr ⟨no (f_j15 F S ys p w t (by rw [q,kS_e x14]; exact x14)),_,rfl⟩
 rw [y14]
 have q14:(j15 F S ys p w t)=nD F S ys p w t:=by
  show kS (j14 F S ys p w t).e (F.su (j13 F S ys p w t).lo (j13 F S ys p w t).hi (j14 F S ys p w t).lo (j14 F S ys p w t).hi)=_
  rw [z13,q12,q13]
  exact kS_0 x14
 have z14:(j15 F S ys p w t).e=0:=by rw [q14]; exact x14
 rcases st_two (nQ F S ys p w t) with ⟨x15,y15⟩|⟨x15,y15⟩
 rotate_left
 .rw [y15]
  have q:(j16 F S ys p w t)=kS 0 (nQ F S ys p w t):=by
   show kS (j15 F S ys p w t).e (F.di (j7 F S ys p w t).lo (j7 F S ys p w t).hi (j15 F S ys p w t).lo (j15 F S ys p w t).hi)=_
   rw [z14,q6,q14]
   rfl
  exact .inr ⟨no (f_j16 F S ys p w t (by rw [q,kS_e x15]; exact x15)),_,rfl⟩
 rw [y15]
 have q15:(j16 F S ys p w t)=nQ F S ys p w t:=by
  show kS (j15 F S ys p w t).e (F.di (j7 F S ys p w t).lo (j7 F S ys p w t).hi (j15 F S ys p w t).lo (j15 F S ys p w t).hi)=_
  rw [z14,q6,q14]
  exact kS_0 x15
 have z15:(j16 F S ys p w t).e=0:=by rw [q15]; exact x15
 rcases st_two (nR F S ys p w t) with ⟨x16,y16⟩|⟨x16,y16⟩
 rotate_left
 .rw [y16]
  have q:(j17 F S ys p w t)=kS 0 (nR F S ys p w t):=by
   show kS (j16 F S ys p w t).e (F.su (nU F t) (nU F t) (j16 F S ys p w t).lo (j16 F S ys p w t).hi)=_
   rw [z15,q15]
   rfl
  exact .inr ⟨no (f_j17 F S ys p w t (by rw [q,kS_e x16]; exact x16)),_,rfl⟩
 rw [y16]
 have q16:(j17 F S ys p w t)=nR F S ys p w t:=by
  show kS (j16 F S ys p w t).e (F.su (nU F t) (nU F t) (j16 F S ys p w t).lo (j16 F S ys p w t).hi)=_
  rw [z15,q15]
  exact kS_0 x16
 have z16:(j17 F S ys p w t).e=0:=by rw [q16]; exact x16
 left
 refine ⟨?_,by rw [q16]⟩
 unfold jIs
 rw [mok,hv,hs,z16]
 rfl
end
end Go.Ht
