/- What is proved: a law of hits returns true, whatever the input (part 14). No conditions beyond those of the row. -/
import Derived.Test.YtjmhddncomglmaaGreatDoorPH
import Derived.Test.YtjmhddncomglmaaGreatDoorPM
set_option linter.unusedVariables false
set_option linter.unusedSimpArgs false
set_option linter.unusedSectionVars false
namespace Go.Rd
open Go Go.Eng Go.Ar
def vs (s:Sp):Sp:=⟨s.lo,s.hi,0⟩
def badS:Sp:=⟨1,0,0⟩
structure Reg (r:Sp) (c:Bool) (s:Sp):Prop where
 eq:r=bif c then vs s else badS
 ri:c=true->Ri s
theorem Reg.t {r s:Sp} {c:Bool} (h:Reg r c s) (hc:c=true):r.lo=s.lo/\r.hi=s.hi/\Ri s:=by
 have e:=h.eq
 rw [hc] at e
 subst e
 exact ⟨rfl,rfl,h.ri hc⟩
theorem Reg.f {r s:Sp} {c:Bool} (h:Reg r c s) (hc:c=false):r=badS:=by
 have e:=h.eq
 rw [hc] at e
 exact e
theorem Reg.cases {r s:Sp} {c:Bool} (h:Reg r c s):(c=true/\r.lo=s.lo/\r.hi=s.hi/\Ri s)\/(c=false/\r=badS):=by
 cases c with
 | true=>exact .inl ⟨rfl,h.t rfl⟩
 | false=>exact .inr ⟨rfl,h.f rfl⟩
theorem kB_of (s:Sp) (hr:z0 s=true->Ri s):Reg (kB s) (z0 s) s:=by
 refine ⟨?_,hr⟩
 unfold kB z0 vs badS
 cases h:s.e==0 with
 | true=>simp [bne,h]
 | false=>simp [bne,h]
theorem kB_err {s:Sp} (h:s.e≠0):kB s=badS:=by
 unfold kB badS
 rw [bne0 h]; rfl
theorem bad_not:okSp badS.lo badS.hi=false:=by decide
theorem Reg.chk {r s:Sp} {c:Bool} (h:Reg r c s):(chkS r.lo r.hi != 0)=!c:=by
 rcases h.cases with ⟨rfl,h1,h2,h3⟩|⟨rfl,rfl⟩
 .unfold chkS; rw [h1,h2,h3.ok]; rfl
 .rfl
theorem Reg.one {s:Sp} (h:Ri s):Reg (vs s) true s:=⟨rfl,fun _=>h⟩
theorem Reg.const {n:Int} (h:Ri ⟨n,n,0⟩):Reg ⟨n,n,0⟩ true ⟨n,n,0⟩:=⟨rfl,fun _=>h⟩
theorem Reg.bin {F:Int->Int->Int->Int->Sp} (hF:∀ a b c d,(okSp a b&&okSp c d)=false->(F a b c d).e≠0) (hR:∀ {s t:Sp},Ri s->Ri t->(F s.lo s.hi t.lo t.hi).e=0->Ri (F s.lo s.hi t.lo t.hi)) {r s q t:Sp} {c d:Bool} (h:Reg r c s) (k:Reg q d t):
  Reg (kB (F r.lo r.hi q.lo q.hi)) (c&&d&&z0 (F s.lo s.hi t.lo t.hi)) (F s.lo s.hi t.lo t.hi):=by
 rcases h.cases with ⟨rfl,h1,h2,h3⟩|⟨rfl,rfl⟩
 .rcases k.cases with ⟨rfl,k1,k2,k3⟩|⟨rfl,rfl⟩
  .rw [h1,h2,k1,k2]
   exact kB_of _ fun z=>hR h3 k3 (z0e z)
  .rw [kB_err (hF _ _ _ _ (by rw [bad_not,Bool.and_false]))]
   exact ⟨rfl,fun h=>by cases h⟩
 .rw [kB_err (hF _ _ _ _ (by rw [bad_not,Bool.false_and]))]
  exact ⟨rfl,fun h=>by cases h⟩
theorem both_e {a b c d:Int} {x:Sp} (h:(okSp a b&&okSp c d)=false):(both a b c d x).e≠0:=by
 unfold both
 rw [h]
 exact fun h=>by cases h
theorem Reg.add {r s q t:Sp} {c d:Bool} (h:Reg r c s) (k:Reg q d t):Reg (kB (addS r.lo r.hi q.lo q.hi)) (c&&d&&z0 (addS s.lo s.hi t.lo t.hi)) (addS s.lo s.hi t.lo t.hi):=Reg.bin (F:=addS) (fun _ _ _ _ h=>both_e h) r_add h k
theorem Reg.sub {r s q t:Sp} {c d:Bool} (h:Reg r c s) (k:Reg q d t):Reg (kB (subS r.lo r.hi q.lo q.hi)) (c&&d&&z0 (subS s.lo s.hi t.lo t.hi)) (subS s.lo s.hi t.lo t.hi):=Reg.bin (F:=subS) (fun _ _ _ _ h=>both_e h) r_sub h k
theorem Reg.mul {r s q t:Sp} {c d:Bool} (h:Reg r c s) (k:Reg q d t):Reg (kB (mulS r.lo r.hi q.lo q.hi)) (c&&d&&z0 (mulS s.lo s.hi t.lo t.hi)) (mulS s.lo s.hi t.lo t.hi):=Reg.bin (F:=mulS) (fun _ _ _ _ h=>both_e h) r_mul h k
theorem Reg.div {r s q t:Sp} {c d:Bool} (h:Reg r c s) (k:Reg q d t):Reg (kB (divS r.lo r.hi q.lo q.hi)) (c&&d&&z0 (divS s.lo s.hi t.lo t.hi)) (divS s.lo s.hi t.lo t.hi):=Reg.bin (F:=divS) (fun _ _ _ _ h=>both_e h) r_div h k
theorem Reg.sqr {r s:Sp} {c:Bool} (h:Reg r c s):Reg (kB (sqrS r.lo r.hi)) (c&&z0 (sqrS s.lo s.hi)) (sqrS s.lo s.hi):=by
 rcases h.cases with ⟨rfl,h1,h2,h3⟩|⟨rfl,rfl⟩
 .rw [h1,h2]; exact kB_of _ fun z=>r_sqr h3 (z0e z)
 .exact ⟨by unfold sqrS; rw [bad_not]; rfl,fun h=>by cases h⟩
theorem Reg.root {r s:Sp} {c:Bool} (h:Reg r c s):Reg (kB (sqrtS r.lo r.hi)) (c&&z0 (sqrtS s.lo s.hi)) (sqrtS s.lo s.hi):=by
 rcases h.cases with ⟨rfl,h1,h2,h3⟩|⟨rfl,rfl⟩
 .rw [h1,h2]; exact kB_of _ fun z=>r_rt h3 (z0e z)
 .exact ⟨by unfold sqrtS; rw [bad_not]; rfl,fun h=>by cases h⟩
theorem Reg.sc {r s:Sp} {c:Bool} {n d:Int} (h:Reg r c s) (k:okSc n d):Reg (kB (scaleS r.lo r.hi n d)) (c&&z0 (xScaleS s.lo s.hi n d)) (xScaleS s.lo s.hi n d):=by
 rcases h.cases with ⟨rfl,h1,h2,h3⟩|⟨rfl,rfl⟩
 .rw [h1,h2,<- sc_eq k]; exact kB_of _ fun z=>r_sc h3 k (z0e z)
 .exact ⟨by unfold scaleS; rw [bad_not]; rfl,fun h=>by cases h⟩
theorem Reg.imp {r s:Sp} {c d:Bool} (h:Reg r c s) (e:c=d):Reg r d s:=e ▸ h
theorem Reg.to {r s t:Sp} {c:Bool} (h:Reg r c s) (e:c=true->s.lo=t.lo/\s.hi=t.hi):Reg r c t:=by
 rcases h.cases with ⟨rfl,h1,h2,h3⟩|⟨rfl,rfl⟩
 .obtain ⟨e1,e2⟩:=e rfl
  refine ⟨?_,fun _=>⟨by rw [<- e1]; exact h3.lo,by rw [<- e1,<- e2]; exact h3.le,by rw [<- e2]; exact h3.hi⟩⟩
  have:=h.eq
  rw [this]
  show vs s=vs t
  unfold vs
  rw [e1,e2]
 .exact ⟨rfl,fun h=>by cases h⟩
theorem add0 {s:Sp} (h:Ri s):addS 0 0 s.lo s.hi=vs s:=by
 unfold addS both toldS
 rw [show okSp 0 0=true by decide,h.ok]
 have h1:=h.lo
 have h2:=h.le
 have h3:=h.hi
 rw [Int.zero_add,Int.zero_add,okF_iff.2 (by omega),okF_iff.2 (by omega)]
 rfl
theorem add0' {s:Sp} (h:Ri s):addS s.lo s.hi 0 0=vs s:=by
 unfold addS both toldS
 rw [show okSp 0 0=true by decide,h.ok]
 have h1:=h.lo
 have h2:=h.le
 have h3:=h.hi
 rw [Int.add_zero,Int.add_zero,okF_iff.2 (by omega),okF_iff.2 (by omega)]
 rfl
theorem mul00 {v:Sp} (h:Ri v):mulS 0 0 v.lo v.hi=⟨0,0,0⟩:=by
 unfold mulS both
 rw [show okSp 0 0=true by decide,h.ok]
 unfold hull4 mF
 simp only [Int.zero_mul]
 rfl
theorem ev1_eq {v c:Sp} (hv:Ri v) (h:Ri c):ev1 v c=vs c:=by
 unfold ev1 evS
 simp only [mul00 hv]
 show (⟨(addS 0 0 c.lo c.hi).lo,(addS 0 0 c.lo c.hi).hi,(addS 0 0 c.lo c.hi).e⟩:Sp)=vs c
 rw [add0 h]
theorem evS_e0 {a v c:Sp} (h:(evS a v c).e=0):(mulS a.lo a.hi v.lo v.hi).e=0/\(addS (mulS a.lo a.hi v.lo v.hi).lo (mulS a.lo a.hi v.lo v.hi).hi c.lo c.hi).e=0/\evS a v c=addS (mulS a.lo a.hi v.lo v.hi).lo (mulS a.lo a.hi v.lo v.hi).hi c.lo c.hi:=by
 have e0:(mulS a.lo a.hi v.lo v.hi).e=0:=by
  rcases Decidable.em ((mulS a.lo a.hi v.lo v.hi).e=0) with d|d
  .exact d
  .unfold evS at h
   simp only [beq0 d,cond_false] at h
   exact h
 have e:evS a v c=addS (mulS a.lo a.hi v.lo v.hi).lo (mulS a.lo a.hi v.lo v.hi).hi c.lo c.hi:=by
  unfold evS
  simp only [e0]
  rfl
 exact ⟨e0,by rw [<- e]; exact h,e⟩
theorem evS_0 {a v c:Sp} (h:(mulS a.lo a.hi v.lo v.hi).e=0):evS a v c=addS (mulS a.lo a.hi v.lo v.hi).lo (mulS a.lo a.hi v.lo v.hi).hi c.lo c.hi:=by
 unfold evS
 simp only [h]
 rfl
theorem rB_f {s:Sp} (h:s.e=0):rB s=false:=by unfold rB; rw [h]; rfl
theorem rB_t {s:Sp} (h:rB s=false):s.e=0:=by unfold rB at h; simpa using h
theorem rB_n {s:Sp} (h:rB s=true):s.e≠0:=by unfold rB at h; simpa using h
theorem Reg.eval {r0 r1 r2 r3 rv s0 s1 s2 s3 v:Sp} {c0 c1 c2 c3 cv:Bool} (h0:Reg r0 c0 s0) (h1:Reg r1 c1 s1) (h2:Reg r2 c2 s2) (h3:Reg r3 c3 s3) (hv:Reg rv cv v):
  Reg (kB (rEv r0.lo r0.hi r1.lo r1.hi r2.lo r2.hi r3.lo r3.hi rv.lo rv.hi)) ((c0&&(c1&&(c2&&c3)))&&cv&&z0 (evalS v s0 s1 s2 s3)) (evalS v s0 s1 s2 s3):=by
 cases hc:((c0&&(c1&&(c2&&c3)))&&cv) with
 | false=>
  have key:rE0 r0.lo r0.hi r1.lo r1.hi r2.lo r2.hi r3.lo r3.hi rv.lo rv.hi=20:=by
   have ok:∀ {r s:Sp} {c:Bool},Reg r c s->okSp r.lo r.hi=c:=fun {r s c} h=>by
    rcases h.cases with ⟨rfl,a1,a2,a3⟩|⟨rfl,rfl⟩
    .rw [a1,a2]; exact a3.ok
    .rfl
   unfold rE0
   rw [ok h0,ok h1,ok h2,ok h3]
   simp only [Bool.not_not]
   cases hd:(c0&&(c1&&(c2&&c3))) with
   | true=>
    rw [hd,Bool.true_and] at hc
    unfold chkS
    rw [ok hv,hc]
    rfl
   | false=>rfl
  rw [kB_err]
  .exact ⟨rfl,fun h=>by cases h⟩
  .unfold rEv rP1
   rw [key]
   exact fun h=>by cases h
 | true=>
  simp only [Bool.and_eq_true] at hc
  obtain ⟨⟨k0,k1,k2,k3⟩,kv⟩:=hc
  obtain ⟨a0,b0,i0⟩:=h0.t k0
  obtain ⟨a1,b1,i1⟩:=h1.t k1
  obtain ⟨a2,b2,i2⟩:=h2.t k2
  obtain ⟨a3,b3,i3⟩:=h3.t k3
  obtain ⟨av,bv,iv⟩:=hv.t kv
  rw [a0,b0,a1,b1,a2,b2,a3,b3,av,bv]
  have p1:rP1 s0.lo s0.hi s1.lo s1.hi s2.lo s2.hi s3.lo s3.hi v.lo v.hi=false:=by
   unfold rP1 rE0 chkS
   rw [i0.ok,i1.ok,i2.ok,i3.ok,iv.ok]; rfl
  rw [Bool.true_and]
  have e2:ev2 v s2 s3=evS s3 v s2:=by
   unfold ev2
   rw [ev1_eq iv i3]
   rfl
  rcases Decidable.em ((evalS v s0 s1 s2 s3).e=0) with hz|hz
  .obtain ⟨d1,d2,d3,d4⟩:=evG_ok hz
   have ee:=evG_of d1 d2 d3 d4
   rw [e2] at d2
   obtain ⟨m1,n1,q1⟩:=evS_e0 d2
   have e3:ev3 v s1 s2 s3=evS (rA1 s2.lo s2.hi s3.lo s3.hi v.lo v.hi) v s1:=by unfold ev3; rw [e2,q1]; rfl
   rw [e3] at d3
   obtain ⟨m2,n2,q2⟩:=evS_e0 d3
   have e4:ev4 v s0 s1 s2 s3=evS (rA2 s1.lo s1.hi s2.lo s2.hi s3.lo s3.hi v.lo v.hi) v s0:=by unfold ev4; rw [e3,q2]; rfl
   rw [e4] at d4
   obtain ⟨m3,n3,q3⟩:=evS_e0 d4
   have go:rGo s0.lo s0.hi s1.lo s1.hi s2.lo s2.hi s3.lo s3.hi v.lo v.hi=true:=by
    unfold rGo
    rw [rB_f (s:=rM1 ..) m1,rB_f (s:=rA1 ..) n1,rB_f (s:=rM2 ..) m2,rB_f (s:=rA2 ..) n2,rB_f (s:=rM3 ..) m3,rB_f (s:=rA3 ..) n3]; rfl
   have er:rEv s0.lo s0.hi s1.lo s1.hi s2.lo s2.hi s3.lo s3.hi v.lo v.hi=vs (evalS v s0 s1 s2 s3):=by
    unfold rEv
    rw [p1,go,ee,e4,q3]
    rfl
   rw [er]
   have:=kB_of (vs (evalS v s0 s1 s2 s3)) (fun _=>by
    have:=evl_r iv i0 i1 i2 i3 hz
    exact ⟨this.lo,this.le,this.hi⟩)
   refine ⟨?_,fun _=>evl_r iv i0 i1 i2 i3 hz⟩
   rw [zt hz]
   exact this.eq
  .have ez:z0 (evalS v s0 s1 s2 s3)=false:=by
    unfold z0
    exact beq0 hz
   rw [ez,kB_err]
   .exact ⟨rfl,fun h=>by cases h⟩
   .intro he
    apply hz
    unfold rEv at he
    simp only [p1,cond_false] at he
    have all:rB (rM1 s3.lo s3.hi v.lo v.hi)=false/\rB (rA1 s2.lo s2.hi s3.lo s3.hi v.lo v.hi)=false/\rB (rM2 s2.lo s2.hi s3.lo s3.hi v.lo v.hi)=false/\rB (rA2 s1.lo s1.hi s2.lo s2.hi s3.lo s3.hi v.lo v.hi)=false/\rB (rM3 s1.lo s1.hi s2.lo s2.hi s3.lo s3.hi v.lo v.hi)=false/\rB (rA3 s0.lo s0.hi s1.lo s1.hi s2.lo s2.hi s3.lo s3.hi v.lo v.hi)=false:=by
     unfold rGo rP12 at he
     cases f1:rB (rM1 s3.lo s3.hi v.lo v.hi) with
     | true=>rw [f1] at he; exact absurd he (rB_n f1)
     | false=>
      cases f2:rB (rA1 s2.lo s2.hi s3.lo s3.hi v.lo v.hi) with
      | true=>rw [f1,f2] at he; exact absurd he (rB_n f2)
      | false=>
       cases f3:rB (rM2 s2.lo s2.hi s3.lo s3.hi v.lo v.hi) with
       | true=>rw [f1,f2,f3] at he; exact absurd he (rB_n f3)
       | false=>
        cases f4:rB (rA2 s1.lo s1.hi s2.lo s2.hi s3.lo s3.hi v.lo v.hi) with
        | true=>rw [f1,f2,f3,f4] at he; exact absurd he (rB_n f4)
        | false=>
         cases f5:rB (rM3 s1.lo s1.hi s2.lo s2.hi s3.lo s3.hi v.lo v.hi) with
         | true=>rw [f1,f2,f3,f4,f5] at he; exact absurd he (rB_n f5)
         | false=>
          cases f6:rB (rA3 s0.lo s0.hi s1.lo s1.hi s2.lo s2.hi s3.lo s3.hi v.lo v.hi) with
          | true=>rw [f1,f2,f3,f4,f5,f6] at he; exact absurd he (rB_n f6)
          | false=>exact ⟨rfl,rfl,rfl,rfl,rfl,rfl⟩
    obtain ⟨m1,n1,m2,n2,m3,n3⟩:=all
    have x2:ev2 v s2 s3=rA1 s2.lo s2.hi s3.lo s3.hi v.lo v.hi:=by rw [e2]; exact evS_0 (rB_t m1)
    have x3:ev3 v s1 s2 s3=rA2 s1.lo s1.hi s2.lo s2.hi s3.lo s3.hi v.lo v.hi:=by unfold ev3; rw [x2]; exact evS_0 (rB_t m2)
    have x4:ev4 v s0 s1 s2 s3=rA3 s0.lo s0.hi s1.lo s1.hi s2.lo s2.hi s3.lo s3.hi v.lo v.hi:=by unfold ev4; rw [x3]; exact evS_0 (rB_t m3)
    rw [evG_of (by rw [ev1_eq iv i3]; rfl) (by rw [x2]; exact rB_t n1) (by rw [x3]; exact rB_t n2) (by rw [x4]; exact rB_t n3),x4]
    exact rB_t n3
end Go.Rd
namespace Go.Rd
open Go Go.Eng Go.Ar
section
variable (c k a0 a1 a2 a3 a b x y:Int)
def j0:Sp:=kB (sqrS a b)
def j1:Sp:=kB (sqrS x y)
def j2:Sp:=kB (addS (j0 a b).lo (j0 a b).hi (j1 x y).lo (j1 x y).hi)
def j3:Sp:=kB (scaleS (j2 a b x y).lo (j2 a b x y).hi c 1000000000)
def j4:Sp:=kB (scaleS (j3 c a b x y).lo (j3 c a b x y).hi c 1000000000)
def j5:Sp:=kB (scaleS (j4 c a b x y).lo (j4 c a b x y).hi (IntKind.i64.wrap (1000000+k)) 1000000)
def j6:Sp:=kB (subS 4294967296 4294967296 (j5 c k a b x y).lo (j5 c k a b x y).hi)
def j7:Sp:=kB (sqrtS (j6 c k a b x y).lo (j6 c k a b x y).hi)
def j9:Sp:=kB (addS 4294967296 4294967296 (j7 c k a b x y).lo (j7 c k a b x y).hi)
def j10:Sp:=kB (divS (j3 c a b x y).lo (j3 c a b x y).hi (j9 c k a b x y).lo (j9 c k a b x y).hi)
def jb:Bool:=chkS (j6 c k a b x y).lo (j6 c k a b x y).hi != 0
def jn:Bool:=decide ((j6 c k a b x y).lo<=0)
def jout:Bool:=bif jb c k a b x y then false else bif jn c k a b x y then true else false
def jz:Sp:=⟨bif jb c k a b x y then 1 else bif jn c k a b x y then 1 else (j10 c k a b x y).lo,bif jb c k a b x y then 0 else bif jn c k a b x y then 0 else (j10 c k a b x y).hi,0⟩
def jh:Sp:=kB (scaleS (j2 a b x y).lo (j2 a b x y).hi 1 100)
def jc (n:Int):Sp:=kB (scaleS 4294967296 4294967296 n 1000000)
def je:Sp:=kB (rEv (jc a0).lo (jc a0).hi (jc a1).lo (jc a1).hi (jc a2).lo (jc a2).hi (jc a3).lo (jc a3).hi (jh a b x y).lo (jh a b x y).hi)
def jq:Sp:=kB (sqrS (jh a b x y).lo (jh a b x y).hi)
def jw:Sp:=kB (mulS (jq a b x y).lo (jq a b x y).hi (je a0 a1 a2 a3 a b x y).lo (je a0 a1 a2 a3 a b x y).hi)
def js:Sp:=kB (addS (jz c k a b x y).lo (jz c k a b x y).hi (jw a0 a1 a2 a3 a b x y).lo (jw a0 a1 a2 a3 a b x y).hi)
def jr:Sp:=⟨bif asp a0 a1 a2 a3 then (js c k a0 a1 a2 a3 a b x y).lo else (jz c k a b x y).lo,bif asp a0 a1 a2 a3 then (js c k a0 a1 a2 a3 a b x y).hi else (jz c k a b x y).hi,0⟩
def jp:Int:=bif bif chkS a b != 0 then true else chkS x y != 0 then 20 else 0
def jp1:Bool:=bif jp a b x y != 0 then true else false
def jfin (out:Bool) (r:Sp):Sp:=⟨bif jp1 a b x y then 0 else bif out then 0 else bif chkS r.lo r.hi != 0 then 0 else r.lo,bif jp1 a b x y then 0 else bif out then 0 else bif chkS r.lo r.hi != 0 then 0 else r.hi,
 bif jp1 a b x y then jp a b x y else bif out then 9 else bif chkS r.lo r.hi != 0 then 6 else 0⟩
end
theorem ri_of {a b:Int} (h:okSp a b=true):Ri ⟨a,b,0⟩:=by
 have:=okSp_iff.1 h
 exact ⟨this.1,this.2.1,this.2.2⟩
section
variable {c k a0 a1 a2 a3 a b x y:Int} (hc:inL c) (hk:inK k) (hx:okSp a b=true) (hy:okSp x y=true)
include hx in
theorem J0:Reg (j0 a b) (z0 (s0 c k a b x y)) (s0 c k a b x y):=by
 have:=Reg.sqr (Reg.one (ri_of hx))
 exact this.imp (Bool.true_and _)
include hy in
theorem J1:Reg (j1 x y) (z0 (s1 c k a b x y)) (s1 c k a b x y):=by
 have:=Reg.sqr (Reg.one (ri_of hy))
 exact this.imp (Bool.true_and _)
include hx hy in
theorem J2:Reg (j2 a b x y) (z0 (s0 c k a b x y)&&z0 (s1 c k a b x y)&&z0 (s2 c k a b x y)) (s2 c k a b x y):=Reg.add (J0 hx) (J1 hy)
include hc hx hy in
theorem J3:Reg (j3 c a b x y) (z0 (s0 c k a b x y)&&z0 (s1 c k a b x y)&&z0 (s2 c k a b x y)&&z0 (s3 c k a b x y)) (s3 c k a b x y):=Reg.sc (J2 hx hy) (sc_c hc)
include hc hx hy in
theorem J4:Reg (j4 c a b x y) (z0 (s0 c k a b x y)&&z0 (s1 c k a b x y)&&z0 (s2 c k a b x y)&&z0 (s3 c k a b x y)&&z0 (s4 c k a b x y)) (s4 c k a b x y):=Reg.sc (J3 hc hx hy) (sc_c hc)
include hc hk hx hy in
theorem J5:Reg (j5 c k a b x y) (sagH0 c k a b x y) (s5 c k a b x y):=(Reg.sc (J4 hc hx hy) (sc_k hk)).imp (by unfold sagH0; simp only [Bool.and_assoc]; rfl)
include hc hk hx hy in
theorem J6:Reg (j6 c k a b x y) (sagH0 c k a b x y&&z0 (s6 c k a b x y)) (s6 c k a b x y):=(Reg.sub (Reg.const one_ri) (J5 hc hk hx hy)).imp (by rw [Bool.true_and]; rfl)
include hc hk hx hy in
theorem J7:Reg (j7 c k a b x y) (sagH0 c k a b x y&&z0 (s6 c k a b x y)&&z0 (s7 c k a b x y)) (s7 c k a b x y):=Reg.root (J6 hc hk hx hy)
include hc hk hx hy in
theorem J9:Reg (j9 c k a b x y) (sagH0 c k a b x y&&z0 (s6 c k a b x y)&&z0 (s7 c k a b x y)&&z0 (s9 c k a b x y)) (s9 c k a b x y):=(Reg.add (Reg.const one_ri) (J7 hc hk hx hy)).imp (by rw [Bool.true_and]; rfl)
include hc hx hy in
theorem s8_eq (h:(z0 (s0 c k a b x y)&&z0 (s1 c k a b x y)&&z0 (s2 c k a b x y)&&z0 (s3 c k a b x y))=true):(s8 c k a b x y).lo=(s3 c k a b x y).lo/\(s8 c k a b x y).hi=(s3 c k a b x y).hi/\z0 (s8 c k a b x y)=true:=by
 have h3:=(J3 (k:=k) hc hx hy).ri h
 have e:s8 c k a b x y=vs (s3 c k a b x y):=add0' h3
 rw [e]
 exact ⟨rfl,rfl,rfl⟩
include hc hk hx hy in
theorem J10:Reg (j10 c k a b x y) (sagH0 c k a b x y&&z0 (s6 c k a b x y)&&z0 (s7 c k a b x y)&&z0 (s8 c k a b x y)&&z0 (s9 c k a b x y)&&z0 (s10 c k a b x y)) (s10 c k a b x y):=by
 have h:=Reg.div (J3 (k:=k) hc hx hy) (J9 hc hk hx hy)
 cases h3:(z0 (s0 c k a b x y)&&z0 (s1 c k a b x y)&&z0 (s2 c k a b x y)&&z0 (s3 c k a b x y)) with
 | true=>
  obtain ⟨e1,e2,e3⟩:=s8_eq hc hx hy h3
  have e:divS (s3 c k a b x y).lo (s3 c k a b x y).hi (s9 c k a b x y).lo (s9 c k a b x y).hi=s10 c k a b x y:=by unfold s10; rw [e1,e2]
  rw [e,h3,Bool.true_and] at h
  refine h.imp ?_
  rw [e3,Bool.and_true]
 | false=>
  have hs:sagH0 c k a b x y=false:=by
   unfold sagH0
   cases e0:z0 (s0 c k a b x y) <;> cases e1:z0 (s1 c k a b x y) <;> cases e2:z0 (s2 c k a b x y) <;> cases e3:z0 (s3 c k a b x y) <;> simp_all
  rw [h3,Bool.false_and,Bool.false_and] at h
  rw [hs]
  exact ⟨h.eq,fun h=>by cases h⟩
include hc hk hx hy in
theorem Jb:jb c k a b x y=!(sagH0 c k a b x y&&z0 (s6 c k a b x y)):=(J6 hc hk hx hy).chk
include hc hk hx hy in
theorem Jn (h:(sagH0 c k a b x y&&z0 (s6 c k a b x y))=true):jn c k a b x y=decide ((s6 c k a b x y).lo<=0):=by
 unfold jn
 rw [((J6 hc hk hx hy).t h).1]
include hc hk hx hy in
theorem Jout:jout c k a b x y=sagD c k a b x y:=by
 unfold jout sagD
 rw [Jb hc hk hx hy]
 cases h:(sagH0 c k a b x y&&z0 (s6 c k a b x y)) with
 | true=>
  rw [Jn hc hk hx hy h]
  simp only [Bool.and_eq_true] at h
  rw [h.1,h.2]
  cases decide ((s6 c k a b x y).lo<=0) <;> rfl
 | false=>
  cases h1:sagH0 c k a b x y <;> cases h2:z0 (s6 c k a b x y) <;> simp_all
include hc hk hx hy in
theorem Jz:Reg (jz c k a b x y) (sagB c k a b x y) (s10 c k a b x y):=by
 have hb:=Jb hc hk hx hy
 have h10:=J10 hc hk hx hy
 cases h:(sagH0 c k a b x y&&z0 (s6 c k a b x y)) with
 | true=>
  have hn:=Jn hc hk hx hy h
  rw [h] at hb h10
  have hB:sagB c k a b x y=(!decide ((s6 c k a b x y).lo<=0)&&(z0 (s7 c k a b x y)&&(z0 (s8 c k a b x y)&&(z0 (s9 c k a b x y)&&z0 (s10 c k a b x y))))):=by
   unfold sagB
   simp only [Bool.and_eq_true] at h
   rw [h.1,h.2]; rfl
  rw [hB]
  cases hd:decide ((s6 c k a b x y).lo<=0) with
  | true=>
   rw [hd] at hn
   refine ⟨?_,fun h=>by cases h⟩
   unfold jz
   rw [hb,hn]; rfl
  | false=>
   rw [hd] at hn
   have e:jz c k a b x y=j10 c k a b x y:=by
    unfold jz
    rw [hb,hn]
    rfl
   rw [e]
   refine h10.imp ?_
   simp only [Bool.true_and,Bool.not_false,Bool.and_assoc]
 | false=>
  rw [h] at hb
  have hB:sagB c k a b x y=false:=by
   unfold sagB
   cases h1:sagH0 c k a b x y <;> cases h2:z0 (s6 c k a b x y) <;> simp_all
  rw [hB]
  refine ⟨?_,fun h=>by cases h⟩
  unfold jz
  rw [hb]; rfl
include hx hy in
theorem Jh:Reg (jh a b x y) (z0 (s0 c k a b x y)&&z0 (s1 c k a b x y)&&z0 (s2 c k a b x y)&&z0 (u0 c k a b x y)) (u0 c k a b x y):=Reg.sc (J2 hx hy) sc_h
theorem Jc {n:Int} (h:inL n):Reg (jc n) (z0 (ca n)) (ca n):=(Reg.sc (Reg.const one_ri) (sc_a h)).imp (Bool.true_and _)
variable (i0:inL a0) (i1:inL a1) (i2:inL a2) (i3:inL a3)
include hx hy i0 i1 i2 i3 in
theorem Je:Reg (je a0 a1 a2 a3 a b x y) ((z0 (ca a0)&&(z0 (ca a1)&&(z0 (ca a2)&&z0 (ca a3))))&&(z0 (s0 c k a b x y)&&z0 (s1 c k a b x y)&&z0 (s2 c k a b x y)&&z0 (u0 c k a b x y))&&z0 (u1 c k a0 a1 a2 a3 a b x y)) (u1 c k a0 a1 a2 a3 a b x y):=
 Reg.eval (Jc i0) (Jc i1) (Jc i2) (Jc i3) (Jh hx hy)
include hx hy in
theorem Jq:Reg (jq a b x y) (z0 (s0 c k a b x y)&&z0 (s1 c k a b x y)&&z0 (s2 c k a b x y)&&z0 (u0 c k a b x y)&&z0 (u2 c k a b x y)) (u2 c k a b x y):=Reg.sqr (Jh hx hy)
include hc hk hx hy i0 i1 i2 i3 in
theorem Js:Reg (js c k a0 a1 a2 a3 a b x y) (sagB c k a b x y&&sagE c k a0 a1 a2 a3 a b x y) (u4 c k a0 a1 a2 a3 a b x y):=by
 have h:=Reg.add (Jz hc hk hx hy) (Reg.mul (Jq (c:=c) (k:=k) hx hy) (Je (c:=c) (k:=k) hx hy i0 i1 i2 i3))
 refine Reg.imp (s:=u4 c k a0 a1 a2 a3 a b x y) h ?_
 unfold sagE
 show (sagB c k a b x y&&(_&&_&&z0 (u3 c k a0 a1 a2 a3 a b x y))&&z0 (u4 c k a0 a1 a2 a3 a b x y))=_
 cases z0 (s0 c k a b x y) <;> cases z0 (s1 c k a b x y) <;> cases z0 (s2 c k a b x y) <;> cases z0 (u0 c k a b x y) <;> cases z0 (ca a0) <;> cases z0 (ca a1) <;> cases z0 (ca a2) <;> cases z0 (ca a3) <;> cases z0 (u1 c k a0 a1 a2 a3 a b x y) <;> cases z0 (u2 c k a b x y) <;> simp [Bool.and_assoc]
include hc hk hx hy i0 i1 i2 i3 in
theorem Jr:Reg (jr c k a0 a1 a2 a3 a b x y) (sagC c k a0 a1 a2 a3 a b x y) (bif asp a0 a1 a2 a3 then u4 c k a0 a1 a2 a3 a b x y else s10 c k a b x y):=by
 unfold jr sagC
 cases asp a0 a1 a2 a3 with
 | true=>
  have h:=Js hc hk hx hy i0 i1 i2 i3
  exact ⟨by show (⟨(js c k a0 a1 a2 a3 a b x y).lo,(js c k a0 a1 a2 a3 a b x y).hi,0⟩:Sp)=bif (sagB c k a b x y&&sagE c k a0 a1 a2 a3 a b x y) then vs (u4 c k a0 a1 a2 a3 a b x y) else badS; rw [h.eq]; cases (sagB c k a b x y&&sagE c k a0 a1 a2 a3 a b x y) <;> rfl,h.ri⟩
 | false=>
  have h:=Jz hc hk hx hy
  refine Reg.imp (c:=sagB c k a b x y) ⟨by show (⟨(jz c k a b x y).lo,(jz c k a b x y).hi,0⟩:Sp)=bif sagB c k a b x y then vs (s10 c k a b x y) else badS; rw [h.eq]; cases sagB c k a b x y <;> rfl,h.ri⟩ ?_
  show _=(_&&true)
  rw [Bool.and_true]
include hx hy in
theorem Jp:jp1 a b x y=false:=by
 unfold jp1 jp chkS
 rw [hx,hy]; rfl
theorem fin_of {r s:Sp} {cc:Bool} (hp:jp1 a b x y=false) (h:Reg r cc s) (out:Bool) (hoc:cc=true->out=false):jfin a b x y out r=⟨bif cc then s.lo else 0,bif cc then s.hi else 0,bif cc then 0 else bif out then 9 else 6⟩:=by
 unfold jfin
 rw [hp,h.chk]
 rcases h.cases with ⟨rfl,h1,h2,h3⟩|⟨rfl,rfl⟩
 .rw [hoc rfl,h1,h2]; rfl
 .cases out <;> rfl
theorem sagD_C (h:sagC c k a0 a1 a2 a3 a b x y=true):sagD c k a b x y=false:=by
 have hb:sagB c k a b x y=true:=by
  unfold sagC at h
  simp only [Bool.and_eq_true] at h
  exact h.1
 unfold sagB at hb
 simp only [Bool.and_eq_true] at hb
 unfold sagD
 have:=hb.2.2.1
 cases hd:decide ((s6 c k a b x y).lo<=0) with
 | true=>rw [hd] at this; cases this
 | false=>rw [Bool.and_false,Bool.and_false]
include hc hk hx hy i0 i1 i2 i3 in
theorem ref_sagS:jfin a b x y (jout c k a b x y) (jr c k a0 a1 a2 a3 a b x y)=sagS c k a0 a1 a2 a3 a b x y:=by
 rw [fin_of (Jp hx hy) (Jr hc hk hx hy i0 i1 i2 i3) _ (fun h=>by rw [Jout hc hk hx hy]; exact sagD_C h),Jout hc hk hx hy]
 unfold sagS
 cases asp a0 a1 a2 a3 <;> rfl
end
section
variable (c k l m a b x y:Int)
def hh2:Sp:=kB (scaleS (j1 x y).lo (j1 x y).hi c 1000000000)
def hh4:Sp:=kB (scaleS (j0 a b).lo (j0 a b).hi l 1000000000)
def hh5:Sp:=kB (scaleS (hh4 l a b).lo (hh4 l a b).hi l 1000000000)
def hh6:Sp:=kB (scaleS (hh5 l a b).lo (hh5 l a b).hi (IntKind.i64.wrap (1000000+m)) 1000000)
def hh7:Sp:=kB (scaleS (hh2 c x y).lo (hh2 c x y).hi c 1000000000)
def hh8:Sp:=kB (scaleS (hh7 c x y).lo (hh7 c x y).hi (IntKind.i64.wrap (1000000+k)) 1000000)
def hh9:Sp:=kB (addS (hh6 l m a b).lo (hh6 l m a b).hi (hh8 c k x y).lo (hh8 c k x y).hi)
def hhD:Sp:=kB (subS 4294967296 4294967296 (hh9 c k l m a b x y).lo (hh9 c k l m a b x y).hi)
def hhR:Sp:=kB (sqrtS (hhD c k l m a b x y).lo (hhD c k l m a b x y).hi)
def hhT:Sp:=kB (addS (hh4 l a b).lo (hh4 l a b).hi (hh2 c x y).lo (hh2 c x y).hi)
def hhO:Sp:=kB (addS 4294967296 4294967296 (hhR c k l m a b x y).lo (hhR c k l m a b x y).hi)
def hhZ:Sp:=kB (divS (hhT c l a b x y).lo (hhT c l a b x y).hi (hhO c k l m a b x y).lo (hhO c k l m a b x y).hi)
def hhb:Bool:=chkS (hhD c k l m a b x y).lo (hhD c k l m a b x y).hi != 0
def hhn:Bool:=decide ((hhD c k l m a b x y).lo<=0)
def hhout:Bool:=bif hhb c k l m a b x y then false else bif hhn c k l m a b x y then true else false
def hhz:Sp:=⟨bif hhb c k l m a b x y then 1 else bif hhn c k l m a b x y then 1 else (hhZ c k l m a b x y).lo,bif hhb c k l m a b x y then 0 else bif hhn c k l m a b x y then 0 else (hhZ c k l m a b x y).hi,0⟩
end
section
variable {c k l m a b x y:Int} (hc:inL c) (hk:inK k) (hl:inL l) (hm:inK m) (hx:okSp a b=true) (hy:okSp x y=true)
include hx in
theorem HH0:Reg (j0 a b) (z0 (b0 c k l m a b x y)) (b0 c k l m a b x y):=(Reg.sqr (Reg.one (ri_of hx))).imp (Bool.true_and _)
include hy in
theorem HH1:Reg (j1 x y) (z0 (b2 c k l m a b x y)) (b2 c k l m a b x y):=(Reg.sqr (Reg.one (ri_of hy))).imp (Bool.true_and _)
include hc hy in
theorem HH2:Reg (hh2 c x y) (z0 (b2 c k l m a b x y)&&z0 (b3 c k l m a b x y)) (b3 c k l m a b x y):=Reg.sc (HH1 hy) (sc_c hc)
include hl hx in
theorem HH4:Reg (hh4 l a b) (z0 (b0 c k l m a b x y)&&z0 (b1 c k l m a b x y)) (b1 c k l m a b x y):=Reg.sc (HH0 hx) (sc_c hl)
include hl hx in
theorem HH5:Reg (hh5 l a b) (z0 (b0 c k l m a b x y)&&z0 (b1 c k l m a b x y)&&z0 (b4 c k l m a b x y)) (b4 c k l m a b x y):=Reg.sc (HH4 hl hx) (sc_c hl)
include hl hm hx in
theorem HH6:Reg (hh6 l m a b) (z0 (b0 c k l m a b x y)&&z0 (b1 c k l m a b x y)&&z0 (b4 c k l m a b x y)&&z0 (b6 c k l m a b x y)) (b6 c k l m a b x y):=Reg.sc (HH5 hl hx) (sc_k hm)
include hc hy in
theorem HH7:Reg (hh7 c x y) (z0 (b2 c k l m a b x y)&&z0 (b3 c k l m a b x y)&&z0 (b5 c k l m a b x y)) (b5 c k l m a b x y):=Reg.sc (HH2 hc hy) (sc_c hc)
include hc hk hy in
theorem HH8:Reg (hh8 c k x y) (z0 (b2 c k l m a b x y)&&z0 (b3 c k l m a b x y)&&z0 (b5 c k l m a b x y)&&z0 (b7 c k l m a b x y)) (b7 c k l m a b x y):=Reg.sc (HH7 hc hy) (sc_k hk)
include hc hk hl hm hx hy in
theorem HH9:Reg (hh9 c k l m a b x y) (sagX0 c k l m a b x y) (b8 c k l m a b x y):=by
 have h:=Reg.add (HH6 (c:=c) (k:=k) (x:=x) (y:=y) hl hm hx) (HH8 (l:=l) (m:=m) (a:=a) (b:=b) hc hk hy)
 refine Reg.imp (s:=b8 c k l m a b x y) h ?_
 unfold sagX0
 show (_&&_&&z0 (b8 c k l m a b x y))=_
 cases z0 (b0 c k l m a b x y) <;> cases z0 (b1 c k l m a b x y) <;> cases z0 (b2 c k l m a b x y) <;> cases z0 (b3 c k l m a b x y) <;> cases z0 (b4 c k l m a b x y) <;> cases z0 (b5 c k l m a b x y) <;> cases z0 (b6 c k l m a b x y) <;> cases z0 (b7 c k l m a b x y) <;> simp
include hc hk hl hm hx hy in
theorem HHD:Reg (hhD c k l m a b x y) (sagX0 c k l m a b x y&&z0 (b9 c k l m a b x y)) (b9 c k l m a b x y):=(Reg.sub (Reg.const one_ri) (HH9 hc hk hl hm hx hy)).imp (by rw [Bool.true_and]; rfl)
include hc hk hl hm hx hy in
theorem HHR:Reg (hhR c k l m a b x y) (sagX0 c k l m a b x y&&z0 (b9 c k l m a b x y)&&z0 (b10 c k l m a b x y)) (b10 c k l m a b x y):=Reg.root (HHD hc hk hl hm hx hy)
include hc hl hx hy in
theorem HHT:Reg (hhT c l a b x y) ((z0 (b0 c k l m a b x y)&&z0 (b1 c k l m a b x y))&&(z0 (b2 c k l m a b x y)&&z0 (b3 c k l m a b x y))&&z0 (b11 c k l m a b x y)) (b11 c k l m a b x y):=Reg.add (HH4 hl hx) (HH2 hc hy)
include hc hk hl hm hx hy in
theorem HHO:Reg (hhO c k l m a b x y) (sagX0 c k l m a b x y&&z0 (b9 c k l m a b x y)&&z0 (b10 c k l m a b x y)&&z0 (b12 c k l m a b x y)) (b12 c k l m a b x y):=(Reg.add (Reg.const one_ri) (HHR hc hk hl hm hx hy)).imp (by rw [Bool.true_and]; rfl)
include hc hk hl hm hx hy in
theorem HHZ:Reg (hhZ c k l m a b x y) (sagX0 c k l m a b x y&&z0 (b9 c k l m a b x y)&&(z0 (b10 c k l m a b x y)&&(z0 (b11 c k l m a b x y)&&(z0 (b12 c k l m a b x y)&&z0 (b13 c k l m a b x y))))) (b13 c k l m a b x y):=by
 have h:=Reg.div (HHT (k:=k) (m:=m) hc hl hx hy) (HHO hc hk hl hm hx hy)
 refine Reg.imp (s:=b13 c k l m a b x y) h ?_
 show (_&&_&&z0 (b13 c k l m a b x y))=_
 unfold sagX0
 cases z0 (b0 c k l m a b x y) <;> cases z0 (b1 c k l m a b x y) <;> cases z0 (b2 c k l m a b x y) <;> cases z0 (b3 c k l m a b x y) <;> cases z0 (b11 c k l m a b x y) <;> simp [Bool.and_assoc]
include hc hk hl hm hx hy in
theorem HHb:hhb c k l m a b x y=!(sagX0 c k l m a b x y&&z0 (b9 c k l m a b x y)):=(HHD hc hk hl hm hx hy).chk
include hc hk hl hm hx hy in
theorem HHn (h:(sagX0 c k l m a b x y&&z0 (b9 c k l m a b x y))=true):hhn c k l m a b x y=decide ((b9 c k l m a b x y).lo<=0):=by
 unfold hhn
 rw [((HHD hc hk hl hm hx hy).t h).1]
include hc hk hl hm hx hy in
theorem HHout:hhout c k l m a b x y=sagXD c k l m a b x y:=by
 unfold hhout sagXD
 rw [HHb hc hk hl hm hx hy]
 cases h:(sagX0 c k l m a b x y&&z0 (b9 c k l m a b x y)) with
 | true=>
  rw [HHn hc hk hl hm hx hy h]
  simp only [Bool.and_eq_true] at h
  rw [h.1,h.2]
  cases decide ((b9 c k l m a b x y).lo<=0) <;> rfl
 | false=>
  cases h1:sagX0 c k l m a b x y <;> cases h2:z0 (b9 c k l m a b x y) <;> simp_all
include hc hk hl hm hx hy in
theorem HHz:Reg (hhz c k l m a b x y) (sagXC c k l m a b x y) (b13 c k l m a b x y):=by
 have hb:=HHb hc hk hl hm hx hy
 have h10:=HHZ hc hk hl hm hx hy
 cases h:(sagX0 c k l m a b x y&&z0 (b9 c k l m a b x y)) with
 | true=>
  have hn:=HHn hc hk hl hm hx hy h
  rw [h] at hb h10
  have hB:sagXC c k l m a b x y=(!decide ((b9 c k l m a b x y).lo<=0)&&(z0 (b10 c k l m a b x y)&&(z0 (b11 c k l m a b x y)&&(z0 (b12 c k l m a b x y)&&z0 (b13 c k l m a b x y))))):=by
   unfold sagXC
   simp only [Bool.and_eq_true] at h
   rw [h.1,h.2]; rfl
  rw [hB]
  cases hd:decide ((b9 c k l m a b x y).lo<=0) with
  | true=>
   rw [hd] at hn
   refine ⟨?_,fun h=>by cases h⟩
   unfold hhz
   rw [hb,hn]; rfl
  | false=>
   rw [hd] at hn
   have e:hhz c k l m a b x y=hhZ c k l m a b x y:=by
    unfold hhz
    rw [hb,hn]
    rfl
   rw [e]
   refine h10.imp ?_
   simp only [Bool.true_and,Bool.not_false]
 | false=>
  rw [h] at hb
  have hB:sagXC c k l m a b x y=false:=by
   unfold sagXC
   cases h1:sagX0 c k l m a b x y <;> cases h2:z0 (b9 c k l m a b x y) <;> simp_all
  rw [hB]
  refine ⟨?_,fun h=>by cases h⟩
  unfold hhz
  rw [hb]; rfl
theorem sagXD_C (h:sagXC c k l m a b x y=true):sagXD c k l m a b x y=false:=by
 unfold sagXC at h
 simp only [Bool.and_eq_true] at h
 unfold sagXD
 have:=h.2.2.1
 cases hd:decide ((b9 c k l m a b x y).lo<=0) with
 | true=>rw [hd] at this; cases this
 | false=>rw [Bool.and_false,Bool.and_false]
include hc hk hl hm hx hy in
theorem ref_sagX:jfin a b x y (hhout c k l m a b x y) (hhz c k l m a b x y)=sagX c k l m a b x y:=by
 rw [fin_of (Jp hx hy) (HHz hc hk hl hm hx hy) _ (fun h=>by rw [HHout hc hk hl hm hx hy]; exact sagXD_C h),HHout hc hk hl hm hx hy]
 rfl
end
end Go.Rd
namespace Go.Proofs.YtjmhddncomglmaaGreatDoor.K
open Go Go.Eng Go.Ar Go.Rd
noncomputable section
theorem su8_ok {f:FuncId} {V:Su->List Int->Int->Int->Int->Int->AV} (fn:∃ fn:Func,Tryz.prog.funcs[f]?=some fn/\fn.body.isSome=true)
  (h:∀ (s:Su) (n:Int) (ys:List Int) (a b x y:Int),s.g.size<1000000000->okF3 n ys->∃ (C:Ctx) (cs:List AV) (nd:Nd) (v0:AV),CtxOk C/\C.P=Tryz.prog/\C.glob=glob8/\tellL s.ini cs/\rw8 C f cs n ys a b x y=some (nd,v0)/\v0.num=true/\nd.val/\tell v0 (V s ys a b x y)):
  NOk Tryz.prog glob8 hG8 f (lSpec hG8 [.s suI .i64,.n sS,.n sS] (suV2 V)):=by
 refine lsp_ok true hG8_ok hG8_plain glob8_lt (fun sz its p v bs e hp=>?_) fn
 unfold suV2 at e
 split at e
 .rename_i xs n ys a b x y
  split at e
  .rename_i s hs
   cases e
   obtain ⟨ho,hg⟩:=hp
   obtain rfl:=suOf_eq hs
   obtain ⟨C,cs,nd,v0,co,hP,hG',ht,hr,hnum,hnd,hv⟩:=h s n ys a b x y hg ho
   obtain ⟨q,h1,h2,h3,h4⟩:=oneG_tells hr hnum
   refine ⟨⟨fun h0=>?_,trivial⟩,rfl,C,1000,suB8 cs n a b x y,nd,v0,q,co,hP,hG',⟨tellL_app ht ⟨rfl,trivial⟩,⟨⟨rfl,rfl⟩,⟨rfl,rfl⟩,trivial⟩,⟨⟨rfl,rfl⟩,⟨rfl,rfl⟩,trivial⟩,trivial⟩,h1,h2,hnd,h3,h4 sz _ hv⟩
   obtain ⟨k1,k2,k3⟩:=ho
   rw [h0] at k3
   simp only [List.length_nil] at k3
   omega
  .cases e
 .cases e
def same21 (s:Su) (n:Int):Prop:=s.c=s.c/\s.k=s.k/\s.l=s.l/\s.m=s.m/\s.a0=s.a0/\s.a1=s.a1/\s.a2=s.a2/\s.a3=s.a3/\s.f0=s.f0/\s.f1=s.f1/\s.o=s.o/\s.th=s.th/\s.g=s.g/\s.se=s.se/\s.ho=s.ho/\s.dx=s.dx/\s.dy=s.dy/\s.ax=s.ax/\s.ay=s.ay/\s.az=s.az/\n=n
def eqS (t:Sp):Prop:=t.lo=t.lo/\t.hi=t.hi
theorem eqS_t (t:Sp):eqS t:=⟨rfl,rfl⟩
theorem same21_t (s:Su) (n:Int):same21 s n:=by unfold same21; simp
def ld1 (s:Su) (a b x y:Int):Prop:=(((s.c=s.c/\x=x/\y=y)/\s.c=s.c/\s.c=s.c)/\(s.k=s.k/\s.c=s.c/\eqS (j3 s.c a b x y)/\eqS (j3 s.c a b x y))/\eqS (j3 s.c a b x y)/\eqS (j3 s.c a b x y)) /\
 ((!jb s.c s.k a b x y)=true->(!jn s.c s.k a b x y)=true->(eqS (j7 s.c s.k a b x y)/\eqS (j7 s.c s.k a b x y)/\eqS (j3 s.c a b x y))/\(eqS (j7 s.c s.k a b x y)/\eqS (j3 s.c a b x y))/\eqS (j7 s.c s.k a b x y)/\eqS (j7 s.c s.k a b x y))
theorem ld1_t (s:Su) (a b x y:Int):ld1 s a b x y:=⟨⟨by simp,⟨rfl,rfl,eqS_t _,eqS_t _⟩,eqS_t _,eqS_t _⟩,fun _ _=>⟨⟨eqS_t _,eqS_t _,eqS_t _⟩,⟨eqS_t _,eqS_t _⟩,eqS_t _,eqS_t _⟩⟩
def rN1 (s:Su) (n:Int) (ys:List Int) (a b x y:Int):Prop:=pOk s 1 n ys true/\((!jp1 a b x y)=true->ld1 s a b x y/\((!jout s.c s.k a b x y)=true->asp s.a0 s.a1 s.a2 s.a3=true ->
 (x=x/\y=y)/\(eqS (jh a b x y)/\same21 s n/\eqS (jz s.c s.k a b x y))/\True/\eqS (jz s.c s.k a b x y)/\eqS (jz s.c s.k a b x y)))
theorem rN1_t {s:Su} {n:Int} {ys:List Int} {a b x y:Int} (h:pOk s 1 n ys true):rN1 s n ys a b x y:=⟨h,fun _=>⟨ld1_t s a b x y,fun _ _=>⟨⟨rfl,rfl⟩,⟨eqS_t _,same21_t s n,eqS_t _⟩,trivial,eqS_t _,eqS_t _⟩⟩⟩
def ld2 (s:Su) (a b x y:Int):Prop:=(((s.c=s.c/\(x=x/\y=y)/\s.l=s.l)/\(s.c=s.c/\x=x/\y=y)/\s.c=s.c)/\(s.k=s.k/\s.c=s.c/\eqS (hh2 s.c x y)/\s.m=s.m/\s.l=s.l/\eqS (hh4 s.l a b))/\(s.k=s.k/\s.c=s.c/\eqS (hh2 s.c x y)/\s.m=s.m/\s.l=s.l/\eqS (hh4 s.l a b))/\s.k=s.k/\s.c=s.c/\eqS (hh2 s.c x y)) /\
 ((!hhb s.c s.k s.l s.m a b x y)=true->(!hhn s.c s.k s.l s.m a b x y)=true->(eqS (hhR s.c s.k s.l s.m a b x y)/\eqS (hhR s.c s.k s.l s.m a b x y)/\eqS (hhT s.c s.l a b x y))/\(eqS (hhR s.c s.k s.l s.m a b x y)/\eqS (hhT s.c s.l a b x y))/\eqS (hhR s.c s.k s.l s.m a b x y)/\eqS (hhR s.c s.k s.l s.m a b x y))
theorem ld2_t (s:Su) (a b x y:Int):ld2 s a b x y:=⟨⟨by simp,⟨rfl,rfl,eqS_t _,rfl,rfl,eqS_t _⟩,⟨rfl,rfl,eqS_t _,rfl,rfl,eqS_t _⟩,rfl,rfl,eqS_t _⟩,fun _ _=>⟨⟨eqS_t _,eqS_t _,eqS_t _⟩,⟨eqS_t _,eqS_t _⟩,eqS_t _,eqS_t _⟩⟩
theorem rs_1 (s:Su) (n:Int) (ys:List Int) (a b x y:Int):rw8 (cRr true) 131 (s.cells (.int false .i64 1)) n ys a b x y=some (.p (rN1 s n ys a b x y),spV (jfin a b x y (jout s.c s.k a b x y) (jr s.c s.k s.a0 s.a1 s.a2 s.a3 a b x y))):=by kernel_rfl
theorem rs_2 (s:Su) (n:Int) (ys:List Int) (a b x y:Int):rw8 (cRr true) 131 (s.cellsZ (.int false .i64 2)) n ys a b x y=some (.p (pOk { s with a0:=0,a1:=0,a2:=0,a3:=0 } 2 n ys true/\((!jp1 a b x y)=true->ld2 s a b x y)),spV (jfin a b x y (hhout s.c s.k s.l s.m a b x y) (hhz s.c s.k s.l s.m a b x y))):=by kernel_rfl
theorem rs_3 (s:Su) (n:Int) (ys:List Int) (a b x y:Int):rw8 (cRr true) 131 (s.cells (.int false .i64 3)) n ys a b x y=some (.p (pOk s 3 n ys true),eV 5):=by kernel_rfl
theorem rs_4 (s:Su) (n:Int) (ys:List Int) (a b x y:Int):rw8 (cRr true) 131 (s.cells (.int false .i64 4)) n ys a b x y=some (.p (pOk s 4 n ys true),.tuple [.agg [.int false .i64 0,.int false .i64 0],.int true .i64 (jp a b x y)]):=by kernel_rfl
theorem rs_0 (s:Su) (n:Int) (ys:List Int) (a b x y:Int):rw8 (cRr false) 131 (s.cells (.int true .i64 s.kd)) n ys a b x y=some (.p (pOk s s.kd n ys false),eV 110):=by kernel_rfl
theorem jp_eq (a b x y:Int):jp a b x y=bif okXY a b x y then 0 else 20:=by
 unfold jp chkS okXY
 cases okSp a b <;> cases okSp x y <;> rfl
theorem jfin_bad {a b x y:Int} (h:okXY a b x y=false) (out:Bool) (r:Sp):jfin a b x y out r=⟨0,0,20⟩:=by
 have e:jp a b x y=20:=by rw [jp_eq,h]; rfl
 have e1:jp1 a b x y=true:=by unfold jp1; rw [e]; rfl
 unfold jfin
 rw [e1,e]; rfl
theorem rsag_ok:NOk Tryz.prog glob8 hG8 131 (lSpec hG8 [.s suI .i64,.n sS,.n sS] (suV2 sagA')):=by
 refine su8_ok ⟨_,Tryz.func131,rfl⟩ fun s n ys a b x y hg ho=>?_
 cases hr:rightS s ys with
 | false=>exact ⟨cRr false,s.cells (.int true .i64 s.kd),_,_,cRr_ok _,rfl,rfl,tell_kd ⟨rfl,rfl⟩,rs_0 s n ys a b x y,rfl,rk rfl ho hg hr,eV_tell (by unfold sagG; rw [hr]; rfl)⟩
 | true=>
  rcases right_kd hr with hk|hk|hk|hk
  .have v:=right_std hr
   refine ⟨cRr true,s.cells (.int false .i64 1),_,_,cRr_ok _,rfl,rfl,tell_kd ⟨rfl,hk⟩,rs_1 s n ys a b x y,rfl,rN1_t (rk hk ho hg hr),spV_tell ?_⟩
   cases hx:okXY a b x y with
   | true=>
    have hh:okSp a b=true/\okSp x y=true:=by simpa [okXY] using hx
    rw [ref_sagS v.hc v.hk hh.1 hh.2 v.h0 v.h1 v.h2 v.h3]
    unfold sagG sagK; rw [hr,hx,hk]; rfl
   | false=>
    rw [jfin_bad hx]
    unfold sagG; rw [hr,hx,hk]; rfl
  .have v:=right_bic hr
   refine ⟨cRr true,s.cellsZ (.int false .i64 2),_,_,cRr_ok _,rfl,rfl,tell_kz hk (right_noA hr hk),rs_2 s n ys a b x y,rfl,⟨rkz hk (right_noA hr hk) ho hg hr,fun _=>ld2_t s a b x y⟩,spV_tell ?_⟩
   cases hx:okXY a b x y with
   | true=>
    have hh:okSp a b=true/\okSp x y=true:=by simpa [okXY] using hx
    rw [ref_sagX v.hc v.hk v.hl v.hm hh.1 hh.2]
    unfold sagG sagK; rw [hr,hx,hk]; rfl
   | false=>
    rw [jfin_bad hx]
    unfold sagG; rw [hr,hx,hk]; rfl
  .exact ⟨cRr true,s.cells (.int false .i64 3),_,_,cRr_ok _,rfl,rfl,tell_kd ⟨rfl,hk⟩,rs_3 s n ys a b x y,rfl,rk hk ho hg hr,eV_tell (by unfold sagG; rw [hr,hk]; rfl)⟩
  .refine ⟨cRr true,s.cells (.int false .i64 4),_,_,cRr_ok _,rfl,rfl,tell_kd ⟨rfl,hk⟩,rs_4 s n ys a b x y,rfl,rk hk ho hg hr,?_⟩
   have e:sagG s ys a b x y=⟨0,0,jp a b x y⟩:=by
    rw [jp_eq]
    unfold sagG sagK; rw [hr,hk]
    cases okXY a b x y <;> rfl
   show tell _ (spV (sagG s ys a b x y))
   rw [e]
   exact ⟨⟨⟨rfl,rfl⟩,⟨rfl,rfl⟩,trivial⟩,⟨rfl,rfl⟩,trivial⟩
end
end Go.Proofs.YtjmhddncomglmaaGreatDoor.K
namespace Go.Proofs.YtjmhddncomglmaaGreatDoor.K
open Go Go.Eng Go.Ar Go.Rd
noncomputable section
def cRs:Ctx:=mkN Tryz.prog glob8 hG8 ((131,lSpec hG8 [.s suI .i64,.n sS,.n sS] (suV2 sagA')) :: tblR2) [] ext
theorem cRs_ok:CtxOk cRs:=mkN_ok prog_ok ext_ok (fun x hx=>by
 rcases List.mem_cons.1 hx with rfl|hx
 .exact rsag_ok
 .exact tblR2_g x hx) (fun _ h=>by cases h)
end
end Go.Proofs.YtjmhddncomglmaaGreatDoor.K
namespace Go.Rd
open Go Go.Eng Go.Ar
def slR (g:Int) (bad:Bool) (u v:Sp):AV:=.tuple [.agg [.int true .i64 (bif t1 g then 0 else bif bad then 0 else u.lo),.int true .i64 (bif t1 g then 0 else bif bad then 0 else u.hi)],.agg [.int true .i64 (bif t1 g then 0 else bif bad then 0 else v.lo),.int true .i64 (bif t1 g then 0 else bif bad then 0 else v.hi)],.int true .i64 (bif t1 g then g else bif bad then 6 else 0)]
def badUV (u v:Sp):Bool:=bif chkS u.lo u.hi != 0 then true else chkS v.lo v.hi != 0
theorem slR_tell {g:Int} {u v u' v':Sp} {p:Bool} (h:g=0->∃ c d,Reg u c u'/\Reg v d v'/\p=(c&&d)):tell (slR g (badUV u v) u v) (sp2V g p u' v'):=by
 have key:∀ z z':Int,(g=0->badUV u v=!p/\(p=true->z=z'))->(bif t1 g then 0 else bif badUV u v then 0 else z)=tw1 g p z':=by
  intro z z' k
  unfold tw1
  cases ht:t1 g with
  | true=>rfl
  | false=>
   have hg:g=0:=by unfold t1 at ht; cases hb:(g != 0) <;> simp_all
   obtain ⟨k1,k2⟩:=k hg
   rw [k1]
   cases hp:p with
   | true=>exact k2 hp
   | false=>rfl
 have hb:g=0->badUV u v=!p/\(p=true->u.lo=u'.lo/\u.hi=u'.hi/\v.lo=v'.lo/\v.hi=v'.hi):=by
  intro hg
  obtain ⟨c,d,hu,hv,rfl⟩:=h hg
  refine ⟨?_,fun hp=>?_⟩
  .unfold badUV
   rw [hu.chk,hv.chk]
   cases c <;> cases d <;> rfl
  .simp only [Bool.and_eq_true] at hp
   obtain ⟨a1,a2,_⟩:=hu.t hp.1
   obtain ⟨b1,b2,_⟩:=hv.t hp.2
   exact ⟨a1,a2,b1,b2⟩
 refine ⟨⟨⟨rfl,key _ _ fun hg=>⟨(hb hg).1,fun hp=>((hb hg).2 hp).1⟩⟩,⟨rfl,key _ _ fun hg=>⟨(hb hg).1,fun hp=>((hb hg).2 hp).2.1⟩⟩,trivial⟩,⟨⟨rfl,key _ _ fun hg=>⟨(hb hg).1,fun hp=>((hb hg).2 hp).2.2.1⟩⟩,⟨rfl,key _ _ fun hg=>⟨(hb hg).1,fun hp=>((hb hg).2 hp).2.2.2⟩⟩,trivial⟩,⟨rfl,?_⟩,trivial⟩
 unfold twE
 cases ht:t1 g with
 | true=>rfl
 | false=>
  have hg:g=0:=by unfold t1 at ht; cases hb:(g != 0) <;> simp_all
  rw [(hb hg).1]
  cases p <;> rfl
section
variable (c k a0 a1 a2 a3 a b x y:Int)
def jR:Sp:=⟨bif jb c k a b x y then 1 else bif jn c k a b x y then 1 else (j7 c k a b x y).lo,bif jb c k a b x y then 0 else bif jn c k a b x y then 0 else (j7 c k a b x y).hi,0⟩
def jd (p q:Int):Sp:=kB (divS (kB (scaleS p q c 1000000000)).lo (kB (scaleS p q c 1000000000)).hi (jR c k a b x y).lo (jR c k a b x y).hi)
def jcb (n m:Int):Sp:=kB (scaleS 4294967296 4294967296 (IntKind.i64.wrap (n*m)) 1000000)
def jE:Sp:=kB (rEv (jcb a0 2).lo (jcb a0 2).hi (jcb a1 3).lo (jcb a1 3).hi (jcb a2 4).lo (jcb a2 4).hi (jcb a3 5).lo (jcb a3 5).hi (jh a b x y).lo (jh a b x y).hi)
def jv:Sp:=kB (mulS (jh a b x y).lo (jh a b x y).hi (jE a0 a1 a2 a3 a b x y).lo (jE a0 a1 a2 a3 a b x y).hi)
def jf (p q:Int):Sp:=kB (scaleS p q 1 50)
def jm (p q:Int):Sp:=kB (mulS (jf p q).lo (jf p q).hi (jv a0 a1 a2 a3 a b x y).lo (jv a0 a1 a2 a3 a b x y).hi)
def jS (p q:Int):Sp:=kB (addS (jd c k a b x y p q).lo (jd c k a b x y p q).hi (jm a0 a1 a2 a3 a b x y p q).lo (jm a0 a1 a2 a3 a b x y p q).hi)
def jU (p q:Int):Sp:=⟨bif asp a0 a1 a2 a3 then (jS c k a0 a1 a2 a3 a b x y p q).lo else (jd c k a b x y p q).lo,bif asp a0 a1 a2 a3 then (jS c k a0 a1 a2 a3 a b x y p q).hi else (jd c k a b x y p q).hi,0⟩
end
theorem Reg.vsE {r s:Sp} {c:Bool} (h:Reg r c s):Reg ⟨r.lo,r.hi,0⟩ c s:=by
 refine ⟨?_,h.ri⟩
 rw [h.eq]
 cases c <;> rfl
section
variable {c k a0 a1 a2 a3 a b x y:Int} (hc:inL c) (hk:inK k) (hx:okSp a b=true) (hy:okSp x y=true) (i0:inL a0) (i1:inL a1) (i2:inL a2) (i3:inL a3) (f:BaseF c k a b x y)
include f in
theorem base_t:(sagH0 c k a b x y&&z0 (s6 c k a b x y))=true:=by
 obtain ⟨e0,e1,e2,e3,e4,e5,e6⟩:=f.h
 unfold sagH0
 rw [e0,e1,e2,e3,e4,e5,e6]; rfl
include hc hk hx hy f in
theorem JR:Reg (jR c k a b x y) true (s7 c k a b x y):=by
 have h:=base_t f
 have h1:=Jb hc hk hx hy
 have h2:=Jn hc hk hx hy h
 have h3:=J7 hc hk hx hy
 rw [h] at h1 h3
 rw [decide_eq_false (show ¬ (s6 c k a b x y).lo<=0 by have:=f.p; omega)] at h2
 have e:jR c k a b x y=⟨(j7 c k a b x y).lo,(j7 c k a b x y).hi,0⟩:=by unfold jR; rw [h1,h2]; rfl
 rw [e]
 refine (Reg.vsE h3).imp ?_
 rw [f.h7]; rfl
include hc hk hx hy f in
theorem Jd {p q:Int} (hp:okSp p q=true):Reg (jd c k a b x y p q) (z0 (divS (xScaleS p q c 1000000000).lo (xScaleS p q c 1000000000).hi (s7 c k a b x y).lo (s7 c k a b x y).hi)) (divS (xScaleS p q c 1000000000).lo (xScaleS p q c 1000000000).hi (s7 c k a b x y).lo (s7 c k a b x y).hi):=by
 have h:=Reg.div (Reg.sc (Reg.one (ri_of hp)) (sc_c hc)) (JR hc hk hx hy f)
 refine Reg.imp h ?_
 rw [show z0 (xScaleS (⟨p,q,0⟩:Sp).lo (⟨p,q,0⟩:Sp).hi c 1000000000)=true from zt (cur_0 hp hc).1]
 rfl
theorem cb_sc {n m:Int} (h:inL n) (hm:2<=m/\m<=5):scaleS 4294967296 4294967296 (IntKind.i64.wrap (n*m)) 1000000=cb n m:=by
 unfold inL at h
 have h1:-5000000000<=n*m/\n*m<=5000000000:=by
  obtain ⟨m1,m2⟩:=hm
  have:m=2\/m=3\/m=4\/m=5:=by omega
  rcases this with rfl|rfl|rfl|rfl <;> omega
 unfold cb
 rw [i64w (by omega) (by omega)]
 refine (xScaleS_eq _ _ _ _ fun _ _=>?_).symm
 have e:abH 4294967296 4294967296=4294967296:=by decide
 rw [e]
 have q:sg (n*m) (n*m)<=5000000000:=by
  unfold sg
  cases h:decide (n*m<0) with
  | true=>have:=of_decide_eq_true h; show -(n*m)<=_; omega
  | false=>have:=of_decide_eq_false h; show n*m<=_; omega
 omega
theorem Jcb {n m:Int} (h:inL n) (hm:2<=m/\m<=5):Reg (jcb n m) true (cb n m):=by
 obtain ⟨e,r⟩:=cb_0 h hm
 unfold jcb
 rw [cb_sc h hm]
 exact (kB_of _ fun _=>r).imp (zt e)
variable (u:z0 (u0 c k a b x y)=true)
include hx hy f u in
theorem Jh':Reg (jh a b x y) true (u0 c k a b x y):=by
 obtain ⟨e0,e1,e2,e3,e4,e5,e6⟩:=f.h
 refine (Jh hx hy).imp ?_
 rw [e0,e1,e2,u]; rfl
include hx hy i0 i1 i2 i3 f u in
theorem JE:Reg (jE a0 a1 a2 a3 a b x y) (z0 (q1 c k a0 a1 a2 a3 a b x y)) (q1 c k a0 a1 a2 a3 a b x y):=by
 have h:=Reg.eval (Jcb i0 (m:=2) (by decide)) (Jcb i1 (m:=3) (by decide)) (Jcb i2 (m:=4) (by decide)) (Jcb i3 (m:=5) (by decide)) (Jh' hx hy f u)
 exact Reg.imp (s:=q1 c k a0 a1 a2 a3 a b x y) h (Bool.true_and _)
include hx hy i0 i1 i2 i3 f u in
theorem Jv:Reg (jv a0 a1 a2 a3 a b x y) (z0 (q1 c k a0 a1 a2 a3 a b x y)&&z0 (q2 c k a0 a1 a2 a3 a b x y)) (q2 c k a0 a1 a2 a3 a b x y):=by
 have h:=Reg.mul (Jh' hx hy f u) (JE hx hy i0 i1 i2 i3 f u)
 exact Reg.imp (s:=q2 c k a0 a1 a2 a3 a b x y) h (by rw [Bool.true_and]; rfl)
theorem Jf {p q:Int} (hp:okSp p q=true):Reg (jf p q) true (fif p q):=by
 have h:=Reg.sc (Reg.one (ri_of hp)) sc_50
 refine Reg.imp (s:=fif p q) h ?_
 rw [show z0 (xScaleS _ _ 1 50)=true from zt (fif_0 hp).1]; rfl
include hc hk hx hy i0 i1 i2 i3 f u in
theorem JSx:Reg (jS c k a0 a1 a2 a3 a b x y a b) (z0 (s14 c k a b x y)&&(z0 (q1 c k a0 a1 a2 a3 a b x y)&&z0 (q2 c k a0 a1 a2 a3 a b x y)&&z0 (q3 c k a0 a1 a2 a3 a b x y))&&z0 (q4 c k a0 a1 a2 a3 a b x y)) (q4 c k a0 a1 a2 a3 a b x y):=
 Reg.add (Jd hc hk hx hy f hx) ((Reg.mul (Jf hx) (Jv hx hy i0 i1 i2 i3 f u)).imp (by rw [Bool.true_and]; rfl))
include hc hk hx hy i0 i1 i2 i3 f u in
theorem JSy:Reg (jS c k a0 a1 a2 a3 a b x y x y) (z0 (s12 c k a b x y)&&(z0 (q1 c k a0 a1 a2 a3 a b x y)&&z0 (q2 c k a0 a1 a2 a3 a b x y)&&z0 (q5 c k a0 a1 a2 a3 a b x y))&&z0 (q6 c k a0 a1 a2 a3 a b x y)) (q6 c k a0 a1 a2 a3 a b x y):=
 Reg.add (Jd hc hk hx hy f hy) ((Reg.mul (Jf hy) (Jv hx hy i0 i1 i2 i3 f u)).imp (by rw [Bool.true_and]; rfl))
end
theorem jU_t {c k a0 a1 a2 a3 a b x y p q:Int} {cc:Bool} {s:Sp} (has:asp a0 a1 a2 a3=true) (h:Reg (jS c k a0 a1 a2 a3 a b x y p q) cc s):Reg (jU c k a0 a1 a2 a3 a b x y p q) cc s:=by
 unfold jU; rw [has]; exact Reg.vsE h
section
variable {c k a0 a1 a2 a3 a b x y:Int} (hc:inL c) (hk:inK k) (hx:okSp a b=true) (hy:okSp x y=true) (i0:inL a0) (i1:inL a1) (i2:inL a2) (i3:inL a3)
include hc hk hx hy i0 i1 i2 i3 in
theorem ref_slpS (g:(sagS c k a0 a1 a2 a3 a b x y).e=0):∃ cc d,Reg (jU c k a0 a1 a2 a3 a b x y a b) cc (slU c k a0 a1 a2 a3 a b x y)/\Reg (jU c k a0 a1 a2 a3 a b x y x y) d (slV c k a0 a1 a2 a3 a b x y)/\slC c k a0 a1 a2 a3 a b x y=(cc&&d):=by
 have f:=sag_base g
 obtain ⟨e0,e1,e2,e3,e4,e5,e6⟩:=f.h
 unfold slU slV slC
 cases has:asp a0 a1 a2 a3 with
 | true=>
  have u:=sag_even g has
  have hX:=JSx hc hk hx hy i0 i1 i2 i3 f u
  have hY:=JSy hc hk hx hy i0 i1 i2 i3 f u
  have hX':=jU_t has hX
  have hY':=jU_t has hY
  refine ⟨_,_,hX',hY',?_⟩
  .show slA c k a0 a1 a2 a3 a b x y=_
   unfold slA slB slE
   rw [e2,f.h8,f.h9,f.h10]
   simp only [Bool.true_and,Bool.and_assoc]
 | false=>
  have hX':Reg (jU c k a0 a1 a2 a3 a b x y a b) (z0 (s14 c k a b x y)) (s14 c k a b x y):=by unfold jU; rw [has]; exact Reg.vsE (Jd hc hk hx hy f hx)
  have hY':Reg (jU c k a0 a1 a2 a3 a b x y x y) (z0 (s12 c k a b x y)) (s12 c k a b x y):=by unfold jU; rw [has]; exact Reg.vsE (Jd hc hk hx hy f hy)
  refine ⟨_,_,hX',hY',?_⟩
  .show slP c k a b x y=_
   unfold slP slB
   rw [e2,f.h8,f.h9,f.h10]
   rfl
end
section
variable (c k l m a b x y:Int)
def hhr:Sp:=⟨bif hhb c k l m a b x y then 1 else bif hhn c k l m a b x y then 1 else (hhR c k l m a b x y).lo,bif hhb c k l m a b x y then 0 else bif hhn c k l m a b x y then 0 else (hhR c k l m a b x y).hi,0⟩
def hq1 (p q n:Int):Sp:=kB (scaleS p q n 1000000000)
def hq2 (p q n:Int):Sp:=kB (scaleS (hq1 p q n).lo (hq1 p q n).hi n 1000000000)
def hq3 (p q n w:Int):Sp:=kB (scaleS (hq2 p q n).lo (hq2 p q n).hi (IntKind.i64.wrap (1000000+w)) 1000000)
def hq4 (p q n w:Int):Sp:=kB (divS (hq3 p q n w).lo (hq3 p q n w).hi (hhr c k l m a b x y).lo (hhr c k l m a b x y).hi)
def hq5 (p q n w:Int):Sp:=kB (mulS (hhz c k l m a b x y).lo (hhz c k l m a b x y).hi (hq4 c k l m a b x y p q n w).lo (hq4 c k l m a b x y p q n w).hi)
def hq6 (p q n:Int):Sp:=kB (scaleS (hq1 p q n).lo (hq1 p q n).hi 2 1)
def hq7 (p q n w:Int):Sp:=kB (addS (hq6 p q n).lo (hq6 p q n).hi (hq5 c k l m a b x y p q n w).lo (hq5 c k l m a b x y p q n w).hi)
def hq8:Sp:=kB (addS 4294967296 4294967296 (hhr c k l m a b x y).lo (hhr c k l m a b x y).hi)
def hq9 (p q n w:Int):Sp:=kB (divS (hq7 c k l m a b x y p q n w).lo (hq7 c k l m a b x y p q n w).hi (hq8 c k l m a b x y).lo (hq8 c k l m a b x y).hi)
end
section
variable {c k l m a b x y:Int} (hc:inL c) (hk:inK k) (hl:inL l) (hm:inK m) (hx:okSp a b=true) (hy:okSp x y=true) (f:BaseX c k l m a b x y)
include f in
theorem baseX_t:sagXC c k l m a b x y=true/\(sagX0 c k l m a b x y&&z0 (b9 c k l m a b x y))=true:=by
 have h0:sagX0 c k l m a b x y=true:=by
  unfold sagX0
  rw [f.e0,f.e1,f.e2,f.e3,f.e4,f.e5,f.e6,f.e7,f.e8]; rfl
 refine ⟨?_,by rw [h0,f.e9]; rfl⟩
 unfold sagXC
 rw [h0,f.e9,f.e10,f.e11,f.e12,f.e13,decide_eq_false (show ¬ (b9 c k l m a b x y).lo<=0 by have:=f.p; omega)]; rfl
include hc hk hl hm hx hy f in
theorem Hr:Reg (hhr c k l m a b x y) true (b10 c k l m a b x y):=by
 have h:=(baseX_t f).2
 have h1:=HHb hc hk hl hm hx hy
 have h2:=HHn hc hk hl hm hx hy h
 have h3:=HHR hc hk hl hm hx hy
 rw [h] at h1 h3
 rw [decide_eq_false (show ¬ (b9 c k l m a b x y).lo<=0 by have:=f.p; omega)] at h2
 have e:hhr c k l m a b x y=⟨(hhR c k l m a b x y).lo,(hhR c k l m a b x y).hi,0⟩:=by unfold hhr; rw [h1,h2]; rfl
 rw [e]
 refine (Reg.vsE h3).imp ?_
 rw [f.e10]; rfl
include hc hk hl hm hx hy f in
theorem Hz:Reg (hhz c k l m a b x y) true (b13 c k l m a b x y):=(HHz hc hk hl hm hx hy).imp (baseX_t f).1
include hc hk hl hm hx hy f in
theorem H8:Reg (hq8 c k l m a b x y) true (b12 c k l m a b x y):=by
 have h:=Reg.add (Reg.const one_ri) (Hr hc hk hl hm hx hy f)
 exact Reg.imp (s:=b12 c k l m a b x y) h (by show (true&&true&&z0 (b12 c k l m a b x y))=true; rw [f.e12]; rfl)
theorem z0_bd {s:Sp} {M:Int} (h:Bd s M):z0 s=true:=zt h.e
include hc hk hl hm hx hy f in
theorem HX:Reg (hq9 c k l m a b x y a b l m) (z0 (b17 c k l m a b x y)&&(z0 (b26 c k l m a b x y)&&(z0 (b28 c k l m a b x y)&&z0 (b29 c k l m a b x y)))) (b29 c k l m a b x y):=by
 have r1:Reg (hq1 a b l) true (b14 c k l m a b x y):=(Reg.sc (Reg.one (ri_of hx)) (sc_c hl)).imp (by show (true&&z0 (b14 c k l m a b x y))=true; rw [z0_bd (X14_b hc hk hl hm hx hy f)]; rfl)
 have r2:Reg (hq2 a b l) true (b15 c k l m a b x y):=(Reg.sc r1 (sc_c hl)).imp (by show (true&&z0 (b15 c k l m a b x y))=true; rw [z0_bd (X15_b hc hk hl hm hx hy f)]; rfl)
 have r3:Reg (hq3 a b l m) true (b16 c k l m a b x y):=(Reg.sc r2 (sc_k hm)).imp (by show (true&&z0 (b16 c k l m a b x y))=true; rw [z0_bd (X16_b hc hk hl hm hx hy f)]; rfl)
 have r4:=Reg.div r3 (Hr hc hk hl hm hx hy f)
 have r5:=Reg.mul (Hz hc hk hl hm hx hy f) r4
 have r6:Reg (hq6 a b l) true (b27 c k l m a b x y):=(Reg.sc r1 sc_21).imp (by show (true&&z0 (b27 c k l m a b x y))=true; rw [z0_bd (X27_b hc hk hl hm hx hy f)]; rfl)
 have r7:=Reg.add r6 r5
 have r9:=Reg.div r7 (H8 hc hk hl hm hx hy f)
 refine Reg.imp (s:=b29 c k l m a b x y) r9 ?_
 show (true&&(true&&(true&&true&&z0 (b17 c k l m a b x y))&&z0 (b26 c k l m a b x y))&&z0 (b28 c k l m a b x y)&&true&&z0 (b29 c k l m a b x y))=_
 simp only [Bool.true_and,Bool.and_true,Bool.and_assoc]
include hc hk hl hm hx hy f in
theorem HY:Reg (hq9 c k l m a b x y x y c k) (z0 (b21 c k l m a b x y)&&(z0 (b22 c k l m a b x y)&&(z0 (b24 c k l m a b x y)&&z0 (b25 c k l m a b x y)))) (b25 c k l m a b x y):=by
 have r1:Reg (hq1 x y c) true (b18 c k l m a b x y):=(Reg.sc (Reg.one (ri_of hy)) (sc_c hc)).imp (by show (true&&z0 (b18 c k l m a b x y))=true; rw [z0_bd (X18_b hc hk hl hm hx hy f)]; rfl)
 have r2:Reg (hq2 x y c) true (b19 c k l m a b x y):=(Reg.sc r1 (sc_c hc)).imp (by show (true&&z0 (b19 c k l m a b x y))=true; rw [z0_bd (X19_b hc hk hl hm hx hy f)]; rfl)
 have r3:Reg (hq3 x y c k) true (b20 c k l m a b x y):=(Reg.sc r2 (sc_k hk)).imp (by show (true&&z0 (b20 c k l m a b x y))=true; rw [z0_bd (X20_b hc hk hl hm hx hy f)]; rfl)
 have r4:=Reg.div r3 (Hr hc hk hl hm hx hy f)
 have r5:=Reg.mul (Hz hc hk hl hm hx hy f) r4
 have r6:Reg (hq6 x y c) true (b23 c k l m a b x y):=(Reg.sc r1 sc_21).imp (by show (true&&z0 (b23 c k l m a b x y))=true; rw [z0_bd (X23_b hc hk hl hm hx hy f)]; rfl)
 have r7:=Reg.add r6 r5
 have r9:=Reg.div r7 (H8 hc hk hl hm hx hy f)
 refine Reg.imp (s:=b25 c k l m a b x y) r9 ?_
 show (true&&(true&&(true&&true&&z0 (b21 c k l m a b x y))&&z0 (b22 c k l m a b x y))&&z0 (b24 c k l m a b x y)&&true&&z0 (b25 c k l m a b x y))=_
 simp only [Bool.true_and,Bool.and_true,Bool.and_assoc]
end
section
variable {c k l m a b x y:Int} (hc:inL c) (hk:inK k) (hl:inL l) (hm:inK m) (hx:okSp a b=true) (hy:okSp x y=true)
include hc hk hl hm hx hy in
theorem ref_slpX (g:(sagX c k l m a b x y).e=0):∃ cc d,Reg (hq9 c k l m a b x y a b l m) cc (b29 c k l m a b x y)/\Reg (hq9 c k l m a b x y x y c k) d (b25 c k l m a b x y)/\slX c k l m a b x y=(cc&&d):=by
 have f:=sagX_base g
 refine ⟨_,_,HX hc hk hl hm hx hy f,HY hc hk hl hm hx hy f,?_⟩
 unfold slX slXB
 rw [f.e8,f.e11,f.e12,f.e13]
 simp only [Bool.true_and]
end
end Go.Rd
namespace Go.Proofs.YtjmhddncomglmaaGreatDoor.K
open Go Go.Eng Go.Ar Go.Rd
noncomputable section
def pK (s:Su) (n:Int) (ys:List Int) (k:Int):Prop:=okF3 n ys/\s.g.size<1000000000/\rightS s ys=true/\s.kd=k
def sagV (k:Int) (F:Su->Int->Int->Int->Int->Sp):Nat->List Itm->Option (Prop×AV×List ABody):=fun _ its=>match its with
 | [.s xs n ys,.n [.n a,.n b],.n [.n x,.n y]]=>match suOf xs with
  | some s=>some (pK s n ys k/\okSp a b=true/\okSp x y=true,spV (F s a b x y),[])
  | none=>none
 | _=>none
theorem sagV_ok {k:Int} {F:Su->Int->Int->Int->Int->Sp} (h:∀ s a b x y,s.kd=k->k≠3/\sagK s a b x y=F s a b x y):NOk Tryz.prog glob hG 119 (lSpec hG [.s suI .i64,.n sS,.n sS] (sagV k F)):=by
 refine lSpec_weaken sagG_ok fun sz its p v bs e=>?_
 unfold sagV at e
 split at e
 .rename_i xs n ys a b x y
  split at e
  .rename_i s hs
   cases e
   refine ⟨okF3 n ys/\s.g.size<1000000000,sagA' s ys a b x y,by simp only [suV2,hs],fun hp=>⟨⟨hp.1.1,hp.1.2.1⟩,fun σ U hU=>?_⟩⟩
   obtain ⟨h3,hF⟩:=h s a b x y hp.1.2.2.2
   have e:sagG s ys a b x y=F s a b x y:=by
    unfold sagG okXY
    rw [hp.1.2.2.1,hp.2.1,hp.2.2,hp.1.2.2.2,beq_eq_false_iff_ne.2 h3]
    exact hF
   unfold sagA' at hU
   rw [e] at hU
   exact hU
  .cases e
 .cases e
def sag1F:Su->Int->Int->Int->Int->Sp:=fun s a b x y=>sagS s.c s.k s.a0 s.a1 s.a2 s.a3 a b x y
def sag2F:Su->Int->Int->Int->Int->Sp:=fun s a b x y=>sagX s.c s.k s.l s.m a b x y
theorem sag1_ok:NOk Tryz.prog glob hG 119 (lSpec hG [.s suI .i64,.n sS,.n sS] (sagV 1 sag1F)):=sagV_ok fun s a b x y h=>⟨by decide,by unfold sagK sag1F; rw [h]; rfl⟩
theorem sag2_ok:NOk Tryz.prog glob hG 119 (lSpec hG [.s suI .i64,.n sS,.n sS] (sagV 2 sag2F)):=sagV_ok fun s a b x y h=>⟨by decide,by unfold sagK sag2F; rw [h]; rfl⟩
def sagE' (k:Int):Nat->List Itm->Option (Prop×AV×List ABody):=fun _ its=>match its with
 | [.s xs n ys,.n [.n a,.n b],.n [.n x,.n y]]=>match suOf xs with
  | some s=>some (okF3 n ys/\s.g.size<1000000000/\sagG s ys a b x y=⟨0,0,k⟩,eV k,[])
  | none=>none
 | _=>none
theorem sagE_ok (k:Int):NOk Tryz.prog glob hG 119 (lSpec hG [.s suI .i64,.n sS,.n sS] (sagE' k)):=by
 refine lSpec_weaken sagG_ok fun sz its p v bs e=>?_
 unfold sagE' at e
 split at e
 .rename_i xs n ys a b x y
  split at e
  .rename_i s hs
   cases e
   refine ⟨okF3 n ys/\s.g.size<1000000000,sagA' s ys a b x y,by simp only [suV2,hs],fun hp=>⟨⟨hp.1,hp.2.1⟩,fun σ U hU=>?_⟩⟩
   unfold sagA' at hU
   rw [hp.2.2] at hU
   exact hU
  .cases e
 .cases e
def tblV:List (FuncId×NSpec):=[(111,hN (gH chkSpec)),(113,hN (gH (good2 [shS] sqrS))),(114,hN (gH (good4 [shS,shS] subS))),(79,hN (gH (good2 [shS] sqrtS))),(112,hN (gH (good4 [shS,.i .i64,.i .i64] xScaleS)))]
theorem tblV_g:∀ x∈tblV,NOk Tryz.prog glob hG x.1 x.2:=by
 intro x hx
 simp only [tblV,List.mem_cons,List.not_mem_nil,or_false] at hx
 rcases hx with rfl|rfl|rfl|rfl|rfl
 .exact chk0.h.n
 .exact (good_un ssqr_ok).h.n
 .exact (good_bin ssub_ok).h.n
 .exact (good_un ssqrt_ok).h.n
 .exact (good_sc sscale_ok).h.n
def hDom (q:Bool) (_ d:Nat):Option AV:=match Nat.beq d 102 with
 | true=>some (.bool false false)
 | false=>match Nat.beq d 62 with
  | true=>(match q with|true=>some (.bool false true)|false=>some (.bool false false))
  | false=>none
def cV (S:NSpec) (q:Bool):Ctx:=hinting (mkN Tryz.prog glob hG ((119,S) :: tblV) tblTe ext) (hDom q)
theorem cV_ok {S:NSpec} (h:NOk Tryz.prog glob hG 119 S) (q:Bool):CtxOk (cV S q):=hinting_ok (mkN_ok prog_ok ext_ok (fun x hx=>by
 rcases List.mem_cons.1 hx with rfl|hx
 .exact h
 .exact tblV_g x hx) tblTe_g) (hDom q)
def cV1 (q:Bool):Ctx:=cV (lSpec hG [.s suI .i64,.n sS,.n sS] (sagV 1 sag1F)) q
def cV2:Ctx:=cV (lSpec hG [.s suI .i64,.n sS,.n sS] (sagV 2 sag2F)) false
def cVe (k:Int):Ctx:=mkN Tryz.prog glob hG [(119,lSpec hG [.s suI .i64,.n sS,.n sS] (sagE' k))] [] ext
theorem cVe_ok (k:Int):CtxOk (cVe k):=by
 refine mkN_ok prog_ok ext_ok (fun x hx=>?_) (fun _ h=>by cases h)
 simp only [List.mem_cons,List.not_mem_nil,or_false] at hx
 subst hx
 exact sagE_ok k
def eV2 (k:Int):AV:=.tuple [.agg [.int false .i64 0,.int false .i64 0],.agg [.int false .i64 0,.int false .i64 0],.int false .i64 k]
theorem ul_1t (s:Su) (n:Int) (ys:List Int) (a b x y:Int):rw2 (cV1 true) 120 (s.cells (.int false .i64 1)) n ys a b x y=some (.p (tcF (pK { s with kd:=1 } n ys 1) ⟨s.c,s.k,s.a0,s.a1,s.a2,s.a3,a,b,x,y⟩),sp2V (sagS s.c s.k s.a0 s.a1 s.a2 s.a3 a b x y).e (slA s.c s.k s.a0 s.a1 s.a2 s.a3 a b x y) (q4 s.c s.k s.a0 s.a1 s.a2 s.a3 a b x y) (q6 s.c s.k s.a0 s.a1 s.a2 s.a3 a b x y)):=by kernel_rfl
theorem ul_1f (s:Su) (n:Int) (ys:List Int) (a b x y:Int):rw2 (cV1 false) 120 (s.cells (.int false .i64 1)) n ys a b x y=some (.p (teF (pK { s with kd:=1 } n ys 1) ⟨s.c,s.k,s.a0,s.a1,s.a2,s.a3,a,b,x,y⟩),sp2V (sagS s.c s.k s.a0 s.a1 s.a2 s.a3 a b x y).e (slP s.c s.k a b x y) (s14 s.c s.k a b x y) (s12 s.c s.k a b x y)):=by kernel_rfl
theorem ul_2 (s:Su) (n:Int) (ys:List Int) (a b x y:Int):rw2 cV2 120 (s.cellsZ (.int false .i64 2)) n ys a b x y=some (.p (tdF (pK { s with kd:=2,a0:=0,a1:=0,a2:=0,a3:=0 } n ys 2) ⟨s.c,s.k,s.l,s.m,a,b,x,y⟩),slpX s.c s.k s.l s.m a b x y):=by kernel_rfl
theorem ul_4 (s:Su) (n:Int) (ys:List Int) (a b x y:Int):rw2 (cVe 0) 120 (s.cells (.int false .i64 4)) n ys a b x y=some (.p (okF3 n ys/\s.g.size<1000000000/\sagG { s with kd:=4 } ys a b x y=⟨0,0,0⟩),eV2 0):=by kernel_rfl
theorem ul_e5 (s:Su) (n:Int) (ys:List Int) (a b x y:Int):rw2 (cVe 5) 120 (s.cells (.int true .i64 s.kd)) n ys a b x y=some (.p (okF3 n ys/\s.g.size<1000000000/\sagG s ys a b x y=⟨0,0,5⟩),eV2 5):=by kernel_rfl
theorem ul_e20 (s:Su) (n:Int) (ys:List Int) (a b x y:Int):rw2 (cVe 20) 120 (s.cells (.int true .i64 s.kd)) n ys a b x y=some (.p (okF3 n ys/\s.g.size<1000000000/\sagG s ys a b x y=⟨0,0,20⟩),eV2 20):=by kernel_rfl
theorem ul_e110 (s:Su) (n:Int) (ys:List Int) (a b x y:Int):rw2 (cVe 110) 120 (s.cells (.int true .i64 s.kd)) n ys a b x y=some (.p (okF3 n ys/\s.g.size<1000000000/\sagG s ys a b x y=⟨0,0,110⟩),eV2 110):=by kernel_rfl
theorem eV2_tell {k:Int} {g:Int} {p:Bool} {u v:Sp} (h:g=k) (h0:k≠0):tell (eV2 k) (sp2V g p u v):=by
 subst h
 have e:t1 g=true:=by unfold t1; rw [bne0 h0]; rfl
 have e1:∀ z,tw1 g p z=0:=fun z=>by unfold tw1; rw [e]; rfl
 have e2:twE g p=g:=by unfold twE; rw [e]; rfl
 exact ⟨⟨⟨rfl,(e1 _).symm⟩,⟨rfl,(e1 _).symm⟩,trivial⟩,⟨⟨rfl,(e1 _).symm⟩,⟨rfl,(e1 _).symm⟩,trivial⟩,⟨rfl,e2.symm⟩,trivial⟩
theorem sp2V_tell {g:Int} {p:Bool} {u v:Sp} {S:AV} (h:sp2V g p u v=S):tell (sp2V g p u v) S:=by
 subst h
 exact ⟨⟨⟨rfl,rfl⟩,⟨rfl,rfl⟩,trivial⟩,⟨⟨rfl,rfl⟩,⟨rfl,rfl⟩,trivial⟩,⟨rfl,rfl⟩,trivial⟩
theorem pkz {s:Su} {ys:List Int} {n:Int} (hk:s.kd=2) (h0:s.a0=0/\s.a1=0/\s.a2=0/\s.a3=0) (ho:okF3 n ys) (hg:s.g.size<1000000000) (h:rightS s ys=true):pK { s with kd:=2,a0:=0,a1:=0,a2:=0,a3:=0 } n ys 2:=by
 have e:({ s with kd:=2,a0:=0,a1:=0,a2:=0,a3:=0 }:Su)=s:=by
  obtain ⟨h1,h2,h3,h4⟩:=h0
  cases s
  simp_all
 rw [e]
 exact ⟨ho,hg,h,hk⟩
theorem pk1 {s:Su} {ys:List Int} {n:Int} (hk:s.kd=1) (ho:okF3 n ys) (hg:s.g.size<1000000000) (h:rightS s ys=true):pK { s with kd:=1 } n ys 1:=by rw [su_kd hk]; exact ⟨ho,hg,h,hk⟩
theorem slpG_ok:NOk Tryz.prog glob hG 120 (lSpec hG [.s suI .i64,.n sS,.n sS] (suV2 slpG)):=by
 refine su2_ok ⟨_,Tryz.func120,rfl⟩ fun s n ys a b x y hg ho=>?_
 cases hr:rightS s ys with
 | false=>
  have e:sagG s ys a b x y=⟨0,0,110⟩:=by unfold sagG; rw [hr]; rfl
  exact ⟨cVe 110,s.cells (.int true .i64 s.kd),_,_,cVe_ok _,rfl,rfl,tell_kd ⟨rfl,rfl⟩,ul_e110 s n ys a b x y,rfl,⟨ho,hg,e⟩,eV2_tell (by rw [e]) (by decide)⟩
 | true=>
  have bad:okXY a b x y=false->s.kd≠3->sagG s ys a b x y=⟨0,0,20⟩:=fun h h3=>by unfold sagG; rw [hr,h,beq_eq_false_iff_ne.2 h3]; rfl
  have good:okXY a b x y=true->s.kd≠3->sagG s ys a b x y=sagK s a b x y:=fun h h3=>by unfold sagG; rw [hr,h,beq_eq_false_iff_ne.2 h3]; rfl
  cases hx:okXY a b x y with
  | false=>
   by_cases h3:s.kd=3
   .have e:sagG s ys a b x y=⟨0,0,5⟩:=by unfold sagG; rw [hr,h3]; rfl
    exact ⟨cVe 5,s.cells (.int true .i64 s.kd),_,_,cVe_ok _,rfl,rfl,tell_kd ⟨rfl,rfl⟩,ul_e5 s n ys a b x y,rfl,⟨ho,hg,e⟩,eV2_tell (by rw [e]) (by decide)⟩
   .exact ⟨cVe 20,s.cells (.int true .i64 s.kd),_,_,cVe_ok _,rfl,rfl,tell_kd ⟨rfl,rfl⟩,ul_e20 s n ys a b x y,rfl,⟨ho,hg,bad hx h3⟩,eV2_tell (by rw [bad hx h3]) (by decide)⟩
  | true=>
   have hh:okSp a b=true/\okSp x y=true:=by simpa [okXY] using hx
   rcases right_kd hr with hk|hk|hk|hk
   .have eg:sagG s ys a b x y=sagS s.c s.k s.a0 s.a1 s.a2 s.a3 a b x y:=by rw [good hx (by omega)]; unfold sagK; rw [hk]; rfl
    have e:slpV s.c s.k s.a0 s.a1 s.a2 s.a3 a b x y=slpG s ys a b x y:=by unfold slpG slpC slpU slpZ; rw [eg,hk]; rfl
    cases has:asp s.a0 s.a1 s.a2 s.a3 with
    | true=>exact ⟨cV1 true,s.cells (.int false .i64 1),_,_,cV_ok sag1_ok _,rfl,rfl,tell_kd ⟨rfl,hk⟩,ul_1t s n ys a b x y,rfl,tcF_ok (pk1 hk ho hg hr) (right_std hr) hh.1 hh.2 has,sp2V_tell ((slpV_t (h:=has) ..).trans e)⟩
    | false=>exact ⟨cV1 false,s.cells (.int false .i64 1),_,_,cV_ok sag1_ok _,rfl,rfl,tell_kd ⟨rfl,hk⟩,ul_1f s n ys a b x y,rfl,teF_ok (pk1 hk ho hg hr) (right_std hr) hh.1 hh.2 has,sp2V_tell ((slpV_f (h:=has) ..).trans e)⟩
   .have eg:sagG s ys a b x y=sagX s.c s.k s.l s.m a b x y:=by rw [good hx (by omega)]; unfold sagK; rw [hk]; rfl
    have e:slpX s.c s.k s.l s.m a b x y=slpG s ys a b x y:=by unfold slpG slpC slpU slpZ slpX; rw [eg,hk]; rfl
    exact ⟨cV2,s.cellsZ (.int false .i64 2),_,_,cV_ok sag2_ok _,rfl,rfl,tell_kz hk (right_noA hr hk),ul_2 s n ys a b x y,rfl,tdF_ok (pkz hk (right_noA hr hk) ho hg hr) (right_bic hr) hh.1 hh.2,sp2V_tell e⟩
   .have e:sagG s ys a b x y=⟨0,0,5⟩:=by unfold sagG; rw [hr,hk]; rfl
    exact ⟨cVe 5,s.cells (.int true .i64 s.kd),_,_,cVe_ok _,rfl,rfl,tell_kd ⟨rfl,rfl⟩,ul_e5 s n ys a b x y,rfl,⟨ho,hg,e⟩,eV2_tell (by rw [e]) (by decide)⟩
   .have eg:sagG s ys a b x y=⟨0,0,0⟩:=by rw [good hx (by omega)]; unfold sagK; rw [hk]; rfl
    have e:slpG s ys a b x y=sp2V 0 true ⟨0,0,0⟩ ⟨0,0,0⟩:=by unfold slpG slpC slpU slpZ; rw [eg,hk]; rfl
    refine ⟨cVe 0,s.cells (.int false .i64 4),_,_,cVe_ok _,rfl,rfl,tell_kd ⟨rfl,hk⟩,ul_4 s n ys a b x y,rfl,⟨ho,hg,by rw [su_kd hk]; exact eg⟩,?_⟩
    rw [e]
    exact ⟨⟨⟨rfl,rfl⟩,⟨rfl,rfl⟩,trivial⟩,⟨⟨rfl,rfl⟩,⟨rfl,rfl⟩,trivial⟩,⟨rfl,rfl⟩,trivial⟩
end
end Go.Proofs.YtjmhddncomglmaaGreatDoor.K
namespace Go.Proofs.YtjmhddncomglmaaGreatDoor.K
open Go Go.Eng Go.Ar Go.Rd
noncomputable section
theorem rsagE_ok (k:Int):NOk Tryz.prog glob8 hG8 131 (lSpec hG8 [.s suI .i64,.n sS,.n sS] (sagE' k)):=by
 refine lSpec_weaken rsag_ok fun sz its p v bs e=>?_
 unfold sagE' at e
 split at e
 .rename_i xs n ys a b x y
  split at e
  .rename_i s hs
   cases e
   refine ⟨okF3 n ys/\s.g.size<1000000000,sagA' s ys a b x y,by simp only [suV2,hs],fun hp=>⟨⟨hp.1,hp.2.1⟩,fun σ U hU=>?_⟩⟩
   unfold sagA' at hU
   rw [hp.2.2] at hU
   exact hU
  .cases e
 .cases e
def cRe (k:Int):Ctx:=mkN Tryz.prog glob8 hG8 [(131,lSpec hG8 [.s suI .i64,.n sS,.n sS] (sagE' k))] [] ext
theorem cRe_ok (k:Int):CtxOk (cRe k):=by
 refine mkN_ok prog_ok ext_ok (fun x hx=>?_) (fun _ h=>by cases h)
 simp only [List.mem_cons,List.not_mem_nil,or_false] at hx
 subst hx
 exact rsagE_ok k
def mid (s:Su) (n a b x y:Int):Prop:=s.k=s.k/\s.c=s.c/\(x=x/\y=y)/\(x=x/\y=y)/\(a=a/\b=b)/\same21 s n
def mid2 (s:Su) (n a b x y:Int):Prop:=s.k=s.k/\s.c=s.c/\(x=x/\y=y)/\(x=x/\y=y)/\(a=a/\b=b)/\s.c=s.c/\s.k=s.k/\s.l=s.l/\s.m=s.m/\s.f0=s.f0/\s.f1=s.f1/\s.o=s.o/\s.th=s.th/\s.g=s.g/\s.se=s.se/\s.ho=s.ho/\s.dx=s.dx/\s.dy=s.dy/\s.ax=s.ax/\s.ay=s.ay/\s.az=s.az/\n=n
def lx (s:Su) (n a b x y p q:Int):Prop:=asp s.a0 s.a1 s.a2 s.a3=true->(x=x/\y=y)/\(eqS (jh a b x y)/\same21 s n/\eqS (jh a b x y)/\eqS (jd s.c s.k a b x y p q))/\True/\(eqS (jh a b x y)/\eqS (jd s.c s.k a b x y p q))/\eqS (jd s.c s.k a b x y p q)/\eqS (jd s.c s.k a b x y p q)
theorem lx_t (s:Su) (n a b x y p q:Int):lx s n a b x y p q:=fun _=>⟨⟨rfl,rfl⟩,⟨eqS_t _,same21_t s n,eqS_t _,eqS_t _⟩,trivial,⟨eqS_t _,eqS_t _⟩,eqS_t _,eqS_t _⟩
def pz (s:Su) (n:Int) (ys:List Int):Prop:=okF3 n ys/\s.g.size<1000000000
def jUx (s:Su) (a b x y:Int):Sp:=jU s.c s.k s.a0 s.a1 s.a2 s.a3 a b x y a b
def jUy (s:Su) (a b x y:Int):Sp:=jU s.c s.k s.a0 s.a1 s.a2 s.a3 a b x y x y
def rM1 (s:Su) (g n:Int) (ys:List Int) (a b x y:Int):Prop:=pz s n ys/\((!t1 g)=true->s.k=s.k/\((ld1 s a b x y/\lx s n a b x y a b)/\mid s n a b x y/\ld1 s a b x y/\lx s n a b x y x y)/\((!badUV (jUx s a b x y) (jUy s a b x y))=true->eqS (jUy s a b x y)))
theorem rM1_t {s:Su} {g n:Int} {ys:List Int} {a b x y:Int} (h:pz s n ys):rM1 s g n ys a b x y:=⟨h,fun _=>⟨rfl,⟨⟨ld1_t s a b x y,lx_t s n a b x y a b⟩,⟨rfl,rfl,⟨rfl,rfl⟩,⟨rfl,rfl⟩,⟨rfl,rfl⟩,same21_t s n⟩,ld1_t s a b x y,lx_t s n a b x y x y⟩,fun _=>eqS_t _⟩⟩
def hqx (s:Su) (a b x y:Int):Sp:=hq9 s.c s.k s.l s.m a b x y a b s.l s.m
def hqy (s:Su) (a b x y:Int):Sp:=hq9 s.c s.k s.l s.m a b x y x y s.c s.k
def ly (s:Su) (a b x y p q n w:Int):Prop:=(eqS (hhr s.c s.k s.l s.m a b x y)/\eqS (hhr s.c s.k s.l s.m a b x y))/\(eqS (hhr s.c s.k s.l s.m a b x y)/\eqS (hq4 s.c s.k s.l s.m a b x y p q n w)/\eqS (hhz s.c s.k s.l s.m a b x y))/\eqS (hhr s.c s.k s.l s.m a b x y)/\eqS (hhr s.c s.k s.l s.m a b x y)/\eqS (hhr s.c s.k s.l s.m a b x y)
theorem ly_t (s:Su) (a b x y p q n w:Int):ly s a b x y p q n w:=⟨⟨eqS_t _,eqS_t _⟩,⟨eqS_t _,eqS_t _,eqS_t _⟩,eqS_t _,eqS_t _,eqS_t _⟩
def rM2 (s:Su) (g n:Int) (ys:List Int) (a b x y:Int):Prop:=pz s n ys/\((!t1 g)=true->s.k=s.k/\((ld2 s a b x y/\ly s a b x y a b s.l s.m)/\mid2 s n a b x y/\ld2 s a b x y/\ly s a b x y x y s.c s.k)/\((!badUV (hqx s a b x y) (hqy s a b x y))=true->eqS (hqy s a b x y)))
theorem rM2_t {s:Su} {g n:Int} {ys:List Int} {a b x y:Int} (h:pz s n ys):rM2 s g n ys a b x y:=⟨h,fun _=>⟨rfl,⟨⟨ld2_t s a b x y,ly_t s a b x y _ _ _ _⟩,by unfold mid2; simp,ld2_t s a b x y,ly_t s a b x y _ _ _ _⟩,fun _=>eqS_t _⟩⟩
theorem rl_1 (s:Su) (n:Int) (ys:List Int) (a b x y:Int):rw8 cRs 132 (s.cells (.int false .i64 1)) n ys a b x y=some (.p (rM1 s (sagG { s with kd:=1 } ys a b x y).e n ys a b x y),slR (sagG { s with kd:=1 } ys a b x y).e (badUV (jUx s a b x y) (jUy s a b x y)) (jUx s a b x y) (jUy s a b x y)):=by kernel_rfl
theorem rl_2 (s:Su) (n:Int) (ys:List Int) (a b x y:Int):rw8 cRs 132 (s.cellsZ (.int false .i64 2)) n ys a b x y=some (.p (rM2 s (sagG { s with kd:=2,a0:=0,a1:=0,a2:=0,a3:=0 } ys a b x y).e n ys a b x y),slR (sagG { s with kd:=2,a0:=0,a1:=0,a2:=0,a3:=0 } ys a b x y).e (badUV (hqx s a b x y) (hqy s a b x y)) (hqx s a b x y) (hqy s a b x y)):=by kernel_rfl
theorem rl_4 (s:Su) (n:Int) (ys:List Int) (a b x y:Int):rw8 (cRe 0) 132 (s.cells (.int false .i64 4)) n ys a b x y=some (.p (okF3 n ys/\s.g.size<1000000000/\sagG { s with kd:=4 } ys a b x y=⟨0,0,0⟩),eV2 0):=by kernel_rfl
theorem rl_e5 (s:Su) (n:Int) (ys:List Int) (a b x y:Int):rw8 (cRe 5) 132 (s.cells (.int true .i64 s.kd)) n ys a b x y=some (.p (okF3 n ys/\s.g.size<1000000000/\sagG s ys a b x y=⟨0,0,5⟩),eV2 5):=by kernel_rfl
theorem rl_e20 (s:Su) (n:Int) (ys:List Int) (a b x y:Int):rw8 (cRe 20) 132 (s.cells (.int true .i64 s.kd)) n ys a b x y=some (.p (okF3 n ys/\s.g.size<1000000000/\sagG s ys a b x y=⟨0,0,20⟩),eV2 20):=by kernel_rfl
theorem rl_e110 (s:Su) (n:Int) (ys:List Int) (a b x y:Int):rw8 (cRe 110) 132 (s.cells (.int true .i64 s.kd)) n ys a b x y=some (.p (okF3 n ys/\s.g.size<1000000000/\sagG s ys a b x y=⟨0,0,110⟩),eV2 110):=by kernel_rfl
theorem su_kz {s:Su} (h:s.kd=2) (h0:s.a0=0/\s.a1=0/\s.a2=0/\s.a3=0):({ s with kd:=2,a0:=0,a1:=0,a2:=0,a3:=0 }:Su)=s:=by
 obtain ⟨h1,h2,h3,h4⟩:=h0
 cases s
 simp_all
theorem rslp_ok:NOk Tryz.prog glob8 hG8 132 (lSpec hG8 [.s suI .i64,.n sS,.n sS] (suV2 slpG)):=by
 refine su8_ok ⟨_,Tryz.func132,rfl⟩ fun s n ys a b x y hg ho=>?_
 cases hr:rightS s ys with
 | false=>
  have e:sagG s ys a b x y=⟨0,0,110⟩:=by unfold sagG; rw [hr]; rfl
  exact ⟨cRe 110,s.cells (.int true .i64 s.kd),_,_,cRe_ok _,rfl,rfl,tell_kd ⟨rfl,rfl⟩,rl_e110 s n ys a b x y,rfl,⟨ho,hg,e⟩,eV2_tell (by rw [e]) (by decide)⟩
 | true=>
  have bad:okXY a b x y=false->s.kd≠3->sagG s ys a b x y=⟨0,0,20⟩:=fun h h3=>by unfold sagG; rw [hr,h,beq_eq_false_iff_ne.2 h3]; rfl
  have good:okXY a b x y=true->s.kd≠3->sagG s ys a b x y=sagK s a b x y:=fun h h3=>by unfold sagG; rw [hr,h,beq_eq_false_iff_ne.2 h3]; rfl
  cases hx:okXY a b x y with
  | false=>
   by_cases h3:s.kd=3
   .have e:sagG s ys a b x y=⟨0,0,5⟩:=by unfold sagG; rw [hr,h3]; rfl
    exact ⟨cRe 5,s.cells (.int true .i64 s.kd),_,_,cRe_ok _,rfl,rfl,tell_kd ⟨rfl,rfl⟩,rl_e5 s n ys a b x y,rfl,⟨ho,hg,e⟩,eV2_tell (by rw [e]) (by decide)⟩
   .exact ⟨cRe 20,s.cells (.int true .i64 s.kd),_,_,cRe_ok _,rfl,rfl,tell_kd ⟨rfl,rfl⟩,rl_e20 s n ys a b x y,rfl,⟨ho,hg,bad hx h3⟩,eV2_tell (by rw [bad hx h3]) (by decide)⟩
  | true=>
   have hh:okSp a b=true/\okSp x y=true:=by simpa [okXY] using hx
   rcases right_kd hr with hk|hk|hk|hk
   .have v:=right_std hr
    have eg:sagG s ys a b x y=sagS s.c s.k s.a0 s.a1 s.a2 s.a3 a b x y:=by rw [good hx (by omega)]; unfold sagK; rw [hk]; rfl
    have e:slpG s ys a b x y=sp2V (sagG s ys a b x y).e (slC s.c s.k s.a0 s.a1 s.a2 s.a3 a b x y) (slU s.c s.k s.a0 s.a1 s.a2 s.a3 a b x y) (slV s.c s.k s.a0 s.a1 s.a2 s.a3 a b x y):=by unfold slpG slpC slpU slpZ; rw [hk]; rfl
    refine ⟨cRs,s.cells (.int false .i64 1),_,_,cRs_ok,rfl,rfl,tell_kd ⟨rfl,hk⟩,rl_1 s n ys a b x y,rfl,rM1_t ⟨ho,hg⟩,?_⟩
    rw [su_kd hk,e]
    exact slR_tell fun g=>ref_slpS v.hc v.hk hh.1 hh.2 v.h0 v.h1 v.h2 v.h3 (by rw [<- eg]; exact g)
   .have v:=right_bic hr
    have eg:sagG s ys a b x y=sagX s.c s.k s.l s.m a b x y:=by rw [good hx (by omega)]; unfold sagK; rw [hk]; rfl
    have e:slpG s ys a b x y=sp2V (sagG s ys a b x y).e (slX s.c s.k s.l s.m a b x y) (b29 s.c s.k s.l s.m a b x y) (b25 s.c s.k s.l s.m a b x y):=by unfold slpG slpC slpU slpZ; rw [hk]; rfl
    refine ⟨cRs,s.cellsZ (.int false .i64 2),_,_,cRs_ok,rfl,rfl,tell_kz hk (right_noA hr hk),rl_2 s n ys a b x y,rfl,rM2_t ⟨ho,hg⟩,?_⟩
    rw [su_kz hk (right_noA hr hk),e]
    exact slR_tell fun g=>ref_slpX v.hc v.hk v.hl v.hm hh.1 hh.2 (by rw [<- eg]; exact g)
   .have e:sagG s ys a b x y=⟨0,0,5⟩:=by unfold sagG; rw [hr,hk]; rfl
    exact ⟨cRe 5,s.cells (.int true .i64 s.kd),_,_,cRe_ok _,rfl,rfl,tell_kd ⟨rfl,rfl⟩,rl_e5 s n ys a b x y,rfl,⟨ho,hg,e⟩,eV2_tell (by rw [e]) (by decide)⟩
   .have eg:sagG s ys a b x y=⟨0,0,0⟩:=by rw [good hx (by omega)]; unfold sagK; rw [hk]; rfl
    have e:slpG s ys a b x y=sp2V 0 true ⟨0,0,0⟩ ⟨0,0,0⟩:=by unfold slpG slpC slpU slpZ; rw [eg,hk]; rfl
    refine ⟨cRe 0,s.cells (.int false .i64 4),_,_,cRe_ok _,rfl,rfl,tell_kd ⟨rfl,hk⟩,rl_4 s n ys a b x y,rfl,⟨ho,hg,by rw [su_kd hk]; exact eg⟩,?_⟩
    rw [e]
    exact ⟨⟨⟨rfl,rfl⟩,⟨rfl,rfl⟩,trivial⟩,⟨⟨rfl,rfl⟩,⟨rfl,rfl⟩,trivial⟩,⟨rfl,rfl⟩,trivial⟩
end
end Go.Proofs.YtjmhddncomglmaaGreatDoor.K
namespace Go.Proofs.YtjmhddncomglmaaGreatDoor.K
open Go Go.Eng Go.Ar Go.Rd Go.Vc
noncomputable section
theorem sneg_run (a b:Int):oneV ((run c2 300).call 80 [.agg [.int true .i64 a,.int true .i64 b]] ⟨[],0,1⟩)=some (.tt,(outS (xNegS a b)).av true):=by kernel_rfl
theorem rneg_run (a b:Int):oneV ((run c6 300).call 98 [.agg [.int true .i64 a,.int true .i64 b]] ⟨[],0,1⟩)=some (.tt,(outS (rNegS a b)).av true):=by kernel_rfl
theorem sneg_ok:PureOk Tryz.prog 80 (sUn negS):=by
 refine num_ok (fun xs hk _=>?_) ⟨_,Tryz.func80,rfl⟩
 obtain ⟨a,_,rfl,h1⟩:=kn hk; obtain ⟨b,_,rfl,h2⟩:=kn h1; obtain rfl:=k0 h2
 exact ⟨c2,300,_,c2_ok,rfl,fun _=>rfl,rfl,(sneg_run a b).trans (by rw [xNegS_eq]),trivial⟩
theorem rneg_ok:PureOk Tryz.prog 98 (sUn negS):=by
 refine num_ok (fun xs hk _=>?_) ⟨_,Tryz.func98,rfl⟩
 obtain ⟨a,_,rfl,h1⟩:=kn hk; obtain ⟨b,_,rfl,h2⟩:=kn h1; obtain rfl:=k0 h2
 exact ⟨c6,300,_,c6_ok,rfl,fun _=>rfl,rfl,(rneg_run a b).trans (by rw [rNegS_eq]),trivial⟩
def ckVF (F:VF):PSpec:=numSpec [shS] none fun
 | [.n a,.n b]=>.n .i64 (F.ck a b)
 | _=>.u []
def tblVeP (F:VF):List (FuncId×PSpec):=[(54,sBin F.ad),(114,sBin F.su),(90,sBin F.mu),(89,sBin F.di),(113,sUn F.sq),(79,sUn F.rt),(80,sUn F.ng),(111,ckVF F)]
theorem tblVeP_ok:TblOk Tryz.prog (tblVeP vf0):=by
 intro x hx
 simp only [tblVeP,List.mem_cons,List.not_mem_nil,or_false] at hx
 rcases hx with rfl|rfl|rfl|rfl|rfl|rfl|rfl|rfl
 .exact sadd_ok
 .exact ssub_ok
 .exact smul_ok
 .exact sdiv_ok
 .exact ssqr_ok
 .exact ssqrt_ok
 .exact sneg_ok
 .exact schk_ok
noncomputable def cVeP (F:VF):Ctx:=mkC Tryz.prog (tblVeP F) ext
theorem cVeP_ok:CtxOk (cVeP vf0):=mkC_ok prog_ok tblVeP_ok ext_ok
theorem vchk_run (F:VF) (v:Ve):oneV ((run (cVeP F) 3000).call 46 [.agg v.cells] ⟨[],0,1⟩)=some (.p (uZ v=true->(v.a=v.a/\v.b=v.b)/\(v.c=v.c/\v.d=v.d)/\v.e=v.e/\v.f=v.f),(Tm.n .i64 (vC0 F v)).av true):=by kernel_rfl
end
end Go.Proofs.YtjmhddncomglmaaGreatDoor.K
namespace Go.Ht
open Go Go.Eng Go.Ar Go.Rd Go.Vc
def ro2 (a b:Int):Bool:=bif bif decide (a>=-4503599627370496) then decide (a<=4503599627370496) else false then bif bif decide (b>=-4503599627370496) then decide (b<=4503599627370496) else false then decide (a<=b) else false else false
theorem ro2_eq (a b:Int):ro2 a b=okSp a b:=by
 unfold ro2 okSp
 have e1:∀ z:Int,decide (z>=-4503599627370496)=decide (-4503599627370496<=z):=fun _=>rfl
 simp only [e1]
 cases h1:decide (-4503599627370496<=a) <;> cases h2:decide (a<=4503599627370496) <;> cases h3:decide (-4503599627370496<=b) <;> cases h4:decide (b<=4503599627370496) <;> cases h5:decide (a<=b) <;> first|rfl|(simp only [decide_eq_true_eq,decide_eq_false_iff_not] at h1 h2 h3 h4 h5; omega)
def rMid (x:Int):Int:=IntKind.i64.wrap ((bif bif decide (x<0) then x.tmod 2 != 0 else false then IntKind.i64.wrap (x - 1) else x).tdiv 2)
def rMidV (a b:Int):Int:=bif !ro2 a b then 0 else rMid (IntKind.i64.wrap (a+b))
def rMidE (a b:Int):Int:=bif !ro2 a b then 20 else 0
theorem rMid_e {x:Int} (h:-9007199254740992<=x/\x<=9007199254740992):rMid x=x / 2:=by
 unfold rMid
 have hw:IntKind.i64.wrap (x - 1)=x - 1:=i64w (by omega) (by omega)
 rw [hw]
 have key:(bif bif decide (x<0) then x.tmod 2 != 0 else false then x - 1 else x).tdiv 2=x / 2:=by
  by_cases hx:x<0
  .rw [decide_eq_true hx]
   simp only [cond_true]
   have ht:x.tmod 2=-((-x) % 2):=by
    have:x=-(-x):=by omega
    rw [this,Int.neg_tmod,Int.tmod_eq_emod_of_nonneg (by omega)]
    omega
   by_cases h2:x % 2=0
   .have:(x.tmod 2 != 0)=false:=by rw [ht]; simp; omega
    rw [this]
    simp only [cond_false]
    have:x=-(-x):=by omega
    rw [this,Int.neg_tdiv,Int.tdiv_eq_ediv_of_nonneg (by omega)]
    omega
   .have:(x.tmod 2 != 0)=true:=by rw [ht]; simp; omega
    rw [this]
    simp only [cond_true]
    have:x - 1=-(1 - x):=by omega
    rw [this,Int.neg_tdiv,Int.tdiv_eq_ediv_of_nonneg (by omega)]
    omega
  .rw [decide_eq_false hx]
   simp only [cond_false]
   rw [Int.tdiv_eq_ediv_of_nonneg (by omega)]
 rw [key]
 exact i64w (by omega) (by omega)
theorem rMid_eq (a b:Int):rMidV a b=(midS a b).lo/\rMidE a b=(midS a b).e:=by
 unfold rMidV rMidE midS
 rw [ro2_eq]
 cases h:okSp a b with
 | false=>exact ⟨rfl,rfl⟩
 | true=>
  have:=okSp_iff.1 h
  refine ⟨?_,rfl⟩
  show rMid (IntKind.i64.wrap (a+b))=(a+b) / 2
  rw [i64w (by omega) (by omega),rMid_e (by omega)]
def rBad4 (a b c d:Int):Bool:=bif !ro2 a b then true else !ro2 c d
def rMeetS (a b c d:Int):Sp:=⟨bif rBad4 a b c d then 0 else bif decide (mtL a c>mtH b d) then 0 else mtL a c,
 bif rBad4 a b c d then 0 else bif decide (mtL a c>mtH b d) then 0 else mtH b d,bif rBad4 a b c d then 20 else bif decide (mtL a c>mtH b d) then 4 else 0⟩
theorem rMeet_eq (a b c d:Int):rMeetS a b c d=meetS a b c d:=by
 rw [<- xMeet_eq]
 unfold rMeetS rBad4 xMeetS mtE
 rw [ro2_eq,ro2_eq,xCS_eq,xCS_eq]
 cases h1:okSp a b with
 | false=>cases h2:okSp c d <;> rfl
 | true=>cases h2:okSp c d with
  | false=>rfl
  | true=>
   have k1:=okSp_iff.1 h1
   have k2:=okSp_iff.1 h2
   show (⟨bif decide (mtL a c>mtH b d) then 0 else mtL a c,bif decide (mtL a c>mtH b d) then 0 else mtH b d,bif decide (mtL a c>mtH b d) then 4 else 0⟩:Sp)=⟨bif decide (mtL a c>mtH b d) then 0 else bif mtB (mtL a c) (mtH b d) then 0 else mtL a c,bif decide (mtL a c>mtH b d) then 0 else bif mtB (mtL a c) (mtH b d) then 0 else mtH b d,bif decide (mtL a c>mtH b d) then 4 else bif mtB (mtL a c) (mtH b d) then 6 else 0⟩
   have hb:mtB (mtL a c) (mtH b d)=false:=by
    have p:mtL a c=a\/mtL a c=c:=by unfold mtL; split <;> simp
    have q:mtH b d=b\/mtH b d=d:=by unfold mtH; split <;> simp
    unfold mtB
    rw [decide_eq_false (by omega),decide_eq_false (by omega)]; rfl
   rw [hb]; rfl
end Go.Ht
namespace Go.Proofs.YtjmhddncomglmaaGreatDoor.K
open Go Go.Eng Go.Ar Go.Rd Go.Vc Go.Ht
theorem rmid_run (a b:Int):oneV ((run c6 300).call 130 [.agg [.int true .i64 a,.int true .i64 b]] ⟨[],0,1⟩)=some (.tt,(two (rMidV a b) (rMidE a b)).av true):=by kernel_rfl
theorem rmeet_run (a b c d:Int):oneV ((run c6 300).call 103 [.agg [.int true .i64 a,.int true .i64 b],.agg [.int true .i64 c,.int true .i64 d]] ⟨[],0,1⟩)=some (.tt,(outS (rMeetS a b c d)).av true):=by kernel_rfl
theorem rmid_ok:PureOk Tryz.prog 130 (sMid midS):=by
 refine num_ok (fun xs hk _=>?_) ⟨_,Tryz.func130,rfl⟩
 obtain ⟨a,_,rfl,h1⟩:=kn hk; obtain ⟨b,_,rfl,h2⟩:=kn h1; obtain rfl:=k0 h2
 have:=rmid_run a b
 rw [(rMid_eq a b).1,(rMid_eq a b).2] at this
 exact ⟨c6,300,_,c6_ok,rfl,fun _=>rfl,rfl,this,trivial⟩
theorem rmeet_ok:PureOk Tryz.prog 103 (sBin meetS):=by
 refine num_ok (fun xs hk _=>?_) ⟨_,Tryz.func103,rfl⟩
 obtain ⟨a,_,rfl,h1⟩:=kn hk; obtain ⟨b,_,rfl,h2⟩:=kn h1; obtain ⟨c,_,rfl,h3⟩:=kn h2; obtain ⟨d,_,rfl,h4⟩:=kn h3; obtain rfl:=k0 h4
 have:=rmeet_run a b c d
 rw [rMeet_eq] at this
 exact ⟨c6,300,_,c6_ok,rfl,fun _=>rfl,rfl,this,trivial⟩
noncomputable def tblHr (F:HF):List (FuncId×NSpec):=[(98,hp (sUn F.ng)),(65,hp (sBin F.ad)),(100,hp (sBin F.su)),(67,hp (sBin F.mu)),(97,hp (sBin F.di)),(68,hp (sSc F.sc)),(99,hp (sUn F.sq)),(101,hp (sUn F.rt)),(130,hp (sMid F.md)),(103,hp (sBin F.mt)),(131,lSpec hG suP2 (suV2 (sgHF F))),(132,lSpec hG suP2 (suV2 (slHF F)))]
noncomputable def cHr (F:HF):Ctx:=mkN Tryz.prog glob hG (tblHr F) [] ext
noncomputable def rCoR (C:Ctx) (p w:Ve) (c k:Int):Option (Nd×AV):=oneG hG.size hG.clock ((run C 60000).call 24 [.agg (p.cells++w.cells),.int true .i64 c,.int true .i64 k] hG)
noncomputable def rNrR (C:Ctx) (kd:AV) (s:Su) (n:Int) (ys:List Int) (p w:Ve) (x y:Int):Option (Nd×AV):=oneG (viewsH true hG [(.i64,ys)]).size hG.clock ((run C 60000).call 102 [.agg (s.cells kd++[.lslice hG.size n]),.agg (p.cells++w.cells),.agg [.int true .i64 x,.int true .i64 y]] (viewsH true hG [(.i64,ys)]))
end Go.Proofs.YtjmhddncomglmaaGreatDoor.K
namespace Go.Ht
open Go Go.Eng Go.Ar Go.Rd Go.Vc
def bd (q:Sp->Bool) (s:Sp):Bool:=!(s.e==0)&&q s
def q6 (s:Sp):Bool:=s.e==6
def q2 (s:Sp):Bool:=!(s.e==6)
def ok0 (s:Sp):Bool:=s.e==0
def ptB (q:Sp->Bool) (a b c d e:Sp):Bool:=(ok0 a&&ok0 b&&(ok0 c&&ok0 d&&bd q e||(bd q c||ok0 c&&bd q d))||(bd q a||ok0 a&&bd q b))
def ptO (a b c d e:Sp):Bool:=ok0 a&&ok0 b&&(ok0 c&&ok0 d&&ok0 e)
section
variable (F:HF) (S:Su) (ys:List Int) (p w:Ve) (t:Iv)
def nU:Int:=(F.md t.lo t.hi).lo
def p1 (p w:Ve) (x y:Int):Sp:=F.mu x y w.a w.b
def p2 (p w:Ve) (x y:Int):Sp:=F.ad p.a p.b (p1 F p w x y).lo (p1 F p w x y).hi
def p3 (p w:Ve) (x y:Int):Sp:=F.mu x y w.c w.d
def p4 (p w:Ve) (x y:Int):Sp:=F.ad p.c p.d (p3 F p w x y).lo (p3 F p w x y).hi
def p5 (p w:Ve) (x y:Int):Sp:=F.mu x y w.e w.f
def ptBad (q:Sp->Bool) (x y:Int):Bool:=ptB q (p1 F p w x y) (p2 F p w x y) (p3 F p w x y) (p4 F p w x y) (p5 F p w x y)
def ptOk (x y:Int):Bool:=ptO (p1 F p w x y) (p2 F p w x y) (p3 F p w x y) (p4 F p w x y) (p5 F p w x y)
def nZ:Sp:=F.sg S ys (p2 F p w (nU F t) (nU F t)).lo (p2 F p w (nU F t) (nU F t)).hi (p4 F p w (nU F t) (nU F t)).lo (p4 F p w (nU F t) (nU F t)).hi
def nE:Sp:=F.su (p5 F p w (nU F t) (nU F t)).lo (p5 F p w (nU F t) (nU F t)).hi (nZ F S ys p w t).lo (nZ F S ys p w t).hi
def nV (i:Nat):Int:=F.sl S ys (p2 F p w t.lo t.hi).lo (p2 F p w t.lo t.hi).hi (p4 F p w t.lo t.hi).lo (p4 F p w t.lo t.hi).hi i
def nX:Sp:=F.mu (nV F S ys p w t 0) (nV F S ys p w t 1) w.a w.b
def nD1:Sp:=F.su w.e w.f (nX F S ys p w t).lo (nX F S ys p w t).hi
def nY:Sp:=F.mu (nV F S ys p w t 2) (nV F S ys p w t 3) w.c w.d
def nD:Sp:=F.su (nD1 F S ys p w t).lo (nD1 F S ys p w t).hi (nY F S ys p w t).lo (nY F S ys p w t).hi
def nQ:Sp:=F.di (nE F S ys p w t).lo (nE F S ys p w t).hi (nD F S ys p w t).lo (nD F S ys p w t).hi
def nR:Sp:=F.su (nU F t) (nU F t) (nQ F S ys p w t).lo (nQ F S ys p w t).hi
def nC (q:Sp->Bool) (v:Bool->Bool->Bool):Bool:=
 ok0 (F.md t.lo t.hi)&&(ptOk F p w (nU F t) (nU F t)&&ptBad F p w q t.lo t.hi||ptBad F p w q (nU F t) (nU F t) ||
  ptOk F p w (nU F t) (nU F t)&&ptOk F p w t.lo t.hi&&(ok0 (nZ F S ys p w t)&&ok0 (nE F S ys p w t)&&v (nV F S ys p w t 4 != 0) (!(nV F S ys p w t 4 != 0)&&(ok0 (nX F S ys p w t)&&(ok0 (nD1 F S ys p w t)&&(ok0 (nY F S ys p w t)&&bd q (nD F S ys p w t)||bd q (nY F S ys p w t))||bd q (nD1 F S ys p w t))||bd q (nX F S ys p w t) ||
   ok0 (nX F S ys p w t)&&(ok0 (nD1 F S ys p w t)&&(ok0 (nY F S ys p w t)&&ok0 (nD F S ys p w t)))&&(ok0 (nQ F S ys p w t)&&bd q (nR F S ys p w t)||bd q (nQ F S ys p w t))))||(bd q (nZ F S ys p w t)||ok0 (nZ F S ys p w t)&&bd q (nE F S ys p w t))))||!ok0 (F.md t.lo t.hi)&&q (F.md t.lo t.hi)
def nC2:Bool:=nC F S ys p w t q2 (·||·)
def nC5:Bool:=nC F S ys p w t q6 (fun _ x=>x)
def nAv:AV:=.tuple [.agg [.int true .i64 (bif nC2 F S ys p w t then 0 else bif nC5 F S ys p w t then 0 else (nR F S ys p w t).lo),.int true .i64 (bif nC2 F S ys p w t then 0 else bif nC5 F S ys p w t then 0 else (nR F S ys p w t).hi)],.int true .i64 (bif nC2 F S ys p w t then 2 else bif nC5 F S ys p w t then 5 else 0)]
def nNd (ok:Prop):Prop:=ok0 (F.md t.lo t.hi)=true->(ptOk F p w (nU F t) (nU F t)=true->t.lo=t.lo/\t.hi=t.hi)/\((ptOk F p w (nU F t) (nU F t)&&ptOk F p w t.lo t.hi)=true->(ok/\((p5 F p w (nU F t) (nU F t)).lo=(p5 F p w (nU F t) (nU F t)).lo/\(p5 F p w (nU F t) (nU F t)).hi=(p5 F p w (nU F t) (nU F t)).hi)/\(ok0 (nZ F S ys p w t)=true->(p5 F p w (nU F t) (nU F t)).lo=(p5 F p w (nU F t) (nU F t)).lo/\(p5 F p w (nU F t) (nU F t)).hi=(p5 F p w (nU F t) (nU F t)).hi)) /\
 ((ok0 (nZ F S ys p w t)&&ok0 (nE F S ys p w t))=true->ok/\((!(nV F S ys p w t 4 != 0))=true->(ok0 (nX F S ys p w t)=true->((w.c=w.c/\w.d=w.d)/\(nV F S ys p w t 2=nV F S ys p w t 2/\nV F S ys p w t 3=nV F S ys p w t 3)/\w.e=w.e/\w.f=w.f)/\(ok0 (nD1 F S ys p w t)=true->(w.c=w.c/\w.d=w.d)/\nV F S ys p w t 2=nV F S ys p w t 2/\nV F S ys p w t 3=nV F S ys p w t 3)) /\
  ((ok0 (nX F S ys p w t)&&(ok0 (nD1 F S ys p w t)&&(ok0 (nY F S ys p w t)&&ok0 (nD F S ys p w t))))=true->ok0 (nQ F S ys p w t)=true->nU F t=nU F t/\nU F t=nU F t))))
theorem nNd_ok {q:Prop} (h:q):nNd F S ys p w t q:=fun _=>⟨fun _=>⟨rfl,rfl⟩,fun _=>⟨⟨h,⟨rfl,rfl⟩,fun _=>⟨rfl,rfl⟩⟩,fun _=>⟨h,fun _=>⟨fun _=>⟨⟨⟨rfl,rfl⟩,⟨rfl,rfl⟩,rfl,rfl⟩,fun _=>⟨⟨rfl,rfl⟩,rfl,rfl⟩⟩,fun _ _=>⟨rfl,rfl⟩⟩⟩⟩⟩
end
end Go.Ht
namespace Go.Ht
open Go Go.Eng Go.Ar Go.Rd Go.Vc
inductive Tri (k b2 b5:Bool):Prop where
 | ok (h:k=true) (h2:b2=false) (h5:b5=false)
 | two (h:k=false) (h2:b2=true) (h5:b5=false)
 | five (h:k=false) (h2:b2=false) (h5:b5=true)
theorem tri_op (s:Sp):(∃ v,op s=.ok v/\v=⟨s.lo,s.hi⟩/\ok0 s=true/\bd q2 s=false/\bd q6 s=false)\/(op s=.error 2/\ok0 s=false/\bd q2 s=true/\bd q6 s=false)\/(op s=.error 5/\ok0 s=false/\bd q2 s=false/\bd q6 s=true):=by
 unfold op ok0 bd q2 q6 why
 cases h:s.e==0 with
 | true=>exact .inl ⟨_,rfl,rfl,rfl,rfl,rfl⟩
 | false=>cases h6:s.e==6 with
  | true=>exact .inr (.inr ⟨rfl,rfl,rfl,rfl⟩)
  | false=>exact .inr (.inl ⟨rfl,rfl,rfl,rfl⟩)
section
variable (F:HF) (S:Su) (ys:List Int) (p w:Ve) (t:Iv)
theorem tri_to (x y:Int):(toP F p w ⟨x,y⟩=.ok ⟨(p2 F p w x y).lo,(p2 F p w x y).hi,(p4 F p w x y).lo,(p4 F p w x y).hi,(p5 F p w x y).lo,(p5 F p w x y).hi⟩/\ptOk F p w x y=true/\ptBad F p w q2 x y=false/\ptBad F p w q6 x y=false) ∨
  (toP F p w ⟨x,y⟩=.error 2/\ptOk F p w x y=false/\ptBad F p w q2 x y=true/\ptBad F p w q6 x y=false)\/(toP F p w ⟨x,y⟩=.error 5/\ptOk F p w x y=false/\ptBad F p w q2 x y=false/\ptBad F p w q6 x y=true):=by
 unfold toP ptOk ptBad ptO ptB
 simp only [mul,add,bind,Except.bind,pure,Except.pure]
 rcases tri_op (F.mu x y w.a w.b) with ⟨v1,a1,rfl,a2,a3,a4⟩|⟨a1,a2,a3,a4⟩|⟨a1,a2,a3,a4⟩
 .rw [a1]; simp only []
  rcases tri_op (F.ad p.a p.b (F.mu x y w.a w.b).lo (F.mu x y w.a w.b).hi) with ⟨v2,b1,rfl,b2,b3,b4⟩|⟨b1,b2,b3,b4⟩|⟨b1,b2,b3,b4⟩
  .rw [b1]; simp only []
   rcases tri_op (F.mu x y w.c w.d) with ⟨v3,c1,rfl,c2,c3,c4⟩|⟨c1,c2,c3,c4⟩|⟨c1,c2,c3,c4⟩
   .rw [c1]; simp only []
    rcases tri_op (F.ad p.c p.d (F.mu x y w.c w.d).lo (F.mu x y w.c w.d).hi) with ⟨v4,d1,rfl,d2,d3,d4⟩|⟨d1,d2,d3,d4⟩|⟨d1,d2,d3,d4⟩
    .rw [d1]; simp only []
     rcases tri_op (F.mu x y w.e w.f) with ⟨v5,e1,rfl,e2,e3,e4⟩|⟨e1,e2,e3,e4⟩|⟨e1,e2,e3,e4⟩ <;>
     .rw [e1]; simp [p1,p2,p3,p4,p5,a2,a3,a4,b2,b3,b4,c2,c3,c4,d2,d3,d4,e2,e3,e4]
    all_goals (rw [d1]; simp [p1,p2,p3,p4,p5,a2,a3,a4,b2,b3,b4,c2,c3,c4,d2,d3,d4])
   all_goals (rw [c1]; simp [p1,p2,p3,p4,p5,a2,a3,a4,b2,b3,b4,c2,c3,c4])
  all_goals (rw [b1]; simp [p1,p2,p3,p4,p5,a2,a3,a4,b2,b3,b4])
 all_goals (rw [a1]; simp [p1,p2,p3,p4,p5,a2,a3,a4])
theorem bne_not {a b:Int} (h:(a==b)=true):(a != b)=false:=by rw [bne,h]; rfl
theorem bne_not' {a b:Int} (h:(a==b)=false):(a != b)=true:=by rw [bne,h]; rfl
theorem near_tri:(near F S ys p w t=.ok ⟨(nR F S ys p w t).lo,(nR F S ys p w t).hi⟩/\nC2 F S ys p w t=false/\nC5 F S ys p w t=false)\/(near F S ys p w t=.error 2/\nC2 F S ys p w t=true)\/(near F S ys p w t=.error 5/\nC2 F S ys p w t=false/\nC5 F S ys p w t=true):=by
 unfold near nC2 nC5 nC
 simp only [mul,sub,div,bind,Except.bind]
 rcases tri_op (F.md t.lo t.hi) with ⟨v0,m1,rfl,m2,m3,m4⟩|⟨m1,m2,m3,m4⟩|⟨m1,m2,m3,m4⟩
 .rw [m1]; simp only []
  have hu:(F.md t.lo t.hi).lo=nU F t:=rfl
  rw [hu]
  rcases tri_to F p w (nU F t) (nU F t) with ⟨a1,a2,a3,a4⟩|⟨a1,a2,a3,a4⟩|⟨a1,a2,a3,a4⟩
  .rw [a1]; simp only []
   rcases tri_to F p w t.lo t.hi with ⟨b1,b2,b3,b4⟩|⟨b1,b2,b3,b4⟩|⟨b1,b2,b3,b4⟩
   .rw [show toP F p w t=_ from b1]; simp only []
    rcases tri_op (nZ F S ys p w t) with ⟨v3,c1,rfl,c2,c3,c4⟩|⟨c1,c2,c3,c4⟩|⟨c1,c2,c3,c4⟩
    .rw [show op (F.sg S ys _ _ _ _)=_ from c1]; simp only []
     rcases tri_op (nE F S ys p w t) with ⟨v4,d1,rfl,d2,d3,d4⟩|⟨d1,d2,d3,d4⟩|⟨d1,d2,d3,d4⟩
     .rw [show op (F.su (p5 F p w (nU F t) (nU F t)).lo _ _ _)=_ from d1]; simp only []
      have hv:∀ i,F.sl S ys (p2 F p w t.lo t.hi).lo (p2 F p w t.lo t.hi).hi (p4 F p w t.lo t.hi).lo (p4 F p w t.lo t.hi).hi i=nV F S ys p w t i:=fun _=>rfl
      simp only [hv]
      cases hs:nV F S ys p w t 4==0 with
      | false=>simp [m2,a2,a3,a4,b2,b3,b4,c2,c3,c4,d2,d3,d4,bne_not' hs]
      | true=>
       simp only [cond_true,bne_not hs,Bool.not_false,Bool.true_and,Bool.false_or]
       rcases tri_op (nX F S ys p w t) with ⟨v5,e1,rfl,e2,e3,e4⟩|⟨e1,e2,e3,e4⟩|⟨e1,e2,e3,e4⟩
       .rw [show op (F.mu (nV F S ys p w t 0) _ _ _)=_ from e1]; simp only []
        rcases tri_op (nD1 F S ys p w t) with ⟨v6,f1,rfl,f2,f3,f4⟩|⟨f1,f2,f3,f4⟩|⟨f1,f2,f3,f4⟩
        .rw [show op (F.su w.e w.f _ _)=_ from f1]; simp only []
         rcases tri_op (nY F S ys p w t) with ⟨v7,g1,rfl,g2,g3,g4⟩|⟨g1,g2,g3,g4⟩|⟨g1,g2,g3,g4⟩
         .rw [show op (F.mu (nV F S ys p w t 2) _ _ _)=_ from g1]; simp only []
          rcases tri_op (nD F S ys p w t) with ⟨v8,h1,rfl,h2,h3,h4⟩|⟨h1,h2,h3,h4⟩|⟨h1,h2,h3,h4⟩
          .rw [show op (F.su (nD1 F S ys p w t).lo _ _ _)=_ from h1]; simp only []
           rcases tri_op (nQ F S ys p w t) with ⟨v9,i1,rfl,i2,i3,i4⟩|⟨i1,i2,i3,i4⟩|⟨i1,i2,i3,i4⟩
           .rw [show op (F.di _ _ _ _)=_ from i1]; simp only []
            rcases tri_op (nR F S ys p w t) with ⟨v9,j1,rfl,j2,j3,j4⟩|⟨j1,j2,j3,j4⟩|⟨j1,j2,j3,j4⟩ <;>
            .rw [show op (F.su (nU F t) (nU F t) _ _)=_ from j1]; simp [m2,a2,a3,a4,b2,b3,b4,c2,c3,c4,d2,d3,d4,e2,e3,e4,f2,f3,f4,g2,g3,g4,h2,h3,h4,i2,i3,i4,j2,j3,j4]
           all_goals (rw [show op (F.di _ _ _ _)=_ from i1]; simp [m2,a2,a3,a4,b2,b3,b4,c2,c3,c4,d2,d3,d4,e2,e3,e4,f2,f3,f4,g2,g3,g4,h2,h3,h4,i2,i3,i4])
          all_goals (rw [show op (F.su (nD1 F S ys p w t).lo _ _ _)=_ from h1]; simp [m2,a2,a3,a4,b2,b3,b4,c2,c3,c4,d2,d3,d4,e2,e3,e4,f2,f3,f4,g2,g3,g4,h2,h3,h4])
         all_goals (rw [show op (F.mu (nV F S ys p w t 2) _ _ _)=_ from g1]; simp [m2,a2,a3,a4,b2,b3,b4,c2,c3,c4,d2,d3,d4,e2,e3,e4,f2,f3,f4,g2,g3,g4])
        all_goals (rw [show op (F.su w.e w.f _ _)=_ from f1]; simp [m2,a2,a3,a4,b2,b3,b4,c2,c3,c4,d2,d3,d4,e2,e3,e4,f2,f3,f4])
       all_goals (rw [show op (F.mu (nV F S ys p w t 0) _ _ _)=_ from e1]; simp [m2,a2,a3,a4,b2,b3,b4,c2,c3,c4,d2,d3,d4,e2,e3,e4])
     all_goals (rw [show op (F.su (p5 F p w (nU F t) (nU F t)).lo _ _ _)=_ from d1]; simp [m2,a2,a3,a4,b2,b3,b4,c2,c3,c4,d2,d3,d4])
    all_goals (rw [show op (F.sg S ys _ _ _ _)=_ from c1]; simp [m2,a2,a3,a4,b2,b3,b4,c2,c3,c4])
   all_goals (rw [show toP F p w t=_ from b1]; simp [m2,a2,a3,a4,b2,b3,b4])
  all_goals (rw [a1]; simp [m2,a2,a3,a4])
 all_goals (rw [m1]; simp [m2,m3,m4,bd] at *; simp [m2,m3,m4])
def tryI:Except Int Iv->Iv
 | .ok v=>v
 | .error _=>⟨0,0⟩
def tryC:Except Int Iv->Int
 | .ok _=>0
 | .error c=>c
def tryV (r:Except Int Iv):AV:=.tuple [.agg [.int true .i64 (tryI r).lo,.int true .i64 (tryI r).hi],.int true .i64 (tryC r)]
theorem nAv_eq:nAv F S ys p w t=tryV (near F S ys p w t):=by
 unfold nAv
 rcases near_tri F S ys p w t with ⟨h1,h2,h3⟩|⟨h1,h2⟩|⟨h1,h2,h3⟩
 .rw [h1,h2,h3]; rfl
 .rw [h1,h2]; rfl
 .rw [h1,h2,h3]; rfl
end
end Go.Ht
namespace Go.Ht
open Go Go.Eng Go.Ar Go.Rd Go.Vc
def ch (q:Sp->Bool):List Sp->Bool
 | []=>false
 | a :: l=>match l with
  | []=>bd q a
  | _ :: _=>ok0 a&&ch q l||bd q a
def al:List Sp->Bool
 | []=>true
 | a :: l=>match l with
  | []=>ok0 a
  | _ :: _=>ok0 a&&al l
section
variable (F:HF) (p w:Ve) (c k:Int)
def cX2:Sp:=F.sq p.a p.b
def cY2:Sp:=F.sq p.c p.d
def cRR:Sp:=F.ad (cX2 F p).lo (cX2 F p).hi (cY2 F p).lo (cY2 F p).hi
def cF:Sp:=F.sc (cRR F p).lo (cRR F p).hi c 1000000000
def cLX:Sp:=F.mu w.a w.b p.a p.b
def cMY:Sp:=F.mu w.c w.d p.c p.d
def cLM:Sp:=F.ad (cLX F p w).lo (cLX F p w).hi (cMY F p w).lo (cMY F p w).hi
def cCL:Sp:=F.sc (cLM F p w).lo (cLM F p w).hi c 1000000000
def cG:Sp:=F.su w.e w.f (cCL F p w c).lo (cCL F p w c).hi
def cL2:Sp:=F.sq w.a w.b
def cM2:Sp:=F.sq w.c w.d
def cS2:Sp:=F.ad (cL2 F w).lo (cL2 F w).hi (cM2 F w).lo (cM2 F w).hi
def cN2:Sp:=F.sq w.e w.f
def cKN:Sp:=F.sc (cN2 F w).lo (cN2 F w).hi (kW k) 1000000
def cA:Sp:=F.ad (cS2 F w).lo (cS2 F w).hi (cKN F w k).lo (cKN F w k).hi
def cG2:Sp:=F.sq (cG F p w c).lo (cG F p w c).hi
def cFC:Sp:=F.sc (cF F p c).lo (cF F p c).hi c 1000000000
def cFA:Sp:=F.mu (cFC F p c).lo (cFC F p c).hi (cA F w k).lo (cA F w k).hi
def cH:Sp:=F.su (cG2 F p w c).lo (cG2 F p w c).hi (cFA F p w c k).lo (cFA F p w c k).hi
def cRt:Sp:=F.rt (cH F p w c k).lo (cH F p w c k).hi
def cNg:Sp:=F.ng (cRt F p w c k).lo (cRt F p w c k).hi
def cBk:Bool:=decide (w.f<0)
def cD:Sp:=F.ad (cG F p w c).lo (cG F p w c).hi (bif cBk w then (cNg F p w c k).lo else (cRt F p w c k).lo) (bif cBk w then (cNg F p w c k).hi else (cRt F p w c k).hi)
def cT:Sp:=F.di (cF F p c).lo (cF F p c).hi (cD F p w c k).lo (cD F p w c k).hi
def cZ:Sp:=F.mu (cT F p w c k).lo (cT F p w c k).hi w.e w.f
def cKZ:Sp:=F.sc (cZ F p w c k).lo (cZ F p w c k).hi (kW k) 1000000
def cCZ:Sp:=F.sc (cKZ F p w c k).lo (cKZ F p w c k).hi c 1000000000
def cQ:Sp:=F.su 4294967296 4294967296 (cCZ F p w c k).lo (cCZ F p w c k).hi
def g1:List Sp:=[cX2 F p,cY2 F p,cRR F p,cF F p c]
def g2:List Sp:=[cLX F p w,cMY F p w,cLM F p w,cCL F p w c,cG F p w c]
def g3:List Sp:=[cL2 F w,cM2 F w,cS2 F w,cN2 F w,cKN F w k,cA F w k]
def g4:List Sp:=[cG2 F p w c,cFC F p c,cFA F p w c k,cH F p w c k]
def h1:Bool:=decide ((cH F p w c k).hi<0)
def h2:Bool:=decide ((cH F p w c k).lo<0)
def q1:Bool:=decide ((cQ F p w c k).hi<1)
def q2':Bool:=decide ((cQ F p w c k).lo<1)
def ngB:Bool:=bif cBk w then ok0 (cNg F p w c k) else true
def coM:Bool:=al (g1 F p c)&&(al (g2 F p w c)&&(al (g3 F w k)&&(al (g4 F p w c k)&&(!h1 F p w c k&&!h2 F p w c k&&(ok0 (cRt F p w c k)&&(ngB F p w c k&&(al [cD F p w c k,cT F p w c k]&&(ok0 (cZ F p w c k)&&(ok0 (cKZ F p w c k)&&(ok0 (cCZ F p w c k)&&(ok0 (cQ F p w c k)&&q1 F p w c k)))))))||h1 F p w c k))))
def coO:Bool:=al (g1 F p c)&&(al (g2 F p w c)&&(al (g3 F w k)&&(al (g4 F p w c k)&&(!h1 F p w c k&&!h2 F p w c k&&(ok0 (cRt F p w c k)&&(ngB F p w c k&&(al [cD F p w c k,cT F p w c k]&&(ok0 (cZ F p w c k)&&(ok0 (cKZ F p w c k)&&(ok0 (cCZ F p w c k)&&(ok0 (cQ F p w c k)&&(!q1 F p w c k&&!q2' F p w c k))))))))))))
def coU:Bool:=ch q2 (g1 F p c)||al (g1 F p c)&&(ch q2 (g2 F p w c)||al (g2 F p w c)&&(ch q2 (g3 F w k)||al (g3 F w k)&&(ch q2 (g4 F p w c k)||al (g4 F p w c k)&&(!h1 F p w c k&&!h2 F p w c k&&(ok0 (cRt F p w c k)&&(ngB F p w c k&&(ch q2 [cD F p w c k,cT F p w c k] ||
 al [cD F p w c k,cT F p w c k]&&(ok0 (cZ F p w c k)&&(ok0 (cKZ F p w c k)&&(ok0 (cCZ F p w c k)&&(ok0 (cQ F p w c k)&&(!q1 F p w c k&&q2' F p w c k)||bd q2 (cQ F p w c k))||bd q2 (cCZ F p w c k))||bd q2 (cKZ F p w c k))||bd q2 (cZ F p w c k)))||cBk w&&bd q2 (cNg F p w c k))||bd q2 (cRt F p w c k))||!h1 F p w c k&&h2 F p w c k))))
def coF:Bool:=ch q6 (g1 F p c)||al (g1 F p c)&&(ch q6 (g2 F p w c)||al (g2 F p w c)&&(ch q6 (g3 F w k)||al (g3 F w k)&&(ch q6 (g4 F p w c k)||al (g4 F p w c k)&&(!h1 F p w c k&&!h2 F p w c k&&(ok0 (cRt F p w c k)&&(ngB F p w c k&&(ch q6 [cD F p w c k,cT F p w c k] ||
 al [cD F p w c k,cT F p w c k]&&ch q6 [cZ F p w c k,cKZ F p w c k,cCZ F p w c k,cQ F p w c k])||cBk w&&bd q6 (cNg F p w c k))||bd q6 (cRt F p w c k))))))
def cAv:AV:=.tuple [.agg [.int true .i64 (bif coM F p w c k then 0 else bif coU F p w c k then 0 else bif coO F p w c k then (cT F p w c k).lo else 0),.int true .i64 (bif coM F p w c k then 0 else bif coU F p w c k then 0 else bif coO F p w c k then (cT F p w c k).hi else 0)],.int true .i64 (bif coM F p w c k then 1 else bif coU F p w c k then 2 else bif coO F p w c k then 0 else 5)]
abbrev E2 (a b:Int):Prop:=a=a/\b=b
def cNd:Prop:=(((E2 w.e w.f/\E2 p.c p.d)/\E2 w.e w.f)/\(ok0 (cX2 F p)=true->E2 p.c p.d/\(ok0 (cY2 F p)=true->ok0 (cRR F p)=true->okSq (cRR F p).lo (cRR F p).hi c 1000000000))/\(al (g1 F p c)=true->(ok0 (cLX F p w)=true->(E2 p.c p.d/\E2 w.c w.d/\E2 w.e w.f)/\(ok0 (cMY F p w)=true->E2 w.e w.f /\
 (ok0 (cLM F p w)=true->E2 w.e w.f/\okSq (cLM F p w).lo (cLM F p w).hi c 1000000000/\(ok0 (cCL F p w c)=true->E2 w.e w.f))))/\(al (g2 F p w c)=true->(ok0 (cL2 F w)=true->(E2 w.e w.f/\E2 w.c w.d)/\(ok0 (cM2 F w)=true->E2 w.e w.f/\(ok0 (cS2 F w)=true->E2 w.e w.f/\(ok0 (cN2 F w)=true->okSq (cN2 F w).lo (cN2 F w).hi (kW k) 1000000)))) /\
 (al (g3 F w k)=true->(ok0 (cG2 F p w c)=true->(E2 (cA F w k).lo (cA F w k).hi/\E2 (cF F p c).lo (cF F p c).hi)/\okSq (cF F p c).lo (cF F p c).hi c 1000000000/\(ok0 (cFC F p c)=true->E2 (cA F w k).lo (cA F w k).hi))/\(al (g4 F p w c k)=true->(!h1 F p w c k&&!h2 F p w c k)=true->ok0 (cRt F p w c k)=true->ngB F p w c k=true->(ok0 (cD F p w c k)=true->E2 (cF F p c).lo (cF F p c).hi) /\
 (al [cD F p w c k,cT F p w c k]=true->(E2 w.e w.f/\E2 (cT F p w c k).lo (cT F p w c k).hi)/\(ok0 (cZ F p w c k)=true->okSq (cZ F p w c k).lo (cZ F p w c k).hi (kW k) 1000000/\(ok0 (cKZ F p w c k)=true->okSq (cKZ F p w c k).lo (cKZ F p w c k).hi c 1000000000))))))))
theorem cNd_ok (hc:∀ a b,okSq a b c 1000000000) (hk:∀ a b,okSq a b (kW k) 1000000):cNd F p w c k:=by
 have e:∀ a b,E2 a b:=fun _ _=>⟨rfl,rfl⟩
 unfold cNd
 refine ⟨⟨⟨e _ _,e _ _⟩,e _ _⟩,fun _=>⟨e _ _,fun _ _=>hc _ _⟩,fun _=>⟨fun _=>⟨⟨e _ _,e _ _,e _ _⟩,fun _=>⟨e _ _,fun _=>⟨e _ _,hc _ _,fun _=>e _ _⟩⟩⟩,fun _=>⟨fun _=>⟨⟨e _ _,e _ _⟩,fun _=>⟨e _ _,fun _=>⟨e _ _,fun _=>hk _ _⟩⟩⟩,fun _=>⟨fun _=>⟨⟨e _ _,e _ _⟩,hc _ _,fun _=>e _ _⟩,fun _ _ _ _=>⟨fun _=>e _ _,fun _=>⟨⟨e _ _,e _ _⟩,fun _=>⟨hk _ _,fun _=>hc _ _⟩⟩⟩⟩⟩⟩⟩
end
end Go.Ht
namespace Go.Ht
open Go Go.Eng Go.Ar Go.Rd Go.Vc
def st {α:Type} (s:Sp) (k:Except Int α):Except Int α:=bif ok0 s then k else .error (why s.e)
theorem op_bind {α:Type} (s:Sp) (f:Iv->Except Int α):(op s >>= f)=st s (f ⟨s.lo,s.hi⟩):=by
 unfold op st ok0
 cases s.e==0 <;> rfl
def ng {α:Type} (b:Bool) (s:Sp) (k:Except Int α):Except Int α:=bif b&&!ok0 s then .error (why s.e) else k
theorem ng_bind {α:Type} (b:Bool) (s:Sp) (x y:Int) (f:Iv->Except Int α):((bif b then op s else .ok ⟨x,y⟩) >>= f)=ng b s (f ⟨bif b then s.lo else x,bif b then s.hi else y⟩):=by
 unfold op ng ok0
 cases b
 .rfl
 .cases s.e==0 <;> rfl
theorem pos_bind {α:Type} (x:Iv) (k:Int) (f:Unit->Except Int α):(pos x k >>= f)=bif decide (x.hi<k) then .error 1 else bif decide (x.lo<k) then .error 2 else f ():=by
 unfold pos
 cases decide (x.hi<k)
 .cases decide (x.lo<k) <;> rfl
 .rfl
theorem tri_st (s:Sp):(ok0 s=true/\bd q2 s=false/\bd q6 s=false/\∀ {α:Type} (k:Except Int α),st s k=k)\/(ok0 s=false/\bd q2 s=true/\bd q6 s=false/\∀ {α:Type} (k:Except Int α),st s k=.error 2)\/(ok0 s=false/\bd q2 s=false/\bd q6 s=true/\∀ {α:Type} (k:Except Int α),st s k=.error 5):=by
 unfold st ok0 bd q2 q6 why
 cases h:s.e==0 with
 | true=>exact .inl ⟨rfl,rfl,rfl,fun _=>rfl⟩
 | false=>cases h6:s.e==6 with
  | true=>exact .inr (.inr ⟨rfl,rfl,rfl,fun _=>rfl⟩)
  | false=>exact .inr (.inl ⟨rfl,rfl,rfl,fun _=>rfl⟩)
section
variable (F:HF) (p w:Ve) (c k:Int)
theorem conic_st:conicP F p w c k=(st (cX2 F p) <| st (cY2 F p) <| st (cRR F p) <| st (cF F p c) <| st (cLX F p w) <| st (cMY F p w) <| st (cLM F p w) <| st (cCL F p w c) <| st (cG F p w c) <| st (cL2 F w) <| st (cM2 F w) <| st (cS2 F w) <| st (cN2 F w) <| st (cKN F w k) <| st (cA F w k) <| st (cG2 F p w c) <| st (cFC F p c) <| st (cFA F p w c k) <| st (cH F p w c k) <| (bif h1 F p w c k then .error 1 else bif h2 F p w c k then .error 2 else st (cRt F p w c k) <| ng (cBk w) (cNg F p w c k) <| st (cD F p w c k) <| st (cT F p w c k) <| st (cZ F p w c k) <| st (cKZ F p w c k) <| st (cCZ F p w c k) <| st (cQ F p w c k) <| bif q1 F p w c k then .error 1 else bif q2' F p w c k then .error 2 else .ok ⟨(cT F p w c k).lo,(cT F p w c k).hi⟩)):=by
 simp only [conicP,sqr,add,scl,mul,sub,div,op_bind,pos_bind,ng_bind]
 rfl
theorem conic_tri:(conicP F p w c k=.ok ⟨(cT F p w c k).lo,(cT F p w c k).hi⟩/\coM F p w c k=false/\coU F p w c k=false/\coO F p w c k=true/\coF F p w c k=false)\/(conicP F p w c k=.error 1/\coM F p w c k=true/\coU F p w c k=false/\coO F p w c k=false/\coF F p w c k=false)\/(conicP F p w c k=.error 2/\coM F p w c k=false/\coU F p w c k=true/\coO F p w c k=false/\coF F p w c k=false)\/(conicP F p w c k=.error 5/\coM F p w c k=false/\coU F p w c k=false/\coO F p w c k=false/\coF F p w c k=true):=by
 rw [conic_st]
 unfold coM coU coO coF g1 g2 g3 g4
 rcases tri_st (cX2 F p) with ⟨x0_1,x0_2,x0_3,x0_4⟩|⟨x0_1,x0_2,x0_3,x0_4⟩|⟨x0_1,x0_2,x0_3,x0_4⟩
 .rw [x0_4]
  rcases tri_st (cY2 F p) with ⟨x1_1,x1_2,x1_3,x1_4⟩|⟨x1_1,x1_2,x1_3,x1_4⟩|⟨x1_1,x1_2,x1_3,x1_4⟩
  .rw [x1_4]
   rcases tri_st (cRR F p) with ⟨x2_1,x2_2,x2_3,x2_4⟩|⟨x2_1,x2_2,x2_3,x2_4⟩|⟨x2_1,x2_2,x2_3,x2_4⟩
   .rw [x2_4]
    rcases tri_st (cF F p c) with ⟨x3_1,x3_2,x3_3,x3_4⟩|⟨x3_1,x3_2,x3_3,x3_4⟩|⟨x3_1,x3_2,x3_3,x3_4⟩
    .rw [x3_4]
     rcases tri_st (cLX F p w) with ⟨x4_1,x4_2,x4_3,x4_4⟩|⟨x4_1,x4_2,x4_3,x4_4⟩|⟨x4_1,x4_2,x4_3,x4_4⟩
     .rw [x4_4]
      rcases tri_st (cMY F p w) with ⟨x5_1,x5_2,x5_3,x5_4⟩|⟨x5_1,x5_2,x5_3,x5_4⟩|⟨x5_1,x5_2,x5_3,x5_4⟩
      .rw [x5_4]
       rcases tri_st (cLM F p w) with ⟨x6_1,x6_2,x6_3,x6_4⟩|⟨x6_1,x6_2,x6_3,x6_4⟩|⟨x6_1,x6_2,x6_3,x6_4⟩
       .rw [x6_4]
        rcases tri_st (cCL F p w c) with ⟨x7_1,x7_2,x7_3,x7_4⟩|⟨x7_1,x7_2,x7_3,x7_4⟩|⟨x7_1,x7_2,x7_3,x7_4⟩
        .rw [x7_4]
         rcases tri_st (cG F p w c) with ⟨x8_1,x8_2,x8_3,x8_4⟩|⟨x8_1,x8_2,x8_3,x8_4⟩|⟨x8_1,x8_2,x8_3,x8_4⟩
         .rw [x8_4]
          rcases tri_st (cL2 F w) with ⟨x9_1,x9_2,x9_3,x9_4⟩|⟨x9_1,x9_2,x9_3,x9_4⟩|⟨x9_1,x9_2,x9_3,x9_4⟩
          .rw [x9_4]
           rcases tri_st (cM2 F w) with ⟨x10_1,x10_2,x10_3,x10_4⟩|⟨x10_1,x10_2,x10_3,x10_4⟩|⟨x10_1,x10_2,x10_3,x10_4⟩
           .rw [x10_4]
            rcases tri_st (cS2 F w) with ⟨x11_1,x11_2,x11_3,x11_4⟩|⟨x11_1,x11_2,x11_3,x11_4⟩|⟨x11_1,x11_2,x11_3,x11_4⟩
            .rw [x11_4]
             rcases tri_st (cN2 F w) with ⟨x12_1,x12_2,x12_3,x12_4⟩|⟨x12_1,x12_2,x12_3,x12_4⟩|⟨x12_1,x12_2,x12_3,x12_4⟩
             .rw [x12_4]
              rcases tri_st (cKN F w k) with ⟨x13_1,x13_2,x13_3,x13_4⟩|⟨x13_1,x13_2,x13_3,x13_4⟩|⟨x13_1,x13_2,x13_3,x13_4⟩
              .rw [x13_4]
               rcases tri_st (cA F w k) with ⟨x14_1,x14_2,x14_3,x14_4⟩|⟨x14_1,x14_2,x14_3,x14_4⟩|⟨x14_1,x14_2,x14_3,x14_4⟩
               .rw [x14_4]
                rcases tri_st (cG2 F p w c) with ⟨x15_1,x15_2,x15_3,x15_4⟩|⟨x15_1,x15_2,x15_3,x15_4⟩|⟨x15_1,x15_2,x15_3,x15_4⟩
                .rw [x15_4]
                 rcases tri_st (cFC F p c) with ⟨x16_1,x16_2,x16_3,x16_4⟩|⟨x16_1,x16_2,x16_3,x16_4⟩|⟨x16_1,x16_2,x16_3,x16_4⟩
                 .rw [x16_4]
                  rcases tri_st (cFA F p w c k) with ⟨x17_1,x17_2,x17_3,x17_4⟩|⟨x17_1,x17_2,x17_3,x17_4⟩|⟨x17_1,x17_2,x17_3,x17_4⟩
                  .rw [x17_4]
                   rcases tri_st (cH F p w c k) with ⟨x18_1,x18_2,x18_3,x18_4⟩|⟨x18_1,x18_2,x18_3,x18_4⟩|⟨x18_1,x18_2,x18_3,x18_4⟩
                   .rw [x18_4]
                    cases hh1:h1 F p w c k with
                    | true=>simp [ch,al, *]
                    | false=>
                     cases hh2:h2 F p w c k with
                     | true=>simp [ch,al, *]
                     | false=>
                      simp only [cond_false]
                      rcases tri_st (cRt F p w c k) with ⟨x19_1,x19_2,x19_3,x19_4⟩|⟨x19_1,x19_2,x19_3,x19_4⟩|⟨x19_1,x19_2,x19_3,x19_4⟩
                      .rw [x19_4]
                       have hn:(ngB F p w c k=true/\(cBk w&&bd q2 (cNg F p w c k))=false/\(cBk w&&bd q6 (cNg F p w c k))=false/\∀ {α:Type} (r:Except Int α),ng (cBk w) (cNg F p w c k) r=r)\/(ngB F p w c k=false/\(cBk w&&bd q2 (cNg F p w c k))=true/\(cBk w&&bd q6 (cNg F p w c k))=false/\∀ {α:Type} (r:Except Int α),ng (cBk w) (cNg F p w c k) r=.error 2)\/(ngB F p w c k=false/\(cBk w&&bd q2 (cNg F p w c k))=false/\(cBk w&&bd q6 (cNg F p w c k))=true/\∀ {α:Type} (r:Except Int α),ng (cBk w) (cNg F p w c k) r=.error 5):=by
                        unfold ngB ng ok0 bd q2 q6 why
                        cases cBk w
                        .exact .inl ⟨rfl,rfl,rfl,fun _=>rfl⟩
                        .cases (cNg F p w c k).e==0
                         .cases (cNg F p w c k).e==6
                          .exact .inr (.inl ⟨rfl,rfl,rfl,fun _=>rfl⟩)
                          .exact .inr (.inr ⟨rfl,rfl,rfl,fun _=>rfl⟩)
                         .exact .inl ⟨rfl,rfl,rfl,fun _=>rfl⟩
                       rcases hn with ⟨n1,n2,n4,n3⟩|⟨n1,n2,n4,n3⟩|⟨n1,n2,n4,n3⟩
                       .rw [n3]
                        rcases tri_st (cD F p w c k) with ⟨x20_1,x20_2,x20_3,x20_4⟩|⟨x20_1,x20_2,x20_3,x20_4⟩|⟨x20_1,x20_2,x20_3,x20_4⟩
                        .rw [x20_4]
                         rcases tri_st (cT F p w c k) with ⟨x21_1,x21_2,x21_3,x21_4⟩|⟨x21_1,x21_2,x21_3,x21_4⟩|⟨x21_1,x21_2,x21_3,x21_4⟩
                         .rw [x21_4]
                          rcases tri_st (cZ F p w c k) with ⟨x22_1,x22_2,x22_3,x22_4⟩|⟨x22_1,x22_2,x22_3,x22_4⟩|⟨x22_1,x22_2,x22_3,x22_4⟩
                          .rw [x22_4]
                           rcases tri_st (cKZ F p w c k) with ⟨x23_1,x23_2,x23_3,x23_4⟩|⟨x23_1,x23_2,x23_3,x23_4⟩|⟨x23_1,x23_2,x23_3,x23_4⟩
                           .rw [x23_4]
                            rcases tri_st (cCZ F p w c k) with ⟨x24_1,x24_2,x24_3,x24_4⟩|⟨x24_1,x24_2,x24_3,x24_4⟩|⟨x24_1,x24_2,x24_3,x24_4⟩
                            .rw [x24_4]
                             rcases tri_st (cQ F p w c k) with ⟨x25_1,x25_2,x25_3,x25_4⟩|⟨x25_1,x25_2,x25_3,x25_4⟩|⟨x25_1,x25_2,x25_3,x25_4⟩
                             .rw [x25_4]
                              cases hq1:q1 F p w c k <;> cases hq2:q2' F p w c k <;> simp [ch,al, *]
                             all_goals (rw [x25_4]; simp [ch,al, *])
                            all_goals (rw [x24_4]; simp [ch,al, *])
                           all_goals (rw [x23_4]; simp [ch,al, *])
                          all_goals (rw [x22_4]; simp [ch,al, *])
                         all_goals (rw [x21_4]; simp [ch,al, *])
                        all_goals (rw [x20_4]; simp [ch,al, *])
                       all_goals (rw [n3]; simp [ch,al, *])
                      all_goals (rw [x19_4]; simp [ch,al, *])
                   all_goals (rw [x18_4]; simp [ch,al, *])
                  all_goals (rw [x17_4]; simp [ch,al, *])
                 all_goals (rw [x16_4]; simp [ch,al, *])
                all_goals (rw [x15_4]; simp [ch,al, *])
               all_goals (rw [x14_4]; simp [ch,al, *])
              all_goals (rw [x13_4]; simp [ch,al, *])
             all_goals (rw [x12_4]; simp [ch,al, *])
            all_goals (rw [x11_4]; simp [ch,al, *])
           all_goals (rw [x10_4]; simp [ch,al, *])
          all_goals (rw [x9_4]; simp [ch,al, *])
         all_goals (rw [x8_4]; simp [ch,al, *])
        all_goals (rw [x7_4]; simp [ch,al, *])
       all_goals (rw [x6_4]; simp [ch,al, *])
      all_goals (rw [x5_4]; simp [ch,al, *])
     all_goals (rw [x4_4]; simp [ch,al, *])
    all_goals (rw [x3_4]; simp [ch,al, *])
   all_goals (rw [x2_4]; simp [ch,al, *])
  all_goals (rw [x1_4]; simp [ch,al, *])
 all_goals (rw [x0_4]; simp [ch,al, *])
theorem cAv_eq:cAv F p w c k=tryV (conicP F p w c k):=by
 unfold cAv
 rcases conic_tri F p w c k with ⟨h1,h2,h3,h4,_⟩|⟨h1,h2,_⟩|⟨h1,h2,h3,_⟩|⟨h1,h2,h3,h4,_⟩
 .rw [h1,h2,h3,h4]; rfl
 .rw [h1,h2]; rfl
 .rw [h1,h2,h3]; rfl
 .rw [h1,h2,h3,h4]; rfl
end
end Go.Ht
namespace Go.Vc
open Go Go.Eng Go.Ar Go.Rd
abbrev BA:=Su->List Int->Int->Int->Int->Ve->Ve->BO
structure LF where
 be:BA
 no:Su->List Int->Ve->BO
 uV:Ve->Ve
 uO:Ve->Int
 dt:Ve->Ve->Sp
 xV:Ve->Ve->Ve
 xO:Ve->Ve->Int
 aV:Ve->Ve->Ve
 aO:Ve->Ve->Int
 nV:Ve->Ve
 nO:Ve->Int
 sc:Int->Int->Int->Int->Sp
 ng:Int->Int->Sp
structure Th where
 a:Int
 b:Int
 c:Int
 d:Int
 e:Int
 f:Int
 w:Int
 k:Bool
def Th.cells (t:Th):List AV:=[.int true .i16 t.a,.int true .i16 t.b,.int true .i16 t.c,.int true .i16 t.d,.int true .i16 t.e,.int true .i16 t.f,.int true .u8 t.w,.bool true t.k]
structure Md where
 a:Int
 b:Int
 l:Int
 o:Int
 f0:Int
 f1:Int
def Md.cells (m:Md):List AV:=[.int true .u16 m.a,.int true .u16 m.b,.int true .u16 m.l,.int true .i8 m.o,.int true .i8 m.f0,.int true .i8 m.f1]
def lw (x:Int):Int:=IntKind.i64.wrap x
def l24:Int:=2 ^ min (Int.toNat 24) IntKind.i64.bits
def l16:Int:=2 ^ min (Int.toNat 16) IntKind.i64.bits
def Th.wd (t:Th):Int:=lw (t.w.tmod 4)
def pL (x:Int):Int:=lw (lw x*l24)
def pH (t:Th) (x i:Int):Int:=lw (pL x+lw (t.wd*i))
def dL (x:Int):Int:=lw (lw x*l16)
def dH (t:Th) (x:Int):Int:=lw (dL x+t.wd)
def atV (t:Th):Ve:=⟨bif t.k then pL t.a else pL t.a,bif t.k then pH t t.a 0 else pH t t.a 0,bif t.k then pL t.b else pL t.b,bif t.k then pH t t.b 1 else pH t t.b 1,bif t.k then pL t.c else pL t.c,bif t.k then pH t t.c 0 else pH t t.c 0⟩
def dirV (t:Th):Ve:=⟨bif t.k then dL t.d else dL t.d,bif t.k then dH t t.d else dH t t.d,bif t.k then dL t.e else dL t.e,bif t.k then dH t t.e else dH t t.e,bif t.k then -4294967296 else lw (4294967296 - t.wd),bif t.k then lw (-4294967296+t.wd) else 4294967296⟩
def eqB (v w:Ve):Bool:=v.a==w.a&&(v.b==w.b&&(v.c==w.c&&(v.d==w.d&&(v.e==w.e&&(v.f==w.f&&true)))))
section
variable (F:LF) (R N:BO) (D:Ve) (a b:Int) (nm:Bool)
def kLo:Int:=bif (F.dt D N.v).e != 0 then 0 else (F.dt D N.v).lo
end
section
variable (F:LF) (R R2:BO) (D:Ve)
end
section
variable (F:LF) (R1 R2 R3 N:BO)
end
end Go.Vc
namespace Go.Iv
open Go Go.Ar Go.Rd
def cn (a b:Int) (x:Rat):Prop:=(a:Rat)<=x*4294967296/\x*4294967296<=(b:Rat)
theorem two32:(0:Int)<4294967296:=by decide
end Go.Iv
namespace Go.Iv
open Go Go.Ar Go.Rd Go.Vc
structure V3 where
 x:Rat
 y:Rat
 z:Rat
def cv (v:Ve) (u:V3):Prop:=cn v.a v.b u.x/\cn v.c v.d u.y/\cn v.e v.f u.z
def V3.dot (u v:V3):Rat:=u.x*v.x+u.y*v.y+u.z*v.z
def V3.add (u v:V3):V3:=⟨u.x+v.x,u.y+v.y,u.z+v.z⟩
def V3.sub (u v:V3):V3:=⟨u.x - v.x,u.y - v.y,u.z - v.z⟩
def V3.mul (u:V3) (t:Rat):V3:=⟨u.x*t,u.y*t,u.z*t⟩
def V3.div (u:V3) (t:Rat):V3:=⟨u.x / t,u.y / t,u.z / t⟩
def vv (v:Ve):Prop:=okSp v.a v.b=true/\okSp v.c v.d=true/\okSp v.e v.f=true
theorem told_b {l h:Int} {r:Sp} (hr:r=toldS l h) (e:r.e=0) (hl:r.lo<=r.hi):okSp r.lo r.hi=true:=by
 subst hr
 have:=told_ok e
 rw [this.1] at hl ⊢
 exact okSp_iff.2 ⟨this.2.1,hl,this.2.2.2.2⟩
end Go.Iv
namespace Go.Iv
open Go Go.Ar Go.Rd Go.Vc
def gr (X:BX) (x y:Rat):Rat:=(1*(X.p2f:Rat) / ((100000:Int):Rat)+(x*x+y*y)*(X.p4f:Rat) / ((10000000:Int):Rat))*(X.pol:Rat) / ((1000000000:Int):Rat)*((10000000:Int):Rat) / (X.b:Rat)
def thr (X:BX) (d:V3) (x y:Rat):V3:=
 bif X.o0 then (bif !X.mir then ⟨d.x*(X.a:Rat) / (X.b:Rat),d.y*(X.a:Rat) / (X.b:Rat),d.z*(X.a:Rat) / (X.b:Rat)⟩ else d)
 else bif !X.mir then ⟨d.x*(X.a:Rat) / (X.b:Rat)+x*gr X x y,d.y*(X.a:Rat) / (X.b:Rat)+y*gr X x y,d.z*(X.a:Rat) / (X.b:Rat)⟩ else ⟨d.x+x*gr X x y,d.y+y*gr X x y,d.z⟩
def tan3 (S n:V3):V3:=S.sub (n.mul (S.dot n))
def ab (x m:Rat):Prop:=-m<=x/\x<=m
structure Bent (X:BX) (n d:V3) (x y:Rat) (K:Nat) (r:Rat):Prop where
 kp:X.k.hi<0\/0<X.k.lo
 kl:X.k.hi<0->d.dot n*4294967296<=-1
 kh:0<X.k.lo->1<=d.dot n*4294967296
 ka:ab (d.dot n) 1048576
 sa:ab ((thr X d x y).dot n) 1048576
 r0:0<=r
 r1:r*r<=1 - (tan3 (thr X d x y) n).dot (tan3 (thr X d x y) n)
 r2:(1 - (tan3 (thr X d x y) n).dot (tan3 (thr X d x y) n) - r*r)*(K:Rat)<=1
 out:cv X.out ((tan3 (thr X d x y) n).add (n.mul (bif X.fl then -r else r)))
 ov:vv X.out
end Go.Iv
namespace Go.Iv
open Go Go.Ar Go.Rd Go.Vc
end Go.Iv
namespace Go.Iv
open Go Go.Ar Go.Rd Go.Vc
end Go.Iv
namespace Go.Iv
open Go Go.Ar Go.Rd Go.Vc
end Go.Iv
namespace Go.Iv
open Go Go.Ar Go.Rd Go.Vc
structure ThR (t:Th):Prop where
 a:-32768<=t.a/\t.a<=32767
 b:-32768<=t.b/\t.b<=32767
 c:-32768<=t.c/\t.c<=32767
 d:-32768<=t.d/\t.d<=32767
 e:-32768<=t.e/\t.e<=32767
 w:0<=t.w/\t.w<=255
theorem bif_same {α:Type} (b:Bool) (x:α):(bif b then x else x)=x:=by cases b <;> rfl
theorem lwi {x:Int} (h:-9000000000000000000<=x/\x<=9000000000000000000):lw x=x:=i64w (by omega) (by omega)
theorem l24_e:l24=16777216:=by decide
theorem l16_e:l16=65536:=by decide
theorem wd_e {t:Th} (h:ThR t):t.wd=t.w % 4/\0<=t.wd/\t.wd<=3:=by
 have hw:=h.w
 have e:t.wd=t.w % 4:=by
  unfold Th.wd
  rw [Int.tmod_eq_emod_of_nonneg hw.1]
  exact lwi (by omega)
 rw [e]; omega
theorem dL_e {x:Int} (h:-32768<=x/\x<=32767):dL x=x*65536:=by
 unfold dL
 rw [lwi (x:=x) (by omega),l16_e]
 exact lwi (by omega)
theorem pL_e {x:Int} (h:-32768<=x/\x<=32767):pL x=x*16777216:=by
 unfold pL
 rw [lwi (x:=x) (by omega),l24_e]
 exact lwi (by omega)
theorem dH_e {t:Th} (r:ThR t) {x:Int} (h:-32768<=x/\x<=32767):dH t x=x*65536+t.wd:=by
 have:=wd_e r
 unfold dH
 rw [dL_e h]
 exact lwi (by omega)
theorem pH_e {t:Th} (r:ThR t) {x i:Int} (h:-32768<=x/\x<=32767) (hi:i=0\/i=1):pH t x i=x*16777216+t.wd*i:=by
 have:=wd_e r
 have k:lw (t.wd*i)=t.wd*i:=lwi (by rcases hi with e|e <;> rw [e] <;> omega)
 unfold pH
 rw [pL_e h,k]
 exact lwi (by rcases hi with e|e <;> rw [e] <;> omega)
theorem dir_e {t:Th} (r:ThR t):dirV t=⟨t.d*65536,t.d*65536+t.wd,t.e*65536,t.e*65536+t.wd,bif t.k then -4294967296 else 4294967296 - t.wd,bif t.k then -4294967296+t.wd else 4294967296⟩:=by
 have:=wd_e r
 unfold dirV
 rw [lwi (x:=4294967296 - t.wd) (by omega),lwi (x:=-4294967296+t.wd) (by omega)]
 simp only [bif_same,dL_e r.d,dL_e r.e,dH_e r r.d,dH_e r r.e]
theorem dir_v {t:Th} (r:ThR t):vv (dirV t):=by
 have:=wd_e r
 have h1:=r.d; have h2:=r.e
 rw [dir_e r]
 unfold vv
 simp only [okSp_iff]
 cases t.k <;> simp only [cond_true,cond_false] <;> omega
theorem told_0 {lo hi:Int} (h:-4503599627370496<=lo/\lo<=4503599627370496) (k:-4503599627370496<=hi/\hi<=4503599627370496):(toldS lo hi).e=0:=by
 rw [told_of (by omega) (by omega) (by omega) (by omega)]
end Go.Iv
namespace Go.Vc
open Go Go.Eng Go.Ar
section
variable (F:VF) (v w:Ve)
end
end Go.Vc
namespace Go.Iv
open Go Go.Ar Go.Rd Go.Vc
noncomputable def nf1:NF:=⟨fun s ys=>bif rightS s ys then 0 else 110,rightS,vC0 vf0,slpB,uV vf0,uO vf0,negS,chkS⟩
structure Good (X:BX):Prop where
 hF:X.F=bf0
 hR:rightS X.S X.ys=true
 bi:X.bi=false
 v:vv X.v
 w:vv X.w
theorem vC0_0 {v:Ve} (h:vv v):vC0 vf0 v=0:=by
 obtain ⟨h1,h2,h3⟩:=h
 rw [vC0_eq vf0_law]
 have:wOk vf0 v=false:=by
  show (!bif okSp v.a v.b then bif okSp v.c v.d then okSp v.e v.f else false else false)=false
  rw [h1,h2,h3]; rfl
 rw [this]; rfl
theorem Good.vz {X:BX} (G:Good X):X.vz=true:=by
 unfold BX.vz
 rw [G.hF]
 show (!(vC0 vf0 X.v != 0)&&!(vC0 vf0 X.w != 0))=true
 rw [vC0_0 G.v,vC0_0 G.w]
 rfl
theorem Good.fr {X:BX} (G:Good X) (x y z:Int):X.fr x y z=z:=by
 unfold BX.fr
 rw [G.bi,G.vz]; rfl
theorem Good.cz {X:BX} (G:Good X) (f:Int->Int) (v:Ve):cz (fun z=>X.fr 0 0 (f z)) v=cz f v:=by
 unfold Go.Vc.cz
 simp only [G.fr]
theorem nE {s:Su} {ys:List Int} {v:Ve} (hr:rightS s ys=true) (hv:vv v):pE nf1 s ys v=bif pP2 nf1 s ys v then 9 else bif pP5 nf1 s ys v then 9 else 0:=by
 unfold pE
 have e1:nf1.ck s ys=0:=by show (bif rightS s ys then 0 else 110)=(0:Int); rw [hr]; rfl
 have e2:nf1.vc v=0:=vC0_0 hv
 rw [e1,e2]; rfl
end Go.Iv
namespace Go.Ht
open Go Go.Eng Go.Ar Go.Rd Go.Vc Go.Iv
section
variable (F:HF) (S:Su) (ys:List Int) (p w:Ve)
def conicR (c k:Int):Except Int Iv:=do
 let x2<-sqr F ⟨p.a,p.b⟩
 let y2<-sqr F ⟨p.c,p.d⟩
 let rr<-add F x2 y2
 let f<-scl F rr c 1000000000
 let lx<-mul F ⟨w.a,w.b⟩ ⟨p.a,p.b⟩
 let my<-mul F ⟨w.c,w.d⟩ ⟨p.c,p.d⟩
 let lm<-add F lx my
 let cl<-scl F lm c 1000000000
 let g<-sub F ⟨w.e,w.f⟩ cl
 let g2<-sqr F g
 let fc<-scl F f c 1000000000
 let l2<-sqr F ⟨w.a,w.b⟩
 let m2<-sqr F ⟨w.c,w.d⟩
 let s2<-add F l2 m2
 let n2<-sqr F ⟨w.e,w.f⟩
 let kn<-scl F n2 (kW k) 1000000
 let a<-add F s2 kn
 let fa<-mul F fc a
 let h<-sub F g2 fa
 pos h 0
 let r<-op (F.rt h.lo h.hi)
 let r<-bif decide (w.f<0) then op (F.ng r.lo r.hi) else .ok r
 let d<-add F g r
 let t<-div F f d
 let z<-mul F t ⟨w.e,w.f⟩
 let kz<-scl F z (kW k) 1000000
 let cz<-scl F kz c 1000000000
 let q<-sub F one cz
 pos q 1
 return t
def nearR (t:Iv):Except Int Iv:=do
 let m<-op (F.md t.lo t.hi)
 let u:Iv:=⟨m.lo,m.lo⟩
 let a<-mul F u ⟨w.a,w.b⟩
 let b<-add F ⟨p.a,p.b⟩ a
 let c<-mul F u ⟨w.c,w.d⟩
 let d<-add F ⟨p.c,p.d⟩ c
 let z<-op (F.sg S ys b.lo b.hi d.lo d.hi)
 let n<-mul F u ⟨w.e,w.f⟩
 let e<-sub F n z
 let a<-mul F t ⟨w.a,w.b⟩
 let b<-add F ⟨p.a,p.b⟩ a
 let c<-mul F t ⟨w.c,w.d⟩
 let d<-add F ⟨p.c,p.d⟩ c
 let v:=F.sl S ys b.lo b.hi d.lo d.hi
 bif v 4==0 then do
  let x<-mul F ⟨v 0,v 1⟩ ⟨w.a,w.b⟩
  let d1<-sub F ⟨w.e,w.f⟩ x
  let y<-mul F ⟨v 2,v 3⟩ ⟨w.c,w.d⟩
  let d<-sub F d1 y
  let q<-div F e d
  sub F u q
 else .error 2
end
def blockA (F:HF) (w:Ve) (k:Int):Except Int Iv:=do
 let l2<-sqr F ⟨w.a,w.b⟩
 let m2<-sqr F ⟨w.c,w.d⟩
 let s2<-add F l2 m2
 let n2<-sqr F ⟨w.e,w.f⟩
 let kn<-scl F n2 (kW k) 1000000
 add F s2 kn
theorem swap {α β γ:Type} {x:Except Int α} {y:Except Int β} (hx:∀ e,x=.error e->e=5) (hy:∀ e,y=.error e->e=5) (k:α->β->Except Int γ):(x >>= fun a=>y >>= fun b=>k a b)=(y >>= fun b=>x >>= fun a=>k a b):=by
 cases x with
 | error e=>cases y with
  | error f=>rw [hx e rfl,hy f rfl]; rfl
  | ok b=>rfl
 | ok a=>cases y <;> rfl
def vi (x:Iv):Prop:=okSp x.lo x.hi=true
structure Gd (x:Except Int Iv):Prop where
 e:∀ e,x=.error e->e=5
 v:∀ v,x=.ok v->vi v
theorem gd_op {s:Sp} (h:okE s) (k:s.e=0->Ri s):Gd (op s):=by
 unfold op
 rcases h with h|h
 .rw [h]
  refine ⟨fun e he=>?_,fun v hv=>?_⟩
  .cases he
  .cases hv
   exact (k h).ok
 .subst h
  refine ⟨fun e he=>?_,fun v hv=>?_⟩
  .cases he; rfl
  .cases hv
theorem Gd.bind {x:Except Int Iv} {k:Iv->Except Int Iv} (h:Gd x) (g:∀ v,vi v->Gd (k v)):Gd (x >>= k):=by
 cases x with
 | error e=>exact ⟨fun e' he=>by cases he; exact h.e e rfl,fun v hv=>by cases hv⟩
 | ok v=>exact g v (h.v v rfl)
theorem Gd.cong {x:Except Int Iv} {k k':Iv->Except Int Iv} (h:Gd x) (g:∀ v,vi v->k v=k' v):(x >>= k)=(x >>= k'):=by
 cases x with
 | error e=>rfl
 | ok v=>exact g v (h.v v rfl)
theorem ri {x:Iv} (h:vi x):Ri ⟨x.lo,x.hi,0⟩:=Ri.of h
theorem gd_sqr {x:Iv} (h:vi x):Gd (sqr hf0 x):=by
 show Gd (op (sqrS x.lo x.hi))
 exact gd_op (e_sqr (ri h)) (r_sqr (ri h))
theorem gd_add {x y:Iv} (h:vi x) (k:vi y):Gd (add hf0 x y):=by
 show Gd (op (addS x.lo x.hi y.lo y.hi))
 exact gd_op (e_add (ri h) (ri k)) (r_add (ri h) (ri k))
theorem gd_sub {x y:Iv} (h:vi x) (k:vi y):Gd (sub hf0 x y):=by
 show Gd (op (subS x.lo x.hi y.lo y.hi))
 exact gd_op (e_sub (ri h) (ri k)) (r_sub (ri h) (ri k))
theorem gd_mul {x y:Iv} (h:vi x) (k:vi y):Gd (mul hf0 x y):=by
 show Gd (op (mulS x.lo x.hi y.lo y.hi))
 exact gd_op (e_mul (ri h) (ri k)) (r_mul (ri h) (ri k))
theorem gd_scl {x:Iv} {n d:Int} (h:vi x) (o:okSc n d) (k:okR n d=true):Gd (scl hf0 x n d):=by
 unfold scl
 show Gd (op (scaleS x.lo x.hi n d))
 rw [<- sc_eq o]
 have h1:okE (xScaleS x.lo x.hi n d):=e_sc (s:=⟨x.lo,x.hi,0⟩) (ri h) o k
 have h2:(xScaleS x.lo x.hi n d).e=0->Ri (xScaleS x.lo x.hi n d):=r_sc (s:=⟨x.lo,x.hi,0⟩) (ri h) o
 exact gd_op h1 h2
section
variable {p w:Ve} {c k:Int} (hp:vv p) (hw:vv w) (hc:inL c) (hk:inK k)
include hp hw hc hk
theorem conic_eq:conicR hf0 p w c k=conicP hf0 p w c k:=by
 unfold conicR conicP
 obtain ⟨p1,p2,p3⟩:=hp
 obtain ⟨w1,w2,w3⟩:=hw
 have p1:vi ⟨p.a,p.b⟩:=p1
 have p2:vi ⟨p.c,p.d⟩:=p2
 have w1:vi ⟨w.a,w.b⟩:=w1
 have w2:vi ⟨w.c,w.d⟩:=w2
 have w3:vi ⟨w.e,w.f⟩:=w3
 refine (gd_sqr p1).cong fun x2 v1=>(gd_sqr p2).cong fun y2 v2=>(gd_add v1 v2).cong fun rr v3=>(gd_scl v3 (sc_c hc) (ok_c hc)).cong fun f vf=>(gd_mul w1 p1).cong fun lx v4=>(gd_mul w2 p2).cong fun my v5=>(gd_add v4 v5).cong fun lm v6=>(gd_scl v6 (sc_c hc) (ok_c hc)).cong fun cl v7=>(gd_sub w3 v7).cong fun g vg=>?_
 have hA:Gd (blockA hf0 w k):=(gd_sqr w1).bind fun _ u1=>(gd_sqr w2).bind fun _ u2=>(gd_add u1 u2).bind fun _ u3=>(gd_sqr w3).bind fun _ u4=>(gd_scl u4 (sc_k hk) (ok_k hk)).bind fun _ u5=>gd_add u3 u5
 have eR:∀ (R:Iv->Except Int Iv),(do
   let l2<-sqr hf0 ⟨w.a,w.b⟩
   let m2<-sqr hf0 ⟨w.c,w.d⟩
   let s2<-add hf0 l2 m2
   let n2<-sqr hf0 ⟨w.e,w.f⟩
   let kn<-scl hf0 n2 (kW k) 1000000
   let a<-add hf0 s2 kn
   R a)=(blockA hf0 w k >>= R):=fun R=>by
  unfold blockA
  simp only [bind_assoc]
 rw [eR]
 simp only [eR]
 have s1:∀ (R:Iv->Iv->Iv->Except Int Iv),(sqr hf0 g >>= fun g2=>scl hf0 f c 1000000000 >>= fun fc=>blockA hf0 w k >>= fun a=>R g2 fc a)=(blockA hf0 w k >>= fun a=>sqr hf0 g >>= fun g2=>scl hf0 f c 1000000000 >>= fun fc=>R g2 fc a):=fun R=>by
  have h2:∀ g2,(scl hf0 f c 1000000000 >>= fun fc=>blockA hf0 w k >>= fun a=>R g2 fc a)=(blockA hf0 w k >>= fun a=>scl hf0 f c 1000000000 >>= fun fc=>R g2 fc a):=fun g2=>swap (gd_scl vf (sc_c hc) (ok_c hc)).e hA.e _
  simp only [h2]
  exact swap (gd_sqr vg).e hA.e _
 exact s1 _
end
def tO {α:Type}:Except Int α->Option α
 | .ok a=>some a
 | .error _=>none
theorem tO_bind {α β:Type} (x:Except Int α) (k:α->Except Int β):tO (x >>= k)=(tO x).bind fun a=>tO (k a):=by cases x <;> rfl
theorem bnone {α β:Type} (x:Option α):(x.bind fun _=>(none:Option β))=none:=by cases x <;> rfl
section
variable (F:HF) (S:Su) (ys:List Int) (p w:Ve) (t:Iv)
theorem near_eq (h:∃ v,mul F t ⟨w.e,w.f⟩=.ok v):tO (near F S ys p w t)=tO (nearR F S ys p w t):=by
 obtain ⟨tn,hn⟩:=h
 unfold near nearR toP
 simp only [bind_assoc,pure_bind,hn]
 simp only [tO_bind]
 cases tO (op (F.md t.lo t.hi)) with
 | none=>rfl
 | some m=>
 simp only [Option.bind_some]
 cases tO (mul F ⟨m.lo,m.lo⟩ ⟨w.a,w.b⟩) with
 | none=>rfl
 | some a=>
 simp only [Option.bind_some]
 cases tO (add F ⟨p.a,p.b⟩ a) with
 | none=>rfl
 | some b=>
 simp only [Option.bind_some]
 cases tO (mul F ⟨m.lo,m.lo⟩ ⟨w.c,w.d⟩) with
 | none=>rfl
 | some c=>
 simp only [Option.bind_some]
 cases tO (add F ⟨p.c,p.d⟩ c) with
 | none=>rfl
 | some d=>
 simp only [Option.bind_some]
 cases tO (mul F ⟨m.lo,m.lo⟩ ⟨w.e,w.f⟩) with
 | none=>simp only [Option.bind_none,bnone]
 | some n=>
 simp only [Option.bind_some]
 cases hz:tO (op (F.sg S ys b.lo b.hi d.lo d.hi)) with
 | none=>simp only [Option.bind_none,bnone]
 | some z=>
 simp only [Option.bind_some]
 cases he:tO (sub F n z) with
 | none=>simp only [he,Option.bind_none,bnone]
 | some e=>
 simp only [Option.bind_some]
 cases tO (mul F t ⟨w.a,w.b⟩) with
 | none=>rfl
 | some a'=>
 simp only [Option.bind_some]
 cases tO (add F ⟨p.a,p.b⟩ a') with
 | none=>rfl
 | some b'=>
 simp only [Option.bind_some]
 cases tO (mul F t ⟨w.c,w.d⟩) with
 | none=>rfl
 | some c'=>
 simp only [Option.bind_some]
 cases tO (add F ⟨p.c,p.d⟩ c') with
 | none=>rfl
 | some d'=>
 simp only [Option.bind_some,hz,he,tO,pure_bind]
end
end Go.Ht
