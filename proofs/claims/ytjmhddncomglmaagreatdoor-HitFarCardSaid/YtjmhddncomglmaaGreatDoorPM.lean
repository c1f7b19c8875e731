/- What is proved: a law of hits returns true, whatever the input (part 13). No conditions beyond those of the row. -/
import Derived.Test.YtjmhddncomglmaaGreatDoorPF
import Derived.Test.YtjmhddncomglmaaGreatDoorPG
import Derived.Test.YtjmhddncomglmaaGreatDoorPH
import Derived.Test.YtjmhddncomglmaaGreatDoorPL
set_option linter.unusedVariables false
set_option linter.unusedSimpArgs false
set_option linter.unusedSectionVars false
namespace Go.Proofs.YtjmhddncomglmaaGreatDoor.K
open Go Go.Eng Go.Ar Go.Rd
noncomputable section
def eV (k:Int):AV:=.tuple [.agg [.int false .i64 0,.int false .i64 0],.int false .i64 k]
theorem us_1 (s:Su) (n:Int) (ys:List Int) (a b x y:Int):rw2 cA 119 (s.cells (.int false .i64 1)) n ys a b x y=some (.p (taF (pOk s 1 n ys true) ⟨s.c,s.k,s.a0,s.a1,s.a2,s.a3,a,b,x,y⟩),spV (sagS s.c s.k s.a0 s.a1 s.a2 s.a3 a b x y)):=by kernel_rfl
theorem us_2 (s:Su) (n:Int) (ys:List Int) (a b x y:Int):rw2 cA 119 (s.cellsZ (.int false .i64 2)) n ys a b x y=some (.p (tbF (pOk { s with a0:=0,a1:=0,a2:=0,a3:=0 } 2 n ys true) ⟨s.c,s.k,s.l,s.m,a,b,x,y⟩),spV (sagX s.c s.k s.l s.m a b x y)):=by kernel_rfl
theorem us_3 (s:Su) (n:Int) (ys:List Int) (a b x y:Int):rw2 cA 119 (s.cells (.int false .i64 3)) n ys a b x y=some (.p (pOk s 3 n ys true),eV 5):=by kernel_rfl
theorem us_4 (s:Su) (n:Int) (ys:List Int) (a b x y:Int):rw2 cA 119 (s.cells (.int false .i64 4)) n ys a b x y=some (.p (pOk s 4 n ys true/\okSp a b=true/\okSp x y=true),eV 0):=by kernel_rfl
theorem us_1b (s:Su) (n:Int) (ys:List Int) (a b x y:Int):rw2 (cBd 0) 119 (s.cells (.int false .i64 1)) n ys a b x y=some (.p (pOk s 1 n ys true/\okSp a b=false),eV 20):=by kernel_rfl
theorem us_1c (s:Su) (n:Int) (ys:List Int) (a b x y:Int):rw2 (cBd 40) 119 (s.cells (.int false .i64 1)) n ys a b x y=some (.p (pOk s 1 n ys true/\okSp a b=true/\okSp x y=false),eV 20):=by kernel_rfl
theorem us_2b (s:Su) (n:Int) (ys:List Int) (a b x y:Int):rw2 (cBd 0) 119 (s.cellsZ (.int false .i64 2)) n ys a b x y=some (.p (pOk { s with a0:=0,a1:=0,a2:=0,a3:=0 } 2 n ys true/\okSp a b=false),eV 20):=by kernel_rfl
theorem us_2c (s:Su) (n:Int) (ys:List Int) (a b x y:Int):rw2 (cBd 40) 119 (s.cellsZ (.int false .i64 2)) n ys a b x y=some (.p (pOk { s with a0:=0,a1:=0,a2:=0,a3:=0 } 2 n ys true/\okSp a b=true/\okSp x y=false),eV 20):=by kernel_rfl
theorem us_4b (s:Su) (n:Int) (ys:List Int) (a b x y:Int):rw2 (cBd 0) 119 (s.cells (.int false .i64 4)) n ys a b x y=some (.p (pOk s 4 n ys true/\okSp a b=false),eV 20):=by kernel_rfl
theorem us_4c (s:Su) (n:Int) (ys:List Int) (a b x y:Int):rw2 (cBd 40) 119 (s.cells (.int false .i64 4)) n ys a b x y=some (.p (pOk s 4 n ys true/\okSp a b=true/\okSp x y=false),eV 20):=by kernel_rfl
theorem us_0 (s:Su) (n:Int) (ys:List Int) (a b x y:Int):rw2 cNo 119 (s.cells (.int true .i64 s.kd)) n ys a b x y=some (.p (pOk s s.kd n ys false),eV 110):=by kernel_rfl
theorem two_bad {a b x y:Int} (h:okXY a b x y=false):okSp a b=false\/(okSp a b=true/\okSp x y=false):=by
 unfold okXY at h
 cases h1:okSp a b with
 | false=>exact .inl rfl
 | true=>rw [h1] at h; exact .inr ⟨rfl,h⟩
theorem eV_tell {k:Int} {S:Sp} (h:(⟨0,0,k⟩:Sp)=S):tell (eV k) (spV S):=by
 subst h
 exact ⟨⟨⟨rfl,rfl⟩,⟨rfl,rfl⟩,trivial⟩,⟨rfl,rfl⟩,trivial⟩
theorem spV_tell {S T:Sp} (h:S=T):tell (spV S) (spV T):=by
 subst h
 exact ⟨⟨⟨rfl,rfl⟩,⟨rfl,rfl⟩,trivial⟩,⟨rfl,rfl⟩,trivial⟩
def sagA':Su->List Int->Int->Int->Int->Int->AV:=fun s ys a b x y=>spV (sagG s ys a b x y)
theorem sagG_ok:NOk Tryz.prog glob hG 119 (lSpec hG [.s suI .i64,.n sS,.n sS] (suV2 sagA')):=by
 refine su2_ok ⟨_,Tryz.func119,rfl⟩ fun s n ys a b x y hg ho=>?_
 cases hr:rightS s ys with
 | false=>exact ⟨cNo,s.cells (.int true .i64 s.kd),_,_,cNo_ok,rfl,rfl,tell_kd ⟨rfl,rfl⟩,us_0 s n ys a b x y,rfl,rk rfl ho hg hr,eV_tell (by unfold sagG; rw [hr]; rfl)⟩
 | true=>
  have bad:okXY a b x y=false->s.kd≠3->(⟨0,0,20⟩:Sp)=sagG s ys a b x y:=fun h h3=>by unfold sagG; rw [hr,h,beq_eq_false_iff_ne.2 h3]; rfl
  have good:okXY a b x y=true->s.kd≠3->sagK s a b x y=sagG s ys a b x y:=fun h h3=>by unfold sagG; rw [hr,h,beq_eq_false_iff_ne.2 h3]; rfl
  rcases right_kd hr with hk|hk|hk|hk
  .cases hx:okXY a b x y with
   | true=>
    have hh:okSp a b=true/\okSp x y=true:=by simpa [okXY] using hx
    exact ⟨cA,s.cells (.int false .i64 1),_,_,cA_ok,rfl,rfl,tell_kd ⟨rfl,hk⟩,us_1 s n ys a b x y,rfl,taF_ok (rk hk ho hg hr) (right_std hr) hh.1 hh.2,spV_tell (by rw [<- good hx (by omega)]; unfold sagK; rw [hk]; rfl)⟩
   | false=>
    rcases two_bad hx with h1|h1
    .exact ⟨cBd 0,s.cells (.int false .i64 1),_,_,cBd_ok _,rfl,rfl,tell_kd ⟨rfl,hk⟩,us_1b s n ys a b x y,rfl,⟨rk hk ho hg hr,h1⟩,eV_tell (bad hx (by omega))⟩
    .exact ⟨cBd 40,s.cells (.int false .i64 1),_,_,cBd_ok _,rfl,rfl,tell_kd ⟨rfl,hk⟩,us_1c s n ys a b x y,rfl,⟨rk hk ho hg hr,h1⟩,eV_tell (bad hx (by omega))⟩
  .cases hx:okXY a b x y with
   | true=>
    have hh:okSp a b=true/\okSp x y=true:=by simpa [okXY] using hx
    exact ⟨cA,s.cellsZ (.int false .i64 2),_,_,cA_ok,rfl,rfl,tell_kz hk (right_noA hr hk),us_2 s n ys a b x y,rfl,tbF_ok (rkz hk (right_noA hr hk) ho hg hr) (right_bic hr) hh.1 hh.2,spV_tell (by rw [<- good hx (by omega)]; unfold sagK; rw [hk]; rfl)⟩
   | false=>
    rcases two_bad hx with h1|h1
    .exact ⟨cBd 0,s.cellsZ (.int false .i64 2),_,_,cBd_ok _,rfl,rfl,tell_kz hk (right_noA hr hk),us_2b s n ys a b x y,rfl,⟨rkz hk (right_noA hr hk) ho hg hr,h1⟩,eV_tell (bad hx (by omega))⟩
    .exact ⟨cBd 40,s.cellsZ (.int false .i64 2),_,_,cBd_ok _,rfl,rfl,tell_kz hk (right_noA hr hk),us_2c s n ys a b x y,rfl,⟨rkz hk (right_noA hr hk) ho hg hr,h1⟩,eV_tell (bad hx (by omega))⟩
  .exact ⟨cA,s.cells (.int false .i64 3),_,_,cA_ok,rfl,rfl,tell_kd ⟨rfl,hk⟩,us_3 s n ys a b x y,rfl,rk hk ho hg hr,eV_tell (by unfold sagG; rw [hr,hk]; rfl)⟩
  .cases hx:okXY a b x y with
   | true=>
    have hh:okSp a b=true/\okSp x y=true:=by simpa [okXY] using hx
    exact ⟨cA,s.cells (.int false .i64 4),_,_,cA_ok,rfl,rfl,tell_kd ⟨rfl,hk⟩,us_4 s n ys a b x y,rfl,⟨rk hk ho hg hr,hh.1,hh.2⟩,eV_tell (by rw [<- good hx (by omega)]; unfold sagK; rw [hk]; rfl)⟩
   | false=>
    rcases two_bad hx with h1|h1
    .exact ⟨cBd 0,s.cells (.int false .i64 4),_,_,cBd_ok _,rfl,rfl,tell_kd ⟨rfl,hk⟩,us_4b s n ys a b x y,rfl,⟨rk hk ho hg hr,h1⟩,eV_tell (bad hx (by omega))⟩
    .exact ⟨cBd 40,s.cells (.int false .i64 4),_,_,cBd_ok _,rfl,rfl,tell_kd ⟨rfl,hk⟩,us_4c s n ys a b x y,rfl,⟨rk hk ho hg hr,h1⟩,eV_tell (bad hx (by omega))⟩
end
end Go.Proofs.YtjmhddncomglmaaGreatDoor.K
namespace Go.Rd
open Go Go.Eng Go.Ar
section
variable {c k l m a0 a1 a2 a3 a b d e:Int} (hc:inL c) (hk:inK k)
end
end Go.Rd
namespace Go.Ar
open Go Go.Eng
def rR (a b:Int):Bool:=bif rRt a then (bif rRt b then decide (a<=b) else false) else false
def rBad2 (a b c d:Int):Bool:=bif !rR a b then true else !rR c d
def rOut (g:Bool) (bad:Bool) (l h:Int):Sp:=⟨bif g then 0 else bif bad then 0 else l,bif g then 0 else bif bad then 0 else h,bif g then 20 else bif bad then 6 else 0⟩
def rChk (a b:Int):Int:=bif !rR a b then 20 else 0
def rAddS (a b c d:Int):Sp:=rOut (rBad2 a b c d) (!rR (IntKind.i64.wrap (a+c)) (IntKind.i64.wrap (b+d))) (IntKind.i64.wrap (a+c)) (IntKind.i64.wrap (b+d))
def rSubS (a b c d:Int):Sp:=rOut (rBad2 a b c d) (!rR (IntKind.i64.wrap (a - d)) (IntKind.i64.wrap (b - c))) (IntKind.i64.wrap (a - d)) (IntKind.i64.wrap (b - c))
def ifmn (x y:Int):Int:=if y<x then y else x
def ifmx (x y:Int):Int:=if y>x then y else x
def rFit (F:Int->Int->Bool->Int) (x y:Int):Bool:=bif okF (F x y false) then okF (F x y true) else false
def rFits (F:Int->Int->Bool->Int) (a b c d:Int):Bool:=bif bif bif rFit F a c then rFit F a d else false then rFit F b c else false then rFit F b d else false
def rLo (F:Int->Int->Bool->Int) (a b c d:Int):Int:=ifmn (ifmn (ifmn (fitV (F a c false)) (fitV (F a d false))) (fitV (F b c false))) (fitV (F b d false))
def rHi (F:Int->Int->Bool->Int) (a b c d:Int):Int:=ifmx (ifmx (ifmx (fitV (F a c true)) (fitV (F a d true))) (fitV (F b c true))) (fitV (F b d true))
def r4Bad (F:Int->Int->Bool->Int) (a b c d:Int):Bool:=bif !rFits F a b c d then true else !rR (rLo F a b c d) (rHi F a b c d)
def rMulS (a b c d:Int):Sp:=rOut (rBad2 a b c d) (r4Bad mF a b c d) (rLo mF a b c d) (rHi mF a b c d)
def rDivS (a b c d:Int):Sp:=
 ⟨bif rBad2 a b c d then 0 else bif xZ c d then 0 else bif r4Bad dF a b c d then 0 else rLo dF a b c d,bif rBad2 a b c d then 0 else bif xZ c d then 0 else bif r4Bad dF a b c d then 0 else rHi dF a b c d,
  bif rBad2 a b c d then 20 else bif xZ c d then 7 else bif r4Bad dF a b c d then 6 else 0⟩
def rSqrtS (a b:Int):Sp:=⟨bif !rR a b then 0 else bif decide (a<0) then 0 else rtV a false,bif !rR a b then 0 else bif decide (a<0) then 0 else rtV b true,bif !rR a b then 20 else bif decide (a<0) then 2 else 0⟩
def rScL (a b n d:Int):Int:=ifmn (scaleV a n d false) (scaleV b n d false)
def rScH (a b n d:Int):Int:=ifmx (scaleV a n d true) (scaleV b n d true)
def rScBad (a b n d:Int):Bool:=bif !(scaleE b n d true==0) then true else !rR (rScL a b n d) (rScH a b n d)
def rSc3 (a b n d x y:Int):Int:=bif scaleE a n d false==0 then bif scaleE b n d false==0 then bif scaleE a n d true==0 then bif rScBad a b n d then y else x else y else y else y
def rScaleS (a b n d:Int):Sp:=⟨bif !rR a b then 0 else bif scaleE a n d false==2 then 0 else rSc3 a b n d (rScL a b n d) 0,bif !rR a b then 0 else bif scaleE a n d false==2 then 0 else rSc3 a b n d (rScH a b n d) 0,
 bif !rR a b then 20 else bif scaleE a n d false==2 then 2 else rSc3 a b n d 0 6⟩
def rqV (a:Int) (up:Bool):Int:=bif decide (a>=0) then pV a up else pV (IntKind.i64.wrap (0 - a)) up
def rqB (a:Int) (up:Bool):Bool:=bif decide (a>=0) then pB a up else pB (IntKind.i64.wrap (0 - a)) up
def rqL (a b:Int):Int:=bif bif decide (a<0) then decide (b>0) else false then 0 else ifmn (rqV a false) (rqV b false)
def rqH (a b:Int):Int:=ifmx (rqV a true) (rqV b true)
def rqBad (a b:Int):Bool:=bif !rqB b true then true else !rR (rqL a b) (rqH a b)
def rq3 (a b x y:Int):Int:=bif rqB a false then bif rqB b false then bif rqB a true then bif rqBad a b then y else x else y else y else y
def rSqrS (a b:Int):Sp:=⟨bif !rR a b then 0 else rq3 a b (rqL a b) 0,bif !rR a b then 0 else rq3 a b (rqH a b) 0,bif !rR a b then 20 else rq3 a b 0 6⟩
theorem rR_eq (a b:Int):rR a b=okSp a b:=by
 unfold rR
 rw [rRt_eq,rRt_eq]
 unfold okF okSp
 by_cases h1:-4503599627370496<=a <;> by_cases h2:a<=b <;> by_cases h3:b<=4503599627370496 <;> simp [h1,h2,h3] <;> omega
theorem rR_told {l h:Int} (k:l<=h):rR l h=(okF l&&okF h):=by
 rw [rR_eq]
 unfold okF okSp
 rw [Bool.eq_iff_iff]
 simp
 omega
theorem rOut_told (a b c d l h:Int) (bad:Bool) (k:okSp a b=true->okSp c d=true->bad=!(okF l&&okF h)):rOut (rBad2 a b c d) bad l h=both a b c d (toldS l h):=by
 unfold rOut rBad2 both
 rw [rR_eq,rR_eq]
 cases h1:okSp a b with
 | false=>simp [err]
 | true=>
  cases h2:okSp c d with
  | false=>simp [err]
  | true=>
   rw [k h1 h2]
   unfold toldS
   cases okF l&&okF h <;> simp [err]
theorem rChk_eq (a b:Int):rChk a b=bif okSp a b then 0 else 20:=by
 unfold rChk; rw [rR_eq]; cases okSp a b <;> rfl
theorem rAddS_eq (a b c d:Int):rAddS a b c d=addS a b c d:=by
 unfold rAddS addS
 rw [rOut_told]
 .unfold both
  cases h1:okSp a b <;> cases h2:okSp c d <;> try rfl
  have:=okSp_iff.1 h1; have:=okSp_iff.1 h2
  rw [i64w (by omega) (by omega),i64w (by omega) (by omega)]
 .intro h1 h2
  have:=okSp_iff.1 h1; have:=okSp_iff.1 h2
  rw [rR_told]
  rw [i64w (by omega) (by omega),i64w (by omega) (by omega)]; omega
theorem rSubS_eq (a b c d:Int):rSubS a b c d=subS a b c d:=by
 unfold rSubS subS
 rw [rOut_told]
 .unfold both
  cases h1:okSp a b <;> cases h2:okSp c d <;> try rfl
  have:=okSp_iff.1 h1; have:=okSp_iff.1 h2
  rw [i64w (by omega) (by omega),i64w (by omega) (by omega)]
 .intro h1 h2
  have:=okSp_iff.1 h1; have:=okSp_iff.1 h2
  rw [rR_told]
  rw [i64w (by omega) (by omega),i64w (by omega) (by omega)]; omega
theorem ifmn_eq (x y:Int):ifmn x y=mn x y:=by
 unfold ifmn mn; by_cases h:y<x <;> simp [h]
theorem ifmx_eq (x y:Int):ifmx x y=mx x y:=by
 unfold ifmx mx; by_cases h:x<y <;> simp [h]
theorem fitV_ok {v:Int} (h:okF v=true):fitV v=v:=by unfold fitV; rw [h]; rfl
theorem r4_law (F:Int->Int->Bool->Int) (a b c d:Int) (hF:∀ x y,(x=a\/x=b)->(y=c\/y=d)->F x y false<=F x y true):
  (⟨bif r4Bad F a b c d then 0 else rLo F a b c d,bif r4Bad F a b c d then 0 else rHi F a b c d,bif r4Bad F a b c d then 6 else 0⟩:Sp)=hull4 F a b c d:=by
 rw [<- hull_law (fun x y up=>fitV (F x y up)) (fun x y up=>fitE (F x y up)) F a b c d hF fun x y _ _=>⟨bad2_of (f:=fun x y up=>fitE (F x y up)) Iff.rfl,fun hb=>?_⟩]
 .have hfit:∀ x y,rFit F x y=!bad2 (fun x y up=>fitE (F x y up)) x y:=by
   intro x y
   rw [bad2_of (e:=fun x y up=>fitE (F x y up)) (f:=fun x y up=>fitE (F x y up)) (F:=F) Iff.rfl,Bool.not_not]
   unfold rFit
   cases okF (F x y false) <;> rfl
  have hfits:rFits F a b c d=ok4 (fun x y up=>fitE (F x y up)) a b c d:=by
   unfold rFits ok4
   rw [hfit,hfit,hfit,hfit]
   cases bad2 (fun x y up=>fitE (F x y up)) a c <;> cases bad2 (fun x y up=>fitE (F x y up)) a d <;> cases bad2 (fun x y up=>fitE (F x y up)) b c <;> cases bad2 (fun x y up=>fitE (F x y up)) b d <;> rfl
  have el:rLo F a b c d=l3 (fun x y up=>fitV (F x y up)) a b c d:=by
   unfold rLo l3 l2 l1; rw [nL_eq,nL_eq,nL_eq,ifmn_eq,ifmn_eq,ifmn_eq]
  have eh:rHi F a b c d=h3 (fun x y up=>fitV (F x y up)) a b c d:=by
   unfold rHi h3 h2 h1; rw [nH_eq,nH_eq,nH_eq,ifmx_eq,ifmx_eq,ifmx_eq]
  unfold bL bH bE r4Bad
  rw [hfits,<- el,<- eh]
  cases hk:ok4 (fun x y up=>fitE (F x y up)) a b c d with
  | false=>rfl
  | true=>
   have hle:rLo F a b c d<=rHi F a b c d:=by
    unfold ok4 at hk
    simp only [Bool.and_eq_true] at hk
    have h1:=hk.1.1
    rw [bad2_of (e:=fun x y up=>fitE (F x y up)) (f:=fun x y up=>fitE (F x y up)) (F:=F) Iff.rfl,Bool.not_not,Bool.and_eq_true] at h1
    have h2:=hF a c (.inl rfl) (.inl rfl)
    have m1:=mn_le (fitV (F a c false)) (fitV (F a d false)); have m2:=mn_le (mn (fitV (F a c false)) (fitV (F a d false))) (fitV (F b c false)); have m3:=mn_le (mn (mn (fitV (F a c false)) (fitV (F a d false))) (fitV (F b c false))) (fitV (F b d false))
    have n1:=le_mx (fitV (F a c true)) (fitV (F a d true)); have n2:=le_mx (mx (fitV (F a c true)) (fitV (F a d true))) (fitV (F b c true)); have n3:=le_mx (mx (mx (fitV (F a c true)) (fitV (F a d true))) (fitV (F b c true))) (fitV (F b d true))
    rw [fitV_ok h1.1] at m1 m2 m3
    rw [fitV_ok h1.2] at n1 n2 n3
    unfold rLo rHi
    rw [ifmn_eq,ifmn_eq,ifmn_eq,ifmx_eq,ifmx_eq,ifmx_eq,fitV_ok h1.1,fitV_ok h1.2]
    omega
   have ht:(!rR (rLo F a b c d) (rHi F a b c d))=xTb (rLo F a b c d) (rHi F a b c d):=by rw [rR_told hle,xTb_eq hle]
   simp only [Bool.not_true,cond_false,cond_true,ht]
 .rw [bad2_of (e:=fun x y up=>fitE (F x y up)) (f:=fun x y up=>fitE (F x y up)) (F:=F) Iff.rfl] at hb
  simp only [Bool.not_eq_false',Bool.and_eq_true] at hb
  exact ⟨fitV_ok hb.1,fitV_ok hb.2⟩
theorem rMulS_eq (a b c d:Int):rMulS a b c d=mulS a b c d:=by
 unfold rMulS mulS both rOut rBad2
 rw [rR_eq,rR_eq]
 cases h1:okSp a b with
 | false=>simp [err]
 | true=>
  cases h2:okSp c d with
  | false=>simp [err]
  | true=>
   rw [<- r4_law mF a b c d fun x y _ _=>rd_le _ _ (by decide)]
   rfl
theorem rDivS_eq (a b c d:Int):rDivS a b c d=divS a b c d:=by
 unfold rDivS divS both rBad2
 rw [rR_eq,rR_eq,xZ_eq]
 cases h1:okSp a b with
 | false=>simp [err]
 | true=>
  cases h2:okSp c d with
  | false=>simp [err]
  | true=>
   cases h3:(decide (c<=0)&&decide (0<=d)) with
   | true=>simp [err]
   | false=>
    have h2:=okSp_iff.1 h2
    rw [<- r4_law dF a b c d fun x y _ hy=>rd_le _ _ (by
     have:y≠0:=by
      intro h0
      simp only [Bool.and_eq_false_iff,decide_eq_false_iff_not] at h3
      rcases hy with rfl|rfl <;> omega
     rcases sg_cases y with ⟨_,e⟩|⟨_,e⟩ <;> omega)]
    rfl
theorem rSqrtS_eq (a b:Int):rSqrtS a b=sqrtS a b:=by
 unfold rSqrtS sqrtS
 rw [rR_eq]
 cases okSp a b with
 | false=>rfl
 | true=>cases decide (a<0) <;> rfl
end Go.Ar
namespace Go.Ar
open Go
def xNegS (a b:Int):Sp:=xTold (xCS a b) (IntKind.i64.wrap (0 - b)) (IntKind.i64.wrap (0 - a))
theorem xNegS_eq (a b:Int):xNegS a b=negS a b:=by
 unfold xNegS negS xTold
 rw [xCS_eq]
 cases h:okSp a b with
 | false=>simp [err]
 | true=>
  have:=okSp_iff.1 h
  rw [i64w (by omega) (by omega),i64w (by omega) (by omega)]
  have hb:xTb (0 - b) (0 - a)=false:=by
   unfold xTb
   rw [decide_eq_false (show ¬ (0 - b < -4503599627370496) by omega),decide_eq_false (show ¬ (0 - a>4503599627370496) by omega)]
   rfl
  rw [hb]
  simp
def rNegS (a b:Int):Sp:=⟨bif !rR a b then 0 else IntKind.i64.wrap (0 - b),bif !rR a b then 0 else IntKind.i64.wrap (0 - a),bif !rR a b then 20 else 0⟩
theorem rNegS_eq (a b:Int):rNegS a b=negS a b:=by
 unfold rNegS negS
 rw [rR_eq]
 cases h:okSp a b with
 | false=>rfl
 | true=>
  have:=okSp_iff.1 h
  rw [i64w (by omega) (by omega),i64w (by omega) (by omega)]
  simp
end Go.Ar
namespace Go.Vc
open Go Go.Eng Go.Ar
structure VF where
 ad:Int->Int->Int->Int->Sp
 su:Int->Int->Int->Int->Sp
 mu:Int->Int->Int->Int->Sp
 di:Int->Int->Int->Int->Sp
 sc:Int->Int->Int->Int->Sp
 sq:Int->Int->Sp
 rt:Int->Int->Sp
 ng:Int->Int->Sp
 ck:Int->Int->Int
 ok:Int->Int->Bool
noncomputable def vf0:VF:=⟨addS,subS,mulS,divS,scaleS,sqrS,sqrtS,negS,chkS,okSp⟩
structure Ve where
 a:Int
 b:Int
 c:Int
 d:Int
 e:Int
 f:Int
def Ve.cells (v:Ve):List AV:=[.int true .i64 v.a,.int true .i64 v.b,.int true .i64 v.c,.int true .i64 v.d,.int true .i64 v.e,.int true .i64 v.f]
section
variable (F:VF) (v:Ve)
def nA:Sp:=F.ad (F.sq v.a v.b).lo (F.sq v.a v.b).hi (F.sq v.c v.d).lo (F.sq v.c v.d).hi
def nB:Sp:=F.ad (nA F v).lo (nA F v).hi (F.sq v.e v.f).lo (F.sq v.e v.f).hi
def nR:Sp:=F.rt (nB F v).lo (nB F v).hi
def nD1:Sp:=F.di v.a v.b (nR F v).lo (nR F v).hi
def nD2:Sp:=F.di v.c v.d (nR F v).lo (nR F v).hi
def nD3:Sp:=F.di v.e v.f (nR F v).lo (nR F v).hi
def fe (x y:Int):Int:=bif x==0 then y else x
def uZ:Bool:=!(v.a==0&&(v.b==0&&(v.c==0&&(v.d==0&&(v.e==0&&(v.f==0&&true))))))
def vCk:Int:=fe (fe (F.ck v.a v.b) (F.ck v.c v.d)) (F.ck v.e v.f)
def vC0:Int:=bif uZ v then vCk F v else 0
def uE:Int:=fe (fe (fe (fe (fe (fe (fe (fe (fe (vC0 F v) (F.sq v.a v.b).e) (F.sq v.c v.d).e) (F.sq v.e v.f).e) (nA F v).e) (nB F v).e) (nR F v).e) (nD1 F v).e) (nD2 F v).e) (nD3 F v).e
def uI (x:Int):Int:=bif uE F v != 0 then 0 else x
def uV:Ve:=⟨uI F v (nD1 F v).lo,uI F v (nD1 F v).hi,uI F v (nD2 F v).lo,uI F v (nD2 F v).hi,uI F v (nD3 F v).lo,uI F v (nD3 F v).hi⟩
def uO:Int:=bif uE F v != 0 then uE F v else 0
def f3 (a b c:Int):Int:=bif a != 0||!(a != 0)&&(b != 0||!(b != 0)&&c != 0) then bif a != 0 then a else bif b != 0 then b else c else 0
def wOk:Bool:=!bif F.ok v.a v.b then bif F.ok v.c v.d then F.ok v.e v.f else false else false
def w5:Int:=f3 (F.sq v.a v.b).e (F.sq v.c v.d).e (F.sq v.e v.f).e
end
structure VF.law (F:VF):Prop where
 ck:∀ a b,F.ck a b=bif F.ok a b then 0 else 20
 z:F.ok 0 0=true
theorem vf0_law:vf0.law:=⟨fun _ _=>rfl,by decide⟩
theorem vC0_eq {F:VF} (h:F.law) (v:Ve):vC0 F v=bif wOk F v then 20 else 0:=by
 unfold vC0 vCk wOk fe
 simp only [h.ck]
 cases hz:uZ v with
 | true=>cases F.ok v.a v.b <;> cases F.ok v.c v.d <;> cases F.ok v.e v.f <;> rfl
 | false=>
  unfold uZ at hz
  simp only [Bool.and_true,Bool.not_eq_false',Bool.and_eq_true,beq_iff_eq] at hz
  obtain ⟨h1,h2,h3,h4,h5,h6⟩:=hz
  rw [h1,h2,h3,h4,h5,h6,h.z]
  rfl
end Go.Vc
namespace Go.Vc
open Go Go.Eng Go.Ar Go.Rd
structure NF where
 ck:Su->List Int->Int
 rt:Su->List Int->Bool
 vc:Ve->Int
 sl:Su->List Int->Int->Int->Int->Int->Nat->Int
 uV:Ve->Ve
 uO:Ve->Int
 ng:Int->Int->Sp
 sk:Int->Int->Int
section
variable (F:NF) (s:Su) (n:Int) (ys:List Int) (v:Ve)
def nG (i:Nat):Int:=F.sl s ys v.a v.b v.c v.d i
def nX1:Sp:=F.ng (nG F s ys v 0) (nG F s ys v 1)
def nX2:Sp:=F.ng (nG F s ys v 2) (nG F s ys v 3)
def nW:Ve:=⟨(nX1 F s ys v).lo,(nX1 F s ys v).hi,(nX2 F s ys v).lo,(nX2 F s ys v).hi,4294967296,4294967296⟩
def nK:Bool:=bif s.kd==3 then true else s.kd==4
def nU:Int:=F.uO (nW F s ys v)
def pP2:Bool:=!nK s&&((nG F s ys v 4==0)&&(((nX1 F s ys v).e==0)&&(((nX2 F s ys v).e==0)&&(!nU F s ys v==0&&!(nU F s ys v==6))||!((nX2 F s ys v).e==0)&&!((nX2 F s ys v).e==6))||!((nX1 F s ys v).e==0)&&!((nX1 F s ys v).e==6))||!(nG F s ys v 4==0)&&!(nG F s ys v 4==6))
def pP5:Bool:=!nK s&&((nG F s ys v 4==0)&&(((nX1 F s ys v).e==0)&&(((nX2 F s ys v).e==0)&&(!nU F s ys v==0&&(nU F s ys v==6))||!((nX2 F s ys v).e==0)&&((nX2 F s ys v).e==6))||!((nX1 F s ys v).e==0)&&((nX1 F s ys v).e==6))||!(nG F s ys v 4==0)&&(nG F s ys v 4==6))
def pE:Int:=bif F.ck s ys != 0 then F.ck s ys else bif F.vc v != 0 then F.vc v else bif pP2 F s ys v then 9 else bif pP5 F s ys v then 9 else 0
def q2:Bool:=!bif F.sk v.a v.b != 0||!(F.sk v.a v.b != 0)&&(F.sk v.c v.d != 0||!(F.sk v.c v.d != 0)&&F.sk v.e v.f != 0) then false else true
def q8:Int:=bif nG F s ys v 4 != 0 then nG F s ys v 4 else bif (nX1 F s ys v).e != 0 then (nX1 F s ys v).e else nG F s ys v 4
def q10:Int:=bif q8 F s ys v != 0 then q8 F s ys v else bif (nX2 F s ys v).e != 0 then (nX2 F s ys v).e else q8 F s ys v
def qA (x:Int):Int:=bif nG F s ys v 4 != 0 then 0 else bif (nX1 F s ys v).e != 0 then 0 else x
def qB (x:Int):Int:=bif q8 F s ys v != 0 then 0 else bif (nX2 F s ys v).e != 0 then 0 else x
def qW:Ve:=⟨qA F s ys v (nX1 F s ys v).lo,qA F s ys v (nX1 F s ys v).hi,qB F s ys v (nX2 F s ys v).lo,qB F s ys v (nX2 F s ys v).hi,4294967296,4294967296⟩
def q11:Int:=F.uO (qW F s ys v)
def q12:Int:=bif nK s then 0 else bif q10 F s ys v != 0 then q10 F s ys v else bif q11 F s ys v != 0 then q11 F s ys v else q10 F s ys v
end
structure NF.law (F:NF):Prop where
 ck:∀ s ys,F.ck s ys=bif F.rt s ys then 0 else 110
 vc:∀ v,F.vc v=bif q2 F v then 20 else 0
end Go.Vc
namespace Go.Rd
open Go Go.Eng Go.Ar Go.Vc
section
variable {s:Su} {ys:List Int} (h:rightS s ys=true) (a b x y:Int)
include h
end
end Go.Rd
namespace Go.Ht
open Go Go.Eng Go.Ar Go.Rd Go.Vc
structure Iv where
 lo:Int
 hi:Int
structure HF where
 ng:Int->Int->Sp
 ad:Int->Int->Int->Int->Sp
 su:Int->Int->Int->Int->Sp
 mu:Int->Int->Int->Int->Sp
 di:Int->Int->Int->Int->Sp
 sc:Int->Int->Int->Int->Sp
 sq:Int->Int->Sp
 rt:Int->Int->Sp
 md:Int->Int->Sp
 mt:Int->Int->Int->Int->Sp
 sg:Su->List Int->Int->Int->Int->Int->Sp
 sl:Su->List Int->Int->Int->Int->Int->Nat->Int
 ck:Su->List Int->Int
 vc:Ve->Int
def why (e:Int):Int:=bif e==6 then 5 else 2
def op (s:Sp):Except Int Iv:=bif s.e==0 then .ok ⟨s.lo,s.hi⟩ else .error (why s.e)
section
variable (F:HF) (S:Su) (ys:List Int) (p w:Ve)
def add (x y:Iv):Except Int Iv:=op (F.ad x.lo x.hi y.lo y.hi)
def sub (x y:Iv):Except Int Iv:=op (F.su x.lo x.hi y.lo y.hi)
def mul (x y:Iv):Except Int Iv:=op (F.mu x.lo x.hi y.lo y.hi)
def div (x y:Iv):Except Int Iv:=op (F.di x.lo x.hi y.lo y.hi)
def sqr (x:Iv):Except Int Iv:=op (F.sq x.lo x.hi)
def scl (x:Iv) (n d:Int):Except Int Iv:=op (F.sc x.lo x.hi n d)
def kW (k:Int):Int:=IntKind.i64.wrap (1000000+k)
def one:Iv:=⟨4294967296,4294967296⟩
def pos (x:Iv) (k:Int):Except Int Unit:=bif decide (x.hi<k) then .error 1 else bif decide (x.lo<k) then .error 2 else .ok ()
def toP (t:Iv):Except Int Ve:=do
 let a<-mul F t ⟨w.a,w.b⟩
 let b<-add F ⟨p.a,p.b⟩ a
 let c<-mul F t ⟨w.c,w.d⟩
 let d<-add F ⟨p.c,p.d⟩ c
 let e<-mul F t ⟨w.e,w.f⟩
 return ⟨b.lo,b.hi,d.lo,d.hi,e.lo,e.hi⟩
def conicP (c k:Int):Except Int Iv:=do
 let x2<-sqr F ⟨p.a,p.b⟩
 let y2<-sqr F ⟨p.c,p.d⟩
 let rr<-add F x2 y2
 let f<-scl F rr c 1000000000
 let lx<-mul F ⟨w.a,w.b⟩ ⟨p.a,p.b⟩
 let my<-mul F ⟨w.c,w.d⟩ ⟨p.c,p.d⟩
 let lm<-add F lx my
 let cl<-scl F lm c 1000000000
 let g<-sub F ⟨w.e,w.f⟩ cl
 let l2<-sqr F ⟨w.a,w.b⟩
 let m2<-sqr F ⟨w.c,w.d⟩
 let s2<-add F l2 m2
 let n2<-sqr F ⟨w.e,w.f⟩
 let kn<-scl F n2 (kW k) 1000000
 let a<-add F s2 kn
 let g2<-sqr F g
 let fc<-scl F f c 1000000000
 let fa<-mul F fc a
 let h<-sub F g2 fa
 pos h 0
 let r<-op (F.rt h.lo h.hi)
 let r<-bif decide (w.f<0) then op (F.ng r.lo r.hi) else .ok r
 let d<-add F g r
 let t<-div F f d
 let z<-mul F t ⟨w.e,w.f⟩
 let kz<-scl F z (kW k) 1000000
 let cz<-scl F kz c 1000000000
 let q<-sub F one cz
 pos q 1
 return t
def near (t:Iv):Except Int Iv:=do
 let m<-op (F.md t.lo t.hi)
 let u:Iv:=⟨m.lo,m.lo⟩
 let a<-toP F p w u
 let b<-toP F p w t
 let z<-op (F.sg S ys a.a a.b a.c a.d)
 let e<-sub F ⟨a.e,a.f⟩ z
 let v:=F.sl S ys b.a b.b b.c b.d
 bif v 4==0 then do
  let x<-mul F ⟨v 0,v 1⟩ ⟨w.a,w.b⟩
  let d1<-sub F ⟨w.e,w.f⟩ x
  let y<-mul F ⟨v 2,v 3⟩ ⟨w.c,w.d⟩
  let d<-sub F d1 y
  let q<-div F e d
  sub F u q
 else .error 2
def roundP (t:Iv) (b:Bool):Option (Iv×Bool):=match near F S ys p w t with
 | .error _=>none
 | .ok v=>bif (F.mt v.lo v.hi t.lo t.hi).e==0 then some (⟨(F.mt v.lo v.hi t.lo t.hi).lo,(F.mt v.lo v.hi t.lo t.hi).hi⟩,b||(decide (v.lo>t.lo)&&decide (v.hi<t.hi))) else none
def roundsP:Nat->Iv->Bool->Option (Iv×Bool)
 | 0,t,b=>some (t,b)
 | n+1,t,b=>match roundP F S ys p w t b with
  | none=>none
  | some (u,c)=>roundsP n u c
def wide (b:Iv) (n:Int):Option Iv:=bif (F.ad b.lo b.hi (-n) n).e==0 then (match roundsP F S ys p w 8 ⟨(F.ad b.lo b.hi (-n) n).lo,(F.ad b.lo b.hi (-n) n).hi⟩ false with
  | some (t,true)=>some t
  | _=>none) else none
def widths (b:Iv):List Int->Except Int Iv
 | []=>.error 2
 | n :: l=>match wide F S ys p w b n with
  | some t=>.ok t
  | none=>widths b l
def curvedP (c k:Int):Except Int Iv:=match conicP F p w c k with
 | .error x=>.error (bif x==5 then 5 else 2)
 | .ok b=>widths F S ys p w b [1048576,67108864,2147483648,34359738368]
def flat:Bool:=S.a0==0&&(S.a1==0&&(S.a2==0&&S.a3==0))
def wayP:Except Int Iv:=bif S.kd==1 then (bif flat S then conicP F p w S.c S.k else curvedP F S ys p w S.c S.k)
 else bif S.kd==2 then curvedP F S ys p w ((S.c+S.l) / 2) 0 else .ok ⟨0,0⟩
def planeP:Except Int (Ve×Iv):=do
 let m<-op (F.ng p.e p.f)
 let t<-div F m ⟨w.e,w.f⟩
 let a<-mul F t ⟨w.a,w.b⟩
 let b<-add F ⟨p.a,p.b⟩ a
 let c<-mul F t ⟨w.c,w.d⟩
 let d<-add F ⟨p.c,p.d⟩ c
 return (⟨b.lo,b.hi,d.lo,d.hi,0,0⟩,t)
def hitP:Except Int (Ve×Iv):=do
 let (q,a)<-planeP F p w
 let t<-wayP F S ys q w
 bif S.kd==1||S.kd==2 then do
  let at'<-toP F q w t
  let b<-add F a t
  return (at',b)
 else return (q,a)
end
end Go.Ht
namespace Go.Ht
open Go Go.Eng Go.Ar Go.Rd Go.Vc
def Iv.ng (x:Iv):Iv:=⟨-x.hi,-x.lo⟩
structure HF.odd (F:HF):Prop where
 ad:∀ a b c d,F.ad (-b) (-a) (-d) (-c)=Rd.ng (F.ad a b c d)
 mu:∀ a b c d,F.mu (-b) (-a) c d=Rd.ng (F.mu a b c d)
 mu':∀ a b c d,F.mu a b (-d) (-c)=Rd.ng (F.mu a b c d)
 sq:∀ a b,F.sq (-b) (-a)=F.sq a b
 gx:∀ S ys a b c d,F.sg S ys (-b) (-a) c d=F.sg S ys a b c d
 gy:∀ S ys a b c d,F.sg S ys a b (-d) (-c)=F.sg S ys a b c d
structure HF.oddS (F:HF) (S:Su) (ys:List Int):Prop where
 x4:∀ a b c d,F.sl S ys (-b) (-a) c d 4=F.sl S ys a b c d 4
 x0:∀ a b c d,F.sl S ys (-b) (-a) c d 0=-F.sl S ys a b c d 1
 x1:∀ a b c d,F.sl S ys (-b) (-a) c d 1=-F.sl S ys a b c d 0
 x2:∀ a b c d,F.sl S ys (-b) (-a) c d 2=F.sl S ys a b c d 2
 x3:∀ a b c d,F.sl S ys (-b) (-a) c d 3=F.sl S ys a b c d 3
 y4:∀ a b c d,F.sl S ys a b (-d) (-c) 4=F.sl S ys a b c d 4
 y0:∀ a b c d,F.sl S ys a b (-d) (-c) 0=F.sl S ys a b c d 0
 y1:∀ a b c d,F.sl S ys a b (-d) (-c) 1=F.sl S ys a b c d 1
 y2:∀ a b c d,F.sl S ys a b (-d) (-c) 2=-F.sl S ys a b c d 3
 y3:∀ a b c d,F.sl S ys a b (-d) (-c) 3=-F.sl S ys a b c d 2
section
variable {F:HF} (o:F.odd)
include o
end
section
variable {F:HF} (o:F.odd) (S:Su) (ys:List Int) (p w:Ve)
include o
variable {S ys} (q:F.oddS S ys)
include q
end
end Go.Ht
namespace Go.Vc
open Go Go.Eng Go.Ar
section
variable (F:VF) (v w:Ve) (X Y Z:Sp)
def bCk:Int:=bif uZ w then fe (fe (fe (vC0 F v) (F.ck w.a w.b)) (F.ck w.c w.d)) (F.ck w.e w.f) else vC0 F v
def tE (k:Int):Int:=fe (fe (fe k X.e) Y.e) Z.e
def tI (e x:Int):Int:=bif e != 0 then 0 else x
def tV (e:Int):Ve:=⟨tI e X.lo,tI e X.hi,tI e Y.lo,tI e Y.hi,tI e Z.lo,tI e Z.hi⟩
def tO (e:Int):Int:=bif e != 0 then e else 0
def z3 {β:Type} (f:Int->Int->Int->Int->Sp) (w:Ve) (x:Sp->Sp->Sp->β):β:=x (f v.a v.b w.a w.b) (f v.c v.d w.c w.d) (f v.e v.f w.e w.f)
def two3 (f:Int->Int->Int->Int->Sp):Int:=z3 v f w fun X Y Z=>tE X Y Z (bCk F v w)
def twoV (f:Int->Int->Int->Int->Sp):Ve:=z3 v f w fun X Y Z=>tV X Y Z (tE X Y Z (bCk F v w))
def twoO (f:Int->Int->Int->Int->Sp):Int:=z3 v f w fun X Y Z=>tO (tE X Y Z (bCk F v w))
def lk (x y:Int):Ve:=⟨x,y,x,y,x,y⟩
def dA:Sp:=F.ad (F.mu v.a v.b w.a w.b).lo (F.mu v.a v.b w.a w.b).hi (F.mu v.c v.d w.c w.d).lo (F.mu v.c v.d w.c w.d).hi
def dB:Sp:=F.ad (dA F v w).lo (dA F v w).hi (F.mu v.e v.f w.e w.f).lo (F.mu v.e v.f w.e w.f).hi
def dE:Int:=fe (fe (two3 F v w F.mu) (dA F v w).e) (dB F v w).e
def dotF:Sp:=⟨tI (dE F v w) (dB F v w).lo,tI (dE F v w) (dB F v w).hi,tO (dE F v w)⟩
def gE:Int:=tE (F.ng v.a v.b) (F.ng v.c v.d) (F.ng v.e v.f) (vC0 F v)
def gV:Ve:=tV (F.ng v.a v.b) (F.ng v.c v.d) (F.ng v.e v.f) (gE F v)
def gO:Int:=tO (gE F v)
end
structure VF.law2 (F:VF):Prop extends F.law where
 ad:∀ a b c d,((F.ad a b c d).e==0)=false->(F.ad a b c d).lo=0/\(F.ad a b c d).hi=0
 ng:∀ a b,(F.ng a b).e=bif F.ok a b then 0 else 20
end Go.Vc
namespace Go.Vc
open Go Go.Eng Go.Ar Go.Rd
structure BF where
 vc:Ve->Int
 sk:Int->Int->Int
 sl:Su->List Int->Int->Int->Int->Int->Nat->Int
 uV:Ve->Ve
 uO:Ve->Int
 ng:Int->Int->Sp
 ad:Int->Int->Int->Int->Sp
 su:Int->Int->Int->Int->Sp
 mu:Int->Int->Int->Int->Sp
 di:Int->Int->Int->Int->Sp
 sc:Int->Int->Int->Int->Sp
 sq:Int->Int->Sp
 rt:Int->Int->Sp
 dt:Ve->Ve->Sp
 bV:Ve->Ve->Ve
 bO:Ve->Ve->Int
 aV:Ve->Ve->Ve
 aO:Ve->Ve->Int
 mV:Ve->Int->Int->Ve
 mO:Ve->Int->Int->Int
 nV:Ve->Ve
 nO:Ve->Int
end Go.Vc
namespace Go.Vc
open Go Go.Eng Go.Ar Go.Rd
structure BX where
 F:BF
 S:Su
 ys:List Int
 a:Int
 b:Int
 l:Int
 v:Ve
 w:Ve
namespace BX
variable (X:BX)
def sl (i:Nat):Int:=X.F.sl X.S X.ys X.v.a X.v.b X.v.c X.v.d i
def n1:Sp:=X.F.ng (X.sl 0) (X.sl 1)
def n2:Sp:=X.F.ng (X.sl 2) (X.sl 3)
def nw:Ve:=⟨X.n1.lo,X.n1.hi,X.n2.lo,X.n2.hi,4294967296,4294967296⟩
def u:Ve:=X.F.uV X.nw
def uo:Int:=X.F.uO X.nw
def k:Sp:=X.F.dt X.w X.u
def und:Bool:=bif decide (X.k.lo<=0) then decide (X.k.hi>=0) else false
def mir:Bool:=eqBytes X.S.g ⟨#[77,73,82,82,79,82]⟩
def s1:Sp:=X.F.sc X.w.a X.w.b X.a X.b
def s2:Sp:=X.F.sc X.w.c X.w.d X.a X.b
def s3:Sp:=X.F.sc X.w.e X.w.f X.a X.b
def o0:Bool:=X.S.o==0
def q1:Sp:=X.F.sq X.v.a X.v.b
def q2:Sp:=X.F.sq X.v.c X.v.d
def q3:Sp:=X.F.ad X.q1.lo X.q1.hi X.q2.lo X.q2.hi
def w1:Sp:=X.F.sc 4294967296 4294967296 (IntKind.i64.wrap (2*X.S.f0)) 100000
def w2:Sp:=X.F.sc X.q3.lo X.q3.hi (IntKind.i64.wrap (4*X.S.f1)) 10000000
def w3:Sp:=X.F.ad X.w1.lo X.w1.hi X.w2.lo X.w2.hi
def w4:Sp:=X.F.sc X.w3.lo X.w3.hi (IntKind.i64.wrap (X.S.o*X.l)) 1000000000
def w5:Sp:=X.F.sc X.w4.lo X.w4.hi 10000000 X.b
def t:Ve:=⟨bif !X.mir then X.s1.lo else X.w.a,bif !X.mir then X.s1.hi else X.w.b,bif !X.mir then X.s2.lo else X.w.c,bif !X.mir then X.s2.hi else X.w.d,bif !X.mir then X.s3.lo else X.w.e,bif !X.mir then X.s3.hi else X.w.f⟩
def m1:Sp:=X.F.mu X.v.a X.v.b X.w5.lo X.w5.hi
def m2:Sp:=X.F.ad X.t.a X.t.b X.m1.lo X.m1.hi
def m3:Sp:=X.F.mu X.v.c X.v.d X.w5.lo X.w5.hi
def m4:Sp:=X.F.ad X.t.c X.t.d X.m3.lo X.m3.hi
def av:Ve:=⟨bif X.o0 then X.t.a else X.m2.lo,bif X.o0 then X.t.b else X.m2.hi,bif X.o0 then X.t.c else X.m4.lo,bif X.o0 then X.t.d else X.m4.hi,bif X.o0 then X.t.e else X.t.e,bif X.o0 then X.t.f else X.t.f⟩
def d1:Sp:=X.F.dt X.av X.u
def mo1:Int:=X.F.mO X.u X.d1.lo X.d1.hi
def mv1:Ve:=X.F.mV X.u X.d1.lo X.d1.hi
def bo:Int:=X.F.bO X.av X.mv1
def bv:Ve:=X.F.bV X.av X.mv1
def d2:Sp:=X.F.dt X.bv X.bv
def h:Sp:=X.F.su 4294967296 4294967296 X.d2.lo X.d2.hi
def tot:Bool:=decide (X.h.hi<0)
def neg:Bool:=decide (X.h.lo<0)
def r:Sp:=X.F.rt X.h.lo X.h.hi
def fl:Bool:=!(decide (X.k.hi<0)==X.mir)
def r2:Sp:=X.F.ng X.r.lo X.r.hi
def rl:Int:=bif X.fl then X.r2.lo else X.r.lo
def rh:Int:=bif X.fl then X.r2.hi else X.r.hi
def mo2:Int:=X.F.mO X.u X.rl X.rh
def mv2:Ve:=X.F.mV X.u X.rl X.rh
def ao:Int:=X.F.aO X.bv X.mv2
def out:Ve:=X.F.aV X.bv X.mv2
end BX
structure Eb where
 z:Bool
 s:Bool
def eb (e:Int):Eb:=⟨e==0,e==6⟩
structure BT where
 a1:Eb
 a2:Eb
 a3:Eb
 a4:Eb
 a5:Eb
 u:Bool
 m:Bool
 b1:Eb
 b2:Eb
 b3:Eb
 o:Bool
 c1:Eb
 c2:Eb
 c3:Eb
 c4:Eb
 c5:Eb
 c6:Eb
 c7:Eb
 c8:Eb
 c9:Eb
 d1:Eb
 d2:Eb
 d3:Eb
 e1:Eb
 e2:Eb
 e3:Eb
 e4:Eb
 e5:Eb
 t:Bool
 n:Bool
 f1:Eb
 fl:Bool
 f2:Eb
 f3:Eb
 f4:Eb
def BX.bt (X:BX):BT:=⟨eb (X.sl 4),eb X.n1.e,eb X.n2.e,eb X.uo,eb X.k.e,X.und,X.mir,eb X.s1.e,eb X.s2.e,eb X.s3.e,X.o0,eb X.q1.e,eb X.q2.e,eb X.q3.e,eb X.w1.e,eb X.w2.e,eb X.w3.e,eb X.w4.e,eb X.w5.e,eb X.m1.e,eb X.m2.e,eb X.m3.e,eb X.m4.e,
 eb X.d1.e,eb X.mo1,eb X.bo,eb X.d2.e,eb X.h.e,X.tot,X.neg,eb X.r.e,X.fl,eb X.r2.e,eb X.mo2,eb X.ao⟩
namespace BT
variable (B:BT)
def p11:Bool:=B.a1.z&&(B.a2.z&&(B.a3.z&&B.a4.z))
def p22:Bool:=bif !B.m then B.b1.z&&(B.b2.z&&B.b3.z) else true
def p28:Bool:=B.c1.z&&(B.c2.z&&B.c3.z)
def p36:Bool:=B.c4.z&&(B.c5.z&&B.c6.z)
def p40:Bool:=B.c7.z&&B.c8.z
def p47:Bool:=B.c9.z&&B.d1.z
def p52:Bool:=B.p22&&(B.o||!B.o&&(B.p28&&(B.p36&&(B.p40&&(B.p47&&(B.d2.z&&B.d3.z))))))
def p72:Bool:=B.e1.z&&(B.e2.z&&B.e3.z)
def p81:Bool:=B.e4.z&&B.e5.z
def p93:Bool:=bif B.fl then B.f2.z else true
def g (z:Eb->Bool) (u n:Bool):Bool:=
 B.a1.z&&(B.a2.z&&(B.a3.z&&(!B.a4.z&&z B.a4)||!B.a3.z&&z B.a3)||!B.a2.z&&z B.a2)||!B.a1.z&&z B.a1||B.p11&&(!B.a5.z&&z B.a5||B.a5.z&&(u||!B.u&&(B.p52&&(B.e1.z&&(!B.e2.z&&z B.e2||B.e2.z&&(!B.e3.z&&z B.e3))||!B.e1.z&&z B.e1||B.p72&&(B.e4.z&&(!B.e5.z&&z B.e5)||!B.e4.z&&z B.e4||B.p81&&(!B.t&&(n||!B.n&&(B.f1.z&&(B.fl&&(!B.f2.z&&z B.f2)||B.p93&&(!B.f3.z&&z B.f3||B.f3.z&&(!B.f4.z&&z B.f4)))||!B.f1.z&&z B.f1)))))||(!B.m&&(!B.b1.z&&z B.b1||B.b1.z&&(!B.b2.z&&z B.b2||B.b2.z&&(!B.b3.z&&z B.b3)))||B.p22&&(!B.o&&(!B.c1.z&&z B.c1||B.c1.z&&(!B.c2.z&&z B.c2||B.c2.z&&(!B.c3.z&&z B.c3))||B.p28&&(B.c4.z&&(B.c5.z&&(!B.c6.z&&z B.c6)||!B.c5.z&&z B.c5)||!B.c4.z&&z B.c4||B.p36&&(B.c7.z&&(!B.c8.z&&z B.c8)||!B.c7.z&&z B.c7||B.p40&&(B.p47&&(!B.d2.z&&z B.d2||B.d2.z&&(!B.d3.z&&z B.d3))||(!B.c9.z&&z B.c9||B.c9.z&&(!B.d1.z&&z B.d1)))))))))))
def g2:Bool:=B.g (fun e=>!e.s) B.u B.n
def g5:Bool:=B.g (fun e=>e.s) false false
def g3:Bool:=B.p11&&(B.a5.z&&(!B.u&&(B.p52&&(B.p72&&(B.p81&&B.t)))))
end BT
def eF (x y:Eb):Eb:=⟨x.z&&y.z,bif x.z then y.s else x.s⟩
namespace BT
variable (B:BT)
def R1:Eb:=eF (eF (eF (eF B.a1 B.a2) B.a3) B.a4) B.a5
def Rm:Eb:=bif !B.m then eF (eF (eF B.R1 B.b1) B.b2) B.b3 else B.R1
def Ro:Eb:=bif !B.o then eF (eF (eF (eF (eF (eF (eF (eF (eF (eF (eF (eF B.Rm B.c1) B.c2) B.c3) B.c4) B.c5) B.c6) B.c7) B.c8) B.c9) B.d1) B.d2) B.d3 else B.Rm
def R2:Eb:=eF (eF (eF (eF (eF B.Ro B.e1) B.e2) B.e3) B.e4) B.e5
def Rf:Eb:=bif B.fl then eF (eF B.R2 B.f1) B.f2 else eF B.R2 B.f1
def R3:Eb:=eF (eF B.Rf B.f3) B.f4
def pc (x y z w:Int):Int:=bif B.g2 then x else bif B.g5 then y else bif B.g3 then z else w
end BT
end Go.Vc
namespace Go.Vc
open Go Go.Eng Go.Ar Go.Rd
def kE (E e:Int):Int:=bif E != 0 then E else bif e != 0 then e else E
def kI (E e x:Int):Int:=bif E != 0 then 0 else bif e != 0 then 0 else x
def kV (E e:Int) (v:Ve):Ve:=⟨kI E e v.a,kI E e v.b,kI E e v.c,kI E e v.d,kI E e v.e,kI E e v.f⟩
theorem kE_fe (E e:Int):kE E e=fe E e:=by
 unfold kE fe
 simp only [bne]
 cases hE:E==0 with
 | false=>rfl
 | true=>
  cases he:e==0 with
  | false=>rfl
  | true=>have:=beq_iff_eq.1 hE; have:=beq_iff_eq.1 he; subst_vars; rfl
theorem fe_z {x y:Int}:fe x y=0 ↔ x=0/\y=0:=by
 unfold fe
 cases h:x==0 with
 | true=>have:=beq_iff_eq.1 h; simp [this]
 | false=>
  have:x≠0:=by simpa using h
  simp [this]
theorem kE_c {E e e':Int} (h:E=0->e=e'):kE E e=fe E e':=by
 rw [kE_fe]
 unfold fe
 cases hE:E==0 with
 | false=>rfl
 | true=>exact h (beq_iff_eq.1 hE)
theorem kI_z {E e x:Int} (h:fe E e=0):kI E e x=x:=by
 obtain ⟨rfl,rfl⟩:=fe_z.1 h
 rfl
theorem kV_z {E e:Int} {v:Ve} (h:fe E e=0):kV E e v=v:=by
 unfold kV
 simp only [kI_z h]
namespace BX
variable (X:BX)
def E1:Int:=kE (X.sl 4) X.n1.e
def E2:Int:=kE X.E1 X.n2.e
def nw':Ve:=⟨kI (X.sl 4) X.n1.e X.n1.lo,kI (X.sl 4) X.n1.e X.n1.hi,kI X.E1 X.n2.e X.n2.lo,kI X.E1 X.n2.e X.n2.hi,4294967296,4294967296⟩
def E3:Int:=kE X.E2 (X.F.uO X.nw')
def u':Ve:=kV X.E2 (X.F.uO X.nw') (X.F.uV X.nw')
def k':Sp:=X.F.dt X.w X.u'
def E4:Int:=kE X.E3 X.k'.e
def kl:Int:=kI X.E3 X.k'.e X.k'.lo
def kh:Int:=kI X.E3 X.k'.e X.k'.hi
def und':Bool:=bif decide (X.kl<=0) then decide (X.kh>=0) else false
def E5:Int:=kE X.E4 X.s1.e
def E6:Int:=kE X.E5 X.s2.e
def t':Ve:=⟨bif !X.mir then kI X.E4 X.s1.e X.s1.lo else X.w.a,bif !X.mir then kI X.E4 X.s1.e X.s1.hi else X.w.b,bif !X.mir then kI X.E5 X.s2.e X.s2.lo else X.w.c,bif !X.mir then kI X.E5 X.s2.e X.s2.hi else X.w.d,bif !X.mir then kI X.E6 X.s3.e X.s3.lo else X.w.e,bif !X.mir then kI X.E6 X.s3.e X.s3.hi else X.w.f⟩
def E7:Int:=bif !X.mir then kE X.E6 X.s3.e else X.E4
def E8:Int:=kE X.E7 X.w1.e
def E9:Int:=kE X.E8 X.q1.e
def E10:Int:=kE X.E9 X.q2.e
def q3':Sp:=X.F.ad (kI X.E8 X.q1.e X.q1.lo) (kI X.E8 X.q1.e X.q1.hi) (kI X.E9 X.q2.e X.q2.lo) (kI X.E9 X.q2.e X.q2.hi)
def E11:Int:=kE X.E10 X.q3'.e
def w2':Sp:=X.F.sc (kI X.E10 X.q3'.e X.q3'.lo) (kI X.E10 X.q3'.e X.q3'.hi) (IntKind.i64.wrap (4*X.S.f1)) 10000000
def E12:Int:=kE X.E11 X.w2'.e
def w3':Sp:=X.F.ad (kI X.E7 X.w1.e X.w1.lo) (kI X.E7 X.w1.e X.w1.hi) (kI X.E11 X.w2'.e X.w2'.lo) (kI X.E11 X.w2'.e X.w2'.hi)
def E13:Int:=kE X.E12 X.w3'.e
def w4':Sp:=X.F.sc (kI X.E12 X.w3'.e X.w3'.lo) (kI X.E12 X.w3'.e X.w3'.hi) (IntKind.i64.wrap (X.S.o*X.l)) 1000000000
def E14:Int:=kE X.E13 X.w4'.e
def w5':Sp:=X.F.sc (kI X.E13 X.w4'.e X.w4'.lo) (kI X.E13 X.w4'.e X.w4'.hi) 10000000 X.b
def E15:Int:=kE X.E14 X.w5'.e
def wl:Int:=kI X.E14 X.w5'.e X.w5'.lo
def wh:Int:=kI X.E14 X.w5'.e X.w5'.hi
def m1':Sp:=X.F.mu X.v.a X.v.b X.wl X.wh
def E16:Int:=kE X.E15 X.m1'.e
def m2':Sp:=X.F.ad X.t'.a X.t'.b (kI X.E15 X.m1'.e X.m1'.lo) (kI X.E15 X.m1'.e X.m1'.hi)
def E17:Int:=kE X.E16 X.m2'.e
def m3':Sp:=X.F.mu X.v.c X.v.d X.wl X.wh
def E18:Int:=kE X.E17 X.m3'.e
def m4':Sp:=X.F.ad X.t'.c X.t'.d (kI X.E17 X.m3'.e X.m3'.lo) (kI X.E17 X.m3'.e X.m3'.hi)
def E19:Int:=bif X.S.o != 0 then kE X.E18 X.m4'.e else X.E7
def av':Ve:=⟨bif X.S.o != 0 then kI X.E16 X.m2'.e X.m2'.lo else X.t'.a,bif X.S.o != 0 then kI X.E16 X.m2'.e X.m2'.hi else X.t'.b,bif X.S.o != 0 then kI X.E18 X.m4'.e X.m4'.lo else X.t'.c,bif X.S.o != 0 then kI X.E18 X.m4'.e X.m4'.hi else X.t'.d,bif X.S.o != 0 then X.t'.e else X.t'.e,bif X.S.o != 0 then X.t'.f else X.t'.f⟩
def d1':Sp:=X.F.dt X.av' X.u'
def E20:Int:=kE X.E19 X.d1'.e
def dl:Int:=kI X.E19 X.d1'.e X.d1'.lo
def dh:Int:=kI X.E19 X.d1'.e X.d1'.hi
def E21:Int:=kE X.E20 (X.F.mO X.u' X.dl X.dh)
def mv1':Ve:=kV X.E20 (X.F.mO X.u' X.dl X.dh) (X.F.mV X.u' X.dl X.dh)
def E22:Int:=kE X.E21 (X.F.bO X.av' X.mv1')
def bv':Ve:=kV X.E21 (X.F.bO X.av' X.mv1') (X.F.bV X.av' X.mv1')
def d2':Sp:=X.F.dt X.bv' X.bv'
def E23:Int:=kE X.E22 X.d2'.e
def h':Sp:=X.F.su 4294967296 4294967296 (kI X.E22 X.d2'.e X.d2'.lo) (kI X.E22 X.d2'.e X.d2'.hi)
def E24:Int:=kE X.E23 X.h'.e
def hl:Int:=kI X.E23 X.h'.e X.h'.lo
def hh:Int:=kI X.E23 X.h'.e X.h'.hi
def r':Sp:=X.F.rt X.hl X.hh
def E25:Int:=kE X.E24 X.r'.e
def fl':Bool:=!(decide (X.kh<0)==X.mir)
def rl1:Int:=kI X.E24 X.r'.e X.r'.lo
def rh1:Int:=kI X.E24 X.r'.e X.r'.hi
def r2':Sp:=X.F.ng X.rl1 X.rh1
def E26:Int:=bif X.fl' then kE X.E25 X.r2'.e else X.E25
def rl':Int:=bif X.fl' then kI X.E25 X.r2'.e X.r2'.lo else X.rl1
def rh':Int:=bif X.fl' then kI X.E25 X.r2'.e X.r2'.hi else X.rh1
def E27:Int:=kE X.E26 (X.F.mO X.u' X.rl' X.rh')
def mv2':Ve:=kV X.E26 (X.F.mO X.u' X.rl' X.rh') (X.F.mV X.u' X.rl' X.rh')
def E28:Int:=kE X.E27 (X.F.aO X.bv' X.mv2')
def why (e:Int):Int:=bif e==6 then 5 else 2
def oc':Int:=bif X.E4 != 0 then why X.E4 else bif X.und' then 2 else bif X.E24 != 0 then why X.E24 else bif decide (X.hh<0) then 3 else bif decide (X.hl<0) then 2 else bif X.E28 != 0 then why X.E28 else 0
def fin (x:Int):Int:=bif X.oc' != 0 then 0 else bif X.E4 != 0 then 0 else bif X.und' then 0 else bif X.E24 != 0 then 0 else bif decide (X.hh<0) then 0 else bif decide (X.hl<0) then 0 else bif X.E28 != 0 then 0 else x
def F1:Int:=fe (fe (fe (fe (X.sl 4) X.n1.e) X.n2.e) X.uo) X.k.e
def Fm:Int:=bif !X.mir then fe (fe (fe X.F1 X.s1.e) X.s2.e) X.s3.e else X.F1
def Fc:Int:=fe (fe (fe (fe X.Fm X.q1.e) X.q2.e) X.q3.e) X.w1.e
def Fo:Int:=bif !X.o0 then fe (fe (fe (fe (fe (fe (fe (fe X.Fc X.w2.e) X.w3.e) X.w4.e) X.w5.e) X.m1.e) X.m2.e) X.m3.e) X.m4.e else X.Fm
def F2:Int:=fe (fe (fe (fe (fe X.Fo X.d1.e) X.mo1) X.bo) X.d2.e) X.h.e
def Ff:Int:=bif X.fl then fe (fe X.F2 X.r.e) X.r2.e else fe X.F2 X.r.e
def F3:Int:=fe (fe X.Ff X.mo2) X.ao
end BX
structure BX.law (X:BX):Prop where
 q1:X.q1.e=0\/X.q1.e=6
 q2:X.q2.e=0\/X.q2.e=6
 q3:X.q1.e=0->X.q2.e=0->X.q3.e=0\/X.q3.e=6
 w1:X.w1.e=0\/X.w1.e=6
namespace BX
variable {X:BX}
theorem e1:X.E1=fe (X.sl 4) X.n1.e:=kE_fe _ _
theorem e2:X.E2=fe X.E1 X.n2.e:=kE_fe _ _
theorem z_nw (h:X.E2=0):X.nw'=X.nw:=by
 have h1:=e1 (X:=X); have h2:=e2 (X:=X)
 rw [h2] at h
 obtain ⟨a,b⟩:=fe_z.1 h
 have c:=h1 ▸ a
 unfold nw' nw
 simp only [kI_z c,kI_z h]
theorem e3:X.E3=fe X.E2 X.uo:=kE_c fun h=>by rw [z_nw h]; rfl
theorem z3 (h:X.E3=0):X.u'=X.u:=by
 rw [e3] at h
 have a:=z_nw (fe_z.1 h).1
 have c:X.F.uO X.nw'=X.uo:=by rw [a]; rfl
 unfold u'
 rw [c,a,kV_z h]
 rfl
theorem z_k (h:X.E3=0):X.k'=X.k:=by unfold k' k; rw [z3 h]
theorem e4:X.E4=fe X.E3 X.k.e:=kE_c fun h=>by rw [z_k h]
theorem z4 (h:X.E4=0):X.kl=X.k.lo/\X.kh=X.k.hi:=by
 rw [e4] at h
 have a:=z_k (fe_z.1 h).1
 unfold kl kh
 rw [a,kI_z h,kI_z h]
 exact ⟨rfl,rfl⟩
theorem f1:X.E4=X.F1:=by rw [e4,e3,e2,e1]; rfl
theorem e5:X.E5=fe X.E4 X.s1.e:=kE_fe _ _
theorem e6:X.E6=fe X.E5 X.s2.e:=kE_fe _ _
theorem e7:X.E7=bif !X.mir then fe X.E6 X.s3.e else X.E4:=by unfold E7; rw [kE_fe]
theorem fm:X.E7=X.Fm:=by rw [e7,e6,e5,f1]; rfl
theorem z7 (h:X.E7=0):X.t'=X.t:=by
 rw [e7] at h
 unfold t' t
 cases hm:X.mir with
 | true=>rfl
 | false=>
  rw [hm] at h
  have h:fe X.E6 X.s3.e=0:=h
  have a:=(fe_z.1 h).1
  rw [e6] at a
  have b:=(fe_z.1 a).1
  rw [e5] at b
  simp only [kI_z h,kI_z a,kI_z b]
theorem z74 (h:X.E7=0):X.E4=0:=by
 rw [e7] at h
 cases hm:X.mir with
 | true=>rw [hm] at h; exact h
 | false=>
  rw [hm] at h
  have h:fe X.E6 X.s3.e=0:=h
  have a:=(fe_z.1 h).1
  rw [e6] at a
  have b:=(fe_z.1 a).1
  rw [e5] at b
  exact (fe_z.1 b).1
theorem e8:X.E8=fe X.E7 X.w1.e:=kE_fe _ _
theorem e9:X.E9=fe X.E8 X.q1.e:=kE_fe _ _
theorem e10:X.E10=fe X.E9 X.q2.e:=kE_fe _ _
theorem z_q3 (h:X.E10=0):X.q3'=X.q3:=by
 rw [e10] at h
 have a:=(fe_z.1 h).1
 rw [e9] at a
 unfold q3' q3
 simp only [kI_z h,kI_z a]
theorem e11:X.E11=fe X.E10 X.q3.e:=kE_c fun h=>by rw [z_q3 h]
theorem z_w2 (h:X.E11=0):X.w2'=X.w2:=by
 rw [e11] at h
 unfold w2' w2
 rw [z_q3 (fe_z.1 h).1]
 simp only [kI_z h]
theorem e12:X.E12=fe X.E11 X.w2.e:=kE_c fun h=>by rw [z_w2 h]
theorem z11 (h:X.E11=0):X.E8=0:=by
 rw [e11] at h
 have a:=(fe_z.1 h).1
 rw [e10] at a
 have b:=(fe_z.1 a).1
 rw [e9] at b
 exact (fe_z.1 b).1
theorem z_w3 (h:X.E12=0):X.w3'=X.w3:=by
 rw [e12] at h
 have a:=(fe_z.1 h).1
 have b:=z11 a
 rw [e8] at b
 unfold w3' w3
 rw [z_w2 a]
 simp only [kI_z h,kI_z b]
theorem e13:X.E13=fe X.E12 X.w3.e:=kE_c fun h=>by rw [z_w3 h]
theorem z_w4 (h:X.E13=0):X.w4'=X.w4:=by
 rw [e13] at h
 unfold w4' w4
 rw [z_w3 (fe_z.1 h).1]
 simp only [kI_z h]
theorem e14:X.E14=fe X.E13 X.w4.e:=kE_c fun h=>by rw [z_w4 h]
theorem z_w5 (h:X.E14=0):X.w5'=X.w5:=by
 rw [e14] at h
 unfold w5' w5
 rw [z_w4 (fe_z.1 h).1]
 simp only [kI_z h]
theorem e15:X.E15=fe X.E14 X.w5.e:=kE_c fun h=>by rw [z_w5 h]
theorem z15 (h:X.E15=0):X.wl=X.w5.lo/\X.wh=X.w5.hi:=by
 rw [e15] at h
 unfold wl wh
 rw [z_w5 (fe_z.1 h).1]
 exact ⟨kI_z h,kI_z h⟩
theorem z_m1 (h:X.E15=0):X.m1'=X.m1:=by
 unfold m1' m1
 rw [(z15 h).1,(z15 h).2]
theorem e16:X.E16=fe X.E15 X.m1.e:=kE_c fun h=>by rw [z_m1 h]
theorem z15_7 (h:X.E15=0):X.E7=0:=by
 rw [e15] at h
 have a:=(fe_z.1 h).1
 rw [e14] at a
 have b:=(fe_z.1 a).1
 rw [e13] at b
 have c:=(fe_z.1 b).1
 rw [e12] at c
 have d:=z11 (fe_z.1 c).1
 rw [e8] at d
 exact (fe_z.1 d).1
theorem z_m2 (h:X.E16=0):X.m2'=X.m2:=by
 rw [e16] at h
 have a:=(fe_z.1 h).1
 unfold m2' m2
 rw [z_m1 a,z7 (z15_7 a)]
 simp only [kI_z h]
theorem e17:X.E17=fe X.E16 X.m2.e:=kE_c fun h=>by rw [z_m2 h]
theorem z17_15 (h:X.E17=0):X.E16=0/\X.E15=0:=by
 rw [e17] at h
 have a:=(fe_z.1 h).1
 refine ⟨a,?_⟩
 rw [e16] at a
 exact (fe_z.1 a).1
theorem z_m3 (h:X.E17=0):X.m3'=X.m3:=by
 have a:=z15 (z17_15 h).2
 unfold m3' m3
 rw [a.1,a.2]
theorem e18:X.E18=fe X.E17 X.m3.e:=kE_c fun h=>by rw [z_m3 h]
theorem z_m4 (h:X.E18=0):X.m4'=X.m4:=by
 rw [e18] at h
 have a:=(fe_z.1 h).1
 unfold m4' m4
 rw [z_m3 a,z7 (z15_7 (z17_15 a).2)]
 simp only [kI_z h]
theorem o_ne:(X.S.o != 0)=!X.o0:=rfl
theorem e19:X.E19=bif !X.o0 then fe X.E18 X.m4.e else X.E7:=by
 unfold E19
 rw [o_ne,kE_c (e':=X.m4.e) fun h=>by rw [z_m4 h]]
theorem fc (L:X.law):fe X.E10 X.q3.e=X.Fc:=by
 unfold Fc
 rw [e10,e9,e8,fm]
 obtain ⟨l1,l2,l3,l4⟩:=L
 have go:∀ x:Int,fe 0 x=x:=fun _=>rfl
 have stop:∀ x y:Int,x≠0->fe x y=x:=fun x y h=>by
  unfold fe
  rw [show (x==0)=false by simpa using h]; rfl
 by_cases hm:X.Fm=0
 .rw [hm]
  simp only [go]
  have six:∀ y:Int,fe 6 y=6:=fun _=>rfl
  rcases l4 with w|w <;> rw [w] <;> rcases l1 with a|a <;> rw [a] <;> simp only [go,six] <;> rcases l2 with b|b <;> rw [b] <;> simp only [go,six] <;> (rcases l3 a b with c|c <;> rw [c]) <;> simp only [go,six]
 .simp only [stop _ _ hm]
theorem fo (L:X.law):X.E19=X.Fo:=by
 rw [e19,e18,e17,e16,e15,e14,e13,e12,e11,fc L,fm]
 rfl
theorem z19 (h:X.E19=0):X.av'=X.av/\X.E7=0:=by
 rw [e19] at h
 unfold av' av
 simp only [o_ne]
 cases ho:X.o0 with
 | true=>
  rw [ho] at h
  have h:X.E7=0:=h
  rw [z7 h]
  exact ⟨rfl,h⟩
 | false=>
  rw [ho] at h
  have h:fe X.E18 X.m4.e=0:=h
  have a:=(fe_z.1 h).1
  have a':=a
  rw [e18] at a
  have b:=(fe_z.1 a).1
  have c:=z17_15 b
  have d:=z15_7 c.2
  have b':=b
  rw [e17] at b
  rw [z_m4 a',z_m2 c.1,z7 d]
  simp only [kI_z h,kI_z b,Bool.not_false,cond_true,cond_false]
  exact ⟨trivial,d⟩
theorem z_d1 (h:X.E19=0):X.d1'=X.d1:=by
 have a:=z19 h
 have b:=z74 a.2
 rw [e4] at b
 unfold d1' d1
 rw [a.1,z3 (fe_z.1 b).1]
theorem e20:X.E20=fe X.E19 X.d1.e:=kE_c fun h=>by rw [z_d1 h]
theorem z_u (h:X.E19=0):X.u'=X.u:=by
 have b:=z74 (z19 h).2
 rw [e4] at b
 exact z3 (fe_z.1 b).1
theorem z20 (h:X.E20=0):X.E19=0/\X.dl=X.d1.lo/\X.dh=X.d1.hi:=by
 rw [e20] at h
 have a:=(fe_z.1 h).1
 unfold dl dh
 rw [z_d1 a]
 exact ⟨a,kI_z h,kI_z h⟩
theorem z_mo1 (h:X.E20=0):X.F.mO X.u' X.dl X.dh=X.mo1:=by
 obtain ⟨a,b,c⟩:=z20 h
 rw [z_u a,b,c]
 rfl
theorem e21:X.E21=fe X.E20 X.mo1:=kE_c z_mo1
theorem z21 (h:X.E21=0):X.E19=0/\X.mv1'=X.mv1:=by
 rw [e21] at h
 have a:=(fe_z.1 h).1
 obtain ⟨b,c,d⟩:=z20 a
 unfold mv1'
 rw [z_mo1 a,kV_z h,z_u b,c,d]
 exact ⟨b,rfl⟩
theorem z_bo (h:X.E21=0):X.F.bO X.av' X.mv1'=X.bo:=by
 obtain ⟨a,b⟩:=z21 h
 rw [b,(z19 a).1]
 rfl
theorem e22:X.E22=fe X.E21 X.bo:=kE_c z_bo
theorem z22 (h:X.E22=0):X.E19=0/\X.bv'=X.bv:=by
 rw [e22] at h
 have a:=(fe_z.1 h).1
 obtain ⟨b,c⟩:=z21 a
 unfold bv'
 rw [z_bo a,kV_z h,c,(z19 b).1]
 exact ⟨b,rfl⟩
theorem z_d2 (h:X.E22=0):X.d2'=X.d2:=by
 unfold d2' d2
 rw [(z22 h).2]
theorem e23:X.E23=fe X.E22 X.d2.e:=kE_c fun h=>by rw [z_d2 h]
theorem z_h (h:X.E23=0):X.h'=X.h:=by
 rw [e23] at h
 have a:=(fe_z.1 h).1
 unfold h'
 rw [z_d2 a,kI_z h,kI_z h]
 rfl
theorem e24:X.E24=fe X.E23 X.h.e:=kE_c fun h=>by rw [z_h h]
theorem f2 (L:X.law):X.E24=X.F2:=by rw [e24,e23,e22,e21,e20,fo L]; rfl
theorem z24 (h:X.E24=0):X.E22=0/\X.hl=X.h.lo/\X.hh=X.h.hi:=by
 rw [e24] at h
 have a:=(fe_z.1 h).1
 unfold hl hh
 rw [z_h a]
 rw [e23] at a
 exact ⟨(fe_z.1 a).1,kI_z h,kI_z h⟩
theorem z_r (h:X.E24=0):X.r'=X.r:=by
 obtain ⟨_,b,c⟩:=z24 h
 unfold r'
 rw [b,c]
 rfl
theorem e25:X.E25=fe X.E24 X.r.e:=kE_c fun h=>by rw [z_r h]
theorem z25 (h:X.E25=0):X.E24=0/\X.rl1=X.r.lo/\X.rh1=X.r.hi:=by
 rw [e25] at h
 have a:=(fe_z.1 h).1
 unfold rl1 rh1
 rw [z_r a]
 exact ⟨a,kI_z h,kI_z h⟩
theorem z_r2 (h:X.E25=0):X.r2'=X.r2:=by
 obtain ⟨_,b,c⟩:=z25 h
 unfold r2'
 rw [b,c]
 rfl
theorem z_fl (h:X.E4=0):X.fl'=X.fl:=by
 unfold fl' fl
 rw [(z4 h).2]
theorem e26 (h:X.E4=0):X.E26=bif X.fl then fe X.E25 X.r2.e else X.E25:=by
 unfold E26
 rw [z_fl h,kE_c (e':=X.r2.e) fun h=>by rw [z_r2 h]]
theorem z26 (h0:X.E4=0) (h:X.E26=0):X.E24=0/\X.rl'=X.rl/\X.rh'=X.rh:=by
 rw [e26 h0] at h
 unfold rl' rh' rl rh
 rw [z_fl h0]
 cases hf:X.fl with
 | true=>
  rw [hf] at h
  have h:fe X.E25 X.r2.e=0:=h
  have a:=(fe_z.1 h).1
  have b:=z25 a
  rw [z_r2 a]
  simp only [kI_z h,cond_true]
  exact ⟨b.1,trivial,trivial⟩
 | false=>
  rw [hf] at h
  exact z25 h
theorem z_mo2 (h0:X.E4=0) (h:X.E26=0):X.F.mO X.u' X.rl' X.rh'=X.mo2:=by
 obtain ⟨a,b,c⟩:=z26 h0 h
 rw [b,c,z_u (z22 (z24 a).1).1]
 rfl
theorem e27 (h0:X.E4=0):X.E27=fe X.E26 X.mo2:=kE_c (z_mo2 h0)
theorem z27 (h0:X.E4=0) (h:X.E27=0):X.E22=0/\X.mv2'=X.mv2:=by
 rw [e27 h0] at h
 have a:=(fe_z.1 h).1
 obtain ⟨b,c,d⟩:=z26 h0 a
 have e:=(z24 b).1
 unfold mv2'
 rw [z_mo2 h0 a,kV_z h,c,d,z_u (z22 e).1]
 exact ⟨e,rfl⟩
theorem z_ao (h0:X.E4=0) (h:X.E27=0):X.F.aO X.bv' X.mv2'=X.ao:=by
 obtain ⟨a,b⟩:=z27 h0 h
 rw [b,(z22 a).2]
 rfl
theorem e28 (h0:X.E4=0):X.E28=fe X.E27 X.ao:=kE_c (z_ao h0)
theorem f3 (L:X.law) (h0:X.E4=0):X.E28=X.F3:=by
 rw [e28 h0,e27 h0,e26 h0,e25,f2 L]; rfl
end BX
end Go.Vc
namespace Go.Vc
open Go Go.Eng Go.Ar Go.Rd
def okSq (a b n d:Int):Prop:=okSp a b=true->okR n d=true->abH a b*sg n n<18446744073709551615*d
theorem sg_nn (n:Int):0<=sg n n:=by
 unfold sg
 cases h:decide (n<0) with
 | true=>have:=of_decide_eq_true h; show 0<=-n; omega
 | false=>have:=of_decide_eq_false h; show 0<=n; omega
theorem okSq_of {a b n d:Int} (k:okSc n d):okSq a b n d:=fun h1 h2=>by
 have:=k h2
 have p:=abH_le h1
 have:=Int.mul_le_mul_of_nonneg_right p.2 (sg_nn n)
 omega
structure BO where
 v:Ve
 c:Int
 e:Int
def cz (f:Int->Int) (v:Ve):Ve:=⟨f v.a,f v.b,f v.c,f v.d,f v.e,f v.f⟩
namespace BX
variable (X:BX)
def bi:Bool:=bif decide ((if X.b<X.a then X.b else X.a)<10000000) then true else bif decide ((if X.b>X.a then X.b else X.a)>40000000) then true else bif decide (X.l<300000) then true else decide (X.l>2500000)
def vz:Bool:=!(X.F.vc X.v != 0)&&!(X.F.vc X.w != 0)
def fr (x y z:Int):Int:=bif X.bi then x else bif X.vz then z else y
def er:Int:=bif X.F.vc X.v != 0 then X.F.vc X.v else X.F.vc X.w
def ri:Bool:=bif decide (X.a<10000000) then true else bif decide (X.a>40000000) then true else bif decide (X.b<10000000) then true else bif decide (X.b>40000000) then true else bif decide (X.l<300000) then true else decide (X.l>2500000)
def sk3 (v:Ve):Bool:=!bif X.F.sk v.a v.b != 0||!(X.F.sk v.a v.b != 0)&&(X.F.sk v.c v.d != 0||!(X.F.sk v.c v.d != 0)&&X.F.sk v.e v.f != 0) then false else true
def rv:Bool:=bif X.sk3 X.v then true else X.sk3 X.w
def rr (x y z:Int):Int:=bif X.ri then x else bif X.rv then y else z
def i1:Sp:=X.F.sc X.v.a X.v.b X.S.c 1000000000
def i2:Sp:=X.F.sc X.i1.lo X.i1.hi 10000000 X.b
def i3:Sp:=X.F.sc X.v.c X.v.d X.S.c 1000000000
def i4:Sp:=X.F.sc X.i3.lo X.i3.hi 10000000 X.b
def bk:Bool:=decide (X.w.f<0)
def i5:Sp:=X.F.ng X.i2.lo X.i2.hi
def i6:Sp:=X.F.ng X.i4.lo X.i4.hi
def xl:Int:=bif X.bk then X.i5.lo else X.i2.lo
def xh:Int:=bif X.bk then X.i5.hi else X.i2.hi
def yl:Int:=bif X.bk then X.i6.lo else X.i4.lo
def yh:Int:=bif X.bk then X.i6.hi else X.i4.hi
def i7:Sp:=X.F.di X.w.a X.w.b X.w.e X.w.f
def i8:Sp:=X.F.su X.i7.lo X.i7.hi X.xl X.xh
def i9:Sp:=X.F.di X.w.c X.w.d X.w.e X.w.f
def i10:Sp:=X.F.su X.i9.lo X.i9.hi X.yl X.yh
def iw:Ve:=⟨X.i8.lo,X.i8.hi,X.i10.lo,X.i10.hi,4294967296,4294967296⟩
def io:Int:=X.F.uO X.iw
def iu:Ve:=X.F.uV X.iw
def jo:Int:=X.F.nO X.iu
def jv:Ve:=X.F.nV X.iu
end BX
structure IT where
 a1:Eb
 a2:Eb
 a3:Eb
 a4:Eb
 k:Bool
 b1:Eb
 b2:Eb
 c1:Eb
 c2:Eb
 c3:Eb
 c4:Eb
 c5:Eb
 c6:Eb
namespace IT
variable (B:IT)
def p47:Bool:=B.a1.z&&B.a2.z
def p410:Bool:=B.p47&&(B.a3.z&&B.a4.z)
def p418:Bool:=bif B.k then B.b1.z&&B.b2.z else true
def p423:Bool:=B.c1.z&&B.c2.z
def ok:Bool:=B.p410&&(B.p418&&(B.p423&&(B.c3.z&&B.c4.z)&&(B.c5.z&&bif B.k then B.c6.z else true)))
def g5:Bool:=B.p410&&(B.p418&&(B.p423&&(B.c3.z&&B.c4.z)&&(B.c5.z&&(B.k&&(!B.c6.z&&B.c6.s))||!B.c5.z&&B.c5.s)||(B.p423&&(!B.c3.z&&B.c3.s||B.c3.z&&(!B.c4.z&&B.c4.s))||(!B.c1.z&&B.c1.s||B.c1.z&&(!B.c2.z&&B.c2.s))))||B.k&&(!B.b1.z&&B.b1.s||B.b1.z&&(!B.b2.z&&B.b2.s)))||(B.a1.z&&(!B.a2.z&&B.a2.s)||!B.a1.z&&B.a1.s||B.p47&&(B.a3.z&&(!B.a4.z&&B.a4.s)||!B.a3.z&&B.a3.s))
end IT
namespace BX
variable (X:BX)
def it:IT:=⟨eb X.i1.e,eb X.i2.e,eb X.i3.e,eb X.i4.e,X.bk,eb X.i5.e,eb X.i6.e,eb X.i7.e,eb X.i8.e,eb X.i9.e,eb X.i10.e,eb X.io,eb X.jo⟩
def iv:Ve:=⟨bif X.bk then X.jv.a else X.iu.a,bif X.bk then X.jv.b else X.iu.b,bif X.bk then X.jv.c else X.iu.c,bif X.bk then X.jv.d else X.iu.d,bif X.bk then X.jv.e else X.iu.e,bif X.bk then X.jv.f else X.iu.f⟩
def an1:BO:=⟨cz (fun z=>X.fr 0 0 (X.bt.pc 0 0 0 z)) X.out,X.fr 0 0 (X.bt.pc 2 5 3 0),X.fr 2 X.er (X.bt.pc 9 9 9 0)⟩
def an3:BO:=⟨cz (fun z=>X.fr 0 0 z) X.w,0,X.fr 2 X.er 0⟩
def an4:BO:=⟨cz (fun z=>X.fr 0 0 (bif X.it.ok then z else 0)) X.iv,X.fr 0 0 (bif X.it.ok then 0 else bif X.it.g5 then 5 else 2),X.fr 2 X.er (bif X.it.ok then 0 else 9)⟩
def ans (r:Bool):BO:=bif !r then ⟨⟨0,0,0,0,0,0⟩,0,110⟩ else bif X.S.kd==3 then X.an3 else bif X.S.kd==4 then X.an4 else X.an1
def k1:Int:=bif X.i1.e != 0 then X.i1.e else 0
def i2':Sp:=X.F.sc (bif X.i1.e != 0 then 0 else X.i1.lo) (bif X.i1.e != 0 then 0 else X.i1.hi) 10000000 X.b
def k2:Int:=kE X.k1 X.i2'.e
def k3:Int:=kE X.k2 X.i3.e
def i4':Sp:=X.F.sc (kI X.k2 X.i3.e X.i3.lo) (kI X.k2 X.i3.e X.i3.hi) 10000000 X.b
def k4:Int:=kE X.k3 X.i4'.e
def al:Int:=kI X.k1 X.i2'.e X.i2'.lo
def ah:Int:=kI X.k1 X.i2'.e X.i2'.hi
def cl:Int:=kI X.k3 X.i4'.e X.i4'.lo
def ch:Int:=kI X.k3 X.i4'.e X.i4'.hi
def i5':Sp:=X.F.ng X.al X.ah
def k5:Int:=kE X.k4 X.i5'.e
def i6':Sp:=X.F.ng X.cl X.ch
def kb:Int:=bif X.bk then kE X.k5 X.i6'.e else X.k4
def xl':Int:=bif X.bk then kI X.k4 X.i5'.e X.i5'.lo else X.al
def xh':Int:=bif X.bk then kI X.k4 X.i5'.e X.i5'.hi else X.ah
def yl':Int:=bif X.bk then kI X.k5 X.i6'.e X.i6'.lo else X.cl
def yh':Int:=bif X.bk then kI X.k5 X.i6'.e X.i6'.hi else X.ch
def k7:Int:=kE X.kb X.i7.e
def i8':Sp:=X.F.su (kI X.kb X.i7.e X.i7.lo) (kI X.kb X.i7.e X.i7.hi) X.xl' X.xh'
def k8:Int:=kE X.k7 X.i8'.e
def k9:Int:=kE X.k8 X.i9.e
def i10':Sp:=X.F.su (kI X.k8 X.i9.e X.i9.lo) (kI X.k8 X.i9.e X.i9.hi) X.yl' X.yh'
def k10:Int:=kE X.k9 X.i10'.e
def iw':Ve:=⟨kI X.k7 X.i8'.e X.i8'.lo,kI X.k7 X.i8'.e X.i8'.hi,kI X.k9 X.i10'.e X.i10'.lo,kI X.k9 X.i10'.e X.i10'.hi,4294967296,4294967296⟩
def k11:Int:=kE X.k10 (X.F.uO X.iw')
def iu':Ve:=kV X.k10 (X.F.uO X.iw') (X.F.uV X.iw')
def k12:Int:=bif X.bk then kE X.k11 (X.F.nO X.iu') else X.k11
variable {X}
structure vlaw (X:BX):Prop where
 vc:∀ v,X.F.vc v=bif X.sk3 v then 20 else 0
end BX
end Go.Vc
namespace Go.Vc
open Go Go.Eng Go.Ar Go.Rd
namespace BX
variable (X:BX) (n:Int)
def p2f:Int:=IntKind.i64.wrap (2*X.S.f0)
def p4f:Int:=IntKind.i64.wrap (4*X.S.f1)
def pol:Int:=IntKind.i64.wrap (X.S.o*X.l)
variable {X n}
end BX
def slpB (s:Su) (ys:List Int) (a b x y:Int):Nat->Int
 | 0=>tw1 (sagG s ys a b x y).e (slpC s a b x y) (slpU s a b x y).lo
 | 1=>tw1 (sagG s ys a b x y).e (slpC s a b x y) (slpU s a b x y).hi
 | 2=>tw1 (sagG s ys a b x y).e (slpC s a b x y) (slpZ s a b x y).lo
 | 3=>tw1 (sagG s ys a b x y).e (slpC s a b x y) (slpZ s a b x y).hi
 | _=>twE (sagG s ys a b x y).e (slpC s a b x y)
noncomputable def bf0:BF:=⟨vC0 vf0,chkS,slpB,uV vf0,uO vf0,negS,addS,subS,mulS,divS,scaleS,sqrS,sqrtS,dotF vf0,fun v w=>twoV vf0 v w vf0.su,fun v w=>twoO vf0 v w vf0.su,fun v w=>twoV vf0 v w vf0.ad,fun v w=>twoO vf0 v w vf0.ad,fun v x y=>twoV vf0 v (lk x y) vf0.mu,fun v x y=>twoO vf0 v (lk x y) vf0.mu,gV vf0,gO vf0⟩
end Go.Vc
namespace Go.Ht
open Go Go.Eng Go.Ar Go.Rd Go.Vc
def midS (a b:Int):Sp:=bif okSp a b then ⟨(a+b) / 2,0,0⟩ else ⟨0,0,20⟩
def meetS (a b c d:Int):Sp:=bif okSp a b&&okSp c d then (bif decide (mx a c>mn b d) then ⟨0,0,4⟩ else toldS (mx a c) (mn b d)) else ⟨0,0,20⟩
noncomputable def hf0:HF:=⟨negS,addS,subS,mulS,divS,scaleS,sqrS,sqrtS,midS,meetS,sagG,slpB,fun s ys=>bif rightS s ys then 0 else 110,vC0 vf0⟩
structure HO where
 at':Ve
 way:Iv
 c:Int
 e:Int
def ve0:Ve:=⟨0,0,0,0,0,0⟩
def hitA (F:HF) (S:Su) (ys:List Int) (p w:Ve):HO:=
 bif F.ck S ys==0 then (bif F.vc p==0&&F.vc w==0 then (match hitP F S ys p w with
  | .ok (a,t)=>⟨a,t,0,0⟩
  | .error c=>⟨ve0,⟨0,0⟩,c,9⟩) else ⟨ve0,⟨0,0⟩,0,240⟩) else ⟨ve0,⟨0,0⟩,0,F.ck S ys⟩
end Go.Ht
namespace Go.Ht
open Go Go.Eng Go.Ar Go.Rd Go.Vc
def xMidV (a b:Int):Int:=bif xCS a b != 0 then 0 else (IntKind.i64.wrap (a+b)).fdiv (2 ^ min (Int.toNat 1) IntKind.i64.bits)
def xMidE (a b:Int):Int:=bif xCS a b != 0 then xCS a b else 0
theorem xMid_eq (a b:Int):xMidV a b=(midS a b).lo/\xMidE a b=(midS a b).e:=by
 unfold xMidV xMidE midS
 rw [xCS_eq]
 cases h:okSp a b with
 | false=>exact ⟨rfl,rfl⟩
 | true=>
  have:=okSp_iff.1 h
  refine ⟨?_,rfl⟩
  show (IntKind.i64.wrap (a+b)).fdiv 2=(a+b) / 2
  rw [i64w (by omega) (by omega),Int.fdiv_eq_ediv_of_nonneg _ (by decide)]
def mtE (a b c d:Int):Int:=bif !(xCS a b != 0)&&!(xCS c d != 0) then 0 else bif xCS a b != 0 then xCS a b else xCS c d
def mtL (a c:Int):Int:=if c>a then c else a
def mtH (b d:Int):Int:=if d<b then d else b
def mtB (l h:Int):Bool:=bif decide (l < -4503599627370496) then true else decide (h>4503599627370496)
def xMeetS (a b c d:Int):Sp:=⟨bif mtE a b c d != 0 then 0 else bif decide (mtL a c>mtH b d) then 0 else bif mtB (mtL a c) (mtH b d) then 0 else mtL a c,
 bif mtE a b c d != 0 then 0 else bif decide (mtL a c>mtH b d) then 0 else bif mtB (mtL a c) (mtH b d) then 0 else mtH b d,
 bif mtE a b c d != 0 then mtE a b c d else bif decide (mtL a c>mtH b d) then 4 else bif mtB (mtL a c) (mtH b d) then 6 else 0⟩
theorem xMeet_eq (a b c d:Int):xMeetS a b c d=meetS a b c d:=by
 have l:mtL a c=mx a c:=by
  unfold mtL mx
  by_cases h:a<c
  .rw [if_pos h,decide_eq_true h]; rfl
  .rw [if_neg h,decide_eq_false h]; rfl
 have r:mtH b d=mn b d:=by
  unfold mtH mn
  by_cases h:d<b
  .rw [if_pos h,decide_eq_true h]; rfl
  .rw [if_neg h,decide_eq_false h]; rfl
 unfold xMeetS mtE meetS
 rw [xCS_eq,xCS_eq,l,r]
 cases h1:okSp a b with
 | false=>cases h2:okSp c d <;> rfl
 | true=>cases h2:okSp c d with
  | false=>rfl
  | true=>
   show (⟨bif decide (mx a c>mn b d) then 0 else bif mtB (mx a c) (mn b d) then 0 else mx a c,bif decide (mx a c>mn b d) then 0 else bif mtB (mx a c) (mn b d) then 0 else mn b d,bif decide (mx a c>mn b d) then 4 else bif mtB (mx a c) (mn b d) then 6 else 0⟩:Sp)=bif decide (mx a c>mn b d) then ⟨0,0,4⟩ else toldS (mx a c) (mn b d)
   have k1:=okSp_iff.1 h1
   have k2:=okSp_iff.1 h2
   have p:mx a c=a\/mx a c=c:=by unfold mx; cases decide (a<c) <;> simp
   have q:mn b d=b\/mn b d=d:=by unfold mn; cases decide (d<b) <;> simp
   cases decide (mx a c>mn b d) with
   | true=>rfl
   | false=>
    have hb:mtB (mx a c) (mn b d)=false:=by
     unfold mtB
     rw [decide_eq_false (by omega),decide_eq_false (by omega)]
     rfl
    rw [hb,told_of (by omega) (by omega) (by omega) (by omega)]
    rfl
end Go.Ht
namespace Go.Proofs.YtjmhddncomglmaaGreatDoor.K
open Go Go.Eng Go.Ar Go.Ht
noncomputable section
def sMid (G:Int->Int->Sp):PSpec:=numSpec [shS] none fun
 | [.n a,.n b]=>two (G a b).lo (G a b).e
 | _=>.u []
theorem mid_run (a b:Int):oneV ((run c2 300).call 118 [.agg [.int true .i64 a,.int true .i64 b]] ⟨[],0,1⟩)=some (.tt,(two (xMidV a b) (xMidE a b)).av true):=by kernel_rfl
theorem meet_run (a b c d:Int):oneV ((run c2 300).call 87 [.agg [.int true .i64 a,.int true .i64 b],.agg [.int true .i64 c,.int true .i64 d]] ⟨[],0,1⟩)=some (.p ((!(mtE a b c d != 0))=true->d=d/\b=b),(outS (xMeetS a b c d)).av true):=by kernel_rfl
theorem smid_ok:PureOk Tryz.prog 118 (sMid midS):=by
 refine num_ok (fun xs hk _=>?_) ⟨_,Tryz.func118,rfl⟩
 obtain ⟨a,_,rfl,h1⟩:=kn hk; obtain ⟨b,_,rfl,h2⟩:=kn h1; obtain rfl:=k0 h2
 have:=mid_run a b
 rw [(xMid_eq a b).1,(xMid_eq a b).2] at this
 exact ⟨c2,300,_,c2_ok,rfl,fun _=>rfl,rfl,this,trivial⟩
theorem smeet_ok:PureOk Tryz.prog 87 (sBin meetS):=by
 refine num_ok (fun xs hk _=>?_) ⟨_,Tryz.func87,rfl⟩
 obtain ⟨a,_,rfl,h1⟩:=kn hk; obtain ⟨b,_,rfl,h2⟩:=kn h1; obtain ⟨c,_,rfl,h3⟩:=kn h2; obtain ⟨d,_,rfl,h4⟩:=kn h3; obtain rfl:=k0 h4
 have:=meet_run a b c d
 rw [xMeet_eq] at this
 exact ⟨c2,300,_,c2_ok,rfl,fun _=>rfl,rfl,this,fun _=>⟨rfl,rfl⟩⟩
end
end Go.Proofs.YtjmhddncomglmaaGreatDoor.K
namespace Go.Proofs.YtjmhddncomglmaaGreatDoor.K
open Go Go.Eng Go.Ar Go.Rd Go.Vc Go.Ht
noncomputable section
def slHF (F:HF) (s:Su) (ys:List Int) (a b x y:Int):AV:=.tuple [.agg [.int true .i64 (F.sl s ys a b x y 0),.int true .i64 (F.sl s ys a b x y 1)],.agg [.int true .i64 (F.sl s ys a b x y 2),.int true .i64 (F.sl s ys a b x y 3)],.int true .i64 (F.sl s ys a b x y 4)]
def sgHF (F:HF) (s:Su) (ys:List Int) (a b x y:Int):AV:=(outS (F.sg s ys a b x y)).av true
def shVv:Sh:=.a [.i .i64,.i .i64,.i .i64,.i .i64,.i .i64,.i .i64]
def vcHF (F:HF):PSpec:=numSpec [shVv] none fun
 | [.n a,.n b,.n c,.n d,.n e,.n f]=>.n .i64 (F.vc ⟨a,b,c,d,e,f⟩)
 | _=>.u []
def sScP (F:Int->Int->Int->Int->Sp):PSpec:=fun args=>match Sh.readL [shS,.i .i64,.i .i64] args with
 | some (s,[.n a,.n b,.n n,.n d])=>some (.p (okSq a b n d),(outS (F a b n d)).av s)
 | _=>none
abbrev suP2:List Pa:=[.s suI .i64,.n sS,.n sS]
def hp (s:PSpec):NSpec:=hN (gH s)
def tblHtO (F:HF):List (FuncId×NSpec):=[(80,hp (sUn F.ng)),(54,hp (sBin F.ad)),(114,hp (sBin F.su)),(90,hp (sBin F.mu)),(89,hp (sBin F.di)),(112,hp (sScP F.sc)),(113,hp (sUn F.sq)),(79,hp (sUn F.rt)),(118,hp (sMid F.md)),(87,hp (sBin F.mt))]
def tblHtP (F:HF) (b:Bool):List (FuncId×NSpec):=(10,bif b then chk0S else chk1S) :: (119,lSpec hG suP2 (suV2 (sgHF F))) :: (120,lSpec hG suP2 (suV2 (slHF F))) :: (46,hp (vcHF F)) :: tblHtO F
def cHtP (F:HF) (b:Bool):Ctx:=mkN Tryz.prog glob hG (tblHtP F b) [] ext
def rHt (C:Ctx) (f:FuncId) (kd:AV) (s:Su) (n:Int) (ys:List Int) (p w:Ve):Option (Nd×AV):=oneG (viewsH true hG [(.i64,ys)]).size hG.clock ((run C 60000).call f [.agg (s.cells kd++[.lslice hG.size n]),.agg (p.cells++w.cells)] (viewsH true hG [(.i64,ys)]))
end
end Go.Proofs.YtjmhddncomglmaaGreatDoor.K
namespace Go.Proofs.YtjmhddncomglmaaGreatDoor.K
open Go Go.Eng Go.Ar Go.Rd Go.Vc Go.Ht
noncomputable section
def sixI:List Sh:=[.i .i64,.i .i64,.i .i64,.i .i64,.i .i64,.i .i64]
def solI:List Sh:=sixI++(sixI++suI)
def rNr (C:Ctx) (kd:AV) (s:Su) (n:Int) (ys:List Int) (p w:Ve) (t:Iv):Option (Nd×AV):=
 let h:=(((viewsH true hG [(.i64,ys)]).push0 (.cells (p.cells++(w.cells++(s.cells kd++[.lslice hG.size n]))))).push0 (.cells [.ptr (hG.size+1) 0])).push0 (.cells [.int true .i64 t.lo,.int true .i64 t.hi])
 oneG h.size hG.clock ((run C 60000).call 83 (argB hG 85 [[.i .i64,.i .i64]]) h)
def rCo (C:Ctx) (kd:AV) (s:Su) (n:Int) (ys:List Int) (p w:Ve) (c k:Int):Option (Nd×AV):=
 let h:=((((viewsH true hG [(.i64,ys)]).push0 (.cells (p.cells++(w.cells++(s.cells kd++[.lslice hG.size n]))))).push0 (.cells [.ptr (hG.size+1) 0])).push0 (.cells [.int true .i64 c])).push0 (.cells [.int true .i64 k])
 oneG h.size hG.clock ((run C 60000).call 83 (argB hG 84 [[.i .i64],[.i .i64]]) h)
end
end Go.Proofs.YtjmhddncomglmaaGreatDoor.K
namespace Go.Proofs.YtjmhddncomglmaaGreatDoor.K
open Go Go.Eng Go.Ar
noncomputable section
noncomputable def c0:Ctx:=mkC Tryz.prog [] ext
theorem c0_ok:CtxOk c0:=mkC_ok prog_ok (fun _ h=>by cases h) ext_ok
noncomputable def c0u:Ctx:=withUnroll c0 147 3
theorem c0u_ok:CtxOk c0u:=withUnroll_ok c0_ok _ _
def ovFr:AFr:=⟨147,none⟩
noncomputable def ovA:Code:=loopOf Tryz.prog 147 0
def ovS (a n d:Int):St:=⟨[⟨0,.int true .u64 a⟩,⟨0,.int true .u64 n⟩,⟨0,.int true .u64 d⟩,⟨0,.tuple []⟩,⟨0,.tuple []⟩,⟨0,.tuple []⟩,⟨3,.int false .u64 0⟩,⟨4,.bool false false⟩,⟨5,.bool false false⟩,⟨6,.int false .u64 0⟩,⟨7,.int false .u64 0⟩,⟨8,.int false .i64 63⟩]++blankT 37,[],⟨[],0,9⟩⟩
def ovP (i q r:Int):Patch:=⟨deadT 12 37++[(9,.int true .u64 q),(10,.int true .u64 r),(11,.int true .i64 i)],[],[]⟩
def ovU (a n d:Nat):Sum (Int×Int×Int):=
 {
  S:=fun y=>ovP y.1 y.2.1 y.2.2
  I:=fun y=>∃ k:Nat,k<=64/\a / 2 ^ k*n / d<=4503599627370496/\y=((k:Int) - 1,((a / 2 ^ k*n / d:Nat):Int),((a / 2 ^ k*n % d:Nat):Int))
  μ:=fun y=>(y.1+1).toNat
  F:=fun y=>ovF a n d (y.1+1).toNat y.1 y.2.1 y.2.2
  next:=fun y=>(IntKind.i64.wrap (y.1 - 1),ovQ a n d y.1 y.2.1 y.2.2,ovR a n d y.1 y.2.2)
  ids:=[]
  X:=fun y x=>match x with
   | .ret=>some (ovRet,[])
   | _=>some (ovO y.2.1 y.2.2,[]) }
def ovNd (a n d:Nat) (i q r:Int):Prop:=
 (decide (i>=0)=true->(0<=IntKind.u64.wrap i/\(ovBit a i=true->(d:Int)≠0/\(d:Int)≠0))/\(ovG1 a n d i r=true->ovG2 a n d i r=true->ovG3 a n d i r=true->False)) /\
 ((!decide (i>=0))=true->(q=q/\r=r)/\(ovU a n d).F (i,q,r)=(.exit 0,ovO q r)) /\
 ((decide (i>=0)&&!ovBig a n d i q r)=true->(ovQ a n d i q r=ovQ a n d i q r/\ovR a n d i r=ovR a n d i r/\IntKind.i64.wrap (i - 1)=IntKind.i64.wrap (i - 1)) /\
  (ovU a n d).I ((ovU a n d).next (i,q,r))/\(ovU a n d).μ ((ovU a n d).next (i,q,r))<(ovU a n d).μ (i,q,r)/\(ovU a n d).F ((ovU a n d).next (i,q,r))=(ovU a n d).F (i,q,r)) /\
 ((decide (i>=0)&&ovBig a n d i q r)=true->(ovU a n d).F (i,q,r)=(.ret,ovRet))
theorem ov_run (a n d:Nat) (i q r:Int):chkR (ovS a n d) ((ovU a n d).way (i,q,r)) ((run c0u 300).code ovFr ovA (patch (ovS a n d) ((ovU a n d).S (i,q,r))))=some (.p (ovNd a n d i q r)):=by kernel_rfl
theorem ov_start (a n d:Nat):fit (ovS a n d) (ovS a n d) (patch (ovS a n d) ((ovU a n d).S (63,0,0))) []=some (.p ((0:Int)=0/\(0:Int)=0/\(63:Int)=63)):=by kernel_rfl
theorem ov_nd (a n d:Nat) (ha:a<18446744073709551616) (hn:n<=4611686018427387904) (hd:1<=d) (hd':d<=4611686018427387904) (y:Int×Int×Int) (hy:(ovU a n d).I y):ovNd a n d y.1 y.2.1 y.2.2:=by
 obtain ⟨k,hk,hq,rfl⟩:=hy
 cases k with
 | zero=>
  have e0:decide ((((0:Nat):Int) - 1)>=0)=false:=by decide
  refine ⟨fun h=>?_,fun _=>⟨⟨rfl,rfl⟩,rfl⟩,fun h=>?_,fun h=>?_⟩
  .rw [show ((0:Nat):Int) - 1=-1 from rfl] at h; cases h
  .simp only [e0,Bool.false_and] at h; cases h
  .simp only [e0,Bool.false_and] at h; cases h
 | succ k=>
  obtain ⟨s1,s2,s3,s4⟩:=ov_step a n d k ha hn hd hd' (by omega) hq
  have e:((k+1:Nat):Int) - 1=(k:Int):=by omega
  have et:((k:Int)+1).toNat=k+1:=by omega
  simp only [e]
  have ew:IntKind.i64.wrap ((k:Int) - 1)=(k:Int) - 1:=i64w (by omega) (by omega)
  refine ⟨fun _=>⟨⟨s3,fun _=>⟨by omega,by omega⟩⟩,s4⟩,fun h=>?_,fun h=>⟨⟨rfl,rfl,rfl⟩,?_,?_,?_⟩,fun h=>?_⟩
  .rw [decide_eq_true (by omega)] at h; cases h
  .simp only [Bool.and_eq_true,Bool.not_eq_true'] at h
   have h2:=h.2
   unfold ovBig at h2
   rw [s1] at h2
   have h2:=of_decide_eq_false h2
   refine ⟨k,by omega,by omega,?_⟩
   show (IntKind.i64.wrap ((k:Int) - 1),_,_)=_
   rw [ew,s1,s2]
  .show (IntKind.i64.wrap ((k:Int) - 1)+1).toNat<((k:Int)+1).toNat
   rw [ew]; omega
  .simp only [Bool.and_eq_true,Bool.not_eq_true'] at h
   show ovF a n d (IntKind.i64.wrap ((k:Int) - 1)+1).toNat (IntKind.i64.wrap ((k:Int) - 1)) _ _=ovF a n d ((k:Int)+1).toNat k _ _
   rw [et,ovF,h.2,cond_false,ew,show ((k:Int) - 1+1).toNat=k by omega]
   rfl
  .simp only [Bool.and_eq_true] at h
   show ovF a n d ((k:Int)+1).toNat k _ _=_
   rw [et,ovF,h.2,cond_true]
def ovFits (a n d:Nat):Bool:=decide (a*n / d<=4503599627370496)
theorem ov_loop (a n d:Nat) (ha:a<18446744073709551616) (hn:n<=4611686018427387904) (hd:1<=d) (hd':d<=4611686018427387904):
  CodeOk c0 ovFr (.loop ovA) (ovS a n d) ⟨.tt,[⟨.b (ovFits a n d),.exit 0,patch (ovS a n d) (ovO ((a*n / d:Nat):Int) ((a*n % d:Nat):Int))⟩,⟨.b (!ovFits a n d),.ret,patch (ovS a n d) ovRet⟩]⟩:=by
 have z:a / 2 ^ 64=0:=Nat.div_eq_of_lt ha
 have hF:(ovU a n d).F (63,0,0)=bif ovFits a n d then (.exit 0,ovO ((a*n / d:Nat):Int) ((a*n % d:Nat):Int)) else (.ret,ovRet):=by
  have:=ov_spec a n d ha hn hd hd' 64 (by decide) (by rw [z]; simp)
  rw [z] at this
  simp only [Nat.zero_mul,Nat.zero_div,Nat.zero_mod] at this
  exact this
 have h0:oldsOk (ovS a n d).hp ((ovU a n d).S (63,0,0)).old=true:=by kernel_rfl
 have h1:(ovU a n d).I (63,0,0):=⟨64,by decide,by rw [z]; simp,by rw [z]; simp⟩
 exact sum_two (run_sound c0u_ok 300) (ovU a n d) h1 ⟨_,ov_start a n d,rfl,rfl,rfl⟩ h0 (fun y hy=>⟨_,ov_run a n d y.1 y.2.1 y.2.2,ov_nd a n d ha hn hd hd' y hy⟩) hF
noncomputable def c0o (a n d:Nat):Ctx:=withLoops c0 [twoLoop 147 9 ovFr ovA (ovS a n d) (ovFits a n d) (.exit 0) (ovO ((a*n / d:Nat):Int) ((a*n % d:Nat):Int)) .ret ovRet]
theorem c0o_ok (a n d:Nat) (ha:a<18446744073709551616) (hn:n<=4611686018427387904) (hd:1<=d) (hd':d<=4611686018427387904):CtxOk (c0o a n d):=withTwo_ok c0_ok (ov_loop a n d ha hn hd hd') (withNone_ok c0_ok)
def ovAt (a n d:Nat):Prop:=At ovFr ovFr ovA ovA (ovS a n d) (ovS a n d)
theorem over_run (a n d:Nat):oneV ((run (c0o a n d) 300).call 147 [.int true .u64 a,.int true .u64 n,.int true .u64 d] ⟨[],0,1⟩)=some (.p (ovAt a n d),
  .tuple [.int true .u64 (bif !ovFits a n d then 0 else ((a*n / d:Nat):Int)),.bool true (bif !ovFits a n d then false else decide (((a*n % d:Nat):Int)>0)),.bool true (bif !ovFits a n d then false else true)]):=by kernel_rfl
theorem over_ok:PureOk Tryz.prog 147 sOver:=by
 refine num_ok (fun xs hk hN=>?_) ⟨_,Tryz.func147,rfl⟩
 obtain ⟨a,_,rfl,h1⟩:=kn hk; obtain ⟨n,_,rfl,h2⟩:=kn h1; obtain ⟨d,_,rfl,h3⟩:=kn h2; obtain rfl:=k0 h3
 obtain ⟨p1,p2,p3,p4,p5,p6⟩:=of_decide_eq_true hN
 obtain ⟨a,rfl⟩:=Int.eq_ofNat_of_zero_le p1
 obtain ⟨n,rfl⟩:=Int.eq_ofNat_of_zero_le p3
 obtain ⟨d,rfl⟩:=Int.eq_ofNat_of_zero_le (show 0<=d by omega)
 have e1:(a:Int)*n / d=((a*n / d:Nat):Int):=by rw [Int.natCast_ediv,Int.natCast_mul]
 have e2:(a:Int)*n % d=((a*n % d:Nat):Int):=by rw [Int.natCast_emod,Int.natCast_mul]
 have e3:ovFit a n d=ovFits a n d:=by unfold ovFit ovFits; rw [e1,Bool.eq_iff_iff,decide_eq_true_eq,decide_eq_true_eq]; generalize a*n / d=q; omega
 refine ⟨c0o a n d,300,.p (ovAt a n d),c0o_ok a n d (by omega) (by omega) (by omega) (by omega),rfl,fun _=>rfl,rfl,(over_run a n d).trans ?_,⟨rfl,rfl,rfl⟩⟩
 rw [<- e1,<- e2,<- e3]
 rfl
end
end Go.Proofs.YtjmhddncomglmaaGreatDoor.K
namespace Go.Proofs.YtjmhddncomglmaaGreatDoor.K
open Go Go.Eng Go.Ar
noncomputable section
noncomputable def tbl4:List (FuncId×PSpec):=[(147,sOver)]
theorem tbl4_ok:TblOk Tryz.prog tbl4:=by
 intro x hx
 simp only [tbl4,List.mem_cons,List.not_mem_nil,or_false] at hx
 subst hx
 exact over_ok
noncomputable def c4:Ctx:=mkC Tryz.prog tbl4 ext
theorem c4_ok:CtxOk c4:=mkC_ok prog_ok tbl4_ok ext_ok
def ovIn (l:List Nu):Prop:=(match l with
 | [.n a,.n n,.n d]=>decide (0<=a/\a<18446744073709551616/\0<=n/\n<=4611686018427387904/\1<=d/\d<=4611686018427387904)
 | _=>false)=true
theorem rmulD_run (a b:Int):oneV ((run c4 300).call 105 [.int true .i64 a,.int true .i64 b,.bool false false] ⟨[],0,1⟩)=some (.tt,.tuple [.int true .i64 (rMulV a b false),.bool true (rMulB a b false)]):=by kernel_rfl
theorem rmulU_run (a b:Int):oneV ((run c4 300).call 105 [.int true .i64 a,.int true .i64 b,.bool false true] ⟨[],0,1⟩)=some (.tt,.tuple [.int true .i64 (rMulV a b true),.bool true (rMulB a b true)]):=by kernel_rfl
theorem rdivD_run (a b:Int):oneV ((run c4 300).call 127 [.int true .i64 a,.int true .i64 b,.bool false false] ⟨[],0,1⟩)=some (.p (ovIn [.n 4294967296,.n (xSz a),.n (xSz b)]),.tuple [.int true .i64 (oV (4294967296*xSz a) (xSz b) false (xNeg a b)),.bool true (oB (4294967296*xSz a) (xSz b) false (xNeg a b))]):=by kernel_rfl
theorem rdivU_run (a b:Int):oneV ((run c4 300).call 127 [.int true .i64 a,.int true .i64 b,.bool false true] ⟨[],0,1⟩)=some (.p (ovIn [.n 4294967296,.n (xSz a),.n (xSz b)]),.tuple [.int true .i64 (oV (4294967296*xSz a) (xSz b) true (xNeg a b)),.bool true (oB (4294967296*xSz a) (xSz b) true (xNeg a b))]):=by kernel_rfl
def rScN (a n d:Int):Prop:=(!rOkS a n d)=true->ovIn [.n (xSz a),.n (xSz n),.n (IntKind.u64.wrap d)]
theorem rscD_run (a n d:Int):oneV ((run c4 300).call 107 [.int true .i64 a,.int true .i64 n,.int true .i64 d] ⟨[],0,1⟩)=some (.p (rScN a n d),.tuple [.int true .i64 (rScV a n d false),.int true .i64 (rScE a n d false)]):=by kernel_rfl
theorem rscU_run (a n d:Int):oneV ((run c4 300).call 108 [.int true .i64 a,.int true .i64 n,.int true .i64 d] ⟨[],0,1⟩)=some (.p (rScN a n d),.tuple [.int true .i64 (rScV a n d true),.int true .i64 (rScE a n d true)]):=by kernel_rfl
theorem ovIn_of {a n d:Int} (h:0<=a/\a<18446744073709551616/\0<=n/\n<=4611686018427387904/\1<=d/\d<=4611686018427387904):ovIn [.n a,.n n,.n d]:=decide_eq_true h
theorem rScN_all (a n d:Int):rScN a n d:=by
 intro h
 rw [rOkS_eq,Bool.not_not] at h
 simp only [okS,Bool.and_eq_true,decide_eq_true_eq] at h
 obtain ⟨ha,⟨⟨n1,n2⟩,d1⟩,d2⟩:=h
 obtain ⟨a1,a2,a3⟩:=sz_of ha
 have e1:xSz n=sg n n:=xSz_eq (by omega) (by omega)
 have e2:=sg_cases n
 rw [a1,e1,u64w (n:=d) (by omega) (by omega)]
 exact ovIn_of ⟨by omega,by omega,by omega,by omega,by omega,by omega⟩
theorem rmulD_ok:PureOk Tryz.prog 105 (sRMul false):=by
 refine num_ok (fun xs hk hN=>?_) ⟨_,Tryz.func105,rfl⟩
 obtain ⟨a,_,rfl,h1⟩:=kn hk; obtain ⟨b,_,rfl,h2⟩:=kn h1; obtain rfl:=k0 h2
 have hN:(okF a&&okF b)=true:=hN
 simp only [Bool.and_eq_true] at hN
 obtain ⟨l1,l2⟩:=rMul_law hN.1 hN.2 false
 exact ⟨c4,300,_,c4_ok,rfl,fun _=>rfl,rfl,(rmulD_run a b).trans (by rw [l1,l2]; rfl),trivial⟩
theorem rmulU_ok:PureOk Tryz.prog 105 (sRMul true):=by
 refine num_ok (fun xs hk hN=>?_) ⟨_,Tryz.func105,rfl⟩
 obtain ⟨a,_,rfl,h1⟩:=kn hk; obtain ⟨b,_,rfl,h2⟩:=kn h1; obtain rfl:=k0 h2
 have hN:(okF a&&okF b)=true:=hN
 simp only [Bool.and_eq_true] at hN
 obtain ⟨l1,l2⟩:=rMul_law hN.1 hN.2 true
 exact ⟨c4,300,_,c4_ok,rfl,fun _=>rfl,rfl,(rmulU_run a b).trans (by rw [l1,l2]; rfl),trivial⟩
theorem rdiv_in {a b:Int} (ha:okF a=true) (hb:okF b=true) (h0:b≠0):ovIn [.n 4294967296,.n (xSz a),.n (xSz b)]:=by
 obtain ⟨a1,a2,a3⟩:=sz_of ha
 obtain ⟨b1,b2,b3⟩:=sz_of hb
 have:=sg_cases b
 rw [a1,b1]
 exact ovIn_of ⟨by omega,by omega,by omega,by omega,by omega,by omega⟩
theorem rdivD_ok:PureOk Tryz.prog 127 (sRDiv false):=by
 refine num_ok (fun xs hk hN=>?_) ⟨_,Tryz.func127,rfl⟩
 obtain ⟨a,_,rfl,h1⟩:=kn hk; obtain ⟨b,_,rfl,h2⟩:=kn h1; obtain rfl:=k0 h2
 have hN:(okF a&&(okF b&&!(b==0)))=true:=hN
 simp only [Bool.and_eq_true,Bool.not_eq_true',beq_eq_false_iff_ne] at hN
 obtain ⟨l1,l2⟩:=rDiv_law hN.1 hN.2.1 hN.2.2 false
 rw [rDivV] at l1; rw [rDivB] at l2
 exact ⟨c4,300,.p _,c4_ok,rfl,fun _=>rfl,rfl,(rdivD_run a b).trans (by rw [l1,l2]; rfl),rdiv_in hN.1 hN.2.1 hN.2.2⟩
theorem rdivU_ok:PureOk Tryz.prog 127 (sRDiv true):=by
 refine num_ok (fun xs hk hN=>?_) ⟨_,Tryz.func127,rfl⟩
 obtain ⟨a,_,rfl,h1⟩:=kn hk; obtain ⟨b,_,rfl,h2⟩:=kn h1; obtain rfl:=k0 h2
 have hN:(okF a&&(okF b&&!(b==0)))=true:=hN
 simp only [Bool.and_eq_true,Bool.not_eq_true',beq_eq_false_iff_ne] at hN
 obtain ⟨l1,l2⟩:=rDiv_law hN.1 hN.2.1 hN.2.2 true
 rw [rDivV] at l1; rw [rDivB] at l2
 exact ⟨c4,300,.p _,c4_ok,rfl,fun _=>rfl,rfl,(rdivU_run a b).trans (by rw [l1,l2]; rfl),rdiv_in hN.1 hN.2.1 hN.2.2⟩
theorem rscD_ok:PureOk Tryz.prog 107 (sRScale false):=by
 refine num_ok (fun xs hk _=>?_) ⟨_,Tryz.func107,rfl⟩
 obtain ⟨a,_,rfl,h1⟩:=kn hk; obtain ⟨n,_,rfl,h2⟩:=kn h1; obtain ⟨d,_,rfl,h3⟩:=kn h2; obtain rfl:=k0 h3
 obtain ⟨l1,l2⟩:=rSc_law a n d false
 exact ⟨c4,300,.p _,c4_ok,rfl,fun _=>rfl,rfl,(rscD_run a n d).trans (by rw [l1,l2]; rfl),rScN_all a n d⟩
theorem rscU_ok:PureOk Tryz.prog 108 (sRScale true):=by
 refine num_ok (fun xs hk _=>?_) ⟨_,Tryz.func108,rfl⟩
 obtain ⟨a,_,rfl,h1⟩:=kn hk; obtain ⟨n,_,rfl,h2⟩:=kn h1; obtain ⟨d,_,rfl,h3⟩:=kn h2; obtain rfl:=k0 h3
 obtain ⟨l1,l2⟩:=rSc_law a n d true
 exact ⟨c4,300,.p _,c4_ok,rfl,fun _=>rfl,rfl,(rscU_run a n d).trans (by rw [l1,l2]; rfl),rScN_all a n d⟩
def rsFr:AFr:=⟨129,none⟩
noncomputable def rsA:Code:=loopOf Tryz.prog 129 0
def rsS (up:Bool) (a:Int):St:=⟨[⟨0,.int true .i64 a⟩,⟨0,.bool false up⟩,⟨0,.tuple []⟩,⟨0,.tuple []⟩,⟨3,.int false .i64 0⟩,⟨4,.int false .i64 0⟩,⟨5,.int false .i64 0⟩,⟨6,.int false .i64 42⟩]++blankT 42,[],⟨[],0,7⟩⟩
def rsP (i root rest:Int):Patch:=⟨deadT 8 42++[(5,.int true .i64 root),(6,.int true .i64 rest),(7,.int true .i64 i)],[],[]⟩
def rsU (a:Int):Sum (Int×Int×Int):=
 {
  S:=fun y=>rsP y.1 y.2.1 y.2.2
  I:=fun y=>-1<=y.1/\y.1<=42
  μ:=fun y=>(y.1+1).toNat
  F:=fun y=>(.exit 0,rsO (rsF a (y.1+1).toNat y.1 y.2.1 y.2.2).1 (rsF a (y.1+1).toNat y.1 y.2.1 y.2.2).2)
  next:=fun y=>(IntKind.i64.wrap (y.1 - 1),rsRoot a y.1 y.2.1 y.2.2,rsRest a y.1 y.2.1 y.2.2)
  ids:=[]
  X:=fun y _=>some (rsO y.2.1 y.2.2,[]) }
def rsNd (a i root rest:Int):Prop:=
 (decide (i>=0)=true->decide (IntKind.i64.wrap (2*i)>=32)=true->0<=IntKind.u64.wrap (IntKind.i64.wrap (IntKind.i64.wrap (2*i) - 32))) /\
 ((!decide (i>=0))=true->(root=root/\rest=rest)/\(rsU a).F (i,root,rest)=(.exit 0,rsO root rest)) /\
 (decide (i>=0)=true->(rsRoot a i root rest=rsRoot a i root rest/\rsRest a i root rest=rsRest a i root rest/\IntKind.i64.wrap (i - 1)=IntKind.i64.wrap (i - 1)) /\
  (rsU a).I ((rsU a).next (i,root,rest))/\(rsU a).μ ((rsU a).next (i,root,rest))<(rsU a).μ (i,root,rest)/\(rsU a).F ((rsU a).next (i,root,rest))=(rsU a).F (i,root,rest))
theorem rs_run (up:Bool) (a i root rest:Int):chkR (rsS up a) ((rsU a).way (i,root,rest)) ((run c0 300).code rsFr rsA (patch (rsS up a) ((rsU a).S (i,root,rest))))=some (.p (rsNd a i root rest)):=by kernel_rfl
theorem rs_start (up:Bool) (a:Int):fit (rsS up a) (rsS up a) (patch (rsS up a) ((rsU a).S (42,0,0))) []=some (.p ((0:Int)=0/\(0:Int)=0/\(42:Int)=42)):=by kernel_rfl
theorem rs_nd (a i root rest:Int) (h:-1<=i/\i<=42):rsNd a i root rest:=by
 refine ⟨fun _ _=>(u64_range _).1,fun hi=>⟨⟨rfl,rfl⟩,?_⟩,fun hi=>⟨⟨rfl,rfl,rfl⟩,?_⟩⟩
 .have:i=-1:=by simp at hi; omega
  subst this
  rfl
 .have hi:=of_decide_eq_true hi
  have e:IntKind.i64.wrap (i - 1)=i - 1:=i64w (by omega) (by omega)
  have e2:(i+1).toNat=(i - 1+1).toNat+1:=by omega
  refine ⟨?_,?_,?_⟩
  .show -1<=IntKind.i64.wrap (i - 1)/\IntKind.i64.wrap (i - 1)<=42
   rw [e]; omega
  .show (IntKind.i64.wrap (i - 1)+1).toNat<(i+1).toNat
   rw [e]; omega
  .show (Ex.exit 0,rsO (rsF a (IntKind.i64.wrap (i - 1)+1).toNat (IntKind.i64.wrap (i - 1)) (rsRoot a i root rest) (rsRest a i root rest)).1 (rsF a (IntKind.i64.wrap (i - 1)+1).toNat (IntKind.i64.wrap (i - 1)) (rsRoot a i root rest) (rsRest a i root rest)).2)=(Ex.exit 0,rsO (rsF a (i+1).toNat i root rest).1 (rsF a (i+1).toNat i root rest).2)
   rw [e2,rsF,e]
theorem rs_loop (up:Bool) (a:Int):CodeOk c0 rsFr (.loop rsA) (rsS up a) ⟨.tt,[⟨.tt,.exit 0,patch (rsS up a) (rsO (rsF a 43 42 0 0).1 (rsF a 43 42 0 0).2)⟩]⟩:=by
 have hF:(rsU a).F (42,0,0)=(.exit 0,rsO (rsF a 43 42 0 0).1 (rsF a 43 42 0 0).2):=by
  show (Ex.exit 0,rsO (rsF a ((42:Int)+1).toNat 42 0 0).1 (rsF a ((42:Int)+1).toNat 42 0 0).2)=_
  rw [show ((42:Int)+1).toNat=43 from by decide]
 have h0:oldsOk (rsS up a).hp ((rsU a).S (42,0,0)).old=true:=by kernel_rfl
 have h1:(rsU a).I (42,0,0):=⟨by decide,by decide⟩
 exact sum_one (run_sound c0_ok 300) (rsU a) h1 ⟨_,rs_start up a,rfl,rfl,rfl⟩ h0 (fun y hy=>⟨_,rs_run up a y.1 y.2.1 y.2.2,rs_nd a y.1 y.2.1 y.2.2 hy⟩) hF
noncomputable def c0s (up:Bool) (a:Int):Ctx:=withLoops c0 [oneLoop 129 7 rsFr rsA (rsS up a) (.exit 0) (rsO (rsF a 43 42 0 0).1 (rsF a 43 42 0 0).2)]
theorem c0s_ok (up:Bool) (a:Int):CtxOk (c0s up a):=withLoop_ok c0_ok (rs_loop up a) (withNone_ok c0_ok)
def rsAt (up:Bool) (a:Int):Prop:=At rsFr rsFr rsA rsA (rsS up a) (rsS up a)
theorem rsqrtD_run (a:Int):oneV ((run (c0s false a) 300).call 129 [.int true .i64 a,.bool false false] ⟨[],0,1⟩)=some (.p (rsAt false a),.int true .i64 (rsV a false)):=by kernel_rfl
theorem rsqrtU_run (a:Int):oneV ((run (c0s true a) 300).call 129 [.int true .i64 a,.bool false true] ⟨[],0,1⟩)=some (.p (rsAt true a),.int true .i64 (rsV a true)):=by kernel_rfl
theorem rsqrtD_ok:PureOk Tryz.prog 129 (sRSqrt false):=by
 refine num_ok (fun xs hk hN=>?_) ⟨_,Tryz.func129,rfl⟩
 obtain ⟨a,_,rfl,h1⟩:=kn hk; obtain rfl:=k0 h1
 exact ⟨c0s false a,300,.p (rsAt false a),c0s_ok false a,rfl,fun _=>rfl,rfl,(rsqrtD_run a).trans (by rw [rs_law hN]; rfl),⟨rfl,rfl,rfl⟩⟩
theorem rsqrtU_ok:PureOk Tryz.prog 129 (sRSqrt true):=by
 refine num_ok (fun xs hk hN=>?_) ⟨_,Tryz.func129,rfl⟩
 obtain ⟨a,_,rfl,h1⟩:=kn hk; obtain rfl:=k0 h1
 exact ⟨c0s true a,300,.p (rsAt true a),c0s_ok true a,rfl,fun _=>rfl,rfl,(rsqrtU_run a).trans (by rw [rs_law hN]; rfl),⟨rfl,rfl,rfl⟩⟩
end
end Go.Proofs.YtjmhddncomglmaaGreatDoor.K
namespace Go.Proofs.YtjmhddncomglmaaGreatDoor.K
open Go Go.Eng Go.Ar
noncomputable section
noncomputable def tbl5:List (FuncId×PSpec):=[(105,orS (sRMul false) (sRMul true)),(127,orS (sRDiv false) (sRDiv true)),(107,sRScale false),(108,sRScale true),(129,orS (sRSqrt false) (sRSqrt true))]
theorem tbl5_ok:TblOk Tryz.prog tbl5:=by
 intro x hx
 simp only [tbl5,List.mem_cons,List.not_mem_nil,or_false] at hx
 rcases hx with rfl|rfl|rfl|rfl|rfl
 .exact orS_ok rmulD_ok rmulU_ok
 .exact orS_ok rdivD_ok rdivU_ok
 .exact rscD_ok
 .exact rscU_ok
 .exact orS_ok rsqrtD_ok rsqrtU_ok
end
end Go.Proofs.YtjmhddncomglmaaGreatDoor.K
namespace Go.Proofs.YtjmhddncomglmaaGreatDoor.K
open Go Go.Eng Go.Ar
noncomputable section
def hintB (b:Bool):Option AV:=match b with
 | true=>some (.bool false true)
 | false=>some (.bool false false)
def pwH (K S:Nat) (c d:Nat):Option AV:=match Nat.beq d 5 with
 | true=>match Nat.ble 19 c&&Nat.blt c (32+12*K) with
  | true=>hintB (Nat.blt c (21+12*K))
  | false=>match Nat.ble S c&&Nat.blt c (S+12+12*K) with
   | true=>hintB (Nat.blt c (S+2+12*K))
   | false=>none
 | false=>none
noncomputable def cPw (K:Nat):Ctx:={ c0 with hint:=pwH K (79+50*K) }
theorem cPw_ok (K:Nat):CtxOk (cPw K):=⟨c0_ok.prog,c0_ok.con,c0_ok.ext,c0_ok.loop,c0_ok.two⟩
def ndD:Nat->Int->Prop
 | 0,v=>decide (v>0)=false
 | k+1,v=>decide (v>0)=true/\ndD k (IntKind.i64.wrap (v.tdiv 65536))
theorem pwD0 (v:Int):oneV ((run (cPw 0) 900).call 181 [.int true .i64 v,.int false .i64 2,.bool false false] ⟨[],0,1⟩)=some (.p (ndD 0 v/\ndD 0 v),.tuple [.int false .i64 0,.bool false true]):=by kernel_rfl
theorem pwD1 (v:Int):oneV ((run (cPw 1) 900).call 181 [.int true .i64 v,.int false .i64 2,.bool false false] ⟨[],0,1⟩)=some (.p (ndD 1 v/\ndD 1 v),.tuple [.int true .i64 (outP 1 v false),.bool true (decide (outP 1 v false<=4503599627370496))]):=by kernel_rfl
theorem pwD2 (v:Int):oneV ((run (cPw 2) 900).call 181 [.int true .i64 v,.int false .i64 2,.bool false false] ⟨[],0,1⟩)=some (.p (ndD 2 v/\ndD 2 v),.tuple [.int true .i64 (bif fitP 2 v then outP 2 v false else 0),.bool true (bif fitP 2 v then decide (outP 2 v false<=4503599627370496) else false)]):=by kernel_rfl
theorem pwD3 (v:Int):oneV ((run (cPw 3) 900).call 181 [.int true .i64 v,.int false .i64 2,.bool false false] ⟨[],0,1⟩)=some (.p (ndD 3 v/\ndD 3 v),.tuple [.int true .i64 (bif fitP 3 v then outP 3 v false else 0),.bool true (bif fitP 3 v then decide (outP 3 v false<=4503599627370496) else false)]):=by kernel_rfl
theorem pwD4 (v:Int):oneV ((run (cPw 4) 900).call 181 [.int true .i64 v,.int false .i64 2,.bool false false] ⟨[],0,1⟩)=some (.p (ndD 4 v/\ndD 4 v),.tuple [.int true .i64 (bif fitP 4 v then outP 4 v false else 0),.bool true (bif fitP 4 v then decide (outP 4 v false<=4503599627370496) else false)]):=by kernel_rfl
theorem pwU0 (v:Int):oneV ((run (cPw 0) 900).call 181 [.int true .i64 v,.int false .i64 2,.bool false true] ⟨[],0,1⟩)=some (.p (ndD 0 v/\ndD 0 v),.tuple [.int false .i64 0,.bool false true]):=by kernel_rfl
theorem pwU1 (v:Int):oneV ((run (cPw 1) 900).call 181 [.int true .i64 v,.int false .i64 2,.bool false true] ⟨[],0,1⟩)=some (.p (ndD 1 v/\ndD 1 v),.tuple [.int true .i64 (outP 1 v true),.bool true (decide (outP 1 v true<=4503599627370496))]):=by kernel_rfl
theorem pwU2 (v:Int):oneV ((run (cPw 2) 900).call 181 [.int true .i64 v,.int false .i64 2,.bool false true] ⟨[],0,1⟩)=some (.p (ndD 2 v/\ndD 2 v),.tuple [.int true .i64 (bif fitP 2 v then outP 2 v true else 0),.bool true (bif fitP 2 v then decide (outP 2 v true<=4503599627370496) else false)]):=by kernel_rfl
theorem pwU3 (v:Int):oneV ((run (cPw 3) 900).call 181 [.int true .i64 v,.int false .i64 2,.bool false true] ⟨[],0,1⟩)=some (.p (ndD 3 v/\ndD 3 v),.tuple [.int true .i64 (bif fitP 3 v then outP 3 v true else 0),.bool true (bif fitP 3 v then decide (outP 3 v true<=4503599627370496) else false)]):=by kernel_rfl
theorem pwU4 (v:Int):oneV ((run (cPw 4) 900).call 181 [.int true .i64 v,.int false .i64 2,.bool false true] ⟨[],0,1⟩)=some (.p (ndD 4 v/\ndD 4 v),.tuple [.int true .i64 (bif fitP 4 v then outP 4 v true else 0),.bool true (bif fitP 4 v then decide (outP 4 v true<=4503599627370496) else false)]):=by kernel_rfl
theorem nd0 {v:Int} (h:v=0):ndD 0 v:=by subst h; rfl
theorem ndS {k:Nat} {v:Int} (h0:0<v) (hb:v<=4503599627370496) (h:ndD k (v / 65536)):ndD (k+1) v:=by
 refine ⟨decide_eq_true h0,?_⟩
 rw [Int.tdiv_eq_ediv_of_nonneg (by omega),i64w (by omega) (by omega)]
 exact h
theorem pick (v:Int) (h0:0<=v) (ho:okF v=true):0<=v /\
  ((ndD 0 v/\True/\(∀ up,pV v up=0)/\(∀ up,pB v up=true)) ∨
   (ndD 1 v/\(∀ up,outP 1 v up=pV v up)/\(∀ up,decide (pV v up<=4503599627370496)=pB v up)) ∨
   (ndD 2 v/\(∀ up,(bif fitP 2 v then outP 2 v up else 0)=pV v up)/\(∀ up,(bif fitP 2 v then decide (outP 2 v up<=4503599627370496) else false)=pB v up)) ∨
   (ndD 3 v/\(∀ up,(bif fitP 3 v then outP 3 v up else 0)=pV v up)/\(∀ up,(bif fitP 3 v then decide (outP 3 v up<=4503599627370496) else false)=pB v up)) ∨
   (ndD 4 v/\(∀ up,(bif fitP 4 v then outP 4 v up else 0)=pV v up)/\(∀ up,(bif fitP 4 v then decide (outP 4 v up<=4503599627370496) else false)=pB v up))):=by
 have hb:=(okF_iff.1 ho).2
 refine ⟨h0,?_⟩
 have big:∀ k,2<=k->v<65536 ^ k->(∀ up,(bif fitP k v then outP k v up else 0)=pV v up)/\(∀ up,(bif fitP k v then decide (outP k v up<=4503599627370496) else false)=pB v up):=by
  intro k hk h1
  obtain ⟨t,r,e,_,g,_,o⟩:=pw_core k (by omega) v h0 hb h1
  have hf:fitP k v=!pEarly v:=by unfold fitP; rw [e]; exact g hk
  rw [hf]
  refine ⟨fun up=>?_,fun up=>?_⟩
  .unfold pV
   cases he:pEarly v with
   | true=>rfl
   | false=>rw [o he]; rfl
  .unfold pB
   cases he:pEarly v with
   | true=>rfl
   | false=>rw [o he]; rfl
 by_cases c0:v=0
 .subst c0
  exact .inl ⟨nd0 rfl,trivial,fun up=>by cases up <;> rfl,fun up=>by cases up <;> rfl⟩
 .by_cases c1:v<65536
  .obtain ⟨t,r,e,_,_,g,o⟩:=pw_core 1 (by omega) v h0 hb (by rw [Int.pow_one]; exact c1)
   obtain ⟨he,_⟩:=g rfl
   refine .inr (.inl ⟨ndS (by omega) hb (nd0 (by omega)),fun up=>?_,fun up=>?_⟩)
   .rw [o he]; unfold pV; rw [he]; rfl
   .unfold pV pB; rw [he]; rfl
  .by_cases c2:v<4294967296
   .exact .inr (.inr (.inl ⟨ndS (by omega) hb (ndS (by omega) (by omega) (nd0 (by omega))),big 2 (by decide) (by rw [show (65536:Int) ^ 2=4294967296 by decide]; exact c2)⟩))
   .by_cases c3:v<281474976710656
    .exact .inr (.inr (.inr (.inl ⟨ndS (by omega) hb (ndS (by omega) (by omega) (ndS (by omega) (by omega) (nd0 (by omega)))),big 3 (by decide) (by rw [show (65536:Int) ^ 3=281474976710656 by decide]; exact c3)⟩)))
    .exact .inr (.inr (.inr (.inr ⟨ndS (by omega) hb (ndS (by omega) (by omega) (ndS (by omega) (by omega) (ndS (by omega) (by omega) (nd0 (by omega))))),big 4 (by decide) (by rw [show (65536:Int) ^ 4=18446744073709551616 by decide]; omega)⟩)))
def two' (x:Int) (b:Bool):AV:=.tuple [.int true .i64 x,.bool true b]
theorem rpowD_ok:PureOk Tryz.prog 181 (sRPow false):=by
 refine num_ok' (fun xs hk hN=>?_) ⟨_,Tryz.func181,rfl⟩
 obtain ⟨v,_,rfl,h1⟩:=kn hk; obtain rfl:=k0 h1
 have hN:(decide (0<=v)&&okF v)=true:=hN
 simp only [Bool.and_eq_true,decide_eq_true_eq] at hN
 obtain ⟨k1,k2⟩:=pick v hN.1 hN.2
 rcases k2 with ⟨e,r1,r2⟩|⟨e,r1,r2⟩|⟨e,r1,r2⟩|⟨e,r1,r2⟩|⟨e,r1,r2⟩
 .exact ⟨cPw 0,900,.p (ndD 0 v/\ndD 0 v),.tuple [.int false .i64 0,.bool false true],cPw_ok 0,rfl,fun _=>rfl,rfl,pwD0 v,⟨e,e⟩,fun τ W h=>by show VRel τ (two' _ _) W; rw [show (two' (pV v false) (pB v false))=two' 0 true by rw [r2.1 false,r2.2 false]]; exact h⟩
 .exact ⟨cPw 1,900,.p (ndD 1 v/\ndD 1 v),two' (pV v false) (pB v false),cPw_ok 1,rfl,fun _=>rfl,rfl,(pwD1 v).trans (by rw [r1 false,r2 false]; rfl),⟨e,e⟩,fun τ W h=>h⟩
 .exact ⟨cPw 2,900,.p (ndD 2 v/\ndD 2 v),two' (pV v false) (pB v false),cPw_ok 2,rfl,fun _=>rfl,rfl,(pwD2 v).trans (by rw [r1 false,r2 false]; rfl),⟨e,e⟩,fun τ W h=>h⟩
 .exact ⟨cPw 3,900,.p (ndD 3 v/\ndD 3 v),two' (pV v false) (pB v false),cPw_ok 3,rfl,fun _=>rfl,rfl,(pwD3 v).trans (by rw [r1 false,r2 false]; rfl),⟨e,e⟩,fun τ W h=>h⟩
 .exact ⟨cPw 4,900,.p (ndD 4 v/\ndD 4 v),two' (pV v false) (pB v false),cPw_ok 4,rfl,fun _=>rfl,rfl,(pwD4 v).trans (by rw [r1 false,r2 false]; rfl),⟨e,e⟩,fun τ W h=>h⟩
theorem rpowU_ok:PureOk Tryz.prog 181 (sRPow true):=by
 refine num_ok' (fun xs hk hN=>?_) ⟨_,Tryz.func181,rfl⟩
 obtain ⟨v,_,rfl,h1⟩:=kn hk; obtain rfl:=k0 h1
 have hN:(decide (0<=v)&&okF v)=true:=hN
 simp only [Bool.and_eq_true,decide_eq_true_eq] at hN
 obtain ⟨k1,k2⟩:=pick v hN.1 hN.2
 rcases k2 with ⟨e,r1,r2⟩|⟨e,r1,r2⟩|⟨e,r1,r2⟩|⟨e,r1,r2⟩|⟨e,r1,r2⟩
 .exact ⟨cPw 0,900,.p (ndD 0 v/\ndD 0 v),.tuple [.int false .i64 0,.bool false true],cPw_ok 0,rfl,fun _=>rfl,rfl,pwU0 v,⟨e,e⟩,fun τ W h=>by show VRel τ (two' _ _) W; rw [show (two' (pV v true) (pB v true))=two' 0 true by rw [r2.1 true,r2.2 true]]; exact h⟩
 .exact ⟨cPw 1,900,.p (ndD 1 v/\ndD 1 v),two' (pV v true) (pB v true),cPw_ok 1,rfl,fun _=>rfl,rfl,(pwU1 v).trans (by rw [r1 true,r2 true]; rfl),⟨e,e⟩,fun τ W h=>h⟩
 .exact ⟨cPw 2,900,.p (ndD 2 v/\ndD 2 v),two' (pV v true) (pB v true),cPw_ok 2,rfl,fun _=>rfl,rfl,(pwU2 v).trans (by rw [r1 true,r2 true]; rfl),⟨e,e⟩,fun τ W h=>h⟩
 .exact ⟨cPw 3,900,.p (ndD 3 v/\ndD 3 v),two' (pV v true) (pB v true),cPw_ok 3,rfl,fun _=>rfl,rfl,(pwU3 v).trans (by rw [r1 true,r2 true]; rfl),⟨e,e⟩,fun τ W h=>h⟩
 .exact ⟨cPw 4,900,.p (ndD 4 v/\ndD 4 v),two' (pV v true) (pB v true),cPw_ok 4,rfl,fun _=>rfl,rfl,(pwU4 v).trans (by rw [r1 true,r2 true]; rfl),⟨e,e⟩,fun τ W h=>h⟩
end
end Go.Proofs.YtjmhddncomglmaaGreatDoor.K
namespace Go.Proofs.YtjmhddncomglmaaGreatDoor.K
open Go Go.Eng Go.Ar
noncomputable section
noncomputable def tbl6:List (FuncId×PSpec):=(181,orS (sRPow false) (sRPow true)) :: tbl5
theorem tbl6_ok:TblOk Tryz.prog tbl6:=fun x hx=>by
 rcases List.mem_cons.1 hx with rfl|hx
 .exact orS_ok rpowD_ok rpowU_ok
 .exact tbl5_ok x hx
noncomputable def c6:Ctx:=mkC Tryz.prog tbl6 ext
theorem c6_ok:CtxOk c6:=mkC_ok prog_ok tbl6_ok ext_ok
end
end Go.Proofs.YtjmhddncomglmaaGreatDoor.K
namespace Go.Ar
open Go Go.Eng
theorem scE_eq {x n d:Int} (hx:okF x=true) (up:Bool):scaleE x n d up=bif okR n d then fitE (rd (x*n) d up) else 2:=by
 unfold scaleE okS okR; rw [hx]; rfl
theorem scV_eq {x n d:Int} (hx:okF x=true) (up:Bool):scaleV x n d up=bif okR n d then fitV (rd (x*n) d up) else 0:=by
 unfold scaleV okS okR; rw [hx]; rfl
theorem rd_mn {x y d:Int} (hd:0<d):rd (mn x y) d false=mn (rd x d false) (rd y d false):=by
 have m:=mn_le x y
 have k:=mn_le (rd x d false) (rd y d false)
 by_cases h:y<x
 .have e:mn x y=y:=by unfold mn; rw [decide_eq_true h]; rfl
  have:=rd_lt_rd hd (Int.le_of_lt h) false
  rw [e]; omega
 .have e:mn x y=x:=by unfold mn; rw [decide_eq_false h]; rfl
  have:=rd_lt_rd hd (show x<=y by omega) false
  rw [e]; omega
theorem rd_mx {x y d:Int} (hd:0<d):rd (mx x y) d true=mx (rd x d true) (rd y d true):=by
 have m:=le_mx x y
 have k:=le_mx (rd x d true) (rd y d true)
 by_cases h:x<y
 .have e:mx x y=y:=by unfold mx; rw [decide_eq_true h]; rfl
  have:=rd_lt_rd hd (Int.le_of_lt h) true
  rw [e]; omega
 .have e:mx x y=x:=by unfold mx; rw [decide_eq_false h]; rfl
  have:=rd_lt_rd hd (show y<=x by omega) true
  rw [e]; omega
theorem fitE_beq (v:Int):(fitE v==0)=okF v/\(fitE v==2)=false:=by
 unfold fitE; cases okF v <;> exact ⟨rfl,rfl⟩
theorem rScaleS_eq (a b n d:Int):rScaleS a b n d=scaleS a b n d:=by
 unfold rScaleS scaleS
 rw [rR_eq]
 cases h:okSp a b with
 | false=>simp [err]
 | true=>
  obtain ⟨ha,hb⟩:=okF_of_sp h
  unfold rSc3 rScBad rScL rScH
  rw [scE_eq ha,scE_eq ha,scE_eq hb,scE_eq hb,scV_eq ha,scV_eq ha,scV_eq hb,scV_eq hb]
  cases hr:okR n d with
  | false=>simp [err]
  | true=>
   simp only [okR,Bool.and_eq_true,decide_eq_true_eq] at hr
   obtain ⟨⟨⟨n1,n2⟩,d1⟩,d2⟩:=hr
   have hd:0<d:=by omega
   simp only [cond_true,Bool.not_true,cond_false]
   rw [(fitE_beq _).2,(fitE_beq _).1,(fitE_beq _).1,(fitE_beq _).1,(fitE_beq _).1,rd_mn hd,rd_mx hd]
   have o1:=rd_le (a*n) d hd
   have o2:=rd_le (b*n) d hd
   generalize rd (a*n) d false=A0 at *
   generalize rd (a*n) d true=A1 at *
   generalize rd (b*n) d false=B0 at *
   generalize rd (b*n) d true=B1 at *
   have m:=mn_le A0 B0
   have k:=le_mx A1 B1
   by_cases hall:okF A0=true/\okF B0=true/\okF A1=true/\okF B1=true
   .obtain ⟨f1,f2,f3,f4⟩:=hall
    rw [fitV_ok f1,fitV_ok f2,fitV_ok f3,fitV_ok f4,ifmn_eq,ifmx_eq,rR_told (by omega),f1,f2,f3,f4]
    have g1:=okF_iff.1 f1; have g2:=okF_iff.1 f2; have g3:=okF_iff.1 f3; have g4:=okF_iff.1 f4
    have l:okF (mn A0 B0)=true:=okF_iff.2 (by omega)
    have u:okF (mx A1 B1)=true:=okF_iff.2 (by omega)
    unfold toldS
    rw [l,u]; rfl
   .have hbad:(okF (mn A0 B0)&&okF (mx A1 B1))=false:=by
     cases hh:(okF (mn A0 B0)&&okF (mx A1 B1)) with
     | false=>rfl
     | true=>
      simp only [Bool.and_eq_true,okF_iff] at hh
      exact absurd ⟨okF_iff.2 (by omega),okF_iff.2 (by omega),okF_iff.2 (by omega),okF_iff.2 (by omega)⟩ hall
    unfold toldS
    rw [hbad]
    cases f1:okF A0 <;> cases f2:okF B0 <;> cases f3:okF A1 <;> cases f4:okF B1 <;> first|rfl|exact absurd ⟨f1,f2,f3,f4⟩ hall
theorem pB_eq {v:Int} (up:Bool):pB v up=decide (rd (v*v) 4294967296 up<=4503599627370496)/\(pB v up=true->pV v up=rd (v*v) 4294967296 up):=by
 have h1:=rd_le (v*v) 4294967296 (by decide)
 have h2:rd (v*v) 4294967296 false=v*v / 4294967296:=rfl
 unfold pB pV
 cases he:pEarly v with
 | false=>exact ⟨rfl,fun _=>rfl⟩
 | true=>
  refine ⟨?_,fun h=>by cases h⟩
  have:=of_decide_eq_true he
  symm
  rw [cond_true,decide_eq_false_iff_not]
  cases up <;> omega
theorem rq_abs {a:Int} (h:okF a=true) (up:Bool):rqB a up=decide (rd (a*a) 4294967296 up<=4503599627370496)/\(rqB a up=true->rqV a up=rd (a*a) 4294967296 up):=by
 have h:=okF_iff.1 h
 unfold rqB rqV
 by_cases c:a>=0
 .rw [decide_eq_true c]; exact pB_eq up
 .rw [decide_eq_false c,cond_false,cond_false,i64w (by omega) (by omega),Int.zero_sub]
  have:=pB_eq (v:=-a) up
  rw [Int.neg_mul_neg] at this
  exact this
theorem rSqrS_eq (a b:Int):rSqrS a b=sqrS a b:=by
 unfold rSqrS sqrS
 rw [rR_eq]
 cases h:okSp a b with
 | false=>simp [err]
 | true=>
  obtain ⟨ha,hb⟩:=okF_of_sp h
  have k:=okSp_iff.1 h
  obtain ⟨_,_,l0,l1,l2⟩:=xa_eq h
  obtain ⟨af,vaf⟩:=rq_abs ha false
  obtain ⟨at',vat⟩:=rq_abs ha true
  obtain ⟨bf,vbf⟩:=rq_abs hb false
  obtain ⟨bt,vbt⟩:=rq_abs hb true
  have hl:abL a b*abL a b=(if a<0/\0<b then 0 else mn (a*a) (b*b))/\abH a b*abH a b=mx (a*a) (b*b):=by
   have q0:0<=a*a:=by
    rcases Int.le_total 0 a with c|c
    .exact Int.mul_nonneg c c
    .exact Int.mul_nonneg_of_nonpos_of_nonpos c c
   have q1:0<=b*b:=by
    rcases Int.le_total 0 b with c|c
    .exact Int.mul_nonneg c c
    .exact Int.mul_nonneg_of_nonpos_of_nonpos c c
   have key:∀ x y:Int,0<=x->x<=y->x*x<=y*y:=fun x y h1 h2=>Int.mul_le_mul h2 h2 h1 (by omega)
   rcases Int.lt_or_le a 0 with c|c
   .rcases Int.lt_or_le 0 b with e|e
    .have eL:abL a b=0:=by have m1:=le_mx a (-b); have m2:=le_mx (mx a (-b)) 0; unfold abL; omega
     rw [eL,if_pos ⟨c,e⟩]
     refine ⟨rfl,?_⟩
     unfold abH
     by_cases h2:b < -a
     .have eH:mx b (-a)=-a:=by unfold mx; rw [decide_eq_true h2]; rfl
      have:=key b (-a) (by omega) (by omega)
      rw [Int.neg_mul_neg] at this
      rw [eH,Int.neg_mul_neg]
      have m:=le_mx (a*a) (b*b); omega
     .have eH:mx b (-a)=b:=by unfold mx; rw [decide_eq_false h2]; rfl
      have:=key (-a) b (by omega) (by omega)
      rw [Int.neg_mul_neg] at this
      rw [eH]
      have m:=le_mx (a*a) (b*b); omega
    .have eL:abL a b=-b:=by have m1:=le_mx a (-b); have m2:=le_mx (mx a (-b)) 0; unfold abL; omega
     have eH:abH a b=-a:=by have m1:=le_mx b (-a); unfold abH; omega
     have:=key (-b) (-a) (by omega) (by omega)
     rw [Int.neg_mul_neg,Int.neg_mul_neg] at this
     rw [eL,eH,if_neg (by omega),Int.neg_mul_neg,Int.neg_mul_neg]
     have m:=le_mx (a*a) (b*b); have m':=mn_le (a*a) (b*b); omega
   .have eL:abL a b=a:=by have m1:=le_mx a (-b); have m2:=le_mx (mx a (-b)) 0; unfold abL; omega
    have eH:abH a b=b:=by have m1:=le_mx b (-a); unfold abH; omega
    have:=key a b c k.2.1
    rw [eL,eH,if_neg (by omega)]
    have m:=le_mx (a*a) (b*b); have m':=mn_le (a*a) (b*b); omega
  rw [hl.1,hl.2,rd_mx (by decide)]
  have lowE:rd (if a<0/\0<b then 0 else mn (a*a) (b*b)) 4294967296 false=(if a<0/\0<b then 0 else mn (rd (a*a) 4294967296 false) (rd (b*b) 4294967296 false)):=by
   split
   .rfl
   .exact rd_mn (by decide)
  rw [lowE]
  have q0:0<=rd (a*a) 4294967296 false:=by
   show 0<=a*a / 4294967296
   exact Int.ediv_nonneg (by
    rcases Int.le_total 0 a with c|c
    .exact Int.mul_nonneg c c
    .exact Int.mul_nonneg_of_nonpos_of_nonpos c c) (by decide)
  have q1:0<=rd (b*b) 4294967296 false:=by
   show 0<=b*b / 4294967296
   exact Int.ediv_nonneg (by
    rcases Int.le_total 0 b with c|c
    .exact Int.mul_nonneg c c
    .exact Int.mul_nonneg_of_nonpos_of_nonpos c c) (by decide)
  have o1:=rd_le (a*a) 4294967296 (by decide)
  have o2:=rd_le (b*b) 4294967296 (by decide)
  unfold rq3 rqBad rqL rqH
  generalize rd (a*a) 4294967296 false=A0 at *
  generalize rd (a*a) 4294967296 true=A1 at *
  generalize rd (b*b) 4294967296 false=B0 at *
  generalize rd (b*b) 4294967296 true=B1 at *
  have m:=mn_le A0 B0
  have kx:=le_mx A1 B1
  by_cases hall:A1<=4503599627370496/\B1<=4503599627370496
  .rw [decide_eq_true (show A0<=4503599627370496 by omega)] at af
   rw [decide_eq_true hall.1] at at'
   rw [decide_eq_true (show B0<=4503599627370496 by omega)] at bf
   rw [decide_eq_true hall.2] at bt
   rw [af,at',bf,bt,vaf af,vat at',vbf bf,vbt bt,ifmn_eq,ifmx_eq]
   have low:(bif bif decide (a<0) then decide (b>0) else false then 0 else mn A0 B0)=(if a<0/\0<b then 0 else mn A0 B0):=by
    by_cases c:a<0 <;> by_cases e:0<b <;> simp [c,e]
   rw [low]
   have bl:0<=(if a<0/\0<b then 0 else mn A0 B0)/\(if a<0/\0<b then 0 else mn A0 B0)<=mx A1 B1:=by split <;> omega
   generalize (if a<0/\0<b then 0 else mn A0 B0)=L at *
   rw [rR_told bl.2]
   have l:okF L=true:=okF_iff.2 (by omega)
   have u:okF (mx A1 B1)=true:=okF_iff.2 (by omega)
   unfold toldS
   rw [l,u]; rfl
  .have u:okF (mx A1 B1)=false:=okF_false.2 (by omega)
   unfold toldS
   rw [u,Bool.and_false]
   cases f1:rqB a false <;> cases f2:rqB b false <;> cases f3:rqB a true <;> cases f4:rqB b true <;> first|rfl|skip
   rw [f3] at at'
   rw [f4] at bt
   exact absurd ⟨of_decide_eq_true at'.symm,of_decide_eq_true bt.symm⟩ hall
end Go.Ar
namespace Go.Ar
open Go Go.Eng
def ndM4 (G:Int->Int->Bool) (F:Int->Int->Bool->Int) (a b c d:Int):Prop:=
 (d=d/\c=c/\d=d/\c=c)/\(((G a c=true/\G a c=true)/\(G a d=true/\G a d=true)/\(G b c=true/\G b c=true)/\(G b d=true/\G b d=true)) /\
  (fitV (F a c true)=fitV (F a c true)/\fitV (F a d true)=fitV (F a d true)/\fitV (F b c true)=fitV (F b c true)/\fitV (F b d true)=fitV (F b d true)))
def ndMul (a b c d:Int):Prop:=(!rBad2 a b c d)=true->ndM4 (fun x y=>okF x&&okF y) mF a b c d
def ndDiv (a b c d:Int):Prop:=(!rBad2 a b c d)=true->(!xZ c d)=true->ndM4 (fun x y=>okF x&&(okF y&&!y==0)) dF a b c d
def ndP (v:Int):Prop:=(decide (v>=0)=true->(decide (0<=v)&&okF v)=true)/\((!decide (v>=0))=true->(decide (0<=IntKind.i64.wrap (0 - v))&&okF (IntKind.i64.wrap (0 - v)))=true)
def ndSqr (a b:Int):Prop:=(!!rR a b)=true->ndP a/\ndP b/\ndP a/\ndP b
def ndSqrt (a b:Int):Prop:=(!!rR a b)=true->(!decide (a<0))=true->sqOk a=true/\b=b/\sqOk b=true
theorem bad2_ok {a b c d:Int} (h:(!rBad2 a b c d)=true):(okF a=true/\okF b=true/\a<=b)/\okF c=true/\okF d=true/\c<=d:=by
 unfold rBad2 at h
 rw [rR_eq,rR_eq] at h
 cases h1:okSp a b with
 | false=>rw [h1] at h; cases h
 | true=>
  rw [h1] at h
  cases h2:okSp c d with
  | false=>rw [h2] at h; cases h
  | true=>
   have k1:=okF_of_sp h1; have k2:=okF_of_sp h2
   have l1:a<=b:=by unfold okSp at h1; simp at h1; omega
   have l2:c<=d:=by unfold okSp at h2; simp at h2; omega
   exact ⟨⟨k1.1,k1.2,l1⟩,k2.1,k2.2,l2⟩
theorem ndMul_ok (a b c d:Int):ndMul a b c d:=by
 intro h
 obtain ⟨⟨h1,h2,_⟩,h3,h4,_⟩:=bad2_ok h
 unfold ndM4
 simp [h1,h2,h3,h4]
theorem ndDiv_ok (a b c d:Int):ndDiv a b c d:=by
 intro h hz
 obtain ⟨⟨h1,h2,_⟩,h3,h4,h5⟩:=bad2_ok h
 have:c≠0/\d≠0:=by
  unfold xZ at hz
  simp at hz
  omega
 unfold ndM4
 simp [h1,h2,h3,h4,this.1,this.2]
theorem ndP_ok {v:Int} (h:okF v=true):ndP v:=by
 have:=okF_iff.1 h
 refine ⟨fun k=>?_,fun k=>?_⟩
 .simp at k; simp [k,h]
 .simp at k
  have e:IntKind.i64.wrap (0 - v)=0 - v:=i64w (by omega) (by omega)
  have h2:okF (0 - v)=true:=okF_iff.2 (by omega)
  have h3:(0:Int)<=0 - v:=by omega
  rw [e,h2,decide_eq_true h3]; rfl
theorem ndSqr_ok (a b:Int):ndSqr a b:=by
 intro h
 rw [Bool.not_not,rR_eq] at h
 obtain ⟨h1,h2⟩:=okF_of_sp h
 exact ⟨ndP_ok h1,ndP_ok h2,ndP_ok h1,ndP_ok h2⟩
theorem ndSqrt_ok (a b:Int):ndSqrt a b:=by
 intro h h0
 rw [Bool.not_not,rR_eq] at h
 obtain ⟨h1,h2⟩:=okF_of_sp h
 have l:a<=b:=by unfold okSp at h; simp at h; omega
 have k1:=okF_iff.1 h1; have k2:=okF_iff.1 h2
 simp at h0
 have g1:sqOk a=true:=by unfold sqOk; rw [h1,decide_eq_true h0]; rfl
 have g2:sqOk b=true:=by unfold sqOk; rw [h2,decide_eq_true (show (0:Int)<=b by omega)]; rfl
 exact ⟨g1,rfl,g2⟩
end Go.Ar
namespace Go.Proofs.YtjmhddncomglmaaGreatDoor.K
open Go Go.Eng Go.Ar
noncomputable section
theorem radd_run (a b c d:Int):oneV ((run c6 300).call 65 [.agg [.int true .i64 a,.int true .i64 b],.agg [.int true .i64 c,.int true .i64 d]] ⟨[],0,1⟩)=some (.tt,(outS (rAddS a b c d)).av true):=by kernel_rfl
theorem rsub_run (a b c d:Int):oneV ((run c6 300).call 100 [.agg [.int true .i64 a,.int true .i64 b],.agg [.int true .i64 c,.int true .i64 d]] ⟨[],0,1⟩)=some (.tt,(outS (rSubS a b c d)).av true):=by kernel_rfl
theorem rmul_run (a b c d:Int):oneV ((run c6 300).call 67 [.agg [.int true .i64 a,.int true .i64 b],.agg [.int true .i64 c,.int true .i64 d]] ⟨[],0,1⟩)=some (.p (ndMul a b c d),(outS (rMulS a b c d)).av true):=by kernel_rfl
theorem rdiv_run (a b c d:Int):oneV ((run c6 300).call 97 [.agg [.int true .i64 a,.int true .i64 b],.agg [.int true .i64 c,.int true .i64 d]] ⟨[],0,1⟩)=some (.p (ndDiv a b c d),(outS (rDivS a b c d)).av true):=by kernel_rfl
theorem rsqrt_run (a b:Int):oneV ((run c6 300).call 101 [.agg [.int true .i64 a,.int true .i64 b]] ⟨[],0,1⟩)=some (.p (ndSqrt a b),(outS (rSqrtS a b)).av true):=by kernel_rfl
theorem rsqr_run (a b:Int):oneV ((run c6 300).call 99 [.agg [.int true .i64 a,.int true .i64 b]] ⟨[],0,1⟩)=some (.p (ndSqr a b),(outS (rSqrS a b)).av true):=by kernel_rfl
theorem rsc_run (a b n d:Int):oneV ((run c6 300).call 68 [.agg [.int true .i64 a,.int true .i64 b],.int true .i64 n,.int true .i64 d] ⟨[],0,1⟩)=some (.tt,(outS (rScaleS a b n d)).av true):=by kernel_rfl
theorem rchk_run (a b:Int):oneV ((run c6 300).call 56 [.agg [.int true .i64 a,.int true .i64 b]] ⟨[],0,1⟩)=some (.tt,.int true .i64 (rChk a b)):=by kernel_rfl
theorem radd_ok:PureOk Tryz.prog 65 (sBin addS):=by
 refine num_ok (fun xs hk _=>?_) ⟨_,Tryz.func65,rfl⟩
 obtain ⟨a,_,rfl,h1⟩:=kn hk; obtain ⟨b,_,rfl,h2⟩:=kn h1; obtain ⟨c,_,rfl,h3⟩:=kn h2; obtain ⟨d,_,rfl,h4⟩:=kn h3; obtain rfl:=k0 h4
 exact ⟨c6,300,_,c6_ok,rfl,fun _=>rfl,rfl,(radd_run a b c d).trans (by rw [rAddS_eq]),trivial⟩
theorem rsub_ok:PureOk Tryz.prog 100 (sBin subS):=by
 refine num_ok (fun xs hk _=>?_) ⟨_,Tryz.func100,rfl⟩
 obtain ⟨a,_,rfl,h1⟩:=kn hk; obtain ⟨b,_,rfl,h2⟩:=kn h1; obtain ⟨c,_,rfl,h3⟩:=kn h2; obtain ⟨d,_,rfl,h4⟩:=kn h3; obtain rfl:=k0 h4
 exact ⟨c6,300,_,c6_ok,rfl,fun _=>rfl,rfl,(rsub_run a b c d).trans (by rw [rSubS_eq]),trivial⟩
theorem rmul_ok:PureOk Tryz.prog 67 (sBin mulS):=by
 refine num_ok (fun xs hk _=>?_) ⟨_,Tryz.func67,rfl⟩
 obtain ⟨a,_,rfl,h1⟩:=kn hk; obtain ⟨b,_,rfl,h2⟩:=kn h1; obtain ⟨c,_,rfl,h3⟩:=kn h2; obtain ⟨d,_,rfl,h4⟩:=kn h3; obtain rfl:=k0 h4
 exact ⟨c6,300,_,c6_ok,rfl,fun _=>rfl,rfl,(rmul_run a b c d).trans (by rw [rMulS_eq]),ndMul_ok a b c d⟩
theorem rdiv_ok:PureOk Tryz.prog 97 (sBin divS):=by
 refine num_ok (fun xs hk _=>?_) ⟨_,Tryz.func97,rfl⟩
 obtain ⟨a,_,rfl,h1⟩:=kn hk; obtain ⟨b,_,rfl,h2⟩:=kn h1; obtain ⟨c,_,rfl,h3⟩:=kn h2; obtain ⟨d,_,rfl,h4⟩:=kn h3; obtain rfl:=k0 h4
 exact ⟨c6,300,_,c6_ok,rfl,fun _=>rfl,rfl,(rdiv_run a b c d).trans (by rw [rDivS_eq]),ndDiv_ok a b c d⟩
theorem rsqrt_ok:PureOk Tryz.prog 101 (sUn sqrtS):=by
 refine num_ok (fun xs hk _=>?_) ⟨_,Tryz.func101,rfl⟩
 obtain ⟨a,_,rfl,h1⟩:=kn hk; obtain ⟨b,_,rfl,h2⟩:=kn h1; obtain rfl:=k0 h2
 exact ⟨c6,300,_,c6_ok,rfl,fun _=>rfl,rfl,(rsqrt_run a b).trans (by rw [rSqrtS_eq]),ndSqrt_ok a b⟩
theorem rsqr_ok:PureOk Tryz.prog 99 (sUn sqrS):=by
 refine num_ok (fun xs hk _=>?_) ⟨_,Tryz.func99,rfl⟩
 obtain ⟨a,_,rfl,h1⟩:=kn hk; obtain ⟨b,_,rfl,h2⟩:=kn h1; obtain rfl:=k0 h2
 exact ⟨c6,300,_,c6_ok,rfl,fun _=>rfl,rfl,(rsqr_run a b).trans (by rw [rSqrS_eq]),ndSqr_ok a b⟩
theorem rsc_ok:PureOk Tryz.prog 68 (sSc scaleS):=by
 refine num_ok (fun xs hk _=>?_) ⟨_,Tryz.func68,rfl⟩
 obtain ⟨a,_,rfl,h1⟩:=kn hk; obtain ⟨b,_,rfl,h2⟩:=kn h1; obtain ⟨n,_,rfl,h3⟩:=kn h2; obtain ⟨d,_,rfl,h4⟩:=kn h3; obtain rfl:=k0 h4
 exact ⟨c6,300,_,c6_ok,rfl,fun _=>rfl,rfl,(rsc_run a b n d).trans (by rw [rScaleS_eq]),trivial⟩
theorem rchk_ok:PureOk Tryz.prog 56 sChk:=by
 refine num_ok (fun xs hk _=>?_) ⟨_,Tryz.func56,rfl⟩
 obtain ⟨a,_,rfl,h1⟩:=kn hk; obtain ⟨b,_,rfl,h2⟩:=kn h1; obtain rfl:=k0 h2
 have:=rchk_run a b
 rw [rChk_eq] at this
 exact ⟨c6,300,_,c6_ok,rfl,fun _=>rfl,rfl,this,trivial⟩
end
end Go.Proofs.YtjmhddncomglmaaGreatDoor.K
namespace Go.Proofs.YtjmhddncomglmaaGreatDoor.K
open Go Go.Eng Go.Ar Go.Rd
noncomputable section
abbrev glob8:Nat->Option Nat:=glob
abbrev hG8:Hp:=hG
theorem hG8_ok:hG8.ok:=hG_ok
theorem hG8_plain:blksPlain hG8.size hG8.blks=true:=hG_plain
theorem glob8_lt:∀ g i,glob8 g=some i->i<hG8.size:=glob_lt
theorem up8 {f:FuncId} {s:NSpec} (g:NOk Tryz.prog glob hG f s):NOk Tryz.prog glob8 hG8 f s:=g
def rOk (a b:Int):Bool:=bif bif decide (a>=-4503599627370496) then decide (a<=4503599627370496) else false then bif bif decide (b>=-4503599627370496) then decide (b<=4503599627370496) else false then decide (a<=b) else false else false
theorem rOk_eq (a b:Int):rOk a b=okSp a b:=by
 unfold rOk okSp
 have e1:∀ z:Int,decide (z>=-4503599627370496)=decide (-4503599627370496<=z):=fun _=>rfl
 simp only [e1]
 cases h1:decide (-4503599627370496<=a) <;> cases h2:decide (a<=4503599627370496) <;> cases h3:decide (-4503599627370496<=b) <;> cases h4:decide (b<=4503599627370496) <;> cases h5:decide (a<=b) <;> first|rfl|(simp only [decide_eq_true_eq,decide_eq_false_iff_not] at h1 h2 h3 h4 h5; omega)
def sOk:PSpec:=numSpec [shS] none fun
 | [.n a,.n b]=>.t (okSp a b)
 | _=>.u []
theorem rright_run (a b:Int):oneV ((run c6 300).call 96 [.agg [.int true .i64 a,.int true .i64 b]] ⟨[],0,1⟩)=some (.tt,.bool true (rOk a b)):=by kernel_rfl
theorem rright_ok:PureOk Tryz.prog 96 sOk:=by
 refine num_ok (fun xs hk _=>?_) ⟨_,Tryz.func96,rfl⟩
 obtain ⟨a,_,rfl,h1⟩:=kn hk; obtain ⟨b,_,rfl,h2⟩:=kn h1; obtain rfl:=k0 h2
 have:=rright_run a b
 rw [rOk_eq] at this
 exact ⟨c6,300,_,c6_ok,rfl,fun _=>rfl,rfl,this,trivial⟩
def tblR0:List (FuncId×PSpec):=[(96,sOk),(56,sChk),(65,sBin addS),(100,sBin subS),(67,sBin mulS),(97,sBin divS),(99,sUn sqrS),(101,sUn sqrtS),(68,sSc scaleS)]
theorem tblR0_g:∀ x∈tblR0,GOk Tryz.prog glob8 hG8 x.1 x.2:=by
 intro x hx
 simp only [tblR0,List.mem_cons,List.not_mem_nil,or_false] at hx
 rcases hx with rfl|rfl|rfl|rfl|rfl|rfl|rfl|rfl|rfl
 .exact rright_ok.g _ _
 .exact rchk_ok.g _ _
 .exact radd_ok.g _ _
 .exact rsub_ok.g _ _
 .exact rmul_ok.g _ _
 .exact rdiv_ok.g _ _
 .exact rsqr_ok.g _ _
 .exact rsqrt_ok.g _ _
 .exact rsc_ok.g _ _
def cR:Ctx:=mkG Tryz.prog glob8 hG8 tblR0 ext
theorem cR_ok:CtxOk cR:=mkG_ok prog_ok ext_ok tblR0_g
end
end Go.Proofs.YtjmhddncomglmaaGreatDoor.K
namespace Go.Rd
open Go Go.Eng Go.Ar
def kB (s:Sp):Sp:=⟨bif s.e != 0 then 1 else s.lo,bif s.e != 0 then 0 else s.hi,0⟩
def outK (s:Sp):Tm:=.a [.n .i64 (kB s).lo,.n .i64 (kB s).hi]
section
variable (a0 b0 a1 b1 a2 b2 a3 b3 x y:Int)
def rE0:Int:=bif (!!okSp a0 b0)&&((!!okSp a1 b1)&&((!!okSp a2 b2)&&!!okSp a3 b3)) then chkS x y else 20
def rM1:Sp:=mulS a3 b3 x y
def rA1:Sp:=addS (rM1 a3 b3 x y).lo (rM1 a3 b3 x y).hi a2 b2
def rM2:Sp:=mulS (rA1 a2 b2 a3 b3 x y).lo (rA1 a2 b2 a3 b3 x y).hi x y
def rA2:Sp:=addS (rM2 a2 b2 a3 b3 x y).lo (rM2 a2 b2 a3 b3 x y).hi a1 b1
def rM3:Sp:=mulS (rA2 a1 b1 a2 b2 a3 b3 x y).lo (rA2 a1 b1 a2 b2 a3 b3 x y).hi x y
def rA3:Sp:=addS (rM3 a1 b1 a2 b2 a3 b3 x y).lo (rM3 a1 b1 a2 b2 a3 b3 x y).hi a0 b0
def rB (s:Sp):Bool:=s.e != 0
def rP1:Bool:=bif rE0 a0 b0 a1 b1 a2 b2 a3 b3 x y != 0 then true else false
def rGo:Bool:=!rB (rM1 a3 b3 x y)&&!rB (rA1 a2 b2 a3 b3 x y)&&(!rB (rM2 a2 b2 a3 b3 x y)&&!rB (rA2 a1 b1 a2 b2 a3 b3 x y)&&(!rB (rM3 a1 b1 a2 b2 a3 b3 x y)&&!rB (rA3 a0 b0 a1 b1 a2 b2 a3 b3 x y)))
def rP12:Bool:=!rB (rM2 a2 b2 a3 b3 x y)&&!rB (rA2 a1 b1 a2 b2 a3 b3 x y)&&(rB (rM3 a1 b1 a2 b2 a3 b3 x y)||!rB (rM3 a1 b1 a2 b2 a3 b3 x y)&&rB (rA3 a0 b0 a1 b1 a2 b2 a3 b3 x y))
def rEv:Sp:=⟨bif rP1 a0 b0 a1 b1 a2 b2 a3 b3 x y then 0 else bif rGo a0 b0 a1 b1 a2 b2 a3 b3 x y then (rA3 a0 b0 a1 b1 a2 b2 a3 b3 x y).lo else 0,
 bif rP1 a0 b0 a1 b1 a2 b2 a3 b3 x y then 0 else bif rGo a0 b0 a1 b1 a2 b2 a3 b3 x y then (rA3 a0 b0 a1 b1 a2 b2 a3 b3 x y).hi else 0,
 bif rP1 a0 b0 a1 b1 a2 b2 a3 b3 x y then rE0 a0 b0 a1 b1 a2 b2 a3 b3 x y else bif rGo a0 b0 a1 b1 a2 b2 a3 b3 x y then 0 else bif !rB (rM1 a3 b3 x y)&&!rB (rA1 a2 b2 a3 b3 x y)&&(rP12 a0 b0 a1 b1 a2 b2 a3 b3 x y||(rB (rM2 a2 b2 a3 b3 x y)||!rB (rM2 a2 b2 a3 b3 x y)&&rB (rA2 a1 b1 a2 b2 a3 b3 x y))) then
  bif rP12 a0 b0 a1 b1 a2 b2 a3 b3 x y then bif rB (rM3 a1 b1 a2 b2 a3 b3 x y) then (rM3 a1 b1 a2 b2 a3 b3 x y).e else (rA3 a0 b0 a1 b1 a2 b2 a3 b3 x y).e else bif rB (rM2 a2 b2 a3 b3 x y) then (rM2 a2 b2 a3 b3 x y).e else (rA2 a1 b1 a2 b2 a3 b3 x y).e
  else bif rB (rM1 a3 b3 x y) then (rM1 a3 b3 x y).e else (rA1 a2 b2 a3 b3 x y).e⟩
end
end Go.Rd
namespace Go.Proofs.YtjmhddncomglmaaGreatDoor.K
open Go Go.Eng Go.Ar Go.Rd
noncomputable section
theorem plus_run (a b c d:Int):oneG hG8.size hG8.clock ((run cR 300).call 152 (Sh.mkL [shS,shS] [.n a,.n b,.n c,.n d]).1 hG8)=some (.tt,(outK (addS a b c d)).av true):=by kernel_rfl
theorem minus_run (a b c d:Int):oneG hG8.size hG8.clock ((run cR 300).call 199 (Sh.mkL [shS,shS] [.n a,.n b,.n c,.n d]).1 hG8)=some (.tt,(outK (subS a b c d)).av true):=by kernel_rfl
theorem times_run (a b c d:Int):oneG hG8.size hG8.clock ((run cR 300).call 153 (Sh.mkL [shS,shS] [.n a,.n b,.n c,.n d]).1 hG8)=some (.tt,(outK (mulS a b c d)).av true):=by kernel_rfl
theorem overR_run (a b c d:Int):oneG hG8.size hG8.clock ((run cR 300).call 184 (Sh.mkL [shS,shS] [.n a,.n b,.n c,.n d]).1 hG8)=some (.tt,(outK (divS a b c d)).av true):=by kernel_rfl
theorem square_run (a b:Int):oneG hG8.size hG8.clock ((run cR 300).call 154 (Sh.mkL [shS] [.n a,.n b]).1 hG8)=some (.tt,(outK (sqrS a b)).av true):=by kernel_rfl
theorem rootR_run (a b:Int):oneG hG8.size hG8.clock ((run cR 300).call 183 (Sh.mkL [shS] [.n a,.n b]).1 hG8)=some (.tt,(outK (sqrtS a b)).av true):=by kernel_rfl
theorem by_run (a b n d:Int):oneG hG8.size hG8.clock ((run cR 300).call 186 (Sh.mkL [shS,.i .i64,.i .i64] [.n a,.n b,.n n,.n d]).1 hG8)=some (.tt,(outK (scaleS a b n d)).av true):=by kernel_rfl
theorem bad_run (a b:Int):oneG hG8.size hG8.clock ((run cR 300).call 156 (Sh.mkL [shS] [.n a,.n b]).1 hG8)=some (.tt,(Tm.t (chkS a b != 0)).av true):=by kernel_rfl
def kBin (F:Int->Int->Int->Int->Sp):PSpec:=numSpec [shS,shS] none fun
 | [.n a,.n b,.n c,.n d]=>outK (F a b c d)
 | _=>.u []
def kUn (F:Int->Int->Sp):PSpec:=numSpec [shS] none fun
 | [.n a,.n b]=>outK (F a b)
 | _=>.u []
def kSc (F:Int->Int->Int->Int->Sp):PSpec:=numSpec [shS,.i .i64,.i .i64] none fun
 | [.n a,.n b,.n c,.n d]=>outK (F a b c d)
 | _=>.u []
def kBad:PSpec:=numSpec [shS] none fun
 | [.n a,.n b]=>.t (chkS a b != 0)
 | _=>.u []
theorem kBin_ok {f:FuncId} {F:Int->Int->Int->Int->Sp} (h:∀ a b c d,oneG hG8.size hG8.clock ((run cR 300).call f (Sh.mkL [shS,shS] [.n a,.n b,.n c,.n d]).1 hG8)=some (.tt,(outK (F a b c d)).av true)) (fn:∃ fn:Func,Tryz.prog.funcs[f]?=some fn/\fn.body.isSome=true):GOk Tryz.prog glob8 hG8 f (kBin F):=by
 refine gnum_ok hG8_ok hG8_plain glob8_lt (fun xs hk _=>?_) fn
 obtain ⟨a,_,rfl,h1⟩:=kn hk; obtain ⟨b,_,rfl,h2⟩:=kn h1; obtain ⟨c,_,rfl,h3⟩:=kn h2; obtain ⟨d,_,rfl,h4⟩:=kn h3; obtain rfl:=k0 h4
 exact ⟨cR,300,_,cR_ok,rfl,rfl,rfl,h a b c d,trivial⟩
theorem kSc_ok {f:FuncId} {F:Int->Int->Int->Int->Sp} (h:∀ a b c d,oneG hG8.size hG8.clock ((run cR 300).call f (Sh.mkL [shS,.i .i64,.i .i64] [.n a,.n b,.n c,.n d]).1 hG8)=some (.tt,(outK (F a b c d)).av true)) (fn:∃ fn:Func,Tryz.prog.funcs[f]?=some fn/\fn.body.isSome=true):GOk Tryz.prog glob8 hG8 f (kSc F):=by
 refine gnum_ok hG8_ok hG8_plain glob8_lt (fun xs hk _=>?_) fn
 obtain ⟨a,_,rfl,h1⟩:=kn hk; obtain ⟨b,_,rfl,h2⟩:=kn h1; obtain ⟨c,_,rfl,h3⟩:=kn h2; obtain ⟨d,_,rfl,h4⟩:=kn h3; obtain rfl:=k0 h4
 exact ⟨cR,300,_,cR_ok,rfl,rfl,rfl,h a b c d,trivial⟩
theorem kUn_ok {f:FuncId} {F:Int->Int->Sp} (h:∀ a b,oneG hG8.size hG8.clock ((run cR 300).call f (Sh.mkL [shS] [.n a,.n b]).1 hG8)=some (.tt,(outK (F a b)).av true)) (fn:∃ fn:Func,Tryz.prog.funcs[f]?=some fn/\fn.body.isSome=true):GOk Tryz.prog glob8 hG8 f (kUn F):=by
 refine gnum_ok hG8_ok hG8_plain glob8_lt (fun xs hk _=>?_) fn
 obtain ⟨a,_,rfl,h1⟩:=kn hk; obtain ⟨b,_,rfl,h2⟩:=kn h1; obtain rfl:=k0 h2
 exact ⟨cR,300,_,cR_ok,rfl,rfl,rfl,h a b,trivial⟩
theorem kBad_ok:GOk Tryz.prog glob8 hG8 156 kBad:=by
 refine gnum_ok hG8_ok hG8_plain glob8_lt (fun xs hk _=>?_) ⟨_,Tryz.func156,rfl⟩
 obtain ⟨a,_,rfl,h1⟩:=kn hk; obtain ⟨b,_,rfl,h2⟩:=kn h1; obtain rfl:=k0 h2
 exact ⟨cR,300,_,cR_ok,rfl,rfl,rfl,bad_run a b,trivial⟩
def tblR1:List (FuncId×PSpec):=[(152,kBin addS),(199,kBin subS),(153,kBin mulS),(184,kBin divS),(154,kUn sqrS),(183,kUn sqrtS),(186,kSc scaleS),(156,kBad)]
theorem tblR1_g:∀ x∈tblR1,GOk Tryz.prog glob8 hG8 x.1 x.2:=by
 intro x hx
 simp only [tblR1,List.mem_cons,List.not_mem_nil,or_false] at hx
 rcases hx with rfl|rfl|rfl|rfl|rfl|rfl|rfl|rfl
 .exact kBin_ok plus_run ⟨_,Tryz.func152,rfl⟩
 .exact kBin_ok minus_run ⟨_,Tryz.func199,rfl⟩
 .exact kBin_ok times_run ⟨_,Tryz.func153,rfl⟩
 .exact kBin_ok overR_run ⟨_,Tryz.func184,rfl⟩
 .exact kUn_ok square_run ⟨_,Tryz.func154,rfl⟩
 .exact kUn_ok rootR_run ⟨_,Tryz.func183,rfl⟩
 .exact kSc_ok by_run ⟨_,Tryz.func186,rfl⟩
 .exact kBad_ok
theorem reval_run (a0 b0 a1 b1 a2 b2 a3 b3 x y:Int):oneG (hG8.size+1) hG8.clock ((run cR 1000).call 188 (.gslice hG8.size 0 4 2 :: (Sh.mkL [sS] [.n x,.n y]).1) (coatH hG8 (Sh.mkL sp4 [.n a0,.n b0,.n a1,.n b1,.n a2,.n b2,.n a3,.n b3]).1)) =
  some (.tt,(outS (rEv a0 b0 a1 b1 a2 b2 a3 b3 x y)).av true):=by kernel_rfl
def revalV:List Nu->List Nu->Option (Prop×AV)
 | [.n a0,.n b0,.n a1,.n b1,.n a2,.n b2,.n a3,.n b3],[.n x,.n y]=>some (True,(outS (rEv a0 b0 a1 b1 a2 b2 a3 b3 x y)).av true)
 | _,_=>none
theorem reval_ok:HOk Tryz.prog glob8 hG8 188 (listSpec hG8 4 2 sp4 [sS] revalV):=by
 refine list_ok hG8_ok hG8_plain glob8_lt (fun ys zs p v e h=>?_) ⟨_,Tryz.func188,rfl⟩
 unfold revalV at e
 split at e
 .rename_i a0 b0 a1 b1 a2 b2 a3 b3 x y
  cases e
  exact ⟨cR,1000,.tt,cR_ok,rfl,rfl,rfl,rfl,rfl,reval_run a0 b0 a1 b1 a2 b2 a3 b3 x y,trivial⟩
 .cases e
end
end Go.Proofs.YtjmhddncomglmaaGreatDoor.K
namespace Go.Proofs.YtjmhddncomglmaaGreatDoor.K
open Go Go.Eng Go.Ar Go.Rd
noncomputable section
def rightC (b:Bool):Nat->List Itm->Option (Prop×AV×List ABody):=fun _ its=>match its with
 | [.s xs n ys]=>match suOf xs with
  | some s=>some (okF3 n ys/\s.g.size<1000000000/\rightS s ys=b,(match b with|true=>.bool false true|false=>.bool false false),[])
  | none=>none
 | _=>none
theorem rightC_ok (b:Bool):NOk Tryz.prog glob8 hG8 20 (lSpec hG [.s suI .i64] (rightC b)):=by
 refine up8 (lSpec_weaken rightA_ok fun sz its p v bs e=>?_)
 unfold rightC at e
 split at e
 .rename_i xs n ys
  split at e
  .rename_i s hs
   cases e
   refine ⟨okF3 n ys/\s.g.size<1000000000,rightA s ys,by simp only [suV,hs],fun hp=>⟨⟨hp.1,hp.2.1⟩,fun σ U hU=>?_⟩⟩
   have hU:VRel σ (.bool true (rightS s ys)) U:=hU
   rw [hp.2.2] at hU
   cases b <;> exact hU
  .cases e
 .cases e
def gN (s:PSpec):NSpec:=hN (gH s)
def tblR2:List (FuncId×NSpec):=(188,hN (listSpec hG8 4 2 sp4 [sS] revalV)) :: tblR1.map fun x=>(x.1,gN x.2)
theorem tblR2_g:∀ x∈tblR2,NOk Tryz.prog glob8 hG8 x.1 x.2:=by
 intro x hx
 rcases List.mem_cons.1 hx with rfl|hx
 .exact reval_ok.n
 .obtain ⟨y,hy,rfl⟩:=List.mem_map.1 hx
  exact (tblR1_g y hy).h.n
def cRr (b:Bool):Ctx:=mkN Tryz.prog glob8 hG8 ((20,lSpec hG [.s suI .i64] (rightC b)) :: tblR2) [] ext
theorem cRr_ok (b:Bool):CtxOk (cRr b):=mkN_ok prog_ok ext_ok (fun x hx=>by
 rcases List.mem_cons.1 hx with rfl|hx
 .exact rightC_ok b
 .exact tblR2_g x hx) (fun _ h=>by cases h)
def suHr8 (ys:List Int):Hp:=viewsH true hG8 [(.i64,ys)]
def suB8 (cs:List AV) (n:Int) (a b x y:Int):List AV:=[.agg (cs++[.lslice hG8.size n]),.agg [.int true .i64 a,.int true .i64 b],.agg [.int true .i64 x,.int true .i64 y]]
def rw8 (C:Ctx) (f:FuncId) (cs:List AV) (n:Int) (ys:List Int) (a b x y:Int):Option (Nd×AV):=oneG (hG8.size+1) hG8.clock ((run C 1000).call f (suB8 cs n a b x y) (suHr8 ys))
end
end Go.Proofs.YtjmhddncomglmaaGreatDoor.K
