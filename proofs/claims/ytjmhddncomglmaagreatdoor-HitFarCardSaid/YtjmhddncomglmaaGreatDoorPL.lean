/- What is proved: a law of hits returns true, whatever the input (part 12). No conditions beyond those of the row. -/
import Derived.Test.YtjmhddncomglmaaGreatDoorPE
import Derived.Test.YtjmhddncomglmaaGreatDoorPF
import Derived.Test.YtjmhddncomglmaaGreatDoorPH
import Derived.Test.YtjmhddncomglmaaGreatDoorPI
import Derived.Test.YtjmhddncomglmaaGreatDoorPJ
import Derived.Test.YtjmhddncomglmaaGreatDoorPK
set_option linter.unusedVariables false
set_option linter.unusedSimpArgs false
set_option linter.unusedSectionVars false
namespace Go.Proofs.YtjmhddncomglmaaGreatDoor.K
open Go Go.Eng Go.Ar Go.Rd
noncomputable section
theorem rt_0 (s:Su) (x:Nat->Int):rn cNm 20 s (.int true .i64 s.kd) 0 x=some (.p (rRightN s (fz 0 x)),.bool true (rRight s (fz 0 x))):=by kernel_rfl
theorem rt_1 (s:Su) (x:Nat->Int):rn cNm 20 s (.int true .i64 s.kd) 1 x=some (.p (rRightN s (fz 1 x)),.bool true (rRight s (fz 1 x))):=by kernel_rfl
theorem rt_2 (s:Su) (x:Nat->Int):rn cNm 20 s (.int true .i64 s.kd) 2 x=some (.p (rRightN s (fz 2 x)),.bool true (rRight s (fz 2 x))):=by kernel_rfl
theorem rt_3 (s:Su) (x:Nat->Int):rn cNm 20 s (.int true .i64 s.kd) 3 x=some (.p (rRightN s (fz 3 x)),.bool true (rRight s (fz 3 x))):=by kernel_rfl
theorem rt_4 (s:Su) (x:Nat->Int):rn cNm 20 s (.int true .i64 s.kd) 4 x=some (.p (rRightN s (fz 4 x)),.bool true (rRight s (fz 4 x))):=by kernel_rfl
theorem rt_5 (s:Su) (x:Nat->Int):rn cNm 20 s (.int true .i64 s.kd) 5 x=some (.p (rRightN s (fz 5 x)),.bool true (rRight s (fz 5 x))):=by kernel_rfl
theorem rt_6 (s:Su) (x:Nat->Int):rn cNm 20 s (.int true .i64 s.kd) 6 x=some (.p (rRightN s (fz 6 x)),.bool true (rRight s (fz 6 x))):=by kernel_rfl
theorem rt_7 (s:Su) (x:Nat->Int):rn cNm 20 s (.int true .i64 s.kd) 7 x=some (.p (rRightN s (fz 7 x)),.bool true (rRight s (fz 7 x))):=by kernel_rfl
theorem rt_8 (s:Su) (x:Nat->Int):rn cNm 20 s (.int true .i64 s.kd) 8 x=some (.p (rRightN s (fz 8 x)),.bool true (rRight s (fz 8 x))):=by kernel_rfl
theorem rt_9 (s:Su) (x:Nat->Int):rn cNm 20 s (.int true .i64 s.kd) 9 x=some (.tt,.bool false false):=by kernel_rfl
theorem rt_10 (s:Su) (x:Nat->Int):rn cNm 20 s (.int true .i64 s.kd) 10 x=some (.tt,.bool false false):=by kernel_rfl
theorem rt_11 (s:Su) (x:Nat->Int):rn cNm 20 s (.int true .i64 s.kd) 11 x=some (.tt,.bool false false):=by kernel_rfl
theorem rt_12 (s:Su) (x:Nat->Int):rn cNm 20 s (.int true .i64 s.kd) 12 x=some (.tt,.bool false false):=by kernel_rfl
end
end Go.Proofs.YtjmhddncomglmaaGreatDoor.K
namespace Go.Rd
open Go Go.Eng Go.Ar
theorem fE_eq (s:Su) (ys:List Int) (f:Bool):fE (cE0 s f) ys=bif !f&&numsB s&&filmsB ys then 0 else 110:=by
 rw [cE0_eq]
 cases hb:(!f&&numsB s) with
 | true=>simp only [cond_true,fE_0,Bool.true_and]
 | false=>simp only [cond_false,fE_1,Bool.false_and]
theorem len24 {ys:List Int} (h:ys.length<=24):decide (ys.length<=24)=true:=decide_eq_true h
theorem sel_kind {s:Su} {ys:List Int} {f:Bool} (h:ys.length<=24) (k:kindB s ys.isEmpty=f):rightS s ys=(f&&numsB s&&filmsB ys):=by
 unfold rightS
 rw [len24 h,k]
 cases f <;> cases numsB s <;> cases filmsB ys <;> rfl
theorem k1_eq {s:Su} {e:Bool} (hk:s.kd=1):kindB s e=k1N s:=by
 unfold kindB k1N noX noT noP
 rw [hk]
 have hp:k1P s=!(s.o==0||isM s):=by
  unfold k1P
  cases h:s.o==0 <;> simp [bne,h]
 simp only [beq_self_eq_true,Bool.true_and,Bool.and_true,show ((1:Int)==2)=false from rfl,show ((1:Int)==3)=false from rfl,show ((1:Int)==4)=false from rfl,Bool.false_and,Bool.or_false]
 have eb:∀ b:ByteArray,eqBytes b b=true:=fun b=>(eqBytes_iff _ _).2 rfl
 rw [hp,eb]
 cases h:(s.o==0||isM s) with
 | true=>
  simp only [Bool.not_true,cond_false,Bool.false_or,beq_self_eq_true,Bool.true_and,Bool.and_true]
  cases s.o==0 <;> cases s.l==0 <;> cases s.m==0 <;> cases s.dx==0 <;> cases s.dy==0 <;> cases s.ax==0 <;> cases s.ay==0 <;> cases s.az==0 <;> simp
 | false=>
  simp only [Bool.not_false,cond_true,Bool.true_or,beq_self_eq_true,Bool.true_and,Bool.and_true]
  cases s.l==0 <;> cases s.m==0 <;> cases s.dx==0 <;> cases s.dy==0 <;> cases s.ax==0 <;> cases s.ay==0 <;> cases s.az==0 <;> rfl
theorem k2_eq {s:Su} {e:Bool} (hk:s.kd=2):kindB s e=k2N s:=by
 unfold kindB k2N noA noT noP
 rw [hk]
 have eb:∀ b:ByteArray,eqBytes b b=true:=fun b=>(eqBytes_iff _ _).2 rfl
 simp only [eb,beq_self_eq_true,Bool.true_and,Bool.and_true,show ((2:Int)==1)=false from rfl,show ((2:Int)==3)=false from rfl,show ((2:Int)==4)=false from rfl,Bool.false_and,Bool.or_false,Bool.false_or]
 cases s.o==0 <;> cases s.dx==0 <;> cases s.dy==0 <;> cases s.ax==0 <;> cases s.ay==0 <;> cases s.az==0 <;> simp [Bool.and_assoc]
theorem k3_eq {s:Su} (hk:s.kd=3):kindB s true=k3N s:=by
 unfold kindB k3N noX noA noP
 rw [hk]
 simp only [beq_self_eq_true,Bool.true_and,Bool.and_true,show ((3:Int)==1)=false from rfl,show ((3:Int)==2)=false from rfl,show ((3:Int)==4)=false from rfl,Bool.false_and,Bool.or_false,Bool.false_or]
 cases s.o==0 <;> cases s.l==0 <;> cases s.m==0 <;> cases s.c==0 <;> cases s.k==0 <;> cases s.se==0 <;> cases s.ho==0 <;> cases noG s <;> simp [Bool.and_assoc]
theorem k4_eq {s:Su} (hk:s.kd=4):kindB s true=k4N s:=by
 unfold kindB k4N noX noA noP noT
 rw [hk]
 simp only [beq_self_eq_true,Bool.true_and,Bool.and_true,show ((4:Int)==1)=false from rfl,show ((4:Int)==2)=false from rfl,show ((4:Int)==3)=false from rfl,Bool.false_and,Bool.or_false,Bool.false_or]
 cases s.o==0 <;> cases s.l==0 <;> cases s.m==0 <;> cases s.k==0 <;> cases s.dx==0 <;> cases s.dy==0 <;> cases s.ax==0 <;> cases s.ay==0 <;> cases s.az==0 <;> cases noG s <;> simp [Bool.and_assoc]
theorem k34_f {s:Su} (hk:s.kd=3\/s.kd=4):kindB s false=false:=by
 unfold kindB
 rcases hk with hk|hk <;> rw [hk] <;> simp
theorem k0_f {s:Su} {e:Bool} (hk:inR 1 4 s.kd=false):kindB s e=false:=by
 unfold inR at hk
 unfold kindB
 have h:∀ k:Int,1<=k->k<=4->(s.kd==k)=false:=by
  intro k h1 h2
  simp only [Bool.and_eq_false_iff,decide_eq_false_iff_not] at hk
  rw [beq_eq_false_iff_ne]
  omega
 rw [h 1 (by decide) (by decide),h 2 (by decide) (by decide),h 3 (by decide) (by decide),h 4 (by decide) (by decide)]
 rfl
theorem chk1_eq {s:Su} {ys:List Int} (hk:s.kd=1) (h:ys.length<=24):chk1V s ys=bif rightS s ys then 0 else 110:=by
 unfold chk1V k1F
 rw [fE_eq,sel_kind h (k1_eq hk),fQ_t]
 cases k1N s <;> rfl
theorem chk2_eq {s:Su} {ys:List Int} (hk:s.kd=2) (h:ys.length<=24):chk2V s ys=bif rightS s ys then 0 else 110:=by
 unfold chk2V k2F
 rw [fE_eq,sel_kind h (k2_eq hk),fQ_t]
 cases k2N s <;> rfl
theorem chk3_eq {s:Su} (hk:s.kd=3):cE0 s (k3F s)=bif rightS s [] then 0 else 110:=by
 unfold k3F
 rw [cE0_eq,sel_kind (ys:=[]) (by decide) (k3_eq hk)]
 cases k3N s <;> cases numsB s <;> rfl
theorem chk4_eq {s:Su} (hk:s.kd=4):cE0 s (k4F s)=bif rightS s [] then 0 else 110:=by
 unfold k4F
 rw [cE0_eq,sel_kind (ys:=[]) (by decide) (k4_eq hk)]
 cases k4N s <;> cases numsB s <;> rfl
theorem right_long {s:Su} {ys:List Int} (h:24<ys.length):rightS s ys=false:=by
 unfold rightS
 rw [decide_eq_false (by omega),Bool.and_false]
theorem right_kind {s:Su} {ys:List Int} (h:kindB s ys.isEmpty=false):rightS s ys=false:=by
 unfold rightS
 rw [h,Bool.and_false,Bool.false_and,Bool.false_and]
theorem rT4_eq (s:Su):rT4 s=!(inR 0 1000000000 s.se&&inR 0 1000000000 s.ho&&(s.se==0||decide (s.ho<s.se))):=by
 unfold rT4 inR
 have e:∀ a b:Int,decide (a<b)=!decide (b<=a):=fun a b=>by
  cases h:decide (b<=a) <;> simp_all <;> omega
 have e2:∀ a b:Int,decide (a>b)=!decide (a<=b):=fun a b=>by
  cases h:decide (a<=b) <;> simp_all
 rw [e s.se 0,e s.ho 0,e2 s.se 1000000000,e2 s.ho 1000000000]
 cases h1:decide (0<=s.se) <;> cases h2:decide (s.se<=1000000000) <;> cases h3:decide (0<=s.ho) <;> cases h4:decide (s.ho<=1000000000) <;> try rfl
 have h1:=of_decide_eq_true h1
 cases h5:s.se==0 with
 | true=>
  have:=eq_of_beq h5
  rw [this]; rfl
 | false=>
  have:=beq_eq_false_iff_ne.1 h5
  rw [decide_eq_true (show s.se>0 by omega)]
  cases h6:decide (s.ho<s.se) <;> simp_all
theorem rSm_eq (s:Su) (ys:List Int):rSm s ys=(numsB s&&filmsB ys):=by
 unfold rSm rT1 rT2 rT3 rT5 numsB
 rw [sel_eq,rL_eq,rT4_eq]
 simp only [rI_eq,Bool.not_not]
 have e:(bif decide (s.o>=-3) then bif decide (s.o<=3) then bif noG s then true else nameB s.g else false else false)=(inR (-3) 3 s.o&&(noG s||nameB s.g)):=by
  have:decide (s.o>=-3)=decide (-3<=s.o):=rfl
  rw [this]
  unfold inR
  cases decide (-3<=s.o) <;> cases decide (s.o<=3) <;> cases noG s <;> rfl
 rw [e]
 generalize inR (-3) 3 s.o=y0
 generalize (noG s||nameB s.g)=y1
 generalize (s.se==0||decide (s.ho<s.se))=y2
 generalize inR 0 1000000000 s.se=y3
 generalize inR 0 1000000000 s.ho=y4
 generalize inR (-1000000000) 1000000000 s.c=x0
 generalize inR (-1000000000) 1000000000 s.l=x1
 generalize inR (-1000000000) 1000000000 s.th=x2
 generalize inR (-1000000000) 1000000000 s.dx=x3
 generalize inR (-1000000000) 1000000000 s.dy=x4
 generalize inR (-1000000000) 1000000000 s.a0=x5
 generalize inR (-1000000000) 1000000000 s.a1=x6
 generalize inR (-1000000000) 1000000000 s.a2=x7
 generalize inR (-1000000000) 1000000000 s.a3=x8
 generalize inR (-1000000000) 1000000000 s.f0=x9
 generalize inR (-1000000000) 1000000000 s.f1=x10
 generalize inR (-100000000) 100000000 s.k=z0
 generalize inR (-100000000) 100000000 s.m=z1
 generalize inR (-90000000) 90000000 s.ax=z2
 generalize inR (-90000000) 90000000 s.ay=z3
 generalize inR (-90000000) 90000000 s.az=z4
 generalize filmsB ys=f
 have cb:∀ a b:Bool,(bif !a then true else b)=(!a||b):=fun a b=>by cases a <;> rfl
 have cb2:∀ a b:Bool,(bif a then false else b)=(!a&&b):=fun a b=>by cases a <;> rfl
 have cb3:∀ a b:Bool,(bif a then b else false)=(a&&b):=fun a b=>by cases a <;> rfl
 simp only [cb,cb2,cb3,Bool.not_or,Bool.not_and,Bool.not_not]
 ac_rfl
theorem rRight_eq {s:Su} {ys:List Int} (h:ys.length<=24) (h3:3 ∣ ys.length):rRight s ys=rightS s ys:=by
 unfold rRight rightS
 rw [rSm_eq,len24 h,Bool.and_true]
 have hk:rKd s ys=kindB s ys.isEmpty:=by
  unfold rKd kindB rK1 rK2 rK3 rK4 rX rS rA rP noX noT noA noP
  have cb3:∀ a b:Bool,(bif a then b else false)=(a&&b):=fun a b=>by cases a <;> rfl
  by_cases c1:s.kd=1
  .rw [c1]
   simp only [beq_self_eq_true,Bool.not_true,Bool.false_and,cond_false,cond_true,Bool.true_and,show ((1:Int)==2)=false from rfl,show ((1:Int)==3)=false from rfl,show ((1:Int)==4)=false from rfl,Bool.or_false]
   cases s.o==0 <;> cases isM s <;> cases s.l==0 <;> cases s.m==0 <;> cases s.dx==0 <;> cases s.dy==0 <;> cases s.ax==0 <;> cases s.ay==0 <;> cases s.az==0 <;> simp
  .by_cases c2:s.kd=2
   .rw [c2]
    simp only [beq_self_eq_true,Bool.not_true,Bool.false_and,cond_false,cond_true,Bool.true_and,show ((2:Int)==1)=false from rfl,show ((2:Int)==3)=false from rfl,show ((2:Int)==4)=false from rfl,Bool.or_false,Bool.not_false,Bool.false_or]
    simp only [cb3,Bool.and_true]
    ac_rfl
   .by_cases c3:s.kd=3
    .rw [c3]
     simp only [beq_self_eq_true,Bool.not_true,Bool.false_and,cond_false,cond_true,Bool.true_and,show ((3:Int)==1)=false from rfl,show ((3:Int)==2)=false from rfl,show ((3:Int)==4)=false from rfl,Bool.or_false,Bool.not_false,Bool.false_or]
     cases ys with
     | nil=>
      simp only [cb3,Bool.and_true,List.isEmpty_nil,show ∀ a:Bool,(bif a then true else false)=a from fun a=>by cases a <;> rfl]
      ac_rfl
     | cons y l=>simp
    .by_cases c4:s.kd=4
     .rw [c4]
      simp only [beq_self_eq_true,Bool.not_true,Bool.false_and,cond_false,cond_true,Bool.true_and,show ((4:Int)==1)=false from rfl,show ((4:Int)==2)=false from rfl,show ((4:Int)==3)=false from rfl,Bool.or_false,Bool.not_false,Bool.false_or,Bool.and_false]
      cases ys with
      | nil=>
       simp only [cb3,Bool.and_true,List.isEmpty_nil,show ∀ a:Bool,(bif a then true else false)=a from fun a=>by cases a <;> rfl]
       ac_rfl
      | cons y l=>simp
     .rw [beq_eq_false_iff_ne.2 c1,beq_eq_false_iff_ne.2 c2,beq_eq_false_iff_ne.2 c3,beq_eq_false_iff_ne.2 c4]; rfl
 rw [hk]
 cases numsB s <;> cases filmsB ys <;> cases kindB s ys.isEmpty <;> rfl
theorem spinF_len:∀ (n i:Nat) (x:Nat->Int),(spinF n i x).length=n
 | 0,_,_=>rfl
 | n+1,i,x=>by rw [spinF,List.length_cons,spinF_len n]
theorem kdO_t {s:Su} (h:inR 1 4 s.kd=false):kdO s=false:=by
 unfold kdO
 rw [ix1_eq,oR_eq,h]; rfl
theorem inR_no {n:Int} (h1:n≠1) (h2:n≠2) (h3:n≠3) (h4:n≠4):inR 1 4 n=false:=by
 unfold inR
 cases a:decide (1<=n) <;> cases b:decide (n<=4) <;> simp_all <;> omega
end Go.Rd
namespace Go.Proofs.YtjmhddncomglmaaGreatDoor.K
open Go Go.Eng Go.Ar Go.Rd
noncomputable section
theorem len_fz (n:Nat) (x:Nat->Int):(fz n x).length=3*n:=spinF_len _ _ _
theorem r_long {s:Su} {n:Nat} {x:Nat->Int} (h:9<=n):(110:Int)=bif rightS s (fz n x) then 0 else 110:=by rw [right_long (by rw [len_fz]; omega)]; rfl
theorem r_kind {s:Su} {ys:List Int} (h:kindB s ys.isEmpty=false):(110:Int)=bif rightS s ys then 0 else 110:=by rw [right_kind h]; rfl
theorem ch1_all (s:Su) (x:Nat->Int) (hk:s.kd=1) (hg:s.g.size<1000000000):∀ n,n<=12->∃ nd v0,rn cNm 10 s (.int false .i64 1) n x=some (nd,v0)/\v0.num=true/\nd.val/\tell v0 (.int true .i64 (bif rightS s (fz n x) then 0 else 110)):=fun n hn=>match n,hn with
 | 0,_=>⟨_,_,ch1_0 s x,rfl,chk1N_t hg,⟨rfl,chk1_eq hk (by rw [len_fz]; decide)⟩⟩
 | 1,_=>⟨_,_,ch1_1 s x,rfl,chk1N_t hg,⟨rfl,chk1_eq hk (by rw [len_fz]; decide)⟩⟩
 | 2,_=>⟨_,_,ch1_2 s x,rfl,chk1N_t hg,⟨rfl,chk1_eq hk (by rw [len_fz]; decide)⟩⟩
 | 3,_=>⟨_,_,ch1_3 s x,rfl,chk1N_t hg,⟨rfl,chk1_eq hk (by rw [len_fz]; decide)⟩⟩
 | 4,_=>⟨_,_,ch1_4 s x,rfl,chk1N_t hg,⟨rfl,chk1_eq hk (by rw [len_fz]; decide)⟩⟩
 | 5,_=>⟨_,_,ch1_5 s x,rfl,chk1N_t hg,⟨rfl,chk1_eq hk (by rw [len_fz]; decide)⟩⟩
 | 6,_=>⟨_,_,ch1_6 s x,rfl,chk1N_t hg,⟨rfl,chk1_eq hk (by rw [len_fz]; decide)⟩⟩
 | 7,_=>⟨_,_,ch1_7 s x,rfl,chk1N_t hg,⟨rfl,chk1_eq hk (by rw [len_fz]; decide)⟩⟩
 | 8,_=>⟨_,_,ch1_8 s x,rfl,chk1N_t hg,⟨rfl,chk1_eq hk (by rw [len_fz]; decide)⟩⟩
 | 9,_=>⟨_,_,ch1_9 s x,rfl,chk1N_t hg,⟨rfl,r_long (by decide)⟩⟩
 | 10,_=>⟨_,_,ch1_10 s x,rfl,chk1N_t hg,⟨rfl,r_long (by decide)⟩⟩
 | 11,_=>⟨_,_,ch1_11 s x,rfl,chk1N_t hg,⟨rfl,r_long (by decide)⟩⟩
 | 12,_=>⟨_,_,ch1_12 s x,rfl,chk1N_t hg,⟨rfl,r_long (by decide)⟩⟩
theorem ch2_all (s:Su) (x:Nat->Int) (hk:s.kd=2) (hg:s.g.size<1000000000):∀ n,n<=12->∃ nd v0,rn cNm 10 s (.int false .i64 2) n x=some (nd,v0)/\v0.num=true/\nd.val/\tell v0 (.int true .i64 (bif rightS s (fz n x) then 0 else 110)):=fun n hn=>match n,hn with
 | 0,_=>⟨_,_,ch2_0 s x,rfl,chk2N_t hg,⟨rfl,chk2_eq hk (by rw [len_fz]; decide)⟩⟩
 | 1,_=>⟨_,_,ch2_1 s x,rfl,chk2N_t hg,⟨rfl,chk2_eq hk (by rw [len_fz]; decide)⟩⟩
 | 2,_=>⟨_,_,ch2_2 s x,rfl,chk2N_t hg,⟨rfl,chk2_eq hk (by rw [len_fz]; decide)⟩⟩
 | 3,_=>⟨_,_,ch2_3 s x,rfl,chk2N_t hg,⟨rfl,chk2_eq hk (by rw [len_fz]; decide)⟩⟩
 | 4,_=>⟨_,_,ch2_4 s x,rfl,chk2N_t hg,⟨rfl,chk2_eq hk (by rw [len_fz]; decide)⟩⟩
 | 5,_=>⟨_,_,ch2_5 s x,rfl,chk2N_t hg,⟨rfl,chk2_eq hk (by rw [len_fz]; decide)⟩⟩
 | 6,_=>⟨_,_,ch2_6 s x,rfl,chk2N_t hg,⟨rfl,chk2_eq hk (by rw [len_fz]; decide)⟩⟩
 | 7,_=>⟨_,_,ch2_7 s x,rfl,chk2N_t hg,⟨rfl,chk2_eq hk (by rw [len_fz]; decide)⟩⟩
 | 8,_=>⟨_,_,ch2_8 s x,rfl,chk2N_t hg,⟨rfl,chk2_eq hk (by rw [len_fz]; decide)⟩⟩
 | 9,_=>⟨_,_,ch2_9 s x,rfl,chk2N_t hg,⟨rfl,r_long (by decide)⟩⟩
 | 10,_=>⟨_,_,ch2_10 s x,rfl,chk2N_t hg,⟨rfl,r_long (by decide)⟩⟩
 | 11,_=>⟨_,_,ch2_11 s x,rfl,chk2N_t hg,⟨rfl,r_long (by decide)⟩⟩
 | 12,_=>⟨_,_,ch2_12 s x,rfl,chk2N_t hg,⟨rfl,r_long (by decide)⟩⟩
theorem ch3_all (s:Su) (x:Nat->Int) (hk:s.kd=3) (hg:s.g.size<1000000000):∀ n,n<=12->∃ nd v0,rn cNm 10 s (.int false .i64 3) n x=some (nd,v0)/\v0.num=true/\nd.val/\tell v0 (.int true .i64 (bif rightS s (fz n x) then 0 else 110)):=fun n hn=>match n,hn with
 | 0,_=>⟨_,_,ch3_0 s x,rfl,⟨w3_t,nmC_t hg⟩,⟨rfl,chk3_eq hk⟩⟩
 | 1,_=>⟨_,_,ch3_1 s x,rfl,w3_t,⟨rfl,r_kind (k34_f (.inl hk))⟩⟩
 | 2,_=>⟨_,_,ch3_2 s x,rfl,w3_t,⟨rfl,r_kind (k34_f (.inl hk))⟩⟩
 | 3,_=>⟨_,_,ch3_3 s x,rfl,w3_t,⟨rfl,r_kind (k34_f (.inl hk))⟩⟩
 | 4,_=>⟨_,_,ch3_4 s x,rfl,w3_t,⟨rfl,r_kind (k34_f (.inl hk))⟩⟩
 | 5,_=>⟨_,_,ch3_5 s x,rfl,w3_t,⟨rfl,r_kind (k34_f (.inl hk))⟩⟩
 | 6,_=>⟨_,_,ch3_6 s x,rfl,w3_t,⟨rfl,r_kind (k34_f (.inl hk))⟩⟩
 | 7,_=>⟨_,_,ch3_7 s x,rfl,w3_t,⟨rfl,r_kind (k34_f (.inl hk))⟩⟩
 | 8,_=>⟨_,_,ch3_8 s x,rfl,w3_t,⟨rfl,r_kind (k34_f (.inl hk))⟩⟩
 | 9,_=>⟨_,_,ch3_9 s x,rfl,w3_t,⟨rfl,r_kind (k34_f (.inl hk))⟩⟩
 | 10,_=>⟨_,_,ch3_10 s x,rfl,w3_t,⟨rfl,r_kind (k34_f (.inl hk))⟩⟩
 | 11,_=>⟨_,_,ch3_11 s x,rfl,w3_t,⟨rfl,r_kind (k34_f (.inl hk))⟩⟩
 | 12,_=>⟨_,_,ch3_12 s x,rfl,w3_t,⟨rfl,r_kind (k34_f (.inl hk))⟩⟩
theorem ch4_all (s:Su) (x:Nat->Int) (hk:s.kd=4) (hg:s.g.size<1000000000):∀ n,n<=12->∃ nd v0,rn cNm 10 s (.int false .i64 4) n x=some (nd,v0)/\v0.num=true/\nd.val/\tell v0 (.int true .i64 (bif rightS s (fz n x) then 0 else 110)):=fun n hn=>match n,hn with
 | 0,_=>⟨_,_,ch4_0 s x,rfl,⟨w4_t,nmC_t hg⟩,⟨rfl,chk4_eq hk⟩⟩
 | 1,_=>⟨_,_,ch4_1 s x,rfl,w4_t,⟨rfl,r_kind (k34_f (.inr hk))⟩⟩
 | 2,_=>⟨_,_,ch4_2 s x,rfl,w4_t,⟨rfl,r_kind (k34_f (.inr hk))⟩⟩
 | 3,_=>⟨_,_,ch4_3 s x,rfl,w4_t,⟨rfl,r_kind (k34_f (.inr hk))⟩⟩
 | 4,_=>⟨_,_,ch4_4 s x,rfl,w4_t,⟨rfl,r_kind (k34_f (.inr hk))⟩⟩
 | 5,_=>⟨_,_,ch4_5 s x,rfl,w4_t,⟨rfl,r_kind (k34_f (.inr hk))⟩⟩
 | 6,_=>⟨_,_,ch4_6 s x,rfl,w4_t,⟨rfl,r_kind (k34_f (.inr hk))⟩⟩
 | 7,_=>⟨_,_,ch4_7 s x,rfl,w4_t,⟨rfl,r_kind (k34_f (.inr hk))⟩⟩
 | 8,_=>⟨_,_,ch4_8 s x,rfl,w4_t,⟨rfl,r_kind (k34_f (.inr hk))⟩⟩
 | 9,_=>⟨_,_,ch4_9 s x,rfl,w4_t,⟨rfl,r_kind (k34_f (.inr hk))⟩⟩
 | 10,_=>⟨_,_,ch4_10 s x,rfl,w4_t,⟨rfl,r_kind (k34_f (.inr hk))⟩⟩
 | 11,_=>⟨_,_,ch4_11 s x,rfl,w4_t,⟨rfl,r_kind (k34_f (.inr hk))⟩⟩
 | 12,_=>⟨_,_,ch4_12 s x,rfl,w4_t,⟨rfl,r_kind (k34_f (.inr hk))⟩⟩
theorem ch0_all (s:Su) (x:Nat->Int) (hk:inR 1 4 s.kd=false) (hg:s.g.size<1000000000):∀ n,n<=12->∃ nd v0,rn cNk 10 s (.int true .i64 s.kd) n x=some (nd,v0)/\v0.num=true/\nd.val/\tell v0 (.int true .i64 (bif rightS s (fz n x) then 0 else 110)):=fun n hn=>match n,hn with
 | 0,_=>⟨_,_,ch0_0 s x,rfl,kdO_t hk,⟨rfl,r_kind (k0_f hk)⟩⟩
 | 1,_=>⟨_,_,ch0_1 s x,rfl,kdO_t hk,⟨rfl,r_kind (k0_f hk)⟩⟩
 | 2,_=>⟨_,_,ch0_2 s x,rfl,kdO_t hk,⟨rfl,r_kind (k0_f hk)⟩⟩
 | 3,_=>⟨_,_,ch0_3 s x,rfl,kdO_t hk,⟨rfl,r_kind (k0_f hk)⟩⟩
 | 4,_=>⟨_,_,ch0_4 s x,rfl,kdO_t hk,⟨rfl,r_kind (k0_f hk)⟩⟩
 | 5,_=>⟨_,_,ch0_5 s x,rfl,kdO_t hk,⟨rfl,r_kind (k0_f hk)⟩⟩
 | 6,_=>⟨_,_,ch0_6 s x,rfl,kdO_t hk,⟨rfl,r_kind (k0_f hk)⟩⟩
 | 7,_=>⟨_,_,ch0_7 s x,rfl,kdO_t hk,⟨rfl,r_kind (k0_f hk)⟩⟩
 | 8,_=>⟨_,_,ch0_8 s x,rfl,kdO_t hk,⟨rfl,r_kind (k0_f hk)⟩⟩
 | 9,_=>⟨_,_,ch0_9 s x,rfl,kdO_t hk,⟨rfl,r_kind (k0_f hk)⟩⟩
 | 10,_=>⟨_,_,ch0_10 s x,rfl,kdO_t hk,⟨rfl,r_kind (k0_f hk)⟩⟩
 | 11,_=>⟨_,_,ch0_11 s x,rfl,kdO_t hk,⟨rfl,r_kind (k0_f hk)⟩⟩
 | 12,_=>⟨_,_,ch0_12 s x,rfl,kdO_t hk,⟨rfl,r_kind (k0_f hk)⟩⟩
theorem rt_all (s:Su) (x:Nat->Int) (hg:s.g.size<1000000000):∀ n,n<=12->∃ nd v0,rn cNm 20 s (.int true .i64 s.kd) n x=some (nd,v0)/\v0.num=true/\nd.val/\tell v0 (.bool true (rightS s (fz n x))):=fun n hn=>match n,hn with
 | 0,_=>⟨_,_,rt_0 s x,rfl,rRightN_t hg,rRight_eq (by rw [len_fz]; decide) (by rw [len_fz]; exact Nat.dvd_mul_right _ _)⟩
 | 1,_=>⟨_,_,rt_1 s x,rfl,rRightN_t hg,rRight_eq (by rw [len_fz]; decide) (by rw [len_fz]; exact Nat.dvd_mul_right _ _)⟩
 | 2,_=>⟨_,_,rt_2 s x,rfl,rRightN_t hg,rRight_eq (by rw [len_fz]; decide) (by rw [len_fz]; exact Nat.dvd_mul_right _ _)⟩
 | 3,_=>⟨_,_,rt_3 s x,rfl,rRightN_t hg,rRight_eq (by rw [len_fz]; decide) (by rw [len_fz]; exact Nat.dvd_mul_right _ _)⟩
 | 4,_=>⟨_,_,rt_4 s x,rfl,rRightN_t hg,rRight_eq (by rw [len_fz]; decide) (by rw [len_fz]; exact Nat.dvd_mul_right _ _)⟩
 | 5,_=>⟨_,_,rt_5 s x,rfl,rRightN_t hg,rRight_eq (by rw [len_fz]; decide) (by rw [len_fz]; exact Nat.dvd_mul_right _ _)⟩
 | 6,_=>⟨_,_,rt_6 s x,rfl,rRightN_t hg,rRight_eq (by rw [len_fz]; decide) (by rw [len_fz]; exact Nat.dvd_mul_right _ _)⟩
 | 7,_=>⟨_,_,rt_7 s x,rfl,rRightN_t hg,rRight_eq (by rw [len_fz]; decide) (by rw [len_fz]; exact Nat.dvd_mul_right _ _)⟩
 | 8,_=>⟨_,_,rt_8 s x,rfl,rRightN_t hg,rRight_eq (by rw [len_fz]; decide) (by rw [len_fz]; exact Nat.dvd_mul_right _ _)⟩
 | 9,_=>⟨_,_,rt_9 s x,rfl,trivial,(right_long (by rw [len_fz]; decide)).symm⟩
 | 10,_=>⟨_,_,rt_10 s x,rfl,trivial,(right_long (by rw [len_fz]; decide)).symm⟩
 | 11,_=>⟨_,_,rt_11 s x,rfl,trivial,(right_long (by rw [len_fz]; decide)).symm⟩
 | 12,_=>⟨_,_,rt_12 s x,rfl,trivial,(right_long (by rw [len_fz]; decide)).symm⟩
def suV (V:Su->List Int->AV):Nat->List Itm->Option (Prop×AV×List ABody):=fun _ its=>match its with
 | [.s xs n ys]=>match suOf xs with
  | some s=>some (okF3 n ys/\s.g.size<1000000000,V s ys,[])
  | none=>none
 | _=>none
theorem tell_su (s:Su) (kd:AV) (k:Nat) (ys:List Int) (h:tell (.int true .i64 s.kd) kd):tellL (mkA false hG.size [.s suI .i64] [.s s.nus (k:Int) ys]) [suA s kd k]:=by
 have e:mkA false hG.size [.s suI .i64] [.s s.nus (k:Int) ys]=[.agg (s.ini++[.pslice hG.size (k:Int).toNat false (k:Int)])]:=rfl
 rw [e,Int.toNat_natCast]
 refine ⟨⟨h,?_⟩,trivial⟩
 repeat' first
  | exact trivial
  | refine ⟨⟨rfl,rfl⟩,?_⟩
  | refine ⟨rfl,?_⟩
  | exact ⟨⟨rfl,Nat.le_refl _,rfl⟩,trivial⟩
theorem su_ok {f:FuncId} {V:Su->List Int->AV} (fn:∃ fn:Func,Tryz.prog.funcs[f]?=some fn/\fn.body.isSome=true)
  (h:∀ (s:Su) (x:Nat->Int) (n:Nat),s.g.size<1000000000->n<=12->∃ (C:Ctx) (kd:AV) (nd:Nd) (v0:AV),CtxOk C/\C.P=Tryz.prog/\C.glob=glob/\tell (.int true .i64 s.kd) kd/\rn C f s kd n x=some (nd,v0)/\v0.num=true/\nd.val/\tell v0 (V s (fz n x))):
  NOk Tryz.prog glob hG f (lSpec hG [.s suI .i64] (suV V)):=by
 refine lsp_ok false hG_ok hG_plain glob_lt (fun sz its p v bs e hp=>?_) fn
 unfold suV at e
 split at e
 .rename_i xs n ys
  split at e
  .rename_i s hs
   cases e
   obtain ⟨ho,hg⟩:=hp
   obtain ⟨k,x,hk,rfl,rfl⟩:=okF3_of ho
   obtain rfl:=suOf_eq hs
   obtain ⟨C,kd,nd,v0,co,hP,hG',ht,hr,hnum,hnd,hv⟩:=h s x k hg hk
   obtain ⟨q,h1,h2,h3,h4⟩:=oneG_tells hr hnum
   refine ⟨⟨fun h0=>?_,trivial⟩,rfl,C,1000,[suA s kd k],nd,v0,q,co,hP,hG',tell_su s kd k _ ht,h1,h2,hnd,h3,h4 sz _ hv⟩
   have:=congrArg List.length h0
   rw [spinF_len] at this
   simp only [List.length_nil] at this
   omega
  .cases e
 .cases e
def chkA:Su->List Int->AV:=fun s ys=>.int true .i64 (bif rightS s ys then 0 else 110)
theorem chkA_ok:NOk Tryz.prog glob hG 10 (lSpec hG [.s suI .i64] (suV chkA)):=by
 refine su_ok ⟨_,Tryz.func10,rfl⟩ fun s x n hg hn=>?_
 by_cases c1:s.kd=1
 .obtain ⟨nd,v0,a⟩:=ch1_all s x c1 hg n hn
  exact ⟨cNm,.int false .i64 1,nd,v0,cNm_ok,rfl,rfl,⟨rfl,c1⟩,a⟩
 .by_cases c2:s.kd=2
  .obtain ⟨nd,v0,a⟩:=ch2_all s x c2 hg n hn
   exact ⟨cNm,.int false .i64 2,nd,v0,cNm_ok,rfl,rfl,⟨rfl,c2⟩,a⟩
  .by_cases c3:s.kd=3
   .obtain ⟨nd,v0,a⟩:=ch3_all s x c3 hg n hn
    exact ⟨cNm,.int false .i64 3,nd,v0,cNm_ok,rfl,rfl,⟨rfl,c3⟩,a⟩
   .by_cases c4:s.kd=4
    .obtain ⟨nd,v0,a⟩:=ch4_all s x c4 hg n hn
     exact ⟨cNm,.int false .i64 4,nd,v0,cNm_ok,rfl,rfl,⟨rfl,c4⟩,a⟩
    .obtain ⟨nd,v0,a⟩:=ch0_all s x (inR_no c1 c2 c3 c4) hg n hn
     exact ⟨cNk,.int true .i64 s.kd,nd,v0,cNk_ok,rfl,rfl,⟨rfl,rfl⟩,a⟩
def rightA:Su->List Int->AV:=fun s ys=>.bool true (rightS s ys)
theorem rightA_ok:NOk Tryz.prog glob hG 20 (lSpec hG [.s suI .i64] (suV rightA)):=by
 refine su_ok ⟨_,Tryz.func20,rfl⟩ fun s x n hg hn=>?_
 obtain ⟨nd,v0,a⟩:=rt_all s x hg n hn
 exact ⟨cNm,.int true .i64 s.kd,nd,v0,cNm_ok,rfl,rfl,⟨rfl,rfl⟩,a⟩
end
end Go.Proofs.YtjmhddncomglmaaGreatDoor.K
namespace Go.Proofs.YtjmhddncomglmaaGreatDoor.K
open Go Go.Eng Go.Ar Go.Rd
noncomputable section
def zeroV (p:Prop):Option (Prop×AV):=some (p,.int false .i64 0)
def vSt:List Nu->Option (Prop×AV)
 | [.n c,.n k,.n a0,.n a1,.n a2,.n a3,.n f0,.n f1,.n o,.n th,.s s,.n se,.n ho]=>zeroV (vStd c k a0 a1 a2 a3 f0 f1 o th s se ho)
 | _=>none
def vBi:List Nu->Option (Prop×AV)
 | [.n c,.n k,.n l,.n m,.n th,.s s,.n se,.n ho]=>zeroV (vBic c k l m th s se ho)
 | _=>none
def vBr:List Nu->Option (Prop×AV)
 | [.n th,.n dx,.n dy,.n ax,.n ay,.n az]=>zeroV (vBrk th dx dy ax ay az)
 | _=>none
def vId:List Nu->Option (Prop×AV)
 | [.n c,.n th,.n se,.n ho]=>zeroV (vIdl c th se ho)
 | _=>none
end
end Go.Proofs.YtjmhddncomglmaaGreatDoor.K
namespace Go.Proofs.YtjmhddncomglmaaGreatDoor.K
open Go Go.Eng Go.Ar Go.Rd
noncomputable section
def vSt1:List Nu->List Nu->List Nu->Option (Prop×AV)
 | [.n c,.n k,.n a0,.n a1,.n a2,.n a3,.n f0,.n f1,.n o,.n th,.s s,.n se,.n ho],[.n i0,.n j0,.n q0],[]=>zeroV (vStd c k a0 a1 a2 a3 f0 f1 o th s se ho/\inF i0 j0 q0)
 | _,_,_=>none
def vSt2:List Nu->List Nu->List Nu->Option (Prop×AV)
 | [.n c,.n k,.n a0,.n a1,.n a2,.n a3,.n f0,.n f1,.n o,.n th,.s s,.n se,.n ho],[.n i0,.n j0,.n q0,.n i1,.n j1,.n q1],[]=>zeroV (vStd c k a0 a1 a2 a3 f0 f1 o th s se ho/\inF i0 j0 q0/\inF i1 j1 q1)
 | _,_,_=>none
def vSt3:List Nu->List Nu->List Nu->Option (Prop×AV)
 | [.n c,.n k,.n a0,.n a1,.n a2,.n a3,.n f0,.n f1,.n o,.n th,.s s,.n se,.n ho],[.n i0,.n j0,.n q0,.n i1,.n j1,.n q1,.n i2,.n j2,.n q2],[]=>zeroV (vStd c k a0 a1 a2 a3 f0 f1 o th s se ho/\inF i0 j0 q0/\inF i1 j1 q1/\inF i2 j2 q2)
 | _,_,_=>none
def chkH:HSpec:=orH (gH (orG (gSpec [.a (stI++[noC])] vSt) (orG (gSpec [.a (biI++[noC])] vBi) (orG (gSpec [.a (brI++[noC])] vBr) (gSpec [.a (idI++[noC])] vId))))) (orH (coatSpec hG 1 stI [] vSt1) (orH (coatSpec hG 2 stI [] vSt2) (coatSpec hG 3 stI [] vSt3)))
end
end Go.Proofs.YtjmhddncomglmaaGreatDoor.K
namespace Go.Proofs.YtjmhddncomglmaaGreatDoor.K
open Go Go.Eng Go.Ar Go.Rd
noncomputable section
def sixV:AV:=.tuple [.agg [.int false .i64 0,.int false .i64 0],.int false .i64 6]
def twS (F:Sp):Option (Nd×Bool×AV×AV):=some (.p (okE F),F.e==0,goodV F,sixV)
def tBin (F:Int->Int->Int->Int->Sp):TSpec:=fun args _=>match Sh.readL [shS,shS] args with
 | some (_,[.n a,.n b,.n c,.n d])=>twS (F a b c d)
 | _=>none
def tUn (F:Int->Int->Sp):TSpec:=fun args _=>match Sh.readL [shS] args with
 | some (_,[.n a,.n b])=>twS (F a b)
 | _=>none
def tSc (F:Int->Int->Int->Int->Sp):TSpec:=fun args _=>match Sh.readL [shS,.i .i64,.i .i64] args with
 | some (_,[.n a,.n b,.n c,.n d])=>twS (F a b c d)
 | _=>none
theorem outS_six {σ:Sg} {s:Bool} {x:Sp} {W:Value} (h:VRel σ ((outS x).av s) W) (hx:x=⟨0,0,6⟩):VRel σ sixV W:=by
 subst hx
 obtain ⟨K,rfl,h1⟩:=h
 obtain ⟨V1,L1,e1,h2,h3⟩:=h1
 obtain ⟨V2,L2,e2,h4,h5⟩:=h3
 obtain ⟨K1,rfl,h6⟩:=h2
 obtain ⟨V3,L3,e3,h7,h8⟩:=h6
 obtain ⟨V4,L4,e4,h9,h10⟩:=h8
 have h4:=(Go.Eng.mkInt_rel _ _ _ _).1 h4
 have h7:=(Go.Eng.mkInt_rel _ _ _ _).1 h7
 have h9:=(Go.Eng.mkInt_rel _ _ _ _).1 h9
 exact ⟨K,rfl,_,L1,e1,⟨K1,rfl,V3,L3,e3,h7,V4,L4,e4,h9,h10⟩,V2,L2,e2,h4,h5⟩
theorem tw_rel {s:Bool} {F:Sp} (h:okE F):((F.e==0)=true->∀ σ V,VRel σ ((outS F).av s) V->VRel σ (goodV F) V)/\((F.e==0)=false->∀ σ V,VRel σ ((outS F).av s) V->VRel σ sixV V):=by
 refine ⟨fun e σ V k=>outS_good k (by simpa using e),fun e σ V k=>outS_six k ?_⟩
 rcases h with h|h
 .rw [h] at e; cases e
 .exact h
theorem two_bin {f:FuncId} {F:Int->Int->Int->Int->Sp} (g:PureOk Tryz.prog f (sBin F)):TOk Tryz.prog glob hG f (tBin F):=by
 refine two_of (g.g glob hG).h fun args _ nd p v w e=>?_
 unfold tBin at e
 split at e
 .rename_i s a b c d hr
  cases e
  refine ⟨.tt,(outS (F a b c d)).av s,?_,fun hn=>⟨trivial,tw_rel hn⟩⟩
  unfold gH sBin numSpec
  rw [hr]
 .cases e
theorem two_sc {f:FuncId} {F:Int->Int->Int->Int->Sp} (g:PureOk Tryz.prog f (sSc F)):TOk Tryz.prog glob hG f (tSc F):=by
 refine two_of (g.g glob hG).h fun args _ nd p v w e=>?_
 unfold tSc at e
 split at e
 .rename_i s a b c d hr
  cases e
  refine ⟨.tt,(outS (F a b c d)).av s,?_,fun hn=>⟨trivial,tw_rel hn⟩⟩
  unfold gH sSc numSpec
  rw [hr]
 .cases e
theorem two_un {f:FuncId} {F:Int->Int->Sp} (g:PureOk Tryz.prog f (sUn F)):TOk Tryz.prog glob hG f (tUn F):=by
 refine two_of (g.g glob hG).h fun args _ nd p v w e=>?_
 unfold tUn at e
 split at e
 .rename_i s a b hr
  cases e
  refine ⟨.tt,(outS (F a b)).av s,?_,fun hn=>⟨trivial,tw_rel hn⟩⟩
  unfold gH sUn numSpec
  rw [hr]
 .cases e
def tblTw:List (FuncId×TSpec):=[(54,tBin addS),(114,tBin subS),(90,tBin mulS),(89,tBin divS),(113,tUn sqrS),(79,tUn sqrtS),(112,tSc xScaleS)]
theorem tblTw_g:∀ x∈tblTw,TOk Tryz.prog glob hG x.1 x.2:=by
 intro x hx
 simp only [tblTw,List.mem_cons,List.not_mem_nil,or_false] at hx
 rcases hx with rfl|rfl|rfl|rfl|rfl|rfl|rfl
 .exact two_bin sadd_ok
 .exact two_bin ssub_ok
 .exact two_bin smul_ok
 .exact two_bin sdiv_ok
 .exact two_un ssqr_ok
 .exact two_un ssqrt_ok
 .exact two_sc sscale_ok
end
end Go.Proofs.YtjmhddncomglmaaGreatDoor.K
namespace Go.Proofs.YtjmhddncomglmaaGreatDoor.K
open Go Go.Eng Go.Ar
noncomputable section
def tblQ:List (FuncId×HSpec):=(111,gH chkSpec) :: tblP.map fun x=>(x.1,gH x.2)
theorem tblQ_g:∀ x∈tblQ,HOk Tryz.prog glob hG x.1 x.2:=by
 intro x hx
 simp only [tblQ,List.mem_cons,List.mem_map] at hx
 rcases hx with rfl|⟨y,hy,rfl⟩
 .exact chk0.h
 .exact (tblP_g y hy).h
def cQ:Ctx:=mkH Tryz.prog glob hG tblQ ext
theorem cQ_ok:CtxOk cQ:=mkH_ok prog_ok ext_ok tblQ_g
def sp4:List Sh:=[.i .i64,.i .i64,.i .i64,.i .i64,.i .i64,.i .i64,.i .i64,.i .i64]
def sS:Sh:=.a [.i .i64,.i .i64]
end
end Go.Proofs.YtjmhddncomglmaaGreatDoor.K
namespace Go.Proofs.YtjmhddncomglmaaGreatDoor.K
open Go Go.Eng Go.Ar Go.Rd
noncomputable section
def symV (s:Sp):AV:=.tuple [.agg [.int true .i64 s.lo,.int true .i64 s.hi],.int true .i64 s.e]
theorem eval_run (a0 b0 a1 b1 a2 b2 a3 b3 x y:Int):oneG (hG.size+1) hG.clock ((run cQ 1000).call 195 (.gslice hG.size 0 4 2 :: (Sh.mkL [sS] [.n x,.n y]).1) (coatH hG (Sh.mkL sp4 [.n a0,.n b0,.n a1,.n b1,.n a2,.n b2,.n a3,.n b3]).1)) =
  some (.p ((okSp a0 b0=true/\okSp a1 b1=true/\okSp a2 b2=true/\okSp a3 b3=true/\okSp x y=true)/\(evT a0 b0 a1 b1 a2 b2 a3 b3 x y).e=(evT a0 b0 a1 b1 a2 b2 a3 b3 x y).e),symV (evT a0 b0 a1 b1 a2 b2 a3 b3 x y)):=by kernel_rfl
def evalV:List Nu->List Nu->Option (Prop×AV)
 | [.n a0,.n b0,.n a1,.n b1,.n a2,.n b2,.n a3,.n b3],[.n x,.n y]=>some (okSp a0 b0=true/\okSp a1 b1=true/\okSp a2 b2=true/\okSp a3 b3=true/\okSp x y=true,symV (evT a0 b0 a1 b1 a2 b2 a3 b3 x y))
 | _,_=>none
theorem eval_ok:HOk Tryz.prog glob hG 195 (listSpec hG 4 2 sp4 [sS] evalV):=by
 refine list_ok (show hG.ok from rfl) hG_plain glob_lt (fun ys zs p v e h=>?_) ⟨_,Tryz.func195,rfl⟩
 unfold evalV at e
 split at e
 .rename_i a0 b0 a1 b1 a2 b2 a3 b3 x y
  cases e
  exact ⟨cQ,1000,_,cQ_ok,rfl,rfl,rfl,rfl,rfl,eval_run a0 b0 a1 b1 a2 b2 a3 b3 x y,h,rfl⟩
 .cases e
def tEval:TSpec:=fun args h=>match args with
 | .gslice id off m z :: rest=>match Nat.beq m 4&&Nat.beq off 0&&Nat.beq z 2&&Nat.ble hG.size id with
  | true=>match h.get id with
   | some ⟨_,.grown fc⟩=>match Sh.readL sp4 fc with
    | some (_,[.n a0,.n b0,.n a1,.n b1,.n a2,.n b2,.n a3,.n b3])=>match Sh.readL [sS] rest with
     | some (_,[.n x,.n y])=>some (.p ((okSp a0 b0=true/\okSp a1 b1=true/\okSp a2 b2=true/\okSp a3 b3=true/\okSp x y=true)/\okE (evT a0 b0 a1 b1 a2 b2 a3 b3 x y)),(evT a0 b0 a1 b1 a2 b2 a3 b3 x y).e==0,goodV (evT a0 b0 a1 b1 a2 b2 a3 b3 x y),sixV)
     | _=>none
    | _=>none
   | _=>none
  | false=>none
 | _=>none
theorem sym_good {σ:Sg} {s:Sp} {V:Value} (h:VRel σ (symV s) V) (e:s.e=0):VRel σ (goodV s) V:=by
 unfold symV at h; rw [e] at h; exact h
theorem sym_six {σ:Sg} {s:Sp} {V:Value} (h:VRel σ (symV s) V) (e:s=⟨0,0,6⟩):VRel σ sixV V:=by
 subst e; exact h
theorem teval_ok:TOk Tryz.prog glob hG 195 tEval:=by
 refine two_of eval_ok fun args hp nd p v w e=>?_
 unfold tEval at e
 split at e
 .rename_i id off m z rest
  split at e
  .rename_i hb
   split at e
   .rename_i w' fc hid
    split at e
    .rename_i s2 a0 b0 a1 b1 a2 b2 a3 b3 r2
     split at e
     .rename_i s3 x y r3
      cases e
      refine ⟨.p (okSp a0 b0=true/\okSp a1 b1=true/\okSp a2 b2=true/\okSp a3 b3=true/\okSp x y=true),symV (evT a0 b0 a1 b1 a2 b2 a3 b3 x y),?_,fun hn=>⟨hn.1,fun q σ V k=>sym_good k (by simpa using q),fun q σ V k=>sym_six k ?_⟩⟩
      .simp only [listSpec,hb,hid,r2,r3,evalV]
      .rcases hn.2 with h|h
       .rw [h] at q; cases q
       .exact h
     .cases e
    .cases e
   .cases e
  .cases e
 .cases e
end
end Go.Proofs.YtjmhddncomglmaaGreatDoor.K
namespace Go.Proofs.YtjmhddncomglmaaGreatDoor.K
open Go Go.Eng Go.Ar Go.Rd
noncomputable section
def tblT:List (FuncId×HSpec):=[(10,chkH),(111,gH chkSpec)]
def tblTe:List (FuncId×TSpec):=(195,tEval) :: tblTw
theorem tblTe_g:∀ x∈tblTe,TOk Tryz.prog glob hG x.1 x.2:=by
 intro x hx
 rcases List.mem_cons.1 hx with rfl|hx
 .exact teval_ok
 .exact tblTw_g x hx
def cT:Ctx:=mkT Tryz.prog glob hG tblT tblTe ext
end
end Go.Proofs.YtjmhddncomglmaaGreatDoor.K
namespace Go.Rd
open Go Go.Eng Go.Ar
section
variable (c k a0 a1 a2 a3 a b d e:Int)
def cb (n m:Int):Sp:=xScaleS 4294967296 4294967296 (IntKind.i64.wrap (n*m)) 1000000
def q1:Sp:=evalS (u0 c k a b d e) (cb a0 2) (cb a1 3) (cb a2 4) (cb a3 5)
def q2:Sp:=mulS (u0 c k a b d e).lo (u0 c k a b d e).hi (q1 c k a0 a1 a2 a3 a b d e).lo (q1 c k a0 a1 a2 a3 a b d e).hi
def fif (a b:Int):Sp:=xScaleS a b 1 50
def q3:Sp:=mulS (fif a b).lo (fif a b).hi (q2 c k a0 a1 a2 a3 a b d e).lo (q2 c k a0 a1 a2 a3 a b d e).hi
def q4:Sp:=addS (s14 c k a b d e).lo (s14 c k a b d e).hi (q3 c k a0 a1 a2 a3 a b d e).lo (q3 c k a0 a1 a2 a3 a b d e).hi
def q5:Sp:=mulS (fif d e).lo (fif d e).hi (q2 c k a0 a1 a2 a3 a b d e).lo (q2 c k a0 a1 a2 a3 a b d e).hi
def q6:Sp:=addS (s12 c k a b d e).lo (s12 c k a b d e).hi (q5 c k a0 a1 a2 a3 a b d e).lo (q5 c k a0 a1 a2 a3 a b d e).hi
def slB:Bool:=z0 (s2 c k a b d e)&&(z0 (s8 c k a b d e)&&(z0 (s9 c k a b d e)&&z0 (s10 c k a b d e)))
def slE:Bool:=z0 (s2 c k a b d e)&&z0 (q1 c k a0 a1 a2 a3 a b d e)
def slA:Bool:=(slB c k a b d e&&(z0 (s14 c k a b d e)&&(slE c k a0 a1 a2 a3 a b d e&&(z0 (q2 c k a0 a1 a2 a3 a b d e)&&(z0 (q3 c k a0 a1 a2 a3 a b d e)&&z0 (q4 c k a0 a1 a2 a3 a b d e)))))) &&
 (slB c k a b d e&&(z0 (s12 c k a b d e)&&(slE c k a0 a1 a2 a3 a b d e&&(z0 (q2 c k a0 a1 a2 a3 a b d e)&&(z0 (q5 c k a0 a1 a2 a3 a b d e)&&z0 (q6 c k a0 a1 a2 a3 a b d e))))))
def slP:Bool:=(slB c k a b d e&&z0 (s14 c k a b d e))&&(slB c k a b d e&&z0 (s12 c k a b d e))
end
section
variable (c k l m a b d e:Int)
def slXB:Bool:=z0 (b8 c k l m a b d e)&&(z0 (b11 c k l m a b d e)&&(z0 (b12 c k l m a b d e)&&z0 (b13 c k l m a b d e)))
def slX:Bool:=(slXB c k l m a b d e&&(z0 (b17 c k l m a b d e)&&(z0 (b26 c k l m a b d e)&&(z0 (b28 c k l m a b d e)&&(z0 (b12 c k l m a b d e)&&z0 (b29 c k l m a b d e)))))) &&
 (slXB c k l m a b d e&&(z0 (b21 c k l m a b d e)&&(z0 (b22 c k l m a b d e)&&(z0 (b24 c k l m a b d e)&&(z0 (b12 c k l m a b d e)&&z0 (b25 c k l m a b d e))))))
end
def t1 (g:Int):Bool:=bif g != 0 then true else false
def tw1 (g:Int) (p:Bool) (v:Int):Int:=bif t1 g||!t1 g&&p then bif t1 g then 0 else v else 0
def twE (g:Int) (p:Bool):Int:=bif t1 g||!t1 g&&p then bif t1 g then g else 0 else 6
def sp2V (g:Int) (p:Bool) (u v:Sp):AV:=.tuple [.agg [.int true .i64 (tw1 g p u.lo),.int true .i64 (tw1 g p u.hi)],.agg [.int true .i64 (tw1 g p v.lo),.int true .i64 (tw1 g p v.hi)],.int true .i64 (twE g p)]
end Go.Rd
namespace Go.Rd
open Go Go.Eng Go.Ar
section
variable (c k a0 a1 a2 a3 a b d e:Int)
def slC:Bool:=bif asp a0 a1 a2 a3 then slA c k a0 a1 a2 a3 a b d e else slP c k a b d e
def slU:Sp:=bif asp a0 a1 a2 a3 then q4 c k a0 a1 a2 a3 a b d e else s14 c k a b d e
def slV:Sp:=bif asp a0 a1 a2 a3 then q6 c k a0 a1 a2 a3 a b d e else s12 c k a b d e
def slpV:AV:=sp2V (sagS c k a0 a1 a2 a3 a b d e).e (slC c k a0 a1 a2 a3 a b d e) (slU c k a0 a1 a2 a3 a b d e) (slV c k a0 a1 a2 a3 a b d e)
theorem slpV_t (h:asp a0 a1 a2 a3=true):sp2V (sagS c k a0 a1 a2 a3 a b d e).e (slA c k a0 a1 a2 a3 a b d e) (q4 c k a0 a1 a2 a3 a b d e) (q6 c k a0 a1 a2 a3 a b d e)=slpV c k a0 a1 a2 a3 a b d e:=by
 unfold slpV slC slU slV; rw [h]; rfl
theorem slpV_f (h:asp a0 a1 a2 a3=false):sp2V (sagS c k a0 a1 a2 a3 a b d e).e (slP c k a b d e) (s14 c k a b d e) (s12 c k a b d e)=slpV c k a0 a1 a2 a3 a b d e:=by
 unfold slpV slC slU slV; rw [h]; rfl
end
def slpX (c k l m a b d e:Int):AV:=sp2V (sagX c k l m a b d e).e (slX c k l m a b d e) (b29 c k l m a b d e) (b25 c k l m a b d e)
end Go.Rd
namespace Go.Rd
open Go Go.Eng Go.Ar
structure Vs where
 c:Int
 k:Int
 a0:Int
 a1:Int
 a2:Int
 a3:Int
 a:Int
 b:Int
 x:Int
 y:Int
structure Vx where
 c:Int
 k:Int
 l:Int
 m:Int
 a:Int
 b:Int
 x:Int
 y:Int
abbrev S0 (v:Vs):Sp:=s0 v.c v.k v.a v.b v.x v.y
abbrev S1 (v:Vs):Sp:=s1 v.c v.k v.a v.b v.x v.y
abbrev S2 (v:Vs):Sp:=s2 v.c v.k v.a v.b v.x v.y
abbrev S3 (v:Vs):Sp:=s3 v.c v.k v.a v.b v.x v.y
abbrev S4 (v:Vs):Sp:=s4 v.c v.k v.a v.b v.x v.y
abbrev S5 (v:Vs):Sp:=s5 v.c v.k v.a v.b v.x v.y
abbrev S6 (v:Vs):Sp:=s6 v.c v.k v.a v.b v.x v.y
abbrev S7 (v:Vs):Sp:=s7 v.c v.k v.a v.b v.x v.y
abbrev S8 (v:Vs):Sp:=s8 v.c v.k v.a v.b v.x v.y
abbrev S9 (v:Vs):Sp:=s9 v.c v.k v.a v.b v.x v.y
abbrev S10 (v:Vs):Sp:=s10 v.c v.k v.a v.b v.x v.y
abbrev S11 (v:Vs):Sp:=s11 v.c v.k v.a v.b v.x v.y
abbrev S12 (v:Vs):Sp:=s12 v.c v.k v.a v.b v.x v.y
abbrev S13 (v:Vs):Sp:=s13 v.c v.k v.a v.b v.x v.y
abbrev S14 (v:Vs):Sp:=s14 v.c v.k v.a v.b v.x v.y
abbrev Q1 (v:Vs):Sp:=q1 v.c v.k v.a0 v.a1 v.a2 v.a3 v.a v.b v.x v.y
abbrev Q2 (v:Vs):Sp:=q2 v.c v.k v.a0 v.a1 v.a2 v.a3 v.a v.b v.x v.y
abbrev Q3 (v:Vs):Sp:=q3 v.c v.k v.a0 v.a1 v.a2 v.a3 v.a v.b v.x v.y
abbrev Q4 (v:Vs):Sp:=q4 v.c v.k v.a0 v.a1 v.a2 v.a3 v.a v.b v.x v.y
abbrev Q5 (v:Vs):Sp:=q5 v.c v.k v.a0 v.a1 v.a2 v.a3 v.a v.b v.x v.y
abbrev Q6 (v:Vs):Sp:=q6 v.c v.k v.a0 v.a1 v.a2 v.a3 v.a v.b v.x v.y
abbrev U0 (v:Vs):Sp:=u0 v.c v.k v.a v.b v.x v.y
abbrev U1 (v:Vs):Sp:=u1 v.c v.k v.a0 v.a1 v.a2 v.a3 v.a v.b v.x v.y
abbrev U2 (v:Vs):Sp:=u2 v.c v.k v.a v.b v.x v.y
abbrev U3 (v:Vs):Sp:=u3 v.c v.k v.a0 v.a1 v.a2 v.a3 v.a v.b v.x v.y
abbrev U4 (v:Vs):Sp:=u4 v.c v.k v.a0 v.a1 v.a2 v.a3 v.a v.b v.x v.y
abbrev CA0 (v:Vs):Sp:=ca v.a0
abbrev CB0 (v:Vs):Sp:=cb v.a0 2
abbrev CA1 (v:Vs):Sp:=ca v.a1
abbrev CB1 (v:Vs):Sp:=cb v.a1 3
abbrev CA2 (v:Vs):Sp:=ca v.a2
abbrev CB2 (v:Vs):Sp:=cb v.a2 4
abbrev CA3 (v:Vs):Sp:=ca v.a3
abbrev CB3 (v:Vs):Sp:=cb v.a3 5
abbrev FA (v:Vs):Sp:=fif v.a v.b
abbrev FB (v:Vs):Sp:=fif v.x v.y
abbrev AS (v:Vs):Bool:=!(v.a0==0&&(v.a1==0&&(v.a2==0&&(v.a3==0&&true))))
abbrev X0 (v:Vx):Sp:=b0 v.c v.k v.l v.m v.a v.b v.x v.y
abbrev X1 (v:Vx):Sp:=b1 v.c v.k v.l v.m v.a v.b v.x v.y
abbrev X2 (v:Vx):Sp:=b2 v.c v.k v.l v.m v.a v.b v.x v.y
abbrev X3 (v:Vx):Sp:=b3 v.c v.k v.l v.m v.a v.b v.x v.y
abbrev X4 (v:Vx):Sp:=b4 v.c v.k v.l v.m v.a v.b v.x v.y
abbrev X5 (v:Vx):Sp:=b5 v.c v.k v.l v.m v.a v.b v.x v.y
abbrev X6 (v:Vx):Sp:=b6 v.c v.k v.l v.m v.a v.b v.x v.y
abbrev X7 (v:Vx):Sp:=b7 v.c v.k v.l v.m v.a v.b v.x v.y
abbrev X8 (v:Vx):Sp:=b8 v.c v.k v.l v.m v.a v.b v.x v.y
abbrev X9 (v:Vx):Sp:=b9 v.c v.k v.l v.m v.a v.b v.x v.y
abbrev X10 (v:Vx):Sp:=b10 v.c v.k v.l v.m v.a v.b v.x v.y
abbrev X11 (v:Vx):Sp:=b11 v.c v.k v.l v.m v.a v.b v.x v.y
abbrev X12 (v:Vx):Sp:=b12 v.c v.k v.l v.m v.a v.b v.x v.y
abbrev X13 (v:Vx):Sp:=b13 v.c v.k v.l v.m v.a v.b v.x v.y
abbrev X14 (v:Vx):Sp:=b14 v.c v.k v.l v.m v.a v.b v.x v.y
abbrev X15 (v:Vx):Sp:=b15 v.c v.k v.l v.m v.a v.b v.x v.y
abbrev X16 (v:Vx):Sp:=b16 v.c v.k v.l v.m v.a v.b v.x v.y
abbrev X17 (v:Vx):Sp:=b17 v.c v.k v.l v.m v.a v.b v.x v.y
abbrev X18 (v:Vx):Sp:=b18 v.c v.k v.l v.m v.a v.b v.x v.y
abbrev X19 (v:Vx):Sp:=b19 v.c v.k v.l v.m v.a v.b v.x v.y
abbrev X20 (v:Vx):Sp:=b20 v.c v.k v.l v.m v.a v.b v.x v.y
abbrev X21 (v:Vx):Sp:=b21 v.c v.k v.l v.m v.a v.b v.x v.y
abbrev X22 (v:Vx):Sp:=b22 v.c v.k v.l v.m v.a v.b v.x v.y
abbrev X23 (v:Vx):Sp:=b23 v.c v.k v.l v.m v.a v.b v.x v.y
abbrev X24 (v:Vx):Sp:=b24 v.c v.k v.l v.m v.a v.b v.x v.y
abbrev X25 (v:Vx):Sp:=b25 v.c v.k v.l v.m v.a v.b v.x v.y
abbrev X26 (v:Vx):Sp:=b26 v.c v.k v.l v.m v.a v.b v.x v.y
abbrev X27 (v:Vx):Sp:=b27 v.c v.k v.l v.m v.a v.b v.x v.y
abbrev X28 (v:Vx):Sp:=b28 v.c v.k v.l v.m v.a v.b v.x v.y
abbrev X29 (v:Vx):Sp:=b29 v.c v.k v.l v.m v.a v.b v.x v.y
abbrev O (s:Sp):Prop:=okSp s.lo s.hi=true
def ta1 (v:Vs):Bool:=!(z0 (S0 v))
def ta3 (v:Vs):Bool:=!(z0 (S1 v))
def ta5 (v:Vs):Bool:=!(z0 (S2 v))
def ta7 (v:Vs):Bool:=(ta1 v)||(z0 (S0 v))&&((ta3 v)||(z0 (S1 v))&&((ta5 v)||(z0 (S2 v))&&!(z0 (S3 v))))
def ta8 (v:Vs):Bool:=(z0 (S0 v))&&((z0 (S1 v))&&((z0 (S2 v))&&(z0 (S3 v))))
def ta12 (v:Vs):Bool:=!(z0 (S4 v))
def ta14 (v:Vs):Bool:=(ta8 v)&&((z0 (S4 v))&&(z0 (S5 v)))
def ta17 (v:Vs):Bool:=decide ((S6 v).lo<=0)
def ta18 (v:Vs):Bool:=!(ta17 v)
def ta21 (v:Vs):Bool:=!(z0 (S8 v))
def ta25 (v:Vs):Bool:=!(z0 (S9 v))
def ta27 (v:Vs):Bool:=!(z0 (S10 v))
def ta28 (v:Vs):Bool:=(ta14 v)&&((z0 (S6 v))&&((ta18 v)&&((z0 (S7 v))&&((z0 (S8 v))&&((z0 (S9 v))&&(z0 (S10 v)))))))
def ta29 (v:Vs):Bool:=!(v.a0==0&&(v.a1==0&&(v.a2==0&&(v.a3==0&&true))))
def ta31 (v:Vs):Bool:=(z0 (S0 v))&&((z0 (S1 v))&&((z0 (S2 v))&&(z0 (U0 v))))
def ta36 (v:Vs):Bool:=(z0 (CA0 v))&&((z0 (CA1 v))&&((z0 (CA2 v))&&(z0 (CA3 v))))
def ta50 (v:Vs):Bool:=(ta31 v)&&((ta36 v)&&(z0 (U1 v)))
def ta55 (v:Vs):Bool:=(ta14 v)&&((z0 (S6 v))&&(ta17 v))
def ta56 (v:Vs):Bool:=(ta7 v)||(ta8 v)&&((ta12 v)||(z0 (S4 v))&&!(z0 (S5 v)))
def ta57 (v:Vs):Bool:=!(z0 (S7 v))
def ta58 (v:Vs):Bool:=(z0 (S6 v))&&((ta18 v)&&((ta57 v)||(z0 (S7 v))&&((ta21 v)||(z0 (S8 v))&&((ta25 v)||(z0 (S9 v))&&(ta27 v)))))
def ta59 (v:Vs):Int:=bif (ta56 v) then bif (ta7 v) then bif (ta1 v) then v.x else bif (ta3 v) then v.x else bif (ta5 v) then v.x else v.x else bif (ta12 v) then v.x else v.x else bif (ta58 v) then bif (ta57 v) then v.x else bif (ta21 v) then v.x else bif (ta25 v) then v.x else v.x else v.x
def ta60 (v:Vs):Int:=bif (ta56 v) then bif (ta7 v) then bif (ta1 v) then v.y else bif (ta3 v) then v.y else bif (ta5 v) then v.y else v.y else bif (ta12 v) then v.y else v.y else bif (ta58 v) then bif (ta57 v) then v.y else bif (ta21 v) then v.y else bif (ta25 v) then v.y else v.y else v.y
def taF (p:Prop) (v:Vs):Prop:=((p/\okSp v.a v.b=true/\okSp v.x v.y=true)/\(((okE (S0 v)/\((ta1 v)=true->(v.c=v.c/\v.x=v.x/\v.y=v.y)/\v.c=v.c/\v.c=v.c)/\((z0 (S0 v))=true->(v.c=v.c/\v.x=v.x/\v.y=v.y)/\okE (S1 v)/\((ta3 v)=true->v.c=v.c/\v.c=v.c)/\((z0 (S1 v))=true->v.c=v.c/\okE (S2 v)/\((ta5 v)=true->v.c=v.c)/\((z0 (S2 v))=true->v.c=v.c/\okE (S3 v)))))/\((ta7 v)=true->v.k=v.k)/\((ta8 v)=true->okE (S4 v)/\((ta12 v)=true->v.k=v.k)/\((z0 (S4 v))=true->v.k=v.k/\okE (S5 v))))/\((ta14 v)=true->okE (S6 v)/\((z0 (S6 v))=true->(ta18 v)=true->okE (S7 v)/\((z0 (S7 v))=true->okE (S8 v)/\((ta21 v)=true->(((S7 v).lo=(S7 v).lo/\(S7 v).hi=(S7 v).hi)/\(S7 v).lo=(S7 v).lo/\(S7 v).hi=(S7 v).hi)/\((S7 v).lo=(S7 v).lo/\(S7 v).hi=(S7 v).hi)/\((S7 v).lo=(S7 v).lo/\(S7 v).hi=(S7 v).hi)/\(S7 v).lo=(S7 v).lo/\(S7 v).hi=(S7 v).hi)/\((z0 (S8 v))=true->(((S7 v).lo=(S7 v).lo/\(S7 v).hi=(S7 v).hi)/\(S7 v).lo=(S7 v).lo/\(S7 v).hi=(S7 v).hi)/\okE (S9 v)/\((ta25 v)=true->((S7 v).lo=(S7 v).lo/\(S7 v).hi=(S7 v).hi)/\((S7 v).lo=(S7 v).lo/\(S7 v).hi=(S7 v).hi)/\(S7 v).lo=(S7 v).lo/\(S7 v).hi=(S7 v).hi)/\((z0 (S9 v))=true->((S7 v).lo=(S7 v).lo/\(S7 v).hi=(S7 v).hi)/\okE (S10 v)/\((ta27 v)=true->((S7 v).lo=(S7 v).lo/\(S7 v).hi=(S7 v).hi)/\(S7 v).lo=(S7 v).lo/\(S7 v).hi=(S7 v).hi)/\((z0 (S10 v))=true->((S7 v).lo=(S7 v).lo/\(S7 v).hi=(S7 v).hi)/\(S7 v).lo=(S7 v).lo/\(S7 v).hi=(S7 v).hi)))))))/\((ta28 v)=true->(ta29 v)=true->((okE (S0 v)/\((ta1 v)=true->v.x=v.x/\v.y=v.y)/\((z0 (S0 v))=true->(v.x=v.x/\v.y=v.y)/\okE (S1 v)/\((z0 (S1 v))=true->okE (S2 v)/\((z0 (S2 v))=true->okE (U0 v)))))/\((ta31 v)=true->(okE (CA0 v)/\((z0 (CA0 v))=true->okE (CA1 v)/\((z0 (CA1 v))=true->okE (CA2 v)/\((z0 (CA2 v))=true->okE (CA3 v)))))/\((ta36 v)=true->((O (CA0 v)/\O (CA1 v)/\O (CA2 v)/\O (CA3 v)/\O (U0 v))/\okE (U1 v))/\((z0 (U1 v))=true->(U1 v).lo=(U1 v).lo/\(U1 v).hi=(U1 v).hi))))/\((ta50 v)=true->okE (U2 v)/\((!(z0 (U2 v)))=true->(((U1 v).lo=(U1 v).lo/\(U1 v).hi=(U1 v).hi)/\(S10 v).lo=(S10 v).lo/\(S10 v).hi=(S10 v).hi)/\(S10 v).lo=(S10 v).lo/\(S10 v).hi=(S10 v).hi)/\((z0 (U2 v))=true->(((U1 v).lo=(U1 v).lo/\(U1 v).hi=(U1 v).hi)/\(S10 v).lo=(S10 v).lo/\(S10 v).hi=(S10 v).hi)/\okE (U3 v)/\((!(z0 (U3 v)))=true->(S10 v).lo=(S10 v).lo/\(S10 v).hi=(S10 v).hi)/\((z0 (U3 v))=true->((S10 v).lo=(S10 v).lo/\(S10 v).hi=(S10 v).hi)/\okE (U4 v))))/\(((ta1 v)||(z0 (S0 v))&&((ta3 v)||(z0 (S1 v))&&((ta5 v)||(z0 (S2 v))&&!(z0 (U0 v))))||(ta31 v)&&((ta36 v)&&!(z0 (U1 v))||((z0 (CA0 v))&&((z0 (CA1 v))&&((z0 (CA2 v))&&!(z0 (CA3 v))||!(z0 (CA2 v)))||!(z0 (CA1 v)))||!(z0 (CA0 v)))))=true->((S10 v).lo=(S10 v).lo/\(S10 v).hi=(S10 v).hi)/\(S10 v).lo=(S10 v).lo/\(S10 v).hi=(S10 v).hi))/\((ta55 v)=true->(ta29 v)=true->v.x=v.x/\v.y=v.y)/\(((ta56 v)||(ta14 v)&&((ta58 v)||!(z0 (S6 v))))=true->(!((bif (ta56 v) then bif (ta7 v) then bif (ta1 v) then v.a0 else bif (ta3 v) then v.a0 else bif (ta5 v) then v.a0 else v.a0 else bif (ta12 v) then v.a0 else v.a0 else bif (ta58 v) then bif (ta57 v) then v.a0 else bif (ta21 v) then v.a0 else bif (ta25 v) then v.a0 else v.a0 else v.a0)==0&&((bif (ta56 v) then bif (ta7 v) then bif (ta1 v) then v.a1 else bif (ta3 v) then v.a1 else bif (ta5 v) then v.a1 else v.a1 else bif (ta12 v) then v.a1 else v.a1 else bif (ta58 v) then bif (ta57 v) then v.a1 else bif (ta21 v) then v.a1 else bif (ta25 v) then v.a1 else v.a1 else v.a1)==0&&((bif (ta56 v) then bif (ta7 v) then bif (ta1 v) then v.a2 else bif (ta3 v) then v.a2 else bif (ta5 v) then v.a2 else v.a2 else bif (ta12 v) then v.a2 else v.a2 else bif (ta58 v) then bif (ta57 v) then v.a2 else bif (ta21 v) then v.a2 else bif (ta25 v) then v.a2 else v.a2 else v.a2)==0&&((bif (ta56 v) then bif (ta7 v) then bif (ta1 v) then v.a3 else bif (ta3 v) then v.a3 else bif (ta5 v) then v.a3 else v.a3 else bif (ta12 v) then v.a3 else v.a3 else bif (ta58 v) then bif (ta57 v) then v.a3 else bif (ta21 v) then v.a3 else bif (ta25 v) then v.a3 else v.a3 else v.a3)==0&&true)))))=true->(ta59 v)=(ta59 v)/\(ta60 v)=(ta60 v)))
def tb1 (v:Vx):Bool:=!(z0 (X0 v))
def tb3 (v:Vx):Bool:=!(z0 (X1 v))
def tb5 (v:Vx):Bool:=!(z0 (X2 v))
def tb7 (v:Vx):Bool:=(z0 (X0 v))&&((z0 (X1 v))&&((z0 (X2 v))&&(z0 (X3 v))))
def tb11 (v:Vx):Bool:=!(z0 (X4 v))
def tb15 (v:Vx):Bool:=(z0 (X4 v))&&(z0 (X6 v))
def tb17 (v:Vx):Bool:=(z0 (X5 v))&&z0 (X7 v)
def tb18 (v:Vx):Bool:=(tb7 v)&&((tb15 v)&&((tb17 v)&&z0 (X8 v)))
def tb21 (v:Vx):Bool:=decide ((X9 v).lo<=0)
def tb22 (v:Vx):Bool:=!(tb21 v)
def tbF (p:Prop) (v:Vx):Prop:=((p/\okSp v.a v.b=true/\okSp v.x v.y=true)/\((okE (X0 v)/\((tb1 v)=true->(v.c=v.c/\(v.x=v.x/\v.y=v.y)/\v.l=v.l)/\(v.c=v.c/\v.x=v.x/\v.y=v.y)/\v.c=v.c)/\((z0 (X0 v))=true->(v.c=v.c/\(v.x=v.x/\v.y=v.y)/\v.l=v.l)/\okE (X1 v)/\((tb3 v)=true->(v.c=v.c/\v.x=v.x/\v.y=v.y)/\v.c=v.c)/\((z0 (X1 v))=true->(v.c=v.c/\v.x=v.x/\v.y=v.y)/\okE (X2 v)/\((tb5 v)=true->v.c=v.c)/\((z0 (X2 v))=true->v.c=v.c/\okE (X3 v)))))/\(((tb1 v)||(z0 (X0 v))&&((tb3 v)||(z0 (X1 v))&&((tb5 v)||(z0 (X2 v))&&!(z0 (X3 v)))))=true->v.m=v.m/\(v.c=v.c/\v.k=v.k)/\v.k=v.k)/\((tb7 v)=true->(okE (X4 v)/\((tb11 v)=true->v.m=v.m)/\((z0 (X4 v))=true->v.m=v.m/\okE (X6 v)))/\(((tb11 v)||(z0 (X4 v))&&!(z0 (X6 v)))=true->((v.c=v.c/\v.k=v.k)/\(X3 v).lo=(X3 v).lo/\(X3 v).hi=(X3 v).hi)/\v.k=v.k)/\((tb15 v)=true->((v.c=v.c/\v.k=v.k)/\(X3 v).lo=(X3 v).lo/\(X3 v).hi=(X3 v).hi)/\(okE (X5 v)/\((!(z0 (X5 v)))=true->v.k=v.k)/\((z0 (X5 v))=true->v.k=v.k/\okE (X7 v)))/\((tb17 v)=true->okE (X8 v)))))/\((tb18 v)=true->okE (X9 v)/\((z0 (X9 v))=true->(tb22 v)=true->okE (X10 v)/\((z0 (X10 v))=true->okE (X11 v)/\((!(z0 (X11 v)))=true->(((X10 v).lo=(X10 v).lo/\(X10 v).hi=(X10 v).hi)/\(X10 v).lo=(X10 v).lo/\(X10 v).hi=(X10 v).hi)/\((X10 v).lo=(X10 v).lo/\(X10 v).hi=(X10 v).hi)/\((X10 v).lo=(X10 v).lo/\(X10 v).hi=(X10 v).hi)/\(X10 v).lo=(X10 v).lo/\(X10 v).hi=(X10 v).hi)/\((z0 (X11 v))=true->(((X10 v).lo=(X10 v).lo/\(X10 v).hi=(X10 v).hi)/\(X10 v).lo=(X10 v).lo/\(X10 v).hi=(X10 v).hi)/\okE (X12 v)/\((!(z0 (X12 v)))=true->((X10 v).lo=(X10 v).lo/\(X10 v).hi=(X10 v).hi)/\((X10 v).lo=(X10 v).lo/\(X10 v).hi=(X10 v).hi)/\(X10 v).lo=(X10 v).lo/\(X10 v).hi=(X10 v).hi)/\((z0 (X12 v))=true->((X10 v).lo=(X10 v).lo/\(X10 v).hi=(X10 v).hi)/\okE (X13 v)/\((!(z0 (X13 v)))=true->((X10 v).lo=(X10 v).lo/\(X10 v).hi=(X10 v).hi)/\(X10 v).lo=(X10 v).lo/\(X10 v).hi=(X10 v).hi)/\((z0 (X13 v))=true->((X10 v).lo=(X10 v).lo/\(X10 v).hi=(X10 v).hi)/\(X10 v).lo=(X10 v).lo/\(X10 v).hi=(X10 v).hi)))))))
def tc1 (v:Vs):Bool:=bif (sagS v.c v.k v.a0 v.a1 v.a2 v.a3 v.a v.b v.x v.y).e != 0 then true else false
def tc2 (v:Vs):Bool:=!(tc1 v)
def tc4 (v:Vs):Bool:=!(z0 (S2 v))
def tc9 (v:Vs):Bool:=!(z0 (S8 v))
def tc13 (v:Vs):Bool:=!(z0 (S9 v))
def tc15 (v:Vs):Bool:=!(z0 (S10 v))
def tc16 (v:Vs):Bool:=(z0 (S2 v))&&((z0 (S8 v))&&((z0 (S9 v))&&(z0 (S10 v))))
def tc31 (v:Vs):Bool:=(z0 (S2 v))&&!(z0 (Q1 v))
def tc32 (v:Vs):Bool:=(tc31 v)||(tc4 v)
def tc33 (v:Vs):Int:=bif (tc31 v) then (U0 v).lo else 0
def tc34 (v:Vs):Int:=bif (tc31 v) then (U0 v).hi else 0
def tc37 (v:Vs):Bool:=(z0 (S2 v))&&(z0 (Q1 v))
def tc39 (v:Vs):Bool:=!(z0 (Q2 v))
def tc43 (v:Vs):Bool:=!(z0 (Q3 v))
def tc44 (v:Vs):Bool:=!(z0 (S14 v))
def tc45 (v:Vs):Bool:=(tc4 v)||(z0 (S2 v))&&((tc9 v)||(z0 (S8 v))&&((tc13 v)||(z0 (S9 v))&&(tc15 v)))
def tc46 (v:Vs):Int:=bif (tc4 v) then v.a0 else bif (tc9 v) then v.a0 else bif (tc13 v) then v.a0 else v.a0
def tc47 (v:Vs):Int:=bif (tc4 v) then v.a1 else bif (tc9 v) then v.a1 else bif (tc13 v) then v.a1 else v.a1
def tc48 (v:Vs):Int:=bif (tc4 v) then v.a2 else bif (tc9 v) then v.a2 else bif (tc13 v) then v.a2 else v.a2
def tc49 (v:Vs):Int:=bif (tc4 v) then v.a3 else bif (tc9 v) then v.a3 else bif (tc13 v) then v.a3 else v.a3
def tc50 (v:Vs):Int:=bif (tc4 v) then v.x else bif (tc9 v) then v.x else bif (tc13 v) then v.x else v.x
def tc51 (v:Vs):Int:=bif (tc4 v) then v.y else bif (tc9 v) then v.y else bif (tc13 v) then v.y else v.y
def tc53 (v:Vs):Bool:=(tc16 v)&&((z0 (S14 v))&&((tc37 v)&&((z0 (Q2 v))&&((z0 (Q3 v))&&(z0 (Q4 v))))))
def tc58 (v:Vs):Bool:=(z0 (S14 v))&&((tc32 v)||(tc37 v)&&((tc39 v)||(z0 (Q2 v))&&((tc43 v)||(z0 (Q3 v))&&!(z0 (Q4 v)))))
def tc59 (v:Vs):Bool:=(tc16 v)&&((tc58 v)||(tc44 v))
def tc60 (v:Vs):Int:=bif (tc59 v) then bif (tc58 v) then bif (tc32 v) then bif (tc31 v) then v.c else v.c else bif (tc39 v) then v.c else bif (tc43 v) then v.c else v.c else v.c else bif (tc4 v) then v.c else bif (tc9 v) then v.c else bif (tc13 v) then v.c else v.c
def tc61 (v:Vs):Int:=bif (tc59 v) then bif (tc58 v) then bif (tc32 v) then bif (tc31 v) then v.x else v.x else bif (tc39 v) then v.x else bif (tc43 v) then v.x else v.x else v.x else (tc50 v)
def tc62 (v:Vs):Int:=bif (tc59 v) then bif (tc58 v) then bif (tc32 v) then bif (tc31 v) then v.y else v.y else bif (tc39 v) then v.y else bif (tc43 v) then v.y else v.y else v.y else (tc51 v)
def tc63 (v:Vs):Int:=bif (tc59 v) then bif (tc58 v) then bif (tc32 v) then bif (tc31 v) then v.k else v.k else bif (tc39 v) then v.k else bif (tc43 v) then v.k else v.k else v.k else bif (tc4 v) then v.k else bif (tc9 v) then v.k else bif (tc13 v) then v.k else v.k
def tc64 (v:Vs):Bool:=(tc53 v)&&((tc16 v)&&((z0 (S12 v))&&((tc37 v)&&((z0 (Q2 v))&&((z0 (Q5 v))&&z0 (Q6 v))))))
def tcF (p:Prop) (v:Vs):Prop:=((p/\okSp v.a v.b=true/\okSp v.x v.y=true)/\((tc2 v)=true->((((((S0 v).e=0/\(v.c=v.c/\v.x=v.x/\v.y=v.y)/\(S1 v).e=0/\v.c=v.c/\okE (S2 v)/\((tc4 v)=true->v.c=v.c)/\((z0 (S2 v))=true->v.c=v.c/\(S3 v).e=0))/\((z0 (S2 v))=true->(S4 v).e=0/\v.k=v.k/\(S5 v).e=0)/\((tc4 v)=true->v.k=v.k))/\((z0 (S2 v))=true->(S6 v).e=0/\decide ((S6 v).lo<=0)=false/\(S7 v).e=0/\okE (S8 v)/\((tc9 v)=true->(((S7 v).lo=(S7 v).lo/\(S7 v).hi=(S7 v).hi)/\(S7 v).lo=(S7 v).lo/\(S7 v).hi=(S7 v).hi)/\((S7 v).lo=(S7 v).lo/\(S7 v).hi=(S7 v).hi)/\((S7 v).lo=(S7 v).lo/\(S7 v).hi=(S7 v).hi)/\(S7 v).lo=(S7 v).lo/\(S7 v).hi=(S7 v).hi)/\((z0 (S8 v))=true->(((S7 v).lo=(S7 v).lo/\(S7 v).hi=(S7 v).hi)/\(S7 v).lo=(S7 v).lo/\(S7 v).hi=(S7 v).hi)/\okE (S9 v)/\((tc13 v)=true->((S7 v).lo=(S7 v).lo/\(S7 v).hi=(S7 v).hi)/\((S7 v).lo=(S7 v).lo/\(S7 v).hi=(S7 v).hi)/\(S7 v).lo=(S7 v).lo/\(S7 v).hi=(S7 v).hi)/\((z0 (S9 v))=true->((S7 v).lo=(S7 v).lo/\(S7 v).hi=(S7 v).hi)/\okE (S10 v)/\((tc15 v)=true->((S7 v).lo=(S7 v).lo/\(S7 v).hi=(S7 v).hi)/\(S7 v).lo=(S7 v).lo/\(S7 v).hi=(S7 v).hi)/\((z0 (S10 v))=true->((S7 v).lo=(S7 v).lo/\(S7 v).hi=(S7 v).hi)/\(S7 v).lo=(S7 v).lo/\(S7 v).hi=(S7 v).hi)))))/\((tc16 v)=true->(S13 v).e=0/\okE (S14 v)/\((z0 (S14 v))=true->(AS v)=true/\(((S0 v).e=0/\(v.x=v.x/\v.y=v.y)/\(S1 v).e=0/\okE (S2 v)/\((z0 (S2 v))=true->(U0 v).e=0))/\((z0 (S2 v))=true->((CB0 v).e=0/\(CB1 v).e=0/\(CB2 v).e=0/\(CB3 v).e=0)/\((O (CB0 v)/\O (CB1 v)/\O (CB2 v)/\O (CB3 v)/\O (U0 v))/\okE (Q1 v))/\((z0 (Q1 v))=true->(Q1 v).lo=(Q1 v).lo/\(Q1 v).hi=(Q1 v).hi)))/\((tc32 v)=true->(((tc33 v)=(tc33 v)/\(tc34 v)=(tc34 v))/\(S14 v).lo=(S14 v).lo/\(S14 v).hi=(S14 v).hi)/\((S14 v).lo=(S14 v).lo/\(S14 v).hi=(S14 v).hi)/\(S14 v).lo=(S14 v).lo/\(S14 v).hi=(S14 v).hi)/\((tc37 v)=true->(FA v).e=0/\(((Q1 v).lo=(Q1 v).lo/\(Q1 v).hi=(Q1 v).hi)/\((U0 v).lo=(U0 v).lo/\(U0 v).hi=(U0 v).hi)/\(S14 v).lo=(S14 v).lo/\(S14 v).hi=(S14 v).hi)/\okE (Q2 v)/\((tc39 v)=true->((S14 v).lo=(S14 v).lo/\(S14 v).hi=(S14 v).hi)/\(S14 v).lo=(S14 v).lo/\(S14 v).hi=(S14 v).hi)/\((z0 (Q2 v))=true->((S14 v).lo=(S14 v).lo/\(S14 v).hi=(S14 v).hi)/\okE (Q3 v)/\((tc43 v)=true->(S14 v).lo=(S14 v).lo/\(S14 v).hi=(S14 v).hi)/\((z0 (Q3 v))=true->((S14 v).lo=(S14 v).lo/\(S14 v).hi=(S14 v).hi)/\okE (Q4 v)))))/\((tc44 v)=true->(AS v)=true/\v.x=v.x/\v.y=v.y))/\((tc45 v)=true->(!((tc46 v)==0&&((tc47 v)==0&&((tc48 v)==0&&((tc49 v)==0&&true)))))=true/\(tc50 v)=(tc50 v)/\(tc51 v)=(tc51 v)))/\((tc53 v)=true->((v.c=v.c/\v.k=v.k)/\v.x=v.x/\v.y=v.y)/\((((S0 v).e=0/\(v.c=v.c/\v.x=v.x/\v.y=v.y)/\(S1 v).e=0/\v.c=v.c/\okE (S2 v)/\((tc4 v)=true->v.c=v.c)/\((z0 (S2 v))=true->v.c=v.c/\(S3 v).e=0))/\((z0 (S2 v))=true->(S4 v).e=0/\v.k=v.k/\(S5 v).e=0)/\((tc4 v)=true->v.k=v.k))/\((z0 (S2 v))=true->(S6 v).e=0/\decide ((S6 v).lo<=0)=false/\(S7 v).e=0/\okE (S8 v)/\((tc9 v)=true->(((S7 v).lo=(S7 v).lo/\(S7 v).hi=(S7 v).hi)/\(S7 v).lo=(S7 v).lo/\(S7 v).hi=(S7 v).hi)/\((S7 v).lo=(S7 v).lo/\(S7 v).hi=(S7 v).hi)/\((S7 v).lo=(S7 v).lo/\(S7 v).hi=(S7 v).hi)/\(S7 v).lo=(S7 v).lo/\(S7 v).hi=(S7 v).hi)/\((z0 (S8 v))=true->(((S7 v).lo=(S7 v).lo/\(S7 v).hi=(S7 v).hi)/\(S7 v).lo=(S7 v).lo/\(S7 v).hi=(S7 v).hi)/\okE (S9 v)/\((tc13 v)=true->((S7 v).lo=(S7 v).lo/\(S7 v).hi=(S7 v).hi)/\((S7 v).lo=(S7 v).lo/\(S7 v).hi=(S7 v).hi)/\(S7 v).lo=(S7 v).lo/\(S7 v).hi=(S7 v).hi)/\((z0 (S9 v))=true->((S7 v).lo=(S7 v).lo/\(S7 v).hi=(S7 v).hi)/\okE (S10 v)/\((tc15 v)=true->((S7 v).lo=(S7 v).lo/\(S7 v).hi=(S7 v).hi)/\(S7 v).lo=(S7 v).lo/\(S7 v).hi=(S7 v).hi)/\((z0 (S10 v))=true->((S7 v).lo=(S7 v).lo/\(S7 v).hi=(S7 v).hi)/\(S7 v).lo=(S7 v).lo/\(S7 v).hi=(S7 v).hi)))))/\((tc16 v)=true->(S11 v).e=0/\okE (S12 v)/\((z0 (S12 v))=true->(AS v)=true/\(((S0 v).e=0/\(v.x=v.x/\v.y=v.y)/\(S1 v).e=0/\okE (S2 v)/\((z0 (S2 v))=true->(U0 v).e=0))/\((z0 (S2 v))=true->((CB0 v).e=0/\(CB1 v).e=0/\(CB2 v).e=0/\(CB3 v).e=0)/\((O (CB0 v)/\O (CB1 v)/\O (CB2 v)/\O (CB3 v)/\O (U0 v))/\okE (Q1 v))/\((z0 (Q1 v))=true->(Q1 v).lo=(Q1 v).lo/\(Q1 v).hi=(Q1 v).hi)))/\((tc32 v)=true->(((tc33 v)=(tc33 v)/\(tc34 v)=(tc34 v))/\(S12 v).lo=(S12 v).lo/\(S12 v).hi=(S12 v).hi)/\((S12 v).lo=(S12 v).lo/\(S12 v).hi=(S12 v).hi)/\(S12 v).lo=(S12 v).lo/\(S12 v).hi=(S12 v).hi)/\((tc37 v)=true->(FB v).e=0/\(((Q1 v).lo=(Q1 v).lo/\(Q1 v).hi=(Q1 v).hi)/\((U0 v).lo=(U0 v).lo/\(U0 v).hi=(U0 v).hi)/\(S12 v).lo=(S12 v).lo/\(S12 v).hi=(S12 v).hi)/\okE (Q2 v)/\((tc39 v)=true->((S12 v).lo=(S12 v).lo/\(S12 v).hi=(S12 v).hi)/\(S12 v).lo=(S12 v).lo/\(S12 v).hi=(S12 v).hi)/\((z0 (Q2 v))=true->((S12 v).lo=(S12 v).lo/\(S12 v).hi=(S12 v).hi)/\okE (Q5 v)/\((!(z0 (Q5 v)))=true->(S12 v).lo=(S12 v).lo/\(S12 v).hi=(S12 v).hi)/\((z0 (Q5 v))=true->((S12 v).lo=(S12 v).lo/\(S12 v).hi=(S12 v).hi)/\okE (Q6 v)))))/\((!(z0 (S12 v)))=true->(AS v)=true/\v.x=v.x/\v.y=v.y))/\((tc45 v)=true->(!((tc46 v)==0&&((tc47 v)==0&&((tc48 v)==0&&((tc49 v)==0&&true)))))=true/\(tc50 v)=(tc50 v)/\(tc51 v)=(tc51 v)))/\(((tc59 v)||(tc45 v))=true->((v.c=v.c/\v.k=v.k)/\v.x=v.x/\v.y=v.y)/\((((tc60 v)=(tc60 v)/\(tc61 v)=(tc61 v)/\(tc62 v)=(tc62 v))/\(tc60 v)=(tc60 v)/\(tc60 v)=(tc60 v))/\(tc63 v)=(tc63 v))/\(!((bif (tc59 v) then bif (tc58 v) then bif (tc32 v) then bif (tc31 v) then v.a0 else v.a0 else bif (tc39 v) then v.a0 else bif (tc43 v) then v.a0 else v.a0 else v.a0 else (tc46 v))==0&&((bif (tc59 v) then bif (tc58 v) then bif (tc32 v) then bif (tc31 v) then v.a1 else v.a1 else bif (tc39 v) then v.a1 else bif (tc43 v) then v.a1 else v.a1 else v.a1 else (tc47 v))==0&&((bif (tc59 v) then bif (tc58 v) then bif (tc32 v) then bif (tc31 v) then v.a2 else v.a2 else bif (tc39 v) then v.a2 else bif (tc43 v) then v.a2 else v.a2 else v.a2 else (tc48 v))==0&&((bif (tc59 v) then bif (tc58 v) then bif (tc32 v) then bif (tc31 v) then v.a3 else v.a3 else bif (tc39 v) then v.a3 else bif (tc43 v) then v.a3 else v.a3 else v.a3 else (tc49 v))==0&&true)))))=true/\(tc61 v)=(tc61 v)/\(tc62 v)=(tc62 v)))/\((tc64 v)=true->(Q6 v).lo=(Q6 v).lo/\(Q6 v).hi=(Q6 v).hi)))
def te1 (v:Vs):Bool:=bif (sagS v.c v.k v.a0 v.a1 v.a2 v.a3 v.a v.b v.x v.y).e != 0 then true else false
def te2 (v:Vs):Bool:=!(te1 v)
def te4 (v:Vs):Bool:=!(z0 (S2 v))
def te9 (v:Vs):Bool:=!(z0 (S8 v))
def te13 (v:Vs):Bool:=!(z0 (S9 v))
def te15 (v:Vs):Bool:=!(z0 (S10 v))
def te16 (v:Vs):Bool:=(z0 (S2 v))&&((z0 (S8 v))&&((z0 (S9 v))&&(z0 (S10 v))))
def te18 (v:Vs):Bool:=!(z0 (S14 v))
def te19 (v:Vs):Bool:=(te4 v)||(z0 (S2 v))&&((te9 v)||(z0 (S8 v))&&((te13 v)||(z0 (S9 v))&&(te15 v)))
def te20 (v:Vs):Int:=bif (te4 v) then v.a0 else bif (te9 v) then v.a0 else bif (te13 v) then v.a0 else v.a0
def te21 (v:Vs):Int:=bif (te4 v) then v.a1 else bif (te9 v) then v.a1 else bif (te13 v) then v.a1 else v.a1
def te22 (v:Vs):Int:=bif (te4 v) then v.a2 else bif (te9 v) then v.a2 else bif (te13 v) then v.a2 else v.a2
def te23 (v:Vs):Int:=bif (te4 v) then v.a3 else bif (te9 v) then v.a3 else bif (te13 v) then v.a3 else v.a3
def te24 (v:Vs):Bool:=(te16 v)&&(z0 (S14 v))
def te26 (v:Vs):Bool:=(te16 v)&&(te18 v)
def te27 (v:Vs):Int:=bif (te26 v) then v.c else bif (te4 v) then v.c else bif (te9 v) then v.c else bif (te13 v) then v.c else v.c
def te28 (v:Vs):Int:=bif (te26 v) then v.x else bif (te4 v) then v.x else bif (te9 v) then v.x else bif (te13 v) then v.x else v.x
def te29 (v:Vs):Int:=bif (te26 v) then v.y else bif (te4 v) then v.y else bif (te9 v) then v.y else bif (te13 v) then v.y else v.y
def te30 (v:Vs):Int:=bif (te26 v) then v.k else bif (te4 v) then v.k else bif (te9 v) then v.k else bif (te13 v) then v.k else v.k
def te31 (v:Vs):Bool:=(te24 v)&&((te16 v)&&(z0 (S12 v)))
def teF (p:Prop) (v:Vs):Prop:=((p/\okSp v.a v.b=true/\okSp v.x v.y=true)/\((te2 v)=true->((((((S0 v).e=0/\(v.c=v.c/\v.x=v.x/\v.y=v.y)/\(S1 v).e=0/\v.c=v.c/\okE (S2 v)/\((te4 v)=true->v.c=v.c)/\((z0 (S2 v))=true->v.c=v.c/\(S3 v).e=0))/\((z0 (S2 v))=true->(S4 v).e=0/\v.k=v.k/\(S5 v).e=0)/\((te4 v)=true->v.k=v.k))/\((z0 (S2 v))=true->(S6 v).e=0/\decide ((S6 v).lo<=0)=false/\(S7 v).e=0/\okE (S8 v)/\((te9 v)=true->(((S7 v).lo=(S7 v).lo/\(S7 v).hi=(S7 v).hi)/\(S7 v).lo=(S7 v).lo/\(S7 v).hi=(S7 v).hi)/\((S7 v).lo=(S7 v).lo/\(S7 v).hi=(S7 v).hi)/\((S7 v).lo=(S7 v).lo/\(S7 v).hi=(S7 v).hi)/\(S7 v).lo=(S7 v).lo/\(S7 v).hi=(S7 v).hi)/\((z0 (S8 v))=true->(((S7 v).lo=(S7 v).lo/\(S7 v).hi=(S7 v).hi)/\(S7 v).lo=(S7 v).lo/\(S7 v).hi=(S7 v).hi)/\okE (S9 v)/\((te13 v)=true->((S7 v).lo=(S7 v).lo/\(S7 v).hi=(S7 v).hi)/\((S7 v).lo=(S7 v).lo/\(S7 v).hi=(S7 v).hi)/\(S7 v).lo=(S7 v).lo/\(S7 v).hi=(S7 v).hi)/\((z0 (S9 v))=true->((S7 v).lo=(S7 v).lo/\(S7 v).hi=(S7 v).hi)/\okE (S10 v)/\((te15 v)=true->((S7 v).lo=(S7 v).lo/\(S7 v).hi=(S7 v).hi)/\(S7 v).lo=(S7 v).lo/\(S7 v).hi=(S7 v).hi)/\((z0 (S10 v))=true->((S7 v).lo=(S7 v).lo/\(S7 v).hi=(S7 v).hi)/\(S7 v).lo=(S7 v).lo/\(S7 v).hi=(S7 v).hi)))))/\((te16 v)=true->(S13 v).e=0/\okE (S14 v)/\((z0 (S14 v))=true->(AS v)=false)/\((te18 v)=true->(AS v)=false))/\((te19 v)=true->(!((te20 v)==0&&((te21 v)==0&&((te22 v)==0&&((te23 v)==0&&true)))))=false))/\((te24 v)=true->((v.c=v.c/\v.k=v.k)/\v.x=v.x/\v.y=v.y)/\((((S0 v).e=0/\(v.c=v.c/\v.x=v.x/\v.y=v.y)/\(S1 v).e=0/\v.c=v.c/\okE (S2 v)/\((te4 v)=true->v.c=v.c)/\((z0 (S2 v))=true->v.c=v.c/\(S3 v).e=0))/\((z0 (S2 v))=true->(S4 v).e=0/\v.k=v.k/\(S5 v).e=0)/\((te4 v)=true->v.k=v.k))/\((z0 (S2 v))=true->(S6 v).e=0/\decide ((S6 v).lo<=0)=false/\(S7 v).e=0/\okE (S8 v)/\((te9 v)=true->(((S7 v).lo=(S7 v).lo/\(S7 v).hi=(S7 v).hi)/\(S7 v).lo=(S7 v).lo/\(S7 v).hi=(S7 v).hi)/\((S7 v).lo=(S7 v).lo/\(S7 v).hi=(S7 v).hi)/\((S7 v).lo=(S7 v).lo/\(S7 v).hi=(S7 v).hi)/\(S7 v).lo=(S7 v).lo/\(S7 v).hi=(S7 v).hi)/\((z0 (S8 v))=true->(((S7 v).lo=(S7 v).lo/\(S7 v).hi=(S7 v).hi)/\(S7 v).lo=(S7 v).lo/\(S7 v).hi=(S7 v).hi)/\okE (S9 v)/\((te13 v)=true->((S7 v).lo=(S7 v).lo/\(S7 v).hi=(S7 v).hi)/\((S7 v).lo=(S7 v).lo/\(S7 v).hi=(S7 v).hi)/\(S7 v).lo=(S7 v).lo/\(S7 v).hi=(S7 v).hi)/\((z0 (S9 v))=true->((S7 v).lo=(S7 v).lo/\(S7 v).hi=(S7 v).hi)/\okE (S10 v)/\((te15 v)=true->((S7 v).lo=(S7 v).lo/\(S7 v).hi=(S7 v).hi)/\(S7 v).lo=(S7 v).lo/\(S7 v).hi=(S7 v).hi)/\((z0 (S10 v))=true->((S7 v).lo=(S7 v).lo/\(S7 v).hi=(S7 v).hi)/\(S7 v).lo=(S7 v).lo/\(S7 v).hi=(S7 v).hi)))))/\((te16 v)=true->(S11 v).e=0/\okE (S12 v)/\((z0 (S12 v))=true->(AS v)=false)/\((!(z0 (S12 v)))=true->(AS v)=false))/\((te19 v)=true->(!((te20 v)==0&&((te21 v)==0&&((te22 v)==0&&((te23 v)==0&&true)))))=false))/\(((te26 v)||(te19 v))=true->((v.c=v.c/\v.k=v.k)/\v.x=v.x/\v.y=v.y)/\((((te27 v)=(te27 v)/\(te28 v)=(te28 v)/\(te29 v)=(te29 v))/\(te27 v)=(te27 v)/\(te27 v)=(te27 v))/\(te30 v)=(te30 v))/\(!((bif (te26 v) then v.a0 else (te20 v))==0&&((bif (te26 v) then v.a1 else (te21 v))==0&&((bif (te26 v) then v.a2 else (te22 v))==0&&((bif (te26 v) then v.a3 else (te23 v))==0&&true)))))=false))/\((te31 v)=true->(S12 v).lo=(S12 v).lo/\(S12 v).hi=(S12 v).hi)))
def td1 (v:Vx):Bool:=bif (sagX v.c v.k v.l v.m v.a v.b v.x v.y).e != 0 then true else false
def td2 (v:Vx):Bool:=!(td1 v)
def td12 (v:Vx):Bool:=!(z0 (X11 v))
def td16 (v:Vx):Bool:=!(z0 (X12 v))
def td20 (v:Vx):Bool:=!(z0 (X13 v))
def td21 (v:Vx):Bool:=(z0 (X8 v))&&((td12 v)||(z0 (X11 v))&&((td16 v)||(z0 (X12 v))&&(td20 v)))
def td22 (v:Vx):Bool:=(td21 v)||!(z0 (X8 v))
def td23 (v:Vx):Int:=bif (td21 v) then bif (td12 v) then (X10 v).lo else bif (td16 v) then (X10 v).lo else (X10 v).lo else 0
def td24 (v:Vx):Int:=bif (td21 v) then bif (td12 v) then (X10 v).hi else bif (td16 v) then (X10 v).hi else (X10 v).hi else 0
def td25 (v:Vx):Bool:=(z0 (X8 v))&&((z0 (X11 v))&&((z0 (X12 v))&&(z0 (X13 v))))
def td32 (v:Vx):Bool:=!(z0 (X26 v))
def td34 (v:Vx):Bool:=!(z0 (X28 v))
def td35 (v:Vx):Bool:=!(z0 (X17 v))
def td37 (v:Vx):Bool:=(td25 v)&&((z0 (X17 v))&&((z0 (X26 v))&&((z0 (X28 v))&&((z0 (X12 v))&&(z0 (X29 v))))))
def td43 (v:Vx):Bool:=(z0 (X17 v))&&((td32 v)||(z0 (X26 v))&&((td34 v)||(z0 (X28 v))&&((td16 v)||(z0 (X12 v))&&!(z0 (X29 v)))))
def td44 (v:Vx):Int:=bif (td16 v) then v.c else v.c
def td45 (v:Vx):Int:=bif (td22 v) then bif (td21 v) then bif (td12 v) then v.c else (td44 v) else v.c else bif (td43 v) then bif (td32 v) then v.c else bif (td34 v) then v.c else (td44 v) else v.c
def td46 (v:Vx):Int:=bif (td16 v) then v.x else v.x
def td47 (v:Vx):Int:=bif (td22 v) then bif (td21 v) then bif (td12 v) then v.x else (td46 v) else v.x else bif (td43 v) then bif (td32 v) then v.x else bif (td34 v) then v.x else (td46 v) else v.x
def td48 (v:Vx):Int:=bif (td16 v) then v.y else v.y
def td49 (v:Vx):Int:=bif (td22 v) then bif (td21 v) then bif (td12 v) then v.y else (td48 v) else v.y else bif (td43 v) then bif (td32 v) then v.y else bif (td34 v) then v.y else (td48 v) else v.y
def td50 (v:Vx):Int:=bif (td16 v) then v.l else v.l
def td51 (v:Vx):Int:=bif (td22 v) then bif (td21 v) then bif (td12 v) then v.l else (td50 v) else v.l else bif (td43 v) then bif (td32 v) then v.l else bif (td34 v) then v.l else (td50 v) else v.l
def td52 (v:Vx):Int:=bif (td16 v) then v.m else v.m
def td53 (v:Vx):Int:=bif (td22 v) then bif (td21 v) then bif (td12 v) then v.m else (td52 v) else v.m else bif (td43 v) then bif (td32 v) then v.m else bif (td34 v) then v.m else (td52 v) else v.m
def td54 (v:Vx):Int:=bif (td16 v) then v.k else v.k
def td55 (v:Vx):Int:=bif (td22 v) then bif (td21 v) then bif (td12 v) then v.k else (td54 v) else v.k else bif (td43 v) then bif (td32 v) then v.k else bif (td34 v) then v.k else (td54 v) else v.k
def td56 (v:Vx):Bool:=(td37 v)&&((td25 v)&&((z0 (X21 v))&&((z0 (X22 v))&&((z0 (X24 v))&&((z0 (X12 v))&&z0 (X25 v))))))
def tdF (p:Prop) (v:Vx):Prop:=((p/\okSp v.a v.b=true/\okSp v.x v.y=true)/\((td2 v)=true->((((((X0 v).e=0/\(v.c=v.c/\(v.x=v.x/\v.y=v.y)/\v.l=v.l)/\(X1 v).e=0/\(v.c=v.c/\v.x=v.x/\v.y=v.y)/\(X2 v).e=0/\v.c=v.c/\(X3 v).e=0)/\((X4 v).e=0/\v.m=v.m/\(X6 v).e=0)/\((v.c=v.c/\v.k=v.k)/\(X3 v).lo=(X3 v).lo/\(X3 v).hi=(X3 v).hi)/\((X5 v).e=0/\v.k=v.k/\(X7 v).e=0)/\okE (X8 v))/\((z0 (X8 v))=true->(X9 v).e=0/\decide ((X9 v).lo<=0)=false/\(X10 v).e=0/\okE (X11 v)/\((td12 v)=true->(((X10 v).lo=(X10 v).lo/\(X10 v).hi=(X10 v).hi)/\(X10 v).lo=(X10 v).lo/\(X10 v).hi=(X10 v).hi)/\((X10 v).lo=(X10 v).lo/\(X10 v).hi=(X10 v).hi)/\((X10 v).lo=(X10 v).lo/\(X10 v).hi=(X10 v).hi)/\(X10 v).lo=(X10 v).lo/\(X10 v).hi=(X10 v).hi)/\((z0 (X11 v))=true->(((X10 v).lo=(X10 v).lo/\(X10 v).hi=(X10 v).hi)/\(X10 v).lo=(X10 v).lo/\(X10 v).hi=(X10 v).hi)/\okE (X12 v)/\((td16 v)=true->((X10 v).lo=(X10 v).lo/\(X10 v).hi=(X10 v).hi)/\((X10 v).lo=(X10 v).lo/\(X10 v).hi=(X10 v).hi)/\(X10 v).lo=(X10 v).lo/\(X10 v).hi=(X10 v).hi)/\((z0 (X12 v))=true->((X10 v).lo=(X10 v).lo/\(X10 v).hi=(X10 v).hi)/\okE (X13 v)/\((td20 v)=true->((X10 v).lo=(X10 v).lo/\(X10 v).hi=(X10 v).hi)/\(X10 v).lo=(X10 v).lo/\(X10 v).hi=(X10 v).hi)/\((z0 (X13 v))=true->((X10 v).lo=(X10 v).lo/\(X10 v).hi=(X10 v).hi)/\(X10 v).lo=(X10 v).lo/\(X10 v).hi=(X10 v).hi)))))/\((td22 v)=true->(v.m=v.m/\(td23 v)=(td23 v)/\(td24 v)=(td24 v))/\((td23 v)=(td23 v)/\(td24 v)=(td24 v))/\((td23 v)=(td23 v)/\(td24 v)=(td24 v))/\(td23 v)=(td23 v)/\(td24 v)=(td24 v))/\((td25 v)=true->(X14 v).e=0/\(((X15 v).e=0/\v.m=v.m/\(X16 v).e=0)/\((X10 v).lo=(X10 v).lo/\(X10 v).hi=(X10 v).hi)/\okE (X17 v))/\((z0 (X17 v))=true->(X27 v).e=0/\(((X10 v).lo=(X10 v).lo/\(X10 v).hi=(X10 v).hi)/\((X17 v).lo=(X17 v).lo/\(X17 v).hi=(X17 v).hi)/\(X13 v).lo=(X13 v).lo/\(X13 v).hi=(X13 v).hi)/\okE (X26 v)/\((td32 v)=true->((X10 v).lo=(X10 v).lo/\(X10 v).hi=(X10 v).hi)/\(X10 v).lo=(X10 v).lo/\(X10 v).hi=(X10 v).hi)/\((z0 (X26 v))=true->((X10 v).lo=(X10 v).lo/\(X10 v).hi=(X10 v).hi)/\okE (X28 v)/\((td34 v)=true->(X10 v).lo=(X10 v).lo/\(X10 v).hi=(X10 v).hi)/\((z0 (X28 v))=true->((X10 v).lo=(X10 v).lo/\(X10 v).hi=(X10 v).hi)/\okE (X12 v)/\((z0 (X12 v))=true->okE (X29 v)))))/\((td35 v)=true->(((X10 v).lo=(X10 v).lo/\(X10 v).hi=(X10 v).hi)/\(X13 v).lo=(X13 v).lo/\(X13 v).hi=(X13 v).hi)/\((X10 v).lo=(X10 v).lo/\(X10 v).hi=(X10 v).hi)/\(X10 v).lo=(X10 v).lo/\(X10 v).hi=(X10 v).hi)))/\((td37 v)=true->((v.c=v.c/\v.k=v.k)/\v.x=v.x/\v.y=v.y)/\((((X0 v).e=0/\(v.c=v.c/\(v.x=v.x/\v.y=v.y)/\v.l=v.l)/\(X1 v).e=0/\(v.c=v.c/\v.x=v.x/\v.y=v.y)/\(X2 v).e=0/\v.c=v.c/\(X3 v).e=0)/\((X4 v).e=0/\v.m=v.m/\(X6 v).e=0)/\((v.c=v.c/\v.k=v.k)/\(X3 v).lo=(X3 v).lo/\(X3 v).hi=(X3 v).hi)/\((X5 v).e=0/\v.k=v.k/\(X7 v).e=0)/\okE (X8 v))/\((z0 (X8 v))=true->(X9 v).e=0/\decide ((X9 v).lo<=0)=false/\(X10 v).e=0/\okE (X11 v)/\((td12 v)=true->(((X10 v).lo=(X10 v).lo/\(X10 v).hi=(X10 v).hi)/\(X10 v).lo=(X10 v).lo/\(X10 v).hi=(X10 v).hi)/\((X10 v).lo=(X10 v).lo/\(X10 v).hi=(X10 v).hi)/\((X10 v).lo=(X10 v).lo/\(X10 v).hi=(X10 v).hi)/\(X10 v).lo=(X10 v).lo/\(X10 v).hi=(X10 v).hi)/\((z0 (X11 v))=true->(((X10 v).lo=(X10 v).lo/\(X10 v).hi=(X10 v).hi)/\(X10 v).lo=(X10 v).lo/\(X10 v).hi=(X10 v).hi)/\okE (X12 v)/\((td16 v)=true->((X10 v).lo=(X10 v).lo/\(X10 v).hi=(X10 v).hi)/\((X10 v).lo=(X10 v).lo/\(X10 v).hi=(X10 v).hi)/\(X10 v).lo=(X10 v).lo/\(X10 v).hi=(X10 v).hi)/\((z0 (X12 v))=true->((X10 v).lo=(X10 v).lo/\(X10 v).hi=(X10 v).hi)/\okE (X13 v)/\((td20 v)=true->((X10 v).lo=(X10 v).lo/\(X10 v).hi=(X10 v).hi)/\(X10 v).lo=(X10 v).lo/\(X10 v).hi=(X10 v).hi)/\((z0 (X13 v))=true->((X10 v).lo=(X10 v).lo/\(X10 v).hi=(X10 v).hi)/\(X10 v).lo=(X10 v).lo/\(X10 v).hi=(X10 v).hi)))))/\((td22 v)=true->(v.k=v.k/\(td23 v)=(td23 v)/\(td24 v)=(td24 v))/\((td23 v)=(td23 v)/\(td24 v)=(td24 v))/\((td23 v)=(td23 v)/\(td24 v)=(td24 v))/\(td23 v)=(td23 v)/\(td24 v)=(td24 v))/\((td25 v)=true->(X18 v).e=0/\(((X19 v).e=0/\v.k=v.k/\(X20 v).e=0)/\((X10 v).lo=(X10 v).lo/\(X10 v).hi=(X10 v).hi)/\okE (X21 v))/\((z0 (X21 v))=true->(X23 v).e=0/\(((X10 v).lo=(X10 v).lo/\(X10 v).hi=(X10 v).hi)/\((X21 v).lo=(X21 v).lo/\(X21 v).hi=(X21 v).hi)/\(X13 v).lo=(X13 v).lo/\(X13 v).hi=(X13 v).hi)/\okE (X22 v)/\((!(z0 (X22 v)))=true->((X10 v).lo=(X10 v).lo/\(X10 v).hi=(X10 v).hi)/\(X10 v).lo=(X10 v).lo/\(X10 v).hi=(X10 v).hi)/\((z0 (X22 v))=true->((X10 v).lo=(X10 v).lo/\(X10 v).hi=(X10 v).hi)/\okE (X24 v)/\((!(z0 (X24 v)))=true->(X10 v).lo=(X10 v).lo/\(X10 v).hi=(X10 v).hi)/\((z0 (X24 v))=true->((X10 v).lo=(X10 v).lo/\(X10 v).hi=(X10 v).hi)/\okE (X12 v)/\((z0 (X12 v))=true->okE (X25 v)))))/\((!(z0 (X21 v)))=true->(((X10 v).lo=(X10 v).lo/\(X10 v).hi=(X10 v).hi)/\(X13 v).lo=(X13 v).lo/\(X13 v).hi=(X13 v).hi)/\((X10 v).lo=(X10 v).lo/\(X10 v).hi=(X10 v).hi)/\(X10 v).lo=(X10 v).lo/\(X10 v).hi=(X10 v).hi)))/\(((td22 v)||(td25 v)&&((td43 v)||(td35 v)))=true->((v.c=v.c/\v.k=v.k)/\v.x=v.x/\v.y=v.y)/\((((td45 v)=(td45 v)/\((td47 v)=(td47 v)/\(td49 v)=(td49 v))/\(td51 v)=(td51 v))/\((td45 v)=(td45 v)/\(td47 v)=(td47 v)/\(td49 v)=(td49 v))/\(td45 v)=(td45 v))/\(td53 v)=(td53 v)/\((td45 v)=(td45 v)/\(td55 v)=(td55 v))/\(td55 v)=(td55 v))/\v.k=v.k))/\((td56 v)=true->(X25 v).lo=(X25 v).lo/\(X25 v).hi=(X25 v).hi)))
end Go.Rd
namespace Go.Rd
open Go Go.Eng Go.Ar
theorem okSc_of {n d M:Int} (hn:-M<=n/\n<=M) (h:4503599627370496*M<18446744073709551615*d):okSc n d:=fun _=>by
 have:sg n n<=M:=by
  unfold sg
  cases h:decide (n<0) with
  | true=>show -n<=M; omega
  | false=>show n<=M; omega
 omega
theorem okR_of {n d:Int} (h1:-4611686018427387904<=n) (h2:n<=4611686018427387904) (h3:1<=d) (h4:d<=4611686018427387904):okR n d=true:=by
 unfold okR; simp [h1,h2,h3,h4]
theorem sc_c {c:Int} (h:inL c):okSc c 1000000000:=okSc_of (M:=1000000000) h (by decide)
theorem sc_a {c:Int} (h:inL c):okSc c 1000000:=okSc_of (M:=1000000000) h (by decide)
theorem ok_c {c:Int} (h:inL c):okR c 1000000000=true:=by unfold inL at h; exact okR_of (by omega) (by omega) (by decide) (by decide)
theorem ok_a {c:Int} (h:inL c):okR c 1000000=true:=by unfold inL at h; exact okR_of (by omega) (by omega) (by decide) (by decide)
theorem wkK {k:Int} (h:inK k):IntKind.i64.wrap (1000000+k)=1000000+k:=i64w (by unfold inK at h; omega) (by unfold inK at h; omega)
theorem sc_k {k:Int} (h:inK k):okSc (IntKind.i64.wrap (1000000+k)) 1000000:=by
 rw [wkK h]
 exact okSc_of (M:=101000000) (by unfold inK at h; omega) (by decide)
theorem ok_k {k:Int} (h:inK k):okR (IntKind.i64.wrap (1000000+k)) 1000000=true:=by
 rw [wkK h]; unfold inK at h; exact okR_of (by omega) (by omega) (by decide) (by decide)
theorem sc_h:okSc 1 100:=okSc_of (M:=1) (by decide) (by decide)
theorem z0e {s:Sp} (h:z0 s=true):s.e=0:=by unfold z0 at h; simpa using h
theorem one_ri:Ri ⟨4294967296,4294967296,0⟩:=⟨by decide,by decide,by decide⟩
theorem dom_pos {s:Sp} (h:(!decide (s.lo<=0))=true):0<s.lo:=by simpa using h
section
variable {c k a0 a1 a2 a3 a b x y:Int} (hc:inL c) (hk:inK k) (hx:okSp a b=true) (hy:okSp x y=true)
include hx in theorem K0:okE (s0 c k a b x y):=e_sqr (s:=⟨a,b,0⟩) (Ri.of hx)
include hx in theorem R0 (h:z0 (s0 c k a b x y)=true):Ri (s0 c k a b x y):=r_sqr (s:=⟨a,b,0⟩) (Ri.of hx) (z0e h)
include hy in theorem K1:okE (s1 c k a b x y):=e_sqr (s:=⟨x,y,0⟩) (Ri.of hy)
include hy in theorem R1 (h:z0 (s1 c k a b x y)=true):Ri (s1 c k a b x y):=r_sqr (s:=⟨x,y,0⟩) (Ri.of hy) (z0e h)
include hx hy in theorem K2 (h0:z0 (s0 c k a b x y)=true) (h1:z0 (s1 c k a b x y)=true):okE (s2 c k a b x y):=e_add (R0 hx h0) (R1 hy h1)
include hx hy in theorem R2 (h0:z0 (s0 c k a b x y)=true) (h1:z0 (s1 c k a b x y)=true) (h2:z0 (s2 c k a b x y)=true):Ri (s2 c k a b x y):=r_add (R0 hx h0) (R1 hy h1) (z0e h2)
include hx hy hc in theorem K3 (h0:z0 (s0 c k a b x y)=true) (h1:z0 (s1 c k a b x y)=true) (h2:z0 (s2 c k a b x y)=true):okE (s3 c k a b x y):=e_sc (R2 hx hy h0 h1 h2) (sc_c hc) (ok_c hc)
include hx hy hc in theorem R3 (h0:z0 (s0 c k a b x y)=true) (h1:z0 (s1 c k a b x y)=true) (h2:z0 (s2 c k a b x y)=true) (h3:z0 (s3 c k a b x y)=true):Ri (s3 c k a b x y):=r_sc (R2 hx hy h0 h1 h2) (sc_c hc) (z0e h3)
include hx hy hc in theorem K4 (h0:z0 (s0 c k a b x y)=true) (h1:z0 (s1 c k a b x y)=true) (h2:z0 (s2 c k a b x y)=true) (h3:z0 (s3 c k a b x y)=true):okE (s4 c k a b x y):=e_sc (R3 hc hx hy h0 h1 h2 h3) (sc_c hc) (ok_c hc)
include hx hy hc in theorem R4 (h0:z0 (s0 c k a b x y)=true) (h1:z0 (s1 c k a b x y)=true) (h2:z0 (s2 c k a b x y)=true) (h3:z0 (s3 c k a b x y)=true) (h4:z0 (s4 c k a b x y)=true):Ri (s4 c k a b x y):=r_sc (R3 hc hx hy h0 h1 h2 h3) (sc_c hc) (z0e h4)
include hx hy hc hk in theorem K5 (h0:z0 (s0 c k a b x y)=true) (h1:z0 (s1 c k a b x y)=true) (h2:z0 (s2 c k a b x y)=true) (h3:z0 (s3 c k a b x y)=true) (h4:z0 (s4 c k a b x y)=true):okE (s5 c k a b x y):=e_sc (R4 hc hx hy h0 h1 h2 h3 h4) (sc_k hk) (ok_k hk)
include hx hy hc hk in theorem R5 (h0:z0 (s0 c k a b x y)=true) (h1:z0 (s1 c k a b x y)=true) (h2:z0 (s2 c k a b x y)=true) (h3:z0 (s3 c k a b x y)=true) (h4:z0 (s4 c k a b x y)=true) (h5:z0 (s5 c k a b x y)=true):Ri (s5 c k a b x y):=r_sc (R4 hc hx hy h0 h1 h2 h3 h4) (sc_k hk) (z0e h5)
include hx hy hc hk in theorem K6 (h0:z0 (s0 c k a b x y)=true) (h1:z0 (s1 c k a b x y)=true) (h2:z0 (s2 c k a b x y)=true) (h3:z0 (s3 c k a b x y)=true) (h4:z0 (s4 c k a b x y)=true) (h5:z0 (s5 c k a b x y)=true):okE (s6 c k a b x y):=e_sub one_ri (R5 hc hk hx hy h0 h1 h2 h3 h4 h5)
def H6 (c k a b x y:Int):Prop:=z0 (s0 c k a b x y)=true/\z0 (s1 c k a b x y)=true/\z0 (s2 c k a b x y)=true/\z0 (s3 c k a b x y)=true/\z0 (s4 c k a b x y)=true/\z0 (s5 c k a b x y)=true/\z0 (s6 c k a b x y)=true
include hx hy hc hk in theorem R6 (h:H6 c k a b x y):Ri (s6 c k a b x y):=r_sub one_ri (R5 hc hk hx hy h.1 h.2.1 h.2.2.1 h.2.2.2.1 h.2.2.2.2.1 h.2.2.2.2.2.1) (z0e h.2.2.2.2.2.2)
include hx hy hc hk in theorem K7 (h:H6 c k a b x y) (p:0<(s6 c k a b x y).lo):okE (s7 c k a b x y):=e_rt (R6 hc hk hx hy h) p
include hx hy hc hk in theorem R7 (h:H6 c k a b x y) (h7:z0 (s7 c k a b x y)=true):Ri (s7 c k a b x y):=r_rt (R6 hc hk hx hy h) (z0e h7)
include hx hy hc hk in theorem P7 (h:H6 c k a b x y) (p:0<(s6 c k a b x y).lo):0<(s7 c k a b x y).lo:=rt_pos (R6 hc hk hx hy h) p
include hx hy hc in theorem K8 (h:H6 c k a b x y):okE (s8 c k a b x y):=e_add (R3 hc hx hy h.1 h.2.1 h.2.2.1 h.2.2.2.1) (t:=⟨0,0,0⟩) zero_ri
include hx hy hc in theorem R8 (h:H6 c k a b x y) (h8:z0 (s8 c k a b x y)=true):Ri (s8 c k a b x y):=r_add (R3 hc hx hy h.1 h.2.1 h.2.2.1 h.2.2.2.1) (t:=⟨0,0,0⟩) zero_ri (z0e h8)
include hx hy hc hk in theorem K9 (h:H6 c k a b x y) (h7:z0 (s7 c k a b x y)=true):okE (s9 c k a b x y):=e_add one_ri (R7 hc hk hx hy h h7)
include hx hy hc hk in theorem R9 (h:H6 c k a b x y) (h7:z0 (s7 c k a b x y)=true) (h9:z0 (s9 c k a b x y)=true):Ri (s9 c k a b x y):=r_add one_ri (R7 hc hk hx hy h h7) (z0e h9)
include hx hy hc hk in theorem P9 (h:H6 c k a b x y) (p:0<(s6 c k a b x y).lo) (h7:z0 (s7 c k a b x y)=true) (h9:z0 (s9 c k a b x y)=true):0<(s9 c k a b x y).lo:=add_pos one_ri (R7 hc hk hx hy h h7) (z0e h9) (by decide) (by have:=P7 hc hk hx hy h p; omega)
include hx hy hc hk in theorem K10 (h:H6 c k a b x y) (p:0<(s6 c k a b x y).lo) (h7:z0 (s7 c k a b x y)=true) (h8:z0 (s8 c k a b x y)=true) (h9:z0 (s9 c k a b x y)=true):okE (s10 c k a b x y):=e_div (R8 hc hx hy h h8) (R9 hc hk hx hy h h7 h9) (P9 hc hk hx hy h p h7 h9)
include hx hy hc hk in theorem R10 (h:H6 c k a b x y) (h7:z0 (s7 c k a b x y)=true) (h8:z0 (s8 c k a b x y)=true) (h9:z0 (s9 c k a b x y)=true) (h10:z0 (s10 c k a b x y)=true):Ri (s10 c k a b x y):=r_div (R8 hc hx hy h h8) (R9 hc hk hx hy h h7 h9) (z0e h10)
include hx hy in theorem KU0 (h0:z0 (s0 c k a b x y)=true) (h1:z0 (s1 c k a b x y)=true) (h2:z0 (s2 c k a b x y)=true):okE (u0 c k a b x y):=e_sc (R2 hx hy h0 h1 h2) sc_h (by decide)
include hx hy in theorem RU0 (h0:z0 (s0 c k a b x y)=true) (h1:z0 (s1 c k a b x y)=true) (h2:z0 (s2 c k a b x y)=true) (u:z0 (u0 c k a b x y)=true):Ri (u0 c k a b x y):=r_sc (R2 hx hy h0 h1 h2) sc_h (z0e u)
theorem KCA {n:Int} (h:inL n):okE (ca n):=e_sc (s:=⟨4294967296,4294967296,0⟩) one_ri (sc_a h) (ok_a h)
theorem RCA {n:Int} (h:inL n) (u:z0 (ca n)=true):Ri (ca n):=r_sc (s:=⟨4294967296,4294967296,0⟩) one_ri (sc_a h) (z0e u)
variable (i0:inL a0) (i1:inL a1) (i2:inL a2) (i3:inL a3)
def HU (c k a0 a1 a2 a3 a b x y:Int):Prop:=(z0 (s0 c k a b x y)=true/\z0 (s1 c k a b x y)=true/\z0 (s2 c k a b x y)=true/\z0 (u0 c k a b x y)=true)/\z0 (ca a0)=true/\z0 (ca a1)=true/\z0 (ca a2)=true/\z0 (ca a3)=true
include hx hy in theorem HU.r (h:HU c k a0 a1 a2 a3 a b x y):Ri (u0 c k a b x y):=RU0 hx hy h.1.1 h.1.2.1 h.1.2.2.1 h.1.2.2.2
include hx hy i0 i1 i2 i3 in theorem KU1 (h:HU c k a0 a1 a2 a3 a b x y):okE (u1 c k a0 a1 a2 a3 a b x y):=evl_e (h.r hx hy) (RCA i0 h.2.1) (RCA i1 h.2.2.1) (RCA i2 h.2.2.2.1) (RCA i3 h.2.2.2.2)
include hx hy i0 i1 i2 i3 in theorem RU1 (h:HU c k a0 a1 a2 a3 a b x y) (u:z0 (u1 c k a0 a1 a2 a3 a b x y)=true):Ri (u1 c k a0 a1 a2 a3 a b x y):=evl_r (h.r hx hy) (RCA i0 h.2.1) (RCA i1 h.2.2.1) (RCA i2 h.2.2.2.1) (RCA i3 h.2.2.2.2) (z0e u)
include hx hy in theorem KU2 (h:HU c k a0 a1 a2 a3 a b x y):okE (u2 c k a b x y):=e_sqr (h.r hx hy)
include hx hy in theorem RU2 (h:HU c k a0 a1 a2 a3 a b x y) (u:z0 (u2 c k a b x y)=true):Ri (u2 c k a b x y):=r_sqr (h.r hx hy) (z0e u)
include hx hy i0 i1 i2 i3 in theorem KU3 (h:HU c k a0 a1 a2 a3 a b x y) (v1:z0 (u1 c k a0 a1 a2 a3 a b x y)=true) (v2:z0 (u2 c k a b x y)=true):okE (u3 c k a0 a1 a2 a3 a b x y):=e_mul (RU2 hx hy h v2) (RU1 hx hy i0 i1 i2 i3 h v1)
include hx hy i0 i1 i2 i3 in theorem RU3 (h:HU c k a0 a1 a2 a3 a b x y) (v1:z0 (u1 c k a0 a1 a2 a3 a b x y)=true) (v2:z0 (u2 c k a b x y)=true) (v3:z0 (u3 c k a0 a1 a2 a3 a b x y)=true):Ri (u3 c k a0 a1 a2 a3 a b x y):=r_mul (RU2 hx hy h v2) (RU1 hx hy i0 i1 i2 i3 h v1) (z0e v3)
include hx hy hc hk i0 i1 i2 i3 in theorem KU4 (g:H6 c k a b x y) (h7:z0 (s7 c k a b x y)=true) (h8:z0 (s8 c k a b x y)=true) (h9:z0 (s9 c k a b x y)=true) (h10:z0 (s10 c k a b x y)=true) (h:HU c k a0 a1 a2 a3 a b x y) (v1:z0 (u1 c k a0 a1 a2 a3 a b x y)=true) (v2:z0 (u2 c k a b x y)=true) (v3:z0 (u3 c k a0 a1 a2 a3 a b x y)=true):okE (u4 c k a0 a1 a2 a3 a b x y):=e_add (R10 hc hk hx hy g h7 h8 h9 h10) (RU3 hx hy i0 i1 i2 i3 h v1 v2 v3)
end
end Go.Rd
namespace Go.Rd
open Go Go.Eng Go.Ar
section
variable {c k l m a b x y:Int} (hc:inL c) (hk:inK k) (hl:inL l) (hm:inK m) (hx:okSp a b=true) (hy:okSp x y=true)
include hc hk hl hm hx hy in theorem BK0 :okE (b0 c k l m a b x y):=e_sqr (Ri.of (s:=⟨a,b,0⟩) hx)
include hc hk hl hm hx hy in theorem BR0 (e0:z0 (b0 c k l m a b x y)=true):Ri (b0 c k l m a b x y):=r_sqr (Ri.of (s:=⟨a,b,0⟩) hx) (z0e e0)
include hc hk hl hm hx hy in theorem BK1 (e0:z0 (b0 c k l m a b x y)=true):okE (b1 c k l m a b x y):=e_sc (BR0 hc hk hl hm hx hy e0) (sc_c hl) (ok_c hl)
include hc hk hl hm hx hy in theorem BR1 (e0:z0 (b0 c k l m a b x y)=true) (e1:z0 (b1 c k l m a b x y)=true):Ri (b1 c k l m a b x y):=r_sc (BR0 hc hk hl hm hx hy e0) (sc_c hl) (z0e e1)
include hc hk hl hm hx hy in theorem BK2 :okE (b2 c k l m a b x y):=e_sqr (Ri.of (s:=⟨x,y,0⟩) hy)
include hc hk hl hm hx hy in theorem BR2 (e2:z0 (b2 c k l m a b x y)=true):Ri (b2 c k l m a b x y):=r_sqr (Ri.of (s:=⟨x,y,0⟩) hy) (z0e e2)
include hc hk hl hm hx hy in theorem BK3 (e2:z0 (b2 c k l m a b x y)=true):okE (b3 c k l m a b x y):=e_sc (BR2 hc hk hl hm hx hy e2) (sc_c hc) (ok_c hc)
include hc hk hl hm hx hy in theorem BR3 (e2:z0 (b2 c k l m a b x y)=true) (e3:z0 (b3 c k l m a b x y)=true):Ri (b3 c k l m a b x y):=r_sc (BR2 hc hk hl hm hx hy e2) (sc_c hc) (z0e e3)
include hc hk hl hm hx hy in theorem BK4 (e0:z0 (b0 c k l m a b x y)=true) (e1:z0 (b1 c k l m a b x y)=true):okE (b4 c k l m a b x y):=e_sc (BR1 hc hk hl hm hx hy e0 e1) (sc_c hl) (ok_c hl)
include hc hk hl hm hx hy in theorem BR4 (e0:z0 (b0 c k l m a b x y)=true) (e1:z0 (b1 c k l m a b x y)=true) (e4:z0 (b4 c k l m a b x y)=true):Ri (b4 c k l m a b x y):=r_sc (BR1 hc hk hl hm hx hy e0 e1) (sc_c hl) (z0e e4)
include hc hk hl hm hx hy in theorem BK5 (e2:z0 (b2 c k l m a b x y)=true) (e3:z0 (b3 c k l m a b x y)=true):okE (b5 c k l m a b x y):=e_sc (BR3 hc hk hl hm hx hy e2 e3) (sc_c hc) (ok_c hc)
include hc hk hl hm hx hy in theorem BR5 (e2:z0 (b2 c k l m a b x y)=true) (e3:z0 (b3 c k l m a b x y)=true) (e5:z0 (b5 c k l m a b x y)=true):Ri (b5 c k l m a b x y):=r_sc (BR3 hc hk hl hm hx hy e2 e3) (sc_c hc) (z0e e5)
include hc hk hl hm hx hy in theorem BK6 (e0:z0 (b0 c k l m a b x y)=true) (e1:z0 (b1 c k l m a b x y)=true) (e4:z0 (b4 c k l m a b x y)=true):okE (b6 c k l m a b x y):=e_sc (BR4 hc hk hl hm hx hy e0 e1 e4) (sc_k hm) (ok_k hm)
include hc hk hl hm hx hy in theorem BR6 (e0:z0 (b0 c k l m a b x y)=true) (e1:z0 (b1 c k l m a b x y)=true) (e4:z0 (b4 c k l m a b x y)=true) (e6:z0 (b6 c k l m a b x y)=true):Ri (b6 c k l m a b x y):=r_sc (BR4 hc hk hl hm hx hy e0 e1 e4) (sc_k hm) (z0e e6)
include hc hk hl hm hx hy in theorem BK7 (e2:z0 (b2 c k l m a b x y)=true) (e3:z0 (b3 c k l m a b x y)=true) (e5:z0 (b5 c k l m a b x y)=true):okE (b7 c k l m a b x y):=e_sc (BR5 hc hk hl hm hx hy e2 e3 e5) (sc_k hk) (ok_k hk)
include hc hk hl hm hx hy in theorem BR7 (e2:z0 (b2 c k l m a b x y)=true) (e3:z0 (b3 c k l m a b x y)=true) (e5:z0 (b5 c k l m a b x y)=true) (e7:z0 (b7 c k l m a b x y)=true):Ri (b7 c k l m a b x y):=r_sc (BR5 hc hk hl hm hx hy e2 e3 e5) (sc_k hk) (z0e e7)
include hc hk hl hm hx hy in theorem BK8 (e0:z0 (b0 c k l m a b x y)=true) (e1:z0 (b1 c k l m a b x y)=true) (e2:z0 (b2 c k l m a b x y)=true) (e3:z0 (b3 c k l m a b x y)=true) (e4:z0 (b4 c k l m a b x y)=true) (e5:z0 (b5 c k l m a b x y)=true) (e6:z0 (b6 c k l m a b x y)=true) (e7:z0 (b7 c k l m a b x y)=true):okE (b8 c k l m a b x y):=e_add (BR6 hc hk hl hm hx hy e0 e1 e4 e6) (BR7 hc hk hl hm hx hy e2 e3 e5 e7)
include hc hk hl hm hx hy in theorem BR8 (e0:z0 (b0 c k l m a b x y)=true) (e1:z0 (b1 c k l m a b x y)=true) (e2:z0 (b2 c k l m a b x y)=true) (e3:z0 (b3 c k l m a b x y)=true) (e4:z0 (b4 c k l m a b x y)=true) (e5:z0 (b5 c k l m a b x y)=true) (e6:z0 (b6 c k l m a b x y)=true) (e7:z0 (b7 c k l m a b x y)=true) (e8:z0 (b8 c k l m a b x y)=true):Ri (b8 c k l m a b x y):=r_add (BR6 hc hk hl hm hx hy e0 e1 e4 e6) (BR7 hc hk hl hm hx hy e2 e3 e5 e7) (z0e e8)
include hc hk hl hm hx hy in theorem BK9 (e0:z0 (b0 c k l m a b x y)=true) (e1:z0 (b1 c k l m a b x y)=true) (e2:z0 (b2 c k l m a b x y)=true) (e3:z0 (b3 c k l m a b x y)=true) (e4:z0 (b4 c k l m a b x y)=true) (e5:z0 (b5 c k l m a b x y)=true) (e6:z0 (b6 c k l m a b x y)=true) (e7:z0 (b7 c k l m a b x y)=true) (e8:z0 (b8 c k l m a b x y)=true):okE (b9 c k l m a b x y):=e_sub one_ri (BR8 hc hk hl hm hx hy e0 e1 e2 e3 e4 e5 e6 e7 e8)
include hc hk hl hm hx hy in theorem BR9 (e0:z0 (b0 c k l m a b x y)=true) (e1:z0 (b1 c k l m a b x y)=true) (e2:z0 (b2 c k l m a b x y)=true) (e3:z0 (b3 c k l m a b x y)=true) (e4:z0 (b4 c k l m a b x y)=true) (e5:z0 (b5 c k l m a b x y)=true) (e6:z0 (b6 c k l m a b x y)=true) (e7:z0 (b7 c k l m a b x y)=true) (e8:z0 (b8 c k l m a b x y)=true) (e9:z0 (b9 c k l m a b x y)=true):Ri (b9 c k l m a b x y):=r_sub one_ri (BR8 hc hk hl hm hx hy e0 e1 e2 e3 e4 e5 e6 e7 e8) (z0e e9)
include hc hk hl hm hx hy in theorem BK10 (e0:z0 (b0 c k l m a b x y)=true) (e1:z0 (b1 c k l m a b x y)=true) (e2:z0 (b2 c k l m a b x y)=true) (e3:z0 (b3 c k l m a b x y)=true) (e4:z0 (b4 c k l m a b x y)=true) (e5:z0 (b5 c k l m a b x y)=true) (e6:z0 (b6 c k l m a b x y)=true) (e7:z0 (b7 c k l m a b x y)=true) (e8:z0 (b8 c k l m a b x y)=true) (e9:z0 (b9 c k l m a b x y)=true) (p:0<(b9 c k l m a b x y).lo):okE (b10 c k l m a b x y):=e_rt (BR9 hc hk hl hm hx hy e0 e1 e2 e3 e4 e5 e6 e7 e8 e9) p
include hc hk hl hm hx hy in theorem BR10 (e0:z0 (b0 c k l m a b x y)=true) (e1:z0 (b1 c k l m a b x y)=true) (e2:z0 (b2 c k l m a b x y)=true) (e3:z0 (b3 c k l m a b x y)=true) (e4:z0 (b4 c k l m a b x y)=true) (e5:z0 (b5 c k l m a b x y)=true) (e6:z0 (b6 c k l m a b x y)=true) (e7:z0 (b7 c k l m a b x y)=true) (e8:z0 (b8 c k l m a b x y)=true) (e9:z0 (b9 c k l m a b x y)=true) (e10:z0 (b10 c k l m a b x y)=true):Ri (b10 c k l m a b x y):=r_rt (BR9 hc hk hl hm hx hy e0 e1 e2 e3 e4 e5 e6 e7 e8 e9) (z0e e10)
include hc hk hl hm hx hy in theorem BK11 (e0:z0 (b0 c k l m a b x y)=true) (e1:z0 (b1 c k l m a b x y)=true) (e2:z0 (b2 c k l m a b x y)=true) (e3:z0 (b3 c k l m a b x y)=true):okE (b11 c k l m a b x y):=e_add (BR1 hc hk hl hm hx hy e0 e1) (BR3 hc hk hl hm hx hy e2 e3)
include hc hk hl hm hx hy in theorem BR11 (e0:z0 (b0 c k l m a b x y)=true) (e1:z0 (b1 c k l m a b x y)=true) (e2:z0 (b2 c k l m a b x y)=true) (e3:z0 (b3 c k l m a b x y)=true) (e11:z0 (b11 c k l m a b x y)=true):Ri (b11 c k l m a b x y):=r_add (BR1 hc hk hl hm hx hy e0 e1) (BR3 hc hk hl hm hx hy e2 e3) (z0e e11)
include hc hk hl hm hx hy in theorem BK12 (e0:z0 (b0 c k l m a b x y)=true) (e1:z0 (b1 c k l m a b x y)=true) (e2:z0 (b2 c k l m a b x y)=true) (e3:z0 (b3 c k l m a b x y)=true) (e4:z0 (b4 c k l m a b x y)=true) (e5:z0 (b5 c k l m a b x y)=true) (e6:z0 (b6 c k l m a b x y)=true) (e7:z0 (b7 c k l m a b x y)=true) (e8:z0 (b8 c k l m a b x y)=true) (e9:z0 (b9 c k l m a b x y)=true) (e10:z0 (b10 c k l m a b x y)=true):okE (b12 c k l m a b x y):=e_add one_ri (BR10 hc hk hl hm hx hy e0 e1 e2 e3 e4 e5 e6 e7 e8 e9 e10)
include hc hk hl hm hx hy in theorem BR12 (e0:z0 (b0 c k l m a b x y)=true) (e1:z0 (b1 c k l m a b x y)=true) (e2:z0 (b2 c k l m a b x y)=true) (e3:z0 (b3 c k l m a b x y)=true) (e4:z0 (b4 c k l m a b x y)=true) (e5:z0 (b5 c k l m a b x y)=true) (e6:z0 (b6 c k l m a b x y)=true) (e7:z0 (b7 c k l m a b x y)=true) (e8:z0 (b8 c k l m a b x y)=true) (e9:z0 (b9 c k l m a b x y)=true) (e10:z0 (b10 c k l m a b x y)=true) (e12:z0 (b12 c k l m a b x y)=true):Ri (b12 c k l m a b x y):=r_add one_ri (BR10 hc hk hl hm hx hy e0 e1 e2 e3 e4 e5 e6 e7 e8 e9 e10) (z0e e12)
include hc hk hl hm hx hy in theorem BK13 (e0:z0 (b0 c k l m a b x y)=true) (e1:z0 (b1 c k l m a b x y)=true) (e2:z0 (b2 c k l m a b x y)=true) (e3:z0 (b3 c k l m a b x y)=true) (e4:z0 (b4 c k l m a b x y)=true) (e5:z0 (b5 c k l m a b x y)=true) (e6:z0 (b6 c k l m a b x y)=true) (e7:z0 (b7 c k l m a b x y)=true) (e8:z0 (b8 c k l m a b x y)=true) (e9:z0 (b9 c k l m a b x y)=true) (e10:z0 (b10 c k l m a b x y)=true) (e11:z0 (b11 c k l m a b x y)=true) (e12:z0 (b12 c k l m a b x y)=true) (p:0<(b12 c k l m a b x y).lo):okE (b13 c k l m a b x y):=e_div (BR11 hc hk hl hm hx hy e0 e1 e2 e3 e11) (BR12 hc hk hl hm hx hy e0 e1 e2 e3 e4 e5 e6 e7 e8 e9 e10 e12) p
include hc hk hl hm hx hy in theorem BR13 (e0:z0 (b0 c k l m a b x y)=true) (e1:z0 (b1 c k l m a b x y)=true) (e2:z0 (b2 c k l m a b x y)=true) (e3:z0 (b3 c k l m a b x y)=true) (e4:z0 (b4 c k l m a b x y)=true) (e5:z0 (b5 c k l m a b x y)=true) (e6:z0 (b6 c k l m a b x y)=true) (e7:z0 (b7 c k l m a b x y)=true) (e8:z0 (b8 c k l m a b x y)=true) (e9:z0 (b9 c k l m a b x y)=true) (e10:z0 (b10 c k l m a b x y)=true) (e11:z0 (b11 c k l m a b x y)=true) (e12:z0 (b12 c k l m a b x y)=true) (e13:z0 (b13 c k l m a b x y)=true):Ri (b13 c k l m a b x y):=r_div (BR11 hc hk hl hm hx hy e0 e1 e2 e3 e11) (BR12 hc hk hl hm hx hy e0 e1 e2 e3 e4 e5 e6 e7 e8 e9 e10 e12) (z0e e13)
include hc hk hl hm hx hy in theorem BP12 (e0:z0 (b0 c k l m a b x y)=true) (e1:z0 (b1 c k l m a b x y)=true) (e2:z0 (b2 c k l m a b x y)=true) (e3:z0 (b3 c k l m a b x y)=true) (e4:z0 (b4 c k l m a b x y)=true) (e5:z0 (b5 c k l m a b x y)=true) (e6:z0 (b6 c k l m a b x y)=true) (e7:z0 (b7 c k l m a b x y)=true) (e8:z0 (b8 c k l m a b x y)=true) (e9:z0 (b9 c k l m a b x y)=true) (e10:z0 (b10 c k l m a b x y)=true) (e12:z0 (b12 c k l m a b x y)=true) (p:0<(b9 c k l m a b x y).lo):0<(b12 c k l m a b x y).lo:=add_pos one_ri (BR10 hc hk hl hm hx hy e0 e1 e2 e3 e4 e5 e6 e7 e8 e9 e10) (z0e e12) (by decide) (by have:=rt_pos (BR9 hc hk hl hm hx hy e0 e1 e2 e3 e4 e5 e6 e7 e8 e9) p; exact Int.le_of_lt this)
end
end Go.Rd
namespace Go.Rd
open Go Go.Eng Go.Ar
theorem sc0 {s:Sp} {n d L:Int} (h:Ri s) (hn:-L<=n/\n<=L) (hL:L<=4611686018427387904) (hd:1<=d) (hd':d<=4611686018427387904) (hb:L<=d) (hbig:4503599627370496*L<18446744073709551615*d):(xScaleS s.lo s.hi n d).e=0:=
 (scale_op (s:=⟨s.lo,s.hi,0⟩) (M:=4503599627370496) (L:=L) (M':=4503599627370496) ⟨rfl,h.lo,h.le,h.hi⟩ (by decide) hn hL hd hd' (by omega) (by decide) hbig).1.e
theorem cb_0 {n m:Int} (h:inL n) (hm:2<=m/\m<=5):(cb n m).e=0/\Ri (cb n m):=by
 unfold inL at h
 have p1:-5000000000<=n*m/\n*m<=5000000000:=by
  have a1:=Int.mul_le_mul_of_nonneg_right h.2 (show 0<=m by omega)
  have a2:=Int.mul_le_mul_of_nonneg_right h.1 (show 0<=m by omega)
  omega
 have w:IntKind.i64.wrap (n*m)=n*m:=i64w (by omega) (by omega)
 have r:Bd (cb n m) 4503599627370496:=by
  unfold cb
  rw [w]
  exact (scale_op (s:=⟨4294967296,4294967296,0⟩) (M:=4294967296) (L:=5000000000) ⟨rfl,by decide,by decide,by decide⟩ (by decide) p1 (by decide) (by decide) (by decide) (by decide) (by decide) (by decide)).1
 exact ⟨r.e,r.lo,r.le,r.hi⟩
theorem fif_0 {a b:Int} (h:okSp a b=true):(fif a b).e=0/\Ri (fif a b):=by
 have e:(fif a b).e=0:=sc0 (s:=⟨a,b,0⟩) (L:=1) (Ri.of h) (by decide) (by decide) (by decide) (by decide) (by decide) (by decide)
 exact ⟨e,r_sc (s:=⟨a,b,0⟩) (Ri.of h) (okSc_of (M:=1) (by decide) (by decide)) e⟩
theorem cur_0 {a b c:Int} (h:okSp a b=true) (hc:inL c):(xScaleS a b c 1000000000).e=0/\Ri (xScaleS a b c 1000000000):=by
 have e:(xScaleS a b c 1000000000).e=0:=sc0 (s:=⟨a,b,0⟩) (L:=1000000000) (Ri.of h) hc (by decide) (by decide) (by decide) (by decide) (by decide)
 exact ⟨e,r_sc (s:=⟨a,b,0⟩) (Ri.of h) (sc_c hc) e⟩
theorem zt {s:Sp} (h:s.e=0):z0 s=true:=by unfold z0; rw [h]; rfl
structure BaseF (c k a b x y:Int):Prop where
 h:H6 c k a b x y
 p:0<(s6 c k a b x y).lo
 h7:z0 (s7 c k a b x y)=true
 h8:z0 (s8 c k a b x y)=true
 h9:z0 (s9 c k a b x y)=true
 h10:z0 (s10 c k a b x y)=true
theorem base_of {c k a b x y:Int} (h:sagB c k a b x y=true):BaseF c k a b x y:=by
 unfold sagB sagH0 at h
 simp only [Bool.and_eq_true] at h
 obtain ⟨⟨⟨e0,e1,e2,e3⟩,e4,e5⟩,e6,d,e7,e8,e9,e10⟩:=h
 exact ⟨⟨e0,e1,e2,e3,e4,e5,e6⟩,dom_pos d,e7,e8,e9,e10⟩
theorem sag_c {c k a0 a1 a2 a3 a b x y:Int} (g:(sagS c k a0 a1 a2 a3 a b x y).e=0):sagC c k a0 a1 a2 a3 a b x y=true:=by
 cases e:sagC c k a0 a1 a2 a3 a b x y with
 | true=>rfl
 | false=>
  have g:(bif sagC c k a0 a1 a2 a3 a b x y then 0 else bif sagD c k a b x y then 9 else 6:Int)=0:=g
  rw [e,cond_false] at g
  cases d:sagD c k a b x y <;> rw [d] at g <;> cases g
theorem sag_base {c k a0 a1 a2 a3 a b x y:Int} (g:(sagS c k a0 a1 a2 a3 a b x y).e=0):BaseF c k a b x y:=by
 have:=sag_c g
 unfold sagC at this
 rw [Bool.and_eq_true] at this
 exact base_of this.1
theorem sag_even {c k a0 a1 a2 a3 a b x y:Int} (g:(sagS c k a0 a1 a2 a3 a b x y).e=0) (has:asp a0 a1 a2 a3=true):z0 (u0 c k a b x y)=true:=by
 have:=sag_c g
 unfold sagC at this
 rw [Bool.and_eq_true,has] at this
 have:=this.2
 unfold sagE at this
 simp only [cond_true,Bool.and_eq_true] at this
 exact this.1.1.2.2.2
theorem t1_0 {g:Int} (h:(!(bif g != 0 then true else false))=true):g=0:=by
 rcases Decidable.em (g=0) with e|e
 .exact e
 .have:(g != 0)=true:=by simpa using e
  rw [this] at h
  cases h
section
variable {c k a0 a1 a2 a3 a b x y:Int} (hc:inL c) (hk:inK k) (hx:okSp a b=true) (hy:okSp x y=true) (f:BaseF c k a b x y)
include hc hk hx hy f
theorem F14:okE (s14 c k a b x y):=e_div (s:=s13 c k a b x y) (cur_0 hx hc).2 (R7 hc hk hx hy f.h f.h7) (P7 hc hk hx hy f.h f.p)
theorem F14r (e:z0 (s14 c k a b x y)=true):Ri (s14 c k a b x y):=r_div (s:=s13 c k a b x y) (cur_0 hx hc).2 (R7 hc hk hx hy f.h f.h7) (z0e e)
theorem F12:okE (s12 c k a b x y):=e_div (s:=s11 c k a b x y) (cur_0 hy hc).2 (R7 hc hk hx hy f.h f.h7) (P7 hc hk hx hy f.h f.p)
theorem F12r (e:z0 (s12 c k a b x y)=true):Ri (s12 c k a b x y):=r_div (s:=s11 c k a b x y) (cur_0 hy hc).2 (R7 hc hk hx hy f.h f.h7) (z0e e)
variable (i0:inL a0) (i1:inL a1) (i2:inL a2) (i3:inL a3) (u:z0 (u0 c k a b x y)=true)
include u
omit hc hk in
theorem FU:Ri (u0 c k a b x y):=RU0 hx hy f.h.1 f.h.2.1 f.h.2.2.1 u
include i0 i1 i2 i3
theorem FQ1:okE (q1 c k a0 a1 a2 a3 a b x y):=evl_e (FU hx hy f u) (cb_0 i0 (by decide)).2 (cb_0 i1 (by decide)).2 (cb_0 i2 (by decide)).2 (cb_0 i3 (by decide)).2
theorem FQ1r (e:z0 (q1 c k a0 a1 a2 a3 a b x y)=true):Ri (q1 c k a0 a1 a2 a3 a b x y):=evl_r (FU hx hy f u) (cb_0 i0 (by decide)).2 (cb_0 i1 (by decide)).2 (cb_0 i2 (by decide)).2 (cb_0 i3 (by decide)).2 (z0e e)
theorem FQ2 (e:z0 (q1 c k a0 a1 a2 a3 a b x y)=true):okE (q2 c k a0 a1 a2 a3 a b x y):=e_mul (FU hx hy f u) (FQ1r hc hk hx hy f i0 i1 i2 i3 u e)
theorem FQ2r (e:z0 (q1 c k a0 a1 a2 a3 a b x y)=true) (e2:z0 (q2 c k a0 a1 a2 a3 a b x y)=true):Ri (q2 c k a0 a1 a2 a3 a b x y):=r_mul (FU hx hy f u) (FQ1r hc hk hx hy f i0 i1 i2 i3 u e) (z0e e2)
theorem FQ3 (e:z0 (q1 c k a0 a1 a2 a3 a b x y)=true) (e2:z0 (q2 c k a0 a1 a2 a3 a b x y)=true):okE (q3 c k a0 a1 a2 a3 a b x y):=e_mul (fif_0 hx).2 (FQ2r hc hk hx hy f i0 i1 i2 i3 u e e2)
theorem FQ4 (e14:z0 (s14 c k a b x y)=true) (e:z0 (q1 c k a0 a1 a2 a3 a b x y)=true) (e2:z0 (q2 c k a0 a1 a2 a3 a b x y)=true) (e3:z0 (q3 c k a0 a1 a2 a3 a b x y)=true):okE (q4 c k a0 a1 a2 a3 a b x y):=e_add (F14r hc hk hx hy f e14) (r_mul (fif_0 hx).2 (FQ2r hc hk hx hy f i0 i1 i2 i3 u e e2) (z0e e3))
theorem FQ5 (e:z0 (q1 c k a0 a1 a2 a3 a b x y)=true) (e2:z0 (q2 c k a0 a1 a2 a3 a b x y)=true):okE (q5 c k a0 a1 a2 a3 a b x y):=e_mul (fif_0 hy).2 (FQ2r hc hk hx hy f i0 i1 i2 i3 u e e2)
theorem FQ6 (e12:z0 (s12 c k a b x y)=true) (e:z0 (q1 c k a0 a1 a2 a3 a b x y)=true) (e2:z0 (q2 c k a0 a1 a2 a3 a b x y)=true) (e5:z0 (q5 c k a0 a1 a2 a3 a b x y)=true):okE (q6 c k a0 a1 a2 a3 a b x y):=e_add (F12r hc hk hx hy f e12) (r_mul (fif_0 hy).2 (FQ2r hc hk hx hy f i0 i1 i2 i3 u e e2) (z0e e5))
end
end Go.Rd
namespace Go.Rd
open Go Go.Eng Go.Ar
theorem sq_bound {a b:Int} (h:okSp a b=true) (e:(sqrS a b).e=0):Bd ⟨a,b,0⟩ 4398046511104:=by
 obtain ⟨h1,h2,h3⟩:=okSp_iff.1 h
 unfold sqrS at e
 rw [h,cond_true] at e
 have t:=(told_ok e).2.2.2.2
 have q:abH a b*abH a b<=4503599627370496*4294967296:=(rd_le_iff (by decide)).1 t
 have p:0<=abH a b:=(abH_le h).1
 have r:abH a b<=4398046511104:=le_of_sq (by decide) (by omega)
 unfold abH at r
 have:=le_mx b (-a)
 exact ⟨rfl,by show -4398046511104<=a; omega,h2,by show b<=4398046511104; omega⟩
theorem bd_ri {s:Sp} {M:Int} (h:Bd s M) (hM:M<=4503599627370496):Ri s:=⟨by have:=h.lo; omega,h.le,by have:=h.hi; omega⟩
structure BaseX (c k l m a b x y:Int):Prop where
 e0:z0 (b0 c k l m a b x y)=true
 e1:z0 (b1 c k l m a b x y)=true
 e2:z0 (b2 c k l m a b x y)=true
 e3:z0 (b3 c k l m a b x y)=true
 e4:z0 (b4 c k l m a b x y)=true
 e5:z0 (b5 c k l m a b x y)=true
 e6:z0 (b6 c k l m a b x y)=true
 e7:z0 (b7 c k l m a b x y)=true
 e8:z0 (b8 c k l m a b x y)=true
 e9:z0 (b9 c k l m a b x y)=true
 p:0<(b9 c k l m a b x y).lo
 e10:z0 (b10 c k l m a b x y)=true
 e11:z0 (b11 c k l m a b x y)=true
 e12:z0 (b12 c k l m a b x y)=true
 e13:z0 (b13 c k l m a b x y)=true
theorem sagX_base {c k l m a b x y:Int} (g:(sagX c k l m a b x y).e=0):BaseX c k l m a b x y:=by
 have h:sagXC c k l m a b x y=true:=by
  cases e:sagXC c k l m a b x y with
  | true=>rfl
  | false=>
   have g:(bif sagXC c k l m a b x y then 0 else bif sagXD c k l m a b x y then 9 else 6:Int)=0:=g
   rw [e,cond_false] at g
   cases d:sagXD c k l m a b x y <;> rw [d] at g <;> cases g
 unfold sagXC sagX0 at h
 simp only [Bool.and_eq_true] at h
 obtain ⟨⟨⟨e0,e1,e2,e3⟩,⟨e4,e6⟩,⟨e5,e7⟩,e8⟩,e9,d,e10,e11,e12,e13⟩:=h
 exact ⟨e0,e1,e2,e3,e4,e5,e6,e7,e8,e9,dom_pos d,e10,e11,e12,e13⟩
section
variable {c k l m a b x y:Int} (hc:inL c) (hk:inK k) (hl:inL l) (hm:inK m) (hx:okSp a b=true) (hy:okSp x y=true) (f:BaseX c k l m a b x y)
include hc hk hl hm hx hy f
theorem X10r:Ri (b10 c k l m a b x y):=BR10 hc hk hl hm hx hy f.e0 f.e1 f.e2 f.e3 f.e4 f.e5 f.e6 f.e7 f.e8 f.e9 f.e10
theorem X10p:0<(b10 c k l m a b x y).lo:=rt_pos (BR9 hc hk hl hm hx hy f.e0 f.e1 f.e2 f.e3 f.e4 f.e5 f.e6 f.e7 f.e8 f.e9) f.p
theorem X12r:Ri (b12 c k l m a b x y):=BR12 hc hk hl hm hx hy f.e0 f.e1 f.e2 f.e3 f.e4 f.e5 f.e6 f.e7 f.e8 f.e9 f.e10 f.e12
theorem X12p:0<(b12 c k l m a b x y).lo:=BP12 hc hk hl hm hx hy f.e0 f.e1 f.e2 f.e3 f.e4 f.e5 f.e6 f.e7 f.e8 f.e9 f.e10 f.e12 f.p
theorem X13r:Ri (b13 c k l m a b x y):=BR13 hc hk hl hm hx hy f.e0 f.e1 f.e2 f.e3 f.e4 f.e5 f.e6 f.e7 f.e8 f.e9 f.e10 f.e11 f.e12 f.e13
theorem X14_b:Bd (b14 c k l m a b x y) 4398046511104:=(scale_op (M:=4398046511104) (L:=1000000000) (sq_bound hx (z0e f.e0)) (by decide) hl (by decide) (by decide) (by decide) (by decide) (by decide) (by decide)).1
theorem X15_b:Bd (b15 c k l m a b x y) 4398046511104:=(scale_op (M:=4398046511104) (L:=1000000000) (X14_b hc hk hl hm hx hy f) (by decide) hl (by decide) (by decide) (by decide) (by decide) (by decide) (by decide)).1
theorem X16_b:Bd (b16 c k l m a b x y) 444202697621504:=(scale_op (M:=4398046511104) (L:=101000000) (X15_b hc hk hl hm hx hy f) (by decide) (by rw [wkK hm]; unfold inK at hm; omega) (by decide) (by decide) (by decide) (by decide) (by decide) (by decide)).1
theorem X27_b:Bd (b27 c k l m a b x y) 8796093022208:=(scale_op (M:=4398046511104) (L:=2) (X14_b hc hk hl hm hx hy f) (by decide) (by decide) (by decide) (by decide) (by decide) (by decide) (by decide) (by decide)).1
theorem X18_b:Bd (b18 c k l m a b x y) 4398046511104:=(scale_op (M:=4398046511104) (L:=1000000000) (sq_bound hy (z0e f.e2)) (by decide) hc (by decide) (by decide) (by decide) (by decide) (by decide) (by decide)).1
theorem X19_b:Bd (b19 c k l m a b x y) 4398046511104:=(scale_op (M:=4398046511104) (L:=1000000000) (X18_b hc hk hl hm hx hy f) (by decide) hc (by decide) (by decide) (by decide) (by decide) (by decide) (by decide)).1
theorem X20_b:Bd (b20 c k l m a b x y) 444202697621504:=(scale_op (M:=4398046511104) (L:=101000000) (X19_b hc hk hl hm hx hy f) (by decide) (by rw [wkK hk]; unfold inK at hk; omega) (by decide) (by decide) (by decide) (by decide) (by decide) (by decide)).1
theorem X23_b:Bd (b23 c k l m a b x y) 8796093022208:=(scale_op (M:=4398046511104) (L:=2) (X18_b hc hk hl hm hx hy f) (by decide) (by decide) (by decide) (by decide) (by decide) (by decide) (by decide) (by decide)).1
theorem X17_b:okE (b17 c k l m a b x y):=e_div (bd_ri (X16_b hc hk hl hm hx hy f) (by decide)) (X10r hc hk hl hm hx hy f) (X10p hc hk hl hm hx hy f)
theorem X17r_b (e:z0 (b17 c k l m a b x y)=true):Ri (b17 c k l m a b x y):=r_div (bd_ri (X16_b hc hk hl hm hx hy f) (by decide)) (X10r hc hk hl hm hx hy f) (z0e e)
theorem X26_b (e:z0 (b17 c k l m a b x y)=true):okE (b26 c k l m a b x y):=e_mul (X13r hc hk hl hm hx hy f) (X17r_b hc hk hl hm hx hy f e)
theorem X28_b (e:z0 (b17 c k l m a b x y)=true) (e2:z0 (b26 c k l m a b x y)=true):okE (b28 c k l m a b x y):=e_add (bd_ri (X27_b hc hk hl hm hx hy f) (by decide)) (r_mul (X13r hc hk hl hm hx hy f) (X17r_b hc hk hl hm hx hy f e) (z0e e2))
theorem X29_b (e:z0 (b17 c k l m a b x y)=true) (e2:z0 (b26 c k l m a b x y)=true) (e3:z0 (b28 c k l m a b x y)=true):okE (b29 c k l m a b x y):=e_div (r_add (bd_ri (X27_b hc hk hl hm hx hy f) (by decide)) (r_mul (X13r hc hk hl hm hx hy f) (X17r_b hc hk hl hm hx hy f e) (z0e e2)) (z0e e3)) (X12r hc hk hl hm hx hy f) (X12p hc hk hl hm hx hy f)
theorem X21_b:okE (b21 c k l m a b x y):=e_div (bd_ri (X20_b hc hk hl hm hx hy f) (by decide)) (X10r hc hk hl hm hx hy f) (X10p hc hk hl hm hx hy f)
theorem X21r_b (e:z0 (b21 c k l m a b x y)=true):Ri (b21 c k l m a b x y):=r_div (bd_ri (X20_b hc hk hl hm hx hy f) (by decide)) (X10r hc hk hl hm hx hy f) (z0e e)
theorem X22_b (e:z0 (b21 c k l m a b x y)=true):okE (b22 c k l m a b x y):=e_mul (X13r hc hk hl hm hx hy f) (X21r_b hc hk hl hm hx hy f e)
theorem X24_b (e:z0 (b21 c k l m a b x y)=true) (e2:z0 (b22 c k l m a b x y)=true):okE (b24 c k l m a b x y):=e_add (bd_ri (X23_b hc hk hl hm hx hy f) (by decide)) (r_mul (X13r hc hk hl hm hx hy f) (X21r_b hc hk hl hm hx hy f e) (z0e e2))
theorem X25_b (e:z0 (b21 c k l m a b x y)=true) (e2:z0 (b22 c k l m a b x y)=true) (e3:z0 (b24 c k l m a b x y)=true):okE (b25 c k l m a b x y):=e_div (r_add (bd_ri (X23_b hc hk hl hm hx hy f) (by decide)) (r_mul (X13r hc hk hl hm hx hy f) (X21r_b hc hk hl hm hx hy f e) (z0e e2)) (z0e e3)) (X12r hc hk hl hm hx hy f) (X12p hc hk hl hm hx hy f)
end
end Go.Rd
namespace Go.Rd
open Go Go.Eng Go.Ar
theorem taF_ok {p:Prop} {c k a0 a1 a2 a3 f0 f1 o th:Int} {s:ByteArray} {se ho a b x y:Int} (hp:p) (h:vStd c k a0 a1 a2 a3 f0 f1 o th s se ho) (hx:okSp a b=true) (hy:okSp x y=true):taF p ⟨c,k,a0,a1,a2,a3,a,b,x,y⟩:=by
 have hc:=h.hc
 have hk:=h.hk
 unfold taF
 simp only [ta1,ta3,ta5,ta7,ta8,ta12,ta14,ta17,ta18,ta21,ta25,ta27,ta28,ta29,ta31,ta36,ta50,ta55,ta56,ta57,ta58,ta59,ta60,S0,S1,S2,S3,S4,S5,S6,S7,S8,S9,S10,S11,S12,S13,S14,Q1,Q2,Q3,Q4,Q5,Q6,U0,U1,U2,U3,U4,CA0,CA1,CA2,CA3,CB0,CB1,CB2,CB3,FA,FB,AS,O,Bool.and_eq_true,and_imp,eq_self_iff_true,and_true,true_and,implies_true,and_self]
 exact ⟨⟨hp,hx,hy⟩,⟨⟨⟨K0 hx,fun e0=>⟨K1 hy,fun e2=>⟨K2 hx hy e0 e2,fun e4=>K3 hc hx hy e0 e2 e4⟩⟩⟩,
  fun e0 e2 e4 e6=>⟨K4 hc hx hy e0 e2 e4 e6,fun e11=>K5 hc hk hx hy e0 e2 e4 e6 e11⟩⟩,
  fun e0 e2 e4 e6 e11 e13=>⟨K6 hc hk hx hy e0 e2 e4 e6 e11 e13,fun e15 e18=>
   have g:H6 c k a b x y:=⟨e0,e2,e4,e6,e11,e13,e15⟩
   have p:=dom_pos e18
   ⟨K7 hc hk hx hy g p,fun e19=>⟨K8 hc hx hy g,fun e20=>⟨K9 hc hk hx hy g e19,fun e24=>K10 hc hk hx hy g p e19 e20 e24⟩⟩⟩⟩⟩,
  fun e0 e2 e4 e6 e11 e13 e15 e18 e19 e20 e24 e26 _=>
   have g:H6 c k a b x y:=⟨e0,e2,e4,e6,e11,e13,e15⟩
   ⟨⟨⟨K0 hx,fun e0=>⟨K1 hy,fun e2=>⟨K2 hx hy e0 e2,fun e4=>KU0 hx hy e0 e2 e4⟩⟩⟩,
    fun _ _ _ e30=>⟨⟨KCA h.h0,fun _=>⟨KCA h.h1,fun _=>⟨KCA h.h2,fun _=>KCA h.h3⟩⟩⟩,fun f0 f1 f2 f3=>
     have u:HU c k a0 a1 a2 a3 a b x y:=⟨⟨e0,e2,e4,e30⟩,f0,f1,f2,f3⟩
     ⟨⟨(RCA h.h0 f0).ok,(RCA h.h1 f1).ok,(RCA h.h2 f2).ok,(RCA h.h3 f3).ok,(u.r hx hy).ok⟩,KU1 hx hy h.h0 h.h1 h.h2 h.h3 u⟩⟩⟩,
    fun _ _ _ e30 f0 f1 f2 f3 v1=>
     have u:HU c k a0 a1 a2 a3 a b x y:=⟨⟨e0,e2,e4,e30⟩,f0,f1,f2,f3⟩
     ⟨KU2 hx hy u,fun v2=>⟨KU3 hx hy h.h0 h.h1 h.h2 h.h3 u v1 v2,fun v3=>KU4 hc hk hx hy h.h0 h.h1 h.h2 h.h3 g e19 e20 e24 e26 u v1 v2 v3⟩⟩⟩⟩
theorem tbF_ok {p:Prop} {c k l m th:Int} {s:ByteArray} {se ho a b x y:Int} (hp:p) (h:vBic c k l m th s se ho) (hx:okSp a b=true) (hy:okSp x y=true):tbF p ⟨c,k,l,m,a,b,x,y⟩:=by
 have hc:=h.hc
 have hk:=h.hk
 have hl:=h.hl
 have hm:=h.hm
 unfold tbF
 simp only [tb1,tb3,tb5,tb7,tb11,tb15,tb17,tb18,tb21,tb22,X0,X1,X2,X3,X4,X5,X6,X7,X8,X9,X10,X11,X12,X13,X14,X15,X16,X17,X18,X19,X20,X21,X22,X23,X24,X25,X26,X27,X28,X29,O,Bool.and_eq_true,and_imp,eq_self_iff_true,and_true,true_and,implies_true,and_self]
 exact ⟨⟨hp,hx,hy⟩,⟨⟨BK0 hc hk hl hm hx hy ,fun e0=>⟨BK1 hc hk hl hm hx hy e0,fun e1=>⟨BK2 hc hk hl hm hx hy ,fun e2=>BK3 hc hk hl hm hx hy e2⟩⟩⟩,
  fun e0 e1 e2 e3=>⟨⟨BK4 hc hk hl hm hx hy e0 e1,fun e4=>BK6 hc hk hl hm hx hy e0 e1 e4⟩,fun e4 e6=>⟨⟨BK5 hc hk hl hm hx hy e2 e3,fun e5=>BK7 hc hk hl hm hx hy e2 e3 e5⟩,fun e5 e7=>BK8 hc hk hl hm hx hy e0 e1 e2 e3 e4 e5 e6 e7⟩⟩⟩,
  fun e0 e1 e2 e3 e4 e6 e5 e7 e8=>⟨BK9 hc hk hl hm hx hy e0 e1 e2 e3 e4 e5 e6 e7 e8,fun e9 d=>
   have p:=dom_pos d
   ⟨BK10 hc hk hl hm hx hy e0 e1 e2 e3 e4 e5 e6 e7 e8 e9 p,fun e10=>⟨BK11 hc hk hl hm hx hy e0 e1 e2 e3,fun e11=>⟨BK12 hc hk hl hm hx hy e0 e1 e2 e3 e4 e5 e6 e7 e8 e9 e10,fun e12=>BK13 hc hk hl hm hx hy e0 e1 e2 e3 e4 e5 e6 e7 e8 e9 e10 e11 e12 (BP12 hc hk hl hm hx hy e0 e1 e2 e3 e4 e5 e6 e7 e8 e9 e10 e12 p)⟩⟩⟩⟩⟩
set_option maxHeartbeats 4000000 in
theorem teF_ok {p:Prop} {c k a0 a1 a2 a3 f0 f1 o th:Int} {s:ByteArray} {se ho a b x y:Int} (hp:p) (h:vStd c k a0 a1 a2 a3 f0 f1 o th s se ho) (hx:okSp a b=true) (hy:okSp x y=true) (has:asp a0 a1 a2 a3=false):teF p ⟨c,k,a0,a1,a2,a3,a,b,x,y⟩:=by
 have hc:=h.hc
 have hk:=h.hk
 unfold teF
 refine ⟨⟨hp,hx,hy⟩,fun g=>?_⟩
 have g:(sagS c k a0 a1 a2 a3 a b x y).e=0:=t1_0 g
 have f:=sag_base g
 simp only [te1,te2,te4,te9,te13,te15,te16,te18,te19,te20,te21,te22,te23,te24,te26,te27,te28,te29,te30,te31,S0,S1,S2,S3,S4,S5,S6,S7,S8,S9,S10,S11,S12,S13,S14,Q1,Q2,Q3,Q4,Q5,Q6,U0,U1,U2,U3,U4,CA0,CA1,CA2,CA3,CB0,CB1,CB2,CB3,FA,FB,AS,O,Bool.and_eq_true,and_imp,eq_self_iff_true,and_true,true_and,implies_true,and_self]
 have E0:(s0 c k a b x y).e=0:=z0e f.h.1
 have Z0:z0 (s0 c k a b x y)=true:=f.h.1
 have E1:(s1 c k a b x y).e=0:=z0e f.h.2.1
 have Z1:z0 (s1 c k a b x y)=true:=f.h.2.1
 have E2:(s2 c k a b x y).e=0:=z0e f.h.2.2.1
 have Z2:z0 (s2 c k a b x y)=true:=f.h.2.2.1
 have E3:(s3 c k a b x y).e=0:=z0e f.h.2.2.2.1
 have Z3:z0 (s3 c k a b x y)=true:=f.h.2.2.2.1
 have E4:(s4 c k a b x y).e=0:=z0e f.h.2.2.2.2.1
 have Z4:z0 (s4 c k a b x y)=true:=f.h.2.2.2.2.1
 have E5:(s5 c k a b x y).e=0:=z0e f.h.2.2.2.2.2.1
 have Z5:z0 (s5 c k a b x y)=true:=f.h.2.2.2.2.2.1
 have E6:(s6 c k a b x y).e=0:=z0e f.h.2.2.2.2.2.2
 have Z6:z0 (s6 c k a b x y)=true:=f.h.2.2.2.2.2.2
 have E7:(s7 c k a b x y).e=0:=z0e f.h7
 have Z7:z0 (s7 c k a b x y)=true:=f.h7
 have E8:(s8 c k a b x y).e=0:=z0e f.h8
 have Z8:z0 (s8 c k a b x y)=true:=f.h8
 have E9:(s9 c k a b x y).e=0:=z0e f.h9
 have Z9:z0 (s9 c k a b x y)=true:=f.h9
 have E10:(s10 c k a b x y).e=0:=z0e f.h10
 have Z10:z0 (s10 c k a b x y)=true:=f.h10
 have O2:okE (s2 c k a b x y):=.inl E2
 have O8:okE (s8 c k a b x y):=.inl E8
 have O9:okE (s9 c k a b x y):=.inl E9
 have O10:okE (s10 c k a b x y):=.inl E10
 have D:decide ((s6 c k a b x y).lo<=0)=false:=decide_eq_false (by have:=f.p; omega)
 have E13:(s13 c k a b x y).e=0:=(cur_0 hx hc).1
 have E11:(s11 c k a b x y).e=0:=(cur_0 hy hc).1
 have O14:=F14 hc hk hx hy f
 have O12:=F12 hc hk hx hy f
 have has0:(!(a0==0&&(a1==0&&(a2==0&&(a3==0&&true)))))=false:=has
 simp +contextual only [E0,Z0,E1,Z1,E2,Z2,E3,Z3,E4,Z4,E5,Z5,E6,Z6,E7,Z7,E8,Z8,E9,Z9,E10,Z10,O2,O8,O9,O10,D,E13,E11,O14,O12,has0,and_true,true_and,implies_true,and_self,true_implies,Bool.not_true,Bool.not_false,Bool.false_or,Bool.or_false,Bool.true_and,Bool.false_and,Bool.false_eq_true,false_implies,eq_self_iff_true,cond_true,cond_false,Bool.cond_self]
set_option maxHeartbeats 4000000 in
theorem tcF_ok {p:Prop} {c k a0 a1 a2 a3 f0 f1 o th:Int} {s:ByteArray} {se ho a b x y:Int} (hp:p) (h:vStd c k a0 a1 a2 a3 f0 f1 o th s se ho) (hx:okSp a b=true) (hy:okSp x y=true) (has:asp a0 a1 a2 a3=true):tcF p ⟨c,k,a0,a1,a2,a3,a,b,x,y⟩:=by
 have hc:=h.hc
 have hk:=h.hk
 unfold tcF
 refine ⟨⟨hp,hx,hy⟩,fun g=>?_⟩
 have g:(sagS c k a0 a1 a2 a3 a b x y).e=0:=t1_0 g
 have f:=sag_base g
 simp only [tc1,tc2,tc4,tc9,tc13,tc15,tc16,tc31,tc32,tc33,tc34,tc37,tc39,tc43,tc44,tc45,tc46,tc47,tc48,tc49,tc50,tc51,tc53,tc58,tc59,tc60,tc61,tc62,tc63,tc64,S0,S1,S2,S3,S4,S5,S6,S7,S8,S9,S10,S11,S12,S13,S14,Q1,Q2,Q3,Q4,Q5,Q6,U0,U1,U2,U3,U4,CA0,CA1,CA2,CA3,CB0,CB1,CB2,CB3,FA,FB,AS,O,Bool.and_eq_true,and_imp,eq_self_iff_true,and_true,true_and,implies_true,and_self]
 have E0:(s0 c k a b x y).e=0:=z0e f.h.1
 have Z0:z0 (s0 c k a b x y)=true:=f.h.1
 have E1:(s1 c k a b x y).e=0:=z0e f.h.2.1
 have Z1:z0 (s1 c k a b x y)=true:=f.h.2.1
 have E2:(s2 c k a b x y).e=0:=z0e f.h.2.2.1
 have Z2:z0 (s2 c k a b x y)=true:=f.h.2.2.1
 have E3:(s3 c k a b x y).e=0:=z0e f.h.2.2.2.1
 have Z3:z0 (s3 c k a b x y)=true:=f.h.2.2.2.1
 have E4:(s4 c k a b x y).e=0:=z0e f.h.2.2.2.2.1
 have Z4:z0 (s4 c k a b x y)=true:=f.h.2.2.2.2.1
 have E5:(s5 c k a b x y).e=0:=z0e f.h.2.2.2.2.2.1
 have Z5:z0 (s5 c k a b x y)=true:=f.h.2.2.2.2.2.1
 have E6:(s6 c k a b x y).e=0:=z0e f.h.2.2.2.2.2.2
 have Z6:z0 (s6 c k a b x y)=true:=f.h.2.2.2.2.2.2
 have E7:(s7 c k a b x y).e=0:=z0e f.h7
 have Z7:z0 (s7 c k a b x y)=true:=f.h7
 have E8:(s8 c k a b x y).e=0:=z0e f.h8
 have Z8:z0 (s8 c k a b x y)=true:=f.h8
 have E9:(s9 c k a b x y).e=0:=z0e f.h9
 have Z9:z0 (s9 c k a b x y)=true:=f.h9
 have E10:(s10 c k a b x y).e=0:=z0e f.h10
 have Z10:z0 (s10 c k a b x y)=true:=f.h10
 have O2:okE (s2 c k a b x y):=.inl E2
 have O8:okE (s8 c k a b x y):=.inl E8
 have O9:okE (s9 c k a b x y):=.inl E9
 have O10:okE (s10 c k a b x y):=.inl E10
 have D:decide ((s6 c k a b x y).lo<=0)=false:=decide_eq_false (by have:=f.p; omega)
 have E13:(s13 c k a b x y).e=0:=(cur_0 hx hc).1
 have E11:(s11 c k a b x y).e=0:=(cur_0 hy hc).1
 have O14:=F14 hc hk hx hy f
 have O12:=F12 hc hk hx hy f
 have has0:(!(a0==0&&(a1==0&&(a2==0&&(a3==0&&true)))))=true:=has
 have u:=sag_even g has
 have UE:(u0 c k a b x y).e=0:=z0e u
 have CE0:(cb a0 2).e=0:=(cb_0 h.h0 (by decide)).1
 have CR0:okSp (cb a0 2).lo (cb a0 2).hi=true:=(cb_0 h.h0 (by decide)).2.ok
 have CE1:(cb a1 3).e=0:=(cb_0 h.h1 (by decide)).1
 have CR1:okSp (cb a1 3).lo (cb a1 3).hi=true:=(cb_0 h.h1 (by decide)).2.ok
 have CE2:(cb a2 4).e=0:=(cb_0 h.h2 (by decide)).1
 have CR2:okSp (cb a2 4).lo (cb a2 4).hi=true:=(cb_0 h.h2 (by decide)).2.ok
 have CE3:(cb a3 5).e=0:=(cb_0 h.h3 (by decide)).1
 have CR3:okSp (cb a3 5).lo (cb a3 5).hi=true:=(cb_0 h.h3 (by decide)).2.ok
 have UR:okSp (u0 c k a b x y).lo (u0 c k a b x y).hi=true:=(FU hx hy f u).ok
 have FA0:(fif a b).e=0:=(fif_0 hx).1
 have FB0:(fif x y).e=0:=(fif_0 hy).1
 have LFQ1:=FQ1 hc hk hx hy f h.h0 h.h1 h.h2 h.h3 u
 have LFQ2:=FQ2 hc hk hx hy f h.h0 h.h1 h.h2 h.h3 u
 have LFQ3:=FQ3 hc hk hx hy f h.h0 h.h1 h.h2 h.h3 u
 have LFQ4:=FQ4 hc hk hx hy f h.h0 h.h1 h.h2 h.h3 u
 have LFQ5:=FQ5 hc hk hx hy f h.h0 h.h1 h.h2 h.h3 u
 have LFQ6:=FQ6 hc hk hx hy f h.h0 h.h1 h.h2 h.h3 u
 simp +contextual only [E0,Z0,E1,Z1,E2,Z2,E3,Z3,E4,Z4,E5,Z5,E6,Z6,E7,Z7,E8,Z8,E9,Z9,E10,Z10,O2,O8,O9,O10,D,E13,E11,O14,O12,has0,UE,CE0,CR0,CE1,CR1,CE2,CR2,CE3,CR3,UR,FA0,FB0,LFQ1,LFQ2,LFQ3,LFQ4,LFQ5,LFQ6,and_true,true_and,implies_true,and_self,true_implies,Bool.not_true,Bool.not_false,Bool.false_or,Bool.or_false,Bool.true_and,Bool.false_and,Bool.false_eq_true,false_implies,eq_self_iff_true,cond_true,cond_false,Bool.cond_self]
set_option maxHeartbeats 4000000 in
theorem tdF_ok {p:Prop} {c k l m th:Int} {s:ByteArray} {se ho a b x y:Int} (hp:p) (h:vBic c k l m th s se ho) (hx:okSp a b=true) (hy:okSp x y=true):tdF p ⟨c,k,l,m,a,b,x,y⟩:=by
 have hc:=h.hc
 have hk:=h.hk
 have hl:=h.hl
 have hm:=h.hm
 unfold tdF
 refine ⟨⟨hp,hx,hy⟩,fun g=>?_⟩
 have g:(sagX c k l m a b x y).e=0:=t1_0 g
 have f:=sagX_base g
 simp only [td1,td2,td12,td16,td20,td21,td22,td23,td24,td25,td32,td34,td35,td37,td43,td44,td45,td46,td47,td48,td49,td50,td51,td52,td53,td54,td55,td56,X0,X1,X2,X3,X4,X5,X6,X7,X8,X9,X10,X11,X12,X13,X14,X15,X16,X17,X18,X19,X20,X21,X22,X23,X24,X25,X26,X27,X28,X29,O,Bool.and_eq_true,and_imp,eq_self_iff_true,and_true,true_and,implies_true,and_self]
 have E0:(b0 c k l m a b x y).e=0:=z0e f.e0
 have Z0:z0 (b0 c k l m a b x y)=true:=f.e0
 have E1:(b1 c k l m a b x y).e=0:=z0e f.e1
 have Z1:z0 (b1 c k l m a b x y)=true:=f.e1
 have E2:(b2 c k l m a b x y).e=0:=z0e f.e2
 have Z2:z0 (b2 c k l m a b x y)=true:=f.e2
 have E3:(b3 c k l m a b x y).e=0:=z0e f.e3
 have Z3:z0 (b3 c k l m a b x y)=true:=f.e3
 have E4:(b4 c k l m a b x y).e=0:=z0e f.e4
 have Z4:z0 (b4 c k l m a b x y)=true:=f.e4
 have E5:(b5 c k l m a b x y).e=0:=z0e f.e5
 have Z5:z0 (b5 c k l m a b x y)=true:=f.e5
 have E6:(b6 c k l m a b x y).e=0:=z0e f.e6
 have Z6:z0 (b6 c k l m a b x y)=true:=f.e6
 have E7:(b7 c k l m a b x y).e=0:=z0e f.e7
 have Z7:z0 (b7 c k l m a b x y)=true:=f.e7
 have E8:(b8 c k l m a b x y).e=0:=z0e f.e8
 have Z8:z0 (b8 c k l m a b x y)=true:=f.e8
 have E9:(b9 c k l m a b x y).e=0:=z0e f.e9
 have Z9:z0 (b9 c k l m a b x y)=true:=f.e9
 have E10:(b10 c k l m a b x y).e=0:=z0e f.e10
 have Z10:z0 (b10 c k l m a b x y)=true:=f.e10
 have E11:(b11 c k l m a b x y).e=0:=z0e f.e11
 have Z11:z0 (b11 c k l m a b x y)=true:=f.e11
 have E12:(b12 c k l m a b x y).e=0:=z0e f.e12
 have Z12:z0 (b12 c k l m a b x y)=true:=f.e12
 have E13:(b13 c k l m a b x y).e=0:=z0e f.e13
 have Z13:z0 (b13 c k l m a b x y)=true:=f.e13
 have O8:okE (b8 c k l m a b x y):=.inl E8
 have O11:okE (b11 c k l m a b x y):=.inl E11
 have O12:okE (b12 c k l m a b x y):=.inl E12
 have O13:okE (b13 c k l m a b x y):=.inl E13
 have D:decide ((b9 c k l m a b x y).lo<=0)=false:=decide_eq_false (by have:=f.p; omega)
 have E14:=(X14_b hc hk hl hm hx hy f).e
 have E15:=(X15_b hc hk hl hm hx hy f).e
 have E16:=(X16_b hc hk hl hm hx hy f).e
 have E27:=(X27_b hc hk hl hm hx hy f).e
 have E18:=(X18_b hc hk hl hm hx hy f).e
 have E19:=(X19_b hc hk hl hm hx hy f).e
 have E20:=(X20_b hc hk hl hm hx hy f).e
 have E23:=(X23_b hc hk hl hm hx hy f).e
 have L17:=X17_b hc hk hl hm hx hy f
 have L26:=X26_b hc hk hl hm hx hy f
 have L28:=X28_b hc hk hl hm hx hy f
 have L29:=X29_b hc hk hl hm hx hy f
 have L21:=X21_b hc hk hl hm hx hy f
 have L22:=X22_b hc hk hl hm hx hy f
 have L24:=X24_b hc hk hl hm hx hy f
 have L25:=X25_b hc hk hl hm hx hy f
 simp +contextual only [E0,Z0,E1,Z1,E2,Z2,E3,Z3,E4,Z4,E5,Z5,E6,Z6,E7,Z7,E8,Z8,E9,Z9,E10,Z10,E11,Z11,E12,Z12,E13,Z13,O8,O11,O12,O13,D,E14,E15,E16,E27,E18,E19,E20,E23,L17,L26,L28,L29,L21,L22,L24,L25,and_true,true_and,implies_true,and_self,true_implies,Bool.not_true,Bool.not_false,Bool.false_or,Bool.or_false,Bool.true_and,Bool.false_and,Bool.false_eq_true,false_implies,eq_self_iff_true,cond_true,cond_false,Bool.cond_self]
end Go.Rd
namespace Go.Rd
open Go Go.Eng Go.Ar
structure Dr (z0 z1 z2 z3 z4 z5 z6 z7 z8 z9 z10 z11 z12 z13 z14 z15 z16 z17 z18 z19 z20:Int):Prop where
 r0:0<=z0/\z0<=255
 r1:-32768<=z1/\z1<=32767
 r2:-32768<=z2/\z2<=32767
 r3:-32768<=z3/\z3<=32767
 r4:-32768<=z4/\z4<=32767
 r5:-128<=z5/\z5<=127
 r6:-128<=z6/\z6<=127
 r7:-128<=z7/\z7<=127
 r8:-128<=z8/\z8<=127
 r9:-128<=z9/\z9<=127
 r10:-128<=z10/\z10<=127
 r11:-128<=z11/\z11<=127
 r12:-32768<=z12/\z12<=32767
 r13:0<=z13/\z13<=255
 r14:0<=z14/\z14<=255
 r15:0<=z15/\z15<=255
 r16:-128<=z16/\z16<=127
 r17:-128<=z17/\z17<=127
 r18:-128<=z18/\z18<=127
 r19:-128<=z19/\z19<=127
 r20:-128<=z20/\z20<=127
structure Xd4 (x0 x1 x2 x3:Int):Prop where
 s0:-32768<=x0/\x0<=32767
 s1:-32768<=x1/\x1<=32767
 s2:-32768<=x2/\x2<=32767
 s3:-32768<=x3/\x3<=32767
end Go.Rd
namespace Go.Rd
open Go Go.Eng Go.Ar
section
variable {c k a0 a1 a2 a3 a b x y a' b' x' y':Int} (hc:inL c) (hk:inK k) (wx:Wi ⟨a',b',0⟩ ⟨a,b,0⟩) (wy:Wi ⟨x',y',0⟩ ⟨x,y,0⟩)
include hc hk wx wy
structure BaseW (c k a b x y a' b' x' y':Int):Prop where
 f:BaseF c k a' b' x' y'
 w2:Wi (s2 c k a' b' x' y') (s2 c k a b x y)
 w7:Wi (s7 c k a' b' x' y') (s7 c k a b x y)
 w10:Wi (s10 c k a' b' x' y') (s10 c k a b x y)
variable (i0:inL a0) (i1:inL a1) (i2:inL a2) (i3:inL a3)
include i0 i1 i2 i3
end
section
variable {c k a0 a1 a2 a3 a b x y a' b' x' y':Int} (hc:inL c) (hk:inK k) (hx:okSp a b=true) (hy:okSp x y=true) (wx:Wi ⟨a',b',0⟩ ⟨a,b,0⟩) (wy:Wi ⟨x',y',0⟩ ⟨x,y,0⟩) (i0:inL a0) (i1:inL a1) (i2:inL a2) (i3:inL a3)
include hc hk hx hy wx wy i0 i1 i2 i3
end
section
variable {c k l m a b x y a' b' x' y':Int} (hc:inL c) (hk:inK k) (hl:inL l) (hm:inK m) (hx:okSp a b=true) (hy:okSp x y=true) (wx:Wi ⟨a',b',0⟩ ⟨a,b,0⟩) (wy:Wi ⟨x',y',0⟩ ⟨x,y,0⟩)
include hc hk hl hm hx hy wx wy
end
end Go.Rd
namespace Go.Rd
open Go Go.Eng Go.Ar
structure Sl where
 s:Sp
 f:Int
 u:Sp
 v:Sp
def insd (a b:Sp):Bool:=bif decide (b.lo<=a.lo) then bif decide (a.lo<=a.hi) then decide (a.hi<=b.hi) else false else false
def wR (W P:Sl):Bool:=bif W.f==0 then bif P.f != 0 then true else bif !insd P.u W.u then true else !insd P.v W.v else false
def wF (W P:Sl):Bool:=bif W.s.e==0 then bif P.s.e != 0 then true else bif !insd P.s W.s then true else wR W P else wR W P
structure Mn (W P:Sl):Prop where
 s:W.s.e=0->P.s.e=0/\Wi P.s W.s
 f:W.f=0->P.f=0/\Wi P.u W.u/\Wi P.v W.v
end Go.Rd
namespace Go.Rd
open Go Go.Eng Go.Ar
theorem sc_50:okSc 1 50:=fun _=>by decide
theorem sc_21:okSc 2 1:=fun _=>by decide
section
variable {c k l m a0 a1 a2 a3 a b d e:Int} (hc:inL c) (hk:inK k) (hl:inL l) (hm:inK m)
end
section
end
structure Ev (W P:Sl):Prop where
 s:P.s=W.s
 f:P.f=W.f
 u:P.u=ng W.u
 v:P.v=W.v
end Go.Rd
namespace Go.Rd
open Go Go.Eng Go.Ar
section
variable (s:Su) (ys:List Int) (a b x y:Int)
def okXY (a b x y:Int):Bool:=okSp a b&&okSp x y
def sagK:Sp:=bif s.kd==4 then ⟨0,0,0⟩ else bif s.kd==1 then sagS s.c s.k s.a0 s.a1 s.a2 s.a3 a b x y else sagX s.c s.k s.l s.m a b x y
def sagG:Sp:=bif rightS s ys then (bif s.kd==3 then ⟨0,0,5⟩ else bif okXY a b x y then sagK s a b x y else ⟨0,0,20⟩) else ⟨0,0,110⟩
def slpC:Bool:=bif s.kd==1 then slC s.c s.k s.a0 s.a1 s.a2 s.a3 a b x y else bif s.kd==2 then slX s.c s.k s.l s.m a b x y else true
def slpU:Sp:=bif s.kd==1 then slU s.c s.k s.a0 s.a1 s.a2 s.a3 a b x y else bif s.kd==2 then b29 s.c s.k s.l s.m a b x y else ⟨0,0,0⟩
def slpZ:Sp:=bif s.kd==1 then slV s.c s.k s.a0 s.a1 s.a2 s.a3 a b x y else bif s.kd==2 then b25 s.c s.k s.l s.m a b x y else ⟨0,0,0⟩
def slpG:AV:=sp2V (sagG s ys a b x y).e (slpC s a b x y) (slpU s a b x y) (slpZ s a b x y)
end
theorem right_nums {s:Su} {ys:List Int} (h:rightS s ys=true):numsB s=true:=by
 unfold rightS at h
 simp only [Bool.and_eq_true] at h
 exact h.1.1.1
theorem inR_iff {lo hi n:Int}:inR lo hi n=true ↔ lo<=n/\n<=hi:=by
 unfold inR
 simp only [Bool.and_eq_true,decide_eq_true_eq]
theorem right_std {s:Su} {ys:List Int} (h:rightS s ys=true):vStd s.c s.k s.a0 s.a1 s.a2 s.a3 0 0 0 0 ⟨#[]⟩ 0 0:=by
 have h:=right_nums h
 unfold numsB at h
 simp only [Bool.and_eq_true,inR_iff] at h
 obtain ⟨⟨⟨⟨⟨⟨⟨⟨⟨⟨hc,_⟩,_⟩,_⟩,_⟩,⟨⟨⟨h0,h1⟩,h2⟩,h3⟩⟩,_⟩,⟨⟨hk,_⟩,_⟩⟩,_⟩,_⟩,_⟩:=h
 exact ⟨hc,hk,h0,h1,h2,h3,by unfold inL; omega,by unfold inL; omega,by omega,by unfold inL; omega,.inl rfl,by unfold inSH; omega,.inl ⟨rfl,rfl,rfl⟩⟩
theorem right_bic {s:Su} {ys:List Int} (h:rightS s ys=true):vBic s.c s.k s.l s.m 0 ⟨#[]⟩ 0 0:=by
 have h:=right_nums h
 unfold numsB at h
 simp only [Bool.and_eq_true,inR_iff] at h
 obtain ⟨⟨⟨⟨⟨⟨⟨⟨⟨⟨hc,hl⟩,_⟩,_⟩,_⟩,_⟩,_⟩,⟨⟨hk,hm⟩,_⟩⟩,_⟩,_⟩,_⟩:=h
 exact ⟨hc,hk,hl,hm,by unfold inL; omega,.inl rfl,by unfold inSH; omega⟩
theorem right_kd {s:Su} {ys:List Int} (h:rightS s ys=true):s.kd=1\/s.kd=2\/s.kd=3\/s.kd=4:=by
 unfold rightS at h
 simp only [Bool.and_eq_true] at h
 have h:=h.1.1.2
 cases hk:inR 1 4 s.kd with
 | true=>
  have:=inR_iff.1 hk
  omega
 | false=>rw [k0_f hk] at h; cases h
def Su.cellsZ (s:Su) (kd:AV):List AV:=[kd,.int true .i64 s.c,.int true .i64 s.k,.int true .i64 s.l,.int true .i64 s.m,.int false .i64 0,.int false .i64 0,.int false .i64 0,.int false .i64 0,.int true .i64 s.f0,.int true .i64 s.f1,.int true .i64 s.o,.int true .i64 s.th,.str true s.g,
 .int true .i64 s.se,.int true .i64 s.ho,.int true .i64 s.dx,.int true .i64 s.dy,.int true .i64 s.ax,.int true .i64 s.ay,.int true .i64 s.az]
theorem right_noA {s:Su} {ys:List Int} (h:rightS s ys=true) (hk:s.kd=2):s.a0=0/\s.a1=0/\s.a2=0/\s.a3=0:=by
 unfold rightS at h
 simp only [Bool.and_eq_true] at h
 have h:=h.1.1.2
 unfold kindB noA at h
 rw [hk] at h
 simp at h
 omega
theorem su_kd {s:Su} {k:Int} (h:s.kd=k):{ s with kd:=k }=s:=by subst h; rfl
end Go.Rd
namespace Go.Proofs.YtjmhddncomglmaaGreatDoor.K
open Go Go.Eng Go.Ar Go.Rd
noncomputable section
def chkC (b:Bool) (k:Int):Nat->List Itm->Option (Prop×AV×List ABody):=fun _ its=>match its with
 | [.s xs n ys]=>match suOf xs with
  | some s=>some (okF3 n ys/\s.g.size<1000000000/\rightS s ys=b,.int false .i64 k,[])
  | none=>none
 | _=>none
theorem chkC_ok {b:Bool} {k:Int} (h:(bif b then 0 else 110)=k):NOk Tryz.prog glob hG 10 (lSpec hG [.s suI .i64] (chkC b k)):=by
 refine lSpec_weaken chkA_ok fun sz its p v bs e=>?_
 unfold chkC at e
 split at e
 .rename_i xs n ys
  split at e
  .rename_i s hs
   cases e
   refine ⟨okF3 n ys/\s.g.size<1000000000,chkA s ys,by simp only [suV,hs],fun hp=>⟨⟨hp.1,hp.2.1⟩,fun σ U hU=>?_⟩⟩
   have hU:VRel σ (.int true .i64 (bif rightS s ys then 0 else 110)) U:=hU
   rw [hp.2.2,h] at hU
   exact hU
  .cases e
 .cases e
def chk0S:NSpec:=lSpec hG [.s suI .i64] (chkC true 0)
def chk1S:NSpec:=lSpec hG [.s suI .i64] (chkC false 110)
def cA:Ctx:=mkN Tryz.prog glob hG [(10,chk0S),(111,hN (gH chkSpec))] tblTe ext
theorem cA_ok:CtxOk cA:=by
 refine mkN_ok prog_ok ext_ok (fun x hx=>?_) tblTe_g
 simp only [List.mem_cons,List.not_mem_nil,or_false] at hx
 rcases hx with rfl|rfl
 .exact chkC_ok rfl
 .exact chk0.h.n
def chkBad:PSpec:=fun args=>match Sh.readL [shS] args with
 | some (_,[.n a,.n b])=>some (.p (okSp a b=false),.int false .i64 20)
 | _=>none
theorem chkBad_ok:GOk Tryz.prog glob hG 111 chkBad:=by
 refine (schk_ok.g glob hG).weaken fun args nd v e=>?_
 unfold chkBad at e
 split at e
 .rename_i s a b hr
  cases e
  refine ⟨.tt,((Tm.n .i64 (chkS a b)).av s),?_,fun h=>⟨trivial,fun σ V k=>?_⟩⟩
  .show sChk args=_
   unfold sChk numSpec
   rw [hr]
  .rw [show chkS a b=20 by unfold chkS; rw [show okSp a b=false from h]; rfl] at k
   exact (Go.Eng.mkInt_rel _ _ _ _).1 k
 .cases e
def chkAt (c:Nat):HSpec:=fun args h=>match Nat.blt h.clock c with
 | true=>gH chkSpec args h
 | false=>gH chkBad args h
theorem chkAt_ok (c:Nat):HOk Tryz.prog glob hG 111 (chkAt c):=by
 refine ⟨fun args nd v h e same=>?_,chk0.h.fn⟩
 unfold chkAt at e
 split at e
 .exact chk0.h.call args nd v h e same
 .exact chkBad_ok.h.call args nd v h e same
def cBd (c:Nat):Ctx:=mkN Tryz.prog glob hG [(10,chk0S),(111,hN (chkAt c))] [] ext
theorem cBd_ok (c:Nat):CtxOk (cBd c):=by
 refine mkN_ok prog_ok ext_ok (fun x hx=>?_) (fun _ h=>by cases h)
 simp only [List.mem_cons,List.not_mem_nil,or_false] at hx
 rcases hx with rfl|rfl
 .exact chkC_ok rfl
 .exact (chkAt_ok c).n
def cNo:Ctx:=mkN Tryz.prog glob hG [(10,chk1S)] [] ext
theorem cNo_ok:CtxOk cNo:=by
 refine mkN_ok prog_ok ext_ok (fun x hx=>?_) (fun _ h=>by cases h)
 simp only [List.mem_cons,List.not_mem_nil,or_false] at hx
 subst hx
 exact chkC_ok rfl
def suB (cs:List AV) (n:Int) (a b x y:Int):List AV:=[.agg (cs++[.lslice hG.size n]),.agg [.int true .i64 a,.int true .i64 b],.agg [.int true .i64 x,.int true .i64 y]]
def suHr (ys:List Int):Hp:=viewsH true hG [(.i64,ys)]
def rw2 (C:Ctx) (f:FuncId) (cs:List AV) (n:Int) (ys:List Int) (a b x y:Int):Option (Nd×AV):=oneG (hG.size+1) hG.clock ((run C 1000).call f (suB cs n a b x y) (suHr ys))
def pOk (s:Su) (k n:Int) (ys:List Int) (b:Bool):Prop:=okF3 n ys/\s.g.size<1000000000/\rightS { s with kd:=k } ys=b
def suV2 (V:Su->List Int->Int->Int->Int->Int->AV):Nat->List Itm->Option (Prop×AV×List ABody):=fun _ its=>match its with
 | [.s xs n ys,.n [.n a,.n b],.n [.n x,.n y]]=>match suOf xs with
  | some s=>some (okF3 n ys/\s.g.size<1000000000,V s ys a b x y,[])
  | none=>none
 | _=>none
theorem tell_suB (s:Su) (cs:List AV) (n:Int) (ys:List Int) (a b x y:Int) (h:tellL s.ini cs):tellL (mkA true hG.size [.s suI .i64,.n sS,.n sS] [.s s.nus n ys,.n [.n a,.n b],.n [.n x,.n y]]) (suB cs n a b x y):=by
 have e:mkA true hG.size [.s suI .i64,.n sS,.n sS] [.s s.nus n ys,.n [.n a,.n b],.n [.n x,.n y]]=[.agg (s.ini++[.lslice hG.size n]),.agg [.int true .i64 a,.int true .i64 b],.agg [.int true .i64 x,.int true .i64 y]]:=rfl
 rw [e]
 exact ⟨tellL_app h ⟨rfl,trivial⟩,⟨⟨rfl,rfl⟩,⟨rfl,rfl⟩,trivial⟩,⟨⟨rfl,rfl⟩,⟨rfl,rfl⟩,trivial⟩,trivial⟩
theorem tell_kd {s:Su} {kd:AV} (h:tell (.int true .i64 s.kd) kd):tellL s.ini (s.cells kd):=by
 refine ⟨h,?_⟩
 repeat' first
  | exact trivial
  | refine ⟨⟨rfl,rfl⟩,?_⟩
  | refine ⟨rfl,?_⟩
theorem tell_kz {s:Su} (h:s.kd=2) (h0:s.a0=0/\s.a1=0/\s.a2=0/\s.a3=0):tellL s.ini (s.cellsZ (.int false .i64 2)):=by
 refine ⟨⟨rfl,h⟩,⟨rfl,rfl⟩,⟨rfl,rfl⟩,⟨rfl,rfl⟩,⟨rfl,rfl⟩,⟨rfl,h0.1⟩,⟨rfl,h0.2.1⟩,⟨rfl,h0.2.2.1⟩,⟨rfl,h0.2.2.2⟩,?_⟩
 repeat' first
  | exact trivial
  | refine ⟨⟨rfl,rfl⟩,?_⟩
  | refine ⟨rfl,?_⟩
theorem su2_ok {f:FuncId} {V:Su->List Int->Int->Int->Int->Int->AV} (fn:∃ fn:Func,Tryz.prog.funcs[f]?=some fn/\fn.body.isSome=true)
  (h:∀ (s:Su) (n:Int) (ys:List Int) (a b x y:Int),s.g.size<1000000000->okF3 n ys->∃ (C:Ctx) (cs:List AV) (nd:Nd) (v0:AV),CtxOk C/\C.P=Tryz.prog/\C.glob=glob/\tellL s.ini cs/\rw2 C f cs n ys a b x y=some (nd,v0)/\v0.num=true/\nd.val/\tell v0 (V s ys a b x y)):
  NOk Tryz.prog glob hG f (lSpec hG [.s suI .i64,.n sS,.n sS] (suV2 V)):=by
 refine lsp_ok true hG_ok hG_plain glob_lt (fun sz its p v bs e hp=>?_) fn
 unfold suV2 at e
 split at e
 .rename_i xs n ys a b x y
  split at e
  .rename_i s hs
   cases e
   obtain ⟨ho,hg⟩:=hp
   obtain rfl:=suOf_eq hs
   obtain ⟨C,cs,nd,v0,co,hP,hG',ht,hr,hnum,hnd,hv⟩:=h s n ys a b x y hg ho
   obtain ⟨q,h1,h2,h3,h4⟩:=oneG_tells hr hnum
   refine ⟨⟨fun h0=>?_,trivial⟩,rfl,C,1000,suB cs n a b x y,nd,v0,q,co,hP,hG',tell_suB s cs n ys a b x y ht,h1,h2,hnd,h3,h4 sz _ hv⟩
   obtain ⟨k1,k2,k3⟩:=ho
   rw [h0] at k3
   simp only [List.length_nil] at k3
   omega
  .cases e
 .cases e
theorem rkz {s:Su} {ys:List Int} {n:Int} {b:Bool} (hk:s.kd=2) (h0:s.a0=0/\s.a1=0/\s.a2=0/\s.a3=0) (ho:okF3 n ys) (hg:s.g.size<1000000000) (h:rightS s ys=b):pOk { s with a0:=0,a1:=0,a2:=0,a3:=0 } 2 n ys b:=by
 have e:({ s with a0:=0,a1:=0,a2:=0,a3:=0 }:Su)=s:=by
  obtain ⟨h1,h2,h3,h4⟩:=h0
  cases s
  simp_all
 rw [e]
 exact ⟨ho,hg,by rw [su_kd hk]; exact h⟩
theorem rk {s:Su} {ys:List Int} {n:Int} {b:Bool} {k:Int} (hk:s.kd=k) (ho:okF3 n ys) (hg:s.g.size<1000000000) (h:rightS s ys=b):pOk s k n ys b:=⟨ho,hg,by rw [su_kd hk]; exact h⟩
end
end Go.Proofs.YtjmhddncomglmaaGreatDoor.K
