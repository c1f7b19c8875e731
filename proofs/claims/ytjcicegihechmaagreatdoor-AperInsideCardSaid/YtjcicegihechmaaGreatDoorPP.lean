/- What is proved: AperInside returns true, whatever the input (part 16). No conditions beyond those of the row. -/
import Derived.Test.YtjcicegihechmaaGreatDoorPG
import Derived.Test.YtjcicegihechmaaGreatDoorPJ
import Derived.Test.YtjcicegihechmaaGreatDoorPK
import Derived.Test.YtjcicegihechmaaGreatDoorPL
import Derived.Test.YtjcicegihechmaaGreatDoorPM
import Derived.Test.YtjcicegihechmaaGreatDoorPN
import Derived.Test.YtjcicegihechmaaGreatDoorPO
set_option linter.unusedVariables false
set_option linter.unusedSimpArgs false
set_option linter.unusedSectionVars false
namespace Go.Proofs.YtjcicegihechmaaGreatDoor.K
open Go Go.Eng Go.Ar Go.Rd
noncomputable section
theorem rt_0 (s:Su) (x:Nat->Int):rn cNm 55 s (.int true .i64 s.kd) 0 x=some (.p (rRightN s (fz 0 x)),.bool true (rRight s (fz 0 x))):=by kernel_rfl
theorem rt_1 (s:Su) (x:Nat->Int):rn cNm 55 s (.int true .i64 s.kd) 1 x=some (.p (rRightN s (fz 1 x)),.bool true (rRight s (fz 1 x))):=by kernel_rfl
theorem rt_2 (s:Su) (x:Nat->Int):rn cNm 55 s (.int true .i64 s.kd) 2 x=some (.p (rRightN s (fz 2 x)),.bool true (rRight s (fz 2 x))):=by kernel_rfl
theorem rt_3 (s:Su) (x:Nat->Int):rn cNm 55 s (.int true .i64 s.kd) 3 x=some (.p (rRightN s (fz 3 x)),.bool true (rRight s (fz 3 x))):=by kernel_rfl
theorem rt_4 (s:Su) (x:Nat->Int):rn cNm 55 s (.int true .i64 s.kd) 4 x=some (.p (rRightN s (fz 4 x)),.bool true (rRight s (fz 4 x))):=by kernel_rfl
theorem rt_5 (s:Su) (x:Nat->Int):rn cNm 55 s (.int true .i64 s.kd) 5 x=some (.p (rRightN s (fz 5 x)),.bool true (rRight s (fz 5 x))):=by kernel_rfl
theorem rt_6 (s:Su) (x:Nat->Int):rn cNm 55 s (.int true .i64 s.kd) 6 x=some (.p (rRightN s (fz 6 x)),.bool true (rRight s (fz 6 x))):=by kernel_rfl
theorem rt_7 (s:Su) (x:Nat->Int):rn cNm 55 s (.int true .i64 s.kd) 7 x=some (.p (rRightN s (fz 7 x)),.bool true (rRight s (fz 7 x))):=by kernel_rfl
theorem rt_8 (s:Su) (x:Nat->Int):rn cNm 55 s (.int true .i64 s.kd) 8 x=some (.p (rRightN s (fz 8 x)),.bool true (rRight s (fz 8 x))):=by kernel_rfl
theorem rt_9 (s:Su) (x:Nat->Int):rn cNm 55 s (.int true .i64 s.kd) 9 x=some (.tt,.bool false false):=by kernel_rfl
theorem rt_10 (s:Su) (x:Nat->Int):rn cNm 55 s (.int true .i64 s.kd) 10 x=some (.tt,.bool false false):=by kernel_rfl
theorem rt_11 (s:Su) (x:Nat->Int):rn cNm 55 s (.int true .i64 s.kd) 11 x=some (.tt,.bool false false):=by kernel_rfl
theorem rt_12 (s:Su) (x:Nat->Int):rn cNm 55 s (.int true .i64 s.kd) 12 x=some (.tt,.bool false false):=by kernel_rfl
end
end Go.Proofs.YtjcicegihechmaaGreatDoor.K
namespace Go.Proofs.YtjcicegihechmaaGreatDoor.K
open Go Go.Eng Go.Ar Go.Rd
noncomputable section
theorem len_fz (n:Nat) (x:Nat->Int):(fz n x).length=3*n:=spinF_len _ _ _
theorem r_long {s:Su} {n:Nat} {x:Nat->Int} (h:9<=n):(110:Int)=bif rightS s (fz n x) then 0 else 110:=by rw [right_long (by rw [len_fz]; omega)]; rfl
theorem r_kind {s:Su} {ys:List Int} (h:kindB s ys.isEmpty=false):(110:Int)=bif rightS s ys then 0 else 110:=by rw [right_kind h]; rfl
theorem ch1_all (s:Su) (x:Nat->Int) (hk:s.kd=1) (hg:s.g.size<1000000000):∀ n,n<=12->∃ nd v0,rn cNm 17 s (.int false .i64 1) n x=some (nd,v0)/\v0.num=true/\nd.val/\tell v0 (.int true .i64 (bif rightS s (fz n x) then 0 else 110)):=fun n hn=>match n,hn with
 | 0,_=>⟨_,_,ch1_0 s x,rfl,chk1N_t hg,⟨rfl,chk1_eq hk (by rw [len_fz]; decide)⟩⟩
 | 1,_=>⟨_,_,ch1_1 s x,rfl,chk1N_t hg,⟨rfl,chk1_eq hk (by rw [len_fz]; decide)⟩⟩
 | 2,_=>⟨_,_,ch1_2 s x,rfl,chk1N_t hg,⟨rfl,chk1_eq hk (by rw [len_fz]; decide)⟩⟩
 | 3,_=>⟨_,_,ch1_3 s x,rfl,chk1N_t hg,⟨rfl,chk1_eq hk (by rw [len_fz]; decide)⟩⟩
 | 4,_=>⟨_,_,ch1_4 s x,rfl,chk1N_t hg,⟨rfl,chk1_eq hk (by rw [len_fz]; decide)⟩⟩
 | 5,_=>⟨_,_,ch1_5 s x,rfl,chk1N_t hg,⟨rfl,chk1_eq hk (by rw [len_fz]; decide)⟩⟩
 | 6,_=>⟨_,_,ch1_6 s x,rfl,chk1N_t hg,⟨rfl,chk1_eq hk (by rw [len_fz]; decide)⟩⟩
 | 7,_=>⟨_,_,ch1_7 s x,rfl,chk1N_t hg,⟨rfl,chk1_eq hk (by rw [len_fz]; decide)⟩⟩
 | 8,_=>⟨_,_,ch1_8 s x,rfl,chk1N_t hg,⟨rfl,chk1_eq hk (by rw [len_fz]; decide)⟩⟩
 | 9,_=>⟨_,_,ch1_9 s x,rfl,chk1N_t hg,⟨rfl,r_long (by decide)⟩⟩
 | 10,_=>⟨_,_,ch1_10 s x,rfl,chk1N_t hg,⟨rfl,r_long (by decide)⟩⟩
 | 11,_=>⟨_,_,ch1_11 s x,rfl,chk1N_t hg,⟨rfl,r_long (by decide)⟩⟩
 | 12,_=>⟨_,_,ch1_12 s x,rfl,chk1N_t hg,⟨rfl,r_long (by decide)⟩⟩
theorem ch2_all (s:Su) (x:Nat->Int) (hk:s.kd=2) (hg:s.g.size<1000000000):∀ n,n<=12->∃ nd v0,rn cNm 17 s (.int false .i64 2) n x=some (nd,v0)/\v0.num=true/\nd.val/\tell v0 (.int true .i64 (bif rightS s (fz n x) then 0 else 110)):=fun n hn=>match n,hn with
 | 0,_=>⟨_,_,ch2_0 s x,rfl,chk2N_t hg,⟨rfl,chk2_eq hk (by rw [len_fz]; decide)⟩⟩
 | 1,_=>⟨_,_,ch2_1 s x,rfl,chk2N_t hg,⟨rfl,chk2_eq hk (by rw [len_fz]; decide)⟩⟩
 | 2,_=>⟨_,_,ch2_2 s x,rfl,chk2N_t hg,⟨rfl,chk2_eq hk (by rw [len_fz]; decide)⟩⟩
 | 3,_=>⟨_,_,ch2_3 s x,rfl,chk2N_t hg,⟨rfl,chk2_eq hk (by rw [len_fz]; decide)⟩⟩
 | 4,_=>⟨_,_,ch2_4 s x,rfl,chk2N_t hg,⟨rfl,chk2_eq hk (by rw [len_fz]; decide)⟩⟩
 | 5,_=>⟨_,_,ch2_5 s x,rfl,chk2N_t hg,⟨rfl,chk2_eq hk (by rw [len_fz]; decide)⟩⟩
 | 6,_=>⟨_,_,ch2_6 s x,rfl,chk2N_t hg,⟨rfl,chk2_eq hk (by rw [len_fz]; decide)⟩⟩
 | 7,_=>⟨_,_,ch2_7 s x,rfl,chk2N_t hg,⟨rfl,chk2_eq hk (by rw [len_fz]; decide)⟩⟩
 | 8,_=>⟨_,_,ch2_8 s x,rfl,chk2N_t hg,⟨rfl,chk2_eq hk (by rw [len_fz]; decide)⟩⟩
 | 9,_=>⟨_,_,ch2_9 s x,rfl,chk2N_t hg,⟨rfl,r_long (by decide)⟩⟩
 | 10,_=>⟨_,_,ch2_10 s x,rfl,chk2N_t hg,⟨rfl,r_long (by decide)⟩⟩
 | 11,_=>⟨_,_,ch2_11 s x,rfl,chk2N_t hg,⟨rfl,r_long (by decide)⟩⟩
 | 12,_=>⟨_,_,ch2_12 s x,rfl,chk2N_t hg,⟨rfl,r_long (by decide)⟩⟩
theorem ch3_all (s:Su) (x:Nat->Int) (hk:s.kd=3) (hg:s.g.size<1000000000):∀ n,n<=12->∃ nd v0,rn cNm 17 s (.int false .i64 3) n x=some (nd,v0)/\v0.num=true/\nd.val/\tell v0 (.int true .i64 (bif rightS s (fz n x) then 0 else 110)):=fun n hn=>match n,hn with
 | 0,_=>⟨_,_,ch3_0 s x,rfl,⟨w3_t,nmC_t hg⟩,⟨rfl,chk3_eq hk⟩⟩
 | 1,_=>⟨_,_,ch3_1 s x,rfl,w3_t,⟨rfl,r_kind (k34_f (.inl hk))⟩⟩
 | 2,_=>⟨_,_,ch3_2 s x,rfl,w3_t,⟨rfl,r_kind (k34_f (.inl hk))⟩⟩
 | 3,_=>⟨_,_,ch3_3 s x,rfl,w3_t,⟨rfl,r_kind (k34_f (.inl hk))⟩⟩
 | 4,_=>⟨_,_,ch3_4 s x,rfl,w3_t,⟨rfl,r_kind (k34_f (.inl hk))⟩⟩
 | 5,_=>⟨_,_,ch3_5 s x,rfl,w3_t,⟨rfl,r_kind (k34_f (.inl hk))⟩⟩
 | 6,_=>⟨_,_,ch3_6 s x,rfl,w3_t,⟨rfl,r_kind (k34_f (.inl hk))⟩⟩
 | 7,_=>⟨_,_,ch3_7 s x,rfl,w3_t,⟨rfl,r_kind (k34_f (.inl hk))⟩⟩
 | 8,_=>⟨_,_,ch3_8 s x,rfl,w3_t,⟨rfl,r_kind (k34_f (.inl hk))⟩⟩
 | 9,_=>⟨_,_,ch3_9 s x,rfl,w3_t,⟨rfl,r_kind (k34_f (.inl hk))⟩⟩
 | 10,_=>⟨_,_,ch3_10 s x,rfl,w3_t,⟨rfl,r_kind (k34_f (.inl hk))⟩⟩
 | 11,_=>⟨_,_,ch3_11 s x,rfl,w3_t,⟨rfl,r_kind (k34_f (.inl hk))⟩⟩
 | 12,_=>⟨_,_,ch3_12 s x,rfl,w3_t,⟨rfl,r_kind (k34_f (.inl hk))⟩⟩
theorem ch4_all (s:Su) (x:Nat->Int) (hk:s.kd=4) (hg:s.g.size<1000000000):∀ n,n<=12->∃ nd v0,rn cNm 17 s (.int false .i64 4) n x=some (nd,v0)/\v0.num=true/\nd.val/\tell v0 (.int true .i64 (bif rightS s (fz n x) then 0 else 110)):=fun n hn=>match n,hn with
 | 0,_=>⟨_,_,ch4_0 s x,rfl,⟨w4_t,nmC_t hg⟩,⟨rfl,chk4_eq hk⟩⟩
 | 1,_=>⟨_,_,ch4_1 s x,rfl,w4_t,⟨rfl,r_kind (k34_f (.inr hk))⟩⟩
 | 2,_=>⟨_,_,ch4_2 s x,rfl,w4_t,⟨rfl,r_kind (k34_f (.inr hk))⟩⟩
 | 3,_=>⟨_,_,ch4_3 s x,rfl,w4_t,⟨rfl,r_kind (k34_f (.inr hk))⟩⟩
 | 4,_=>⟨_,_,ch4_4 s x,rfl,w4_t,⟨rfl,r_kind (k34_f (.inr hk))⟩⟩
 | 5,_=>⟨_,_,ch4_5 s x,rfl,w4_t,⟨rfl,r_kind (k34_f (.inr hk))⟩⟩
 | 6,_=>⟨_,_,ch4_6 s x,rfl,w4_t,⟨rfl,r_kind (k34_f (.inr hk))⟩⟩
 | 7,_=>⟨_,_,ch4_7 s x,rfl,w4_t,⟨rfl,r_kind (k34_f (.inr hk))⟩⟩
 | 8,_=>⟨_,_,ch4_8 s x,rfl,w4_t,⟨rfl,r_kind (k34_f (.inr hk))⟩⟩
 | 9,_=>⟨_,_,ch4_9 s x,rfl,w4_t,⟨rfl,r_kind (k34_f (.inr hk))⟩⟩
 | 10,_=>⟨_,_,ch4_10 s x,rfl,w4_t,⟨rfl,r_kind (k34_f (.inr hk))⟩⟩
 | 11,_=>⟨_,_,ch4_11 s x,rfl,w4_t,⟨rfl,r_kind (k34_f (.inr hk))⟩⟩
 | 12,_=>⟨_,_,ch4_12 s x,rfl,w4_t,⟨rfl,r_kind (k34_f (.inr hk))⟩⟩
theorem ch0_all (s:Su) (x:Nat->Int) (hk:inR 1 4 s.kd=false) (hg:s.g.size<1000000000):∀ n,n<=12->∃ nd v0,rn cNk 17 s (.int true .i64 s.kd) n x=some (nd,v0)/\v0.num=true/\nd.val/\tell v0 (.int true .i64 (bif rightS s (fz n x) then 0 else 110)):=fun n hn=>match n,hn with
 | 0,_=>⟨_,_,ch0_0 s x,rfl,kdO_t hk,⟨rfl,r_kind (k0_f hk)⟩⟩
 | 1,_=>⟨_,_,ch0_1 s x,rfl,kdO_t hk,⟨rfl,r_kind (k0_f hk)⟩⟩
 | 2,_=>⟨_,_,ch0_2 s x,rfl,kdO_t hk,⟨rfl,r_kind (k0_f hk)⟩⟩
 | 3,_=>⟨_,_,ch0_3 s x,rfl,kdO_t hk,⟨rfl,r_kind (k0_f hk)⟩⟩
 | 4,_=>⟨_,_,ch0_4 s x,rfl,kdO_t hk,⟨rfl,r_kind (k0_f hk)⟩⟩
 | 5,_=>⟨_,_,ch0_5 s x,rfl,kdO_t hk,⟨rfl,r_kind (k0_f hk)⟩⟩
 | 6,_=>⟨_,_,ch0_6 s x,rfl,kdO_t hk,⟨rfl,r_kind (k0_f hk)⟩⟩
 | 7,_=>⟨_,_,ch0_7 s x,rfl,kdO_t hk,⟨rfl,r_kind (k0_f hk)⟩⟩
 | 8,_=>⟨_,_,ch0_8 s x,rfl,kdO_t hk,⟨rfl,r_kind (k0_f hk)⟩⟩
 | 9,_=>⟨_,_,ch0_9 s x,rfl,kdO_t hk,⟨rfl,r_kind (k0_f hk)⟩⟩
 | 10,_=>⟨_,_,ch0_10 s x,rfl,kdO_t hk,⟨rfl,r_kind (k0_f hk)⟩⟩
 | 11,_=>⟨_,_,ch0_11 s x,rfl,kdO_t hk,⟨rfl,r_kind (k0_f hk)⟩⟩
 | 12,_=>⟨_,_,ch0_12 s x,rfl,kdO_t hk,⟨rfl,r_kind (k0_f hk)⟩⟩
theorem rt_all (s:Su) (x:Nat->Int) (hg:s.g.size<1000000000):∀ n,n<=12->∃ nd v0,rn cNm 55 s (.int true .i64 s.kd) n x=some (nd,v0)/\v0.num=true/\nd.val/\tell v0 (.bool true (rightS s (fz n x))):=fun n hn=>match n,hn with
 | 0,_=>⟨_,_,rt_0 s x,rfl,rRightN_t hg,rRight_eq (by rw [len_fz]; decide) (by rw [len_fz]; exact Nat.dvd_mul_right _ _)⟩
 | 1,_=>⟨_,_,rt_1 s x,rfl,rRightN_t hg,rRight_eq (by rw [len_fz]; decide) (by rw [len_fz]; exact Nat.dvd_mul_right _ _)⟩
 | 2,_=>⟨_,_,rt_2 s x,rfl,rRightN_t hg,rRight_eq (by rw [len_fz]; decide) (by rw [len_fz]; exact Nat.dvd_mul_right _ _)⟩
 | 3,_=>⟨_,_,rt_3 s x,rfl,rRightN_t hg,rRight_eq (by rw [len_fz]; decide) (by rw [len_fz]; exact Nat.dvd_mul_right _ _)⟩
 | 4,_=>⟨_,_,rt_4 s x,rfl,rRightN_t hg,rRight_eq (by rw [len_fz]; decide) (by rw [len_fz]; exact Nat.dvd_mul_right _ _)⟩
 | 5,_=>⟨_,_,rt_5 s x,rfl,rRightN_t hg,rRight_eq (by rw [len_fz]; decide) (by rw [len_fz]; exact Nat.dvd_mul_right _ _)⟩
 | 6,_=>⟨_,_,rt_6 s x,rfl,rRightN_t hg,rRight_eq (by rw [len_fz]; decide) (by rw [len_fz]; exact Nat.dvd_mul_right _ _)⟩
 | 7,_=>⟨_,_,rt_7 s x,rfl,rRightN_t hg,rRight_eq (by rw [len_fz]; decide) (by rw [len_fz]; exact Nat.dvd_mul_right _ _)⟩
 | 8,_=>⟨_,_,rt_8 s x,rfl,rRightN_t hg,rRight_eq (by rw [len_fz]; decide) (by rw [len_fz]; exact Nat.dvd_mul_right _ _)⟩
 | 9,_=>⟨_,_,rt_9 s x,rfl,trivial,(right_long (by rw [len_fz]; decide)).symm⟩
 | 10,_=>⟨_,_,rt_10 s x,rfl,trivial,(right_long (by rw [len_fz]; decide)).symm⟩
 | 11,_=>⟨_,_,rt_11 s x,rfl,trivial,(right_long (by rw [len_fz]; decide)).symm⟩
 | 12,_=>⟨_,_,rt_12 s x,rfl,trivial,(right_long (by rw [len_fz]; decide)).symm⟩
def suV (V:Su->List Int->AV):Nat->List Itm->Option (Prop×AV×List ABody):=fun _ its=>match its with
 | [.s xs n ys]=>match suOf xs with
  | some s=>some (okF3 n ys/\s.g.size<1000000000,V s ys,[])
  | none=>none
 | _=>none
theorem tell_su (s:Su) (kd:AV) (k:Nat) (ys:List Int) (h:tell (.int true .i64 s.kd) kd):tellL (mkA false hG.size [.s suI .i64] [.s s.nus (k:Int) ys]) [suA s kd k]:=by
 have e:mkA false hG.size [.s suI .i64] [.s s.nus (k:Int) ys]=[.agg (s.ini++[.pslice hG.size (k:Int).toNat false (k:Int)])]:=rfl
 rw [e,Int.toNat_natCast]
 refine ⟨⟨h,?_⟩,trivial⟩
 repeat' first
  | exact trivial
  | refine ⟨⟨rfl,rfl⟩,?_⟩
  | refine ⟨rfl,?_⟩
  | exact ⟨⟨rfl,Nat.le_refl _,rfl⟩,trivial⟩
theorem su_ok {f:FuncId} {V:Su->List Int->AV} (fn:∃ fn:Func,Tryz.prog.funcs[f]?=some fn/\fn.body.isSome=true)
  (h:∀ (s:Su) (x:Nat->Int) (n:Nat),s.g.size<1000000000->n<=12->∃ (C:Ctx) (kd:AV) (nd:Nd) (v0:AV),CtxOk C/\C.P=Tryz.prog/\C.glob=glob/\tell (.int true .i64 s.kd) kd/\rn C f s kd n x=some (nd,v0)/\v0.num=true/\nd.val/\tell v0 (V s (fz n x))):
  NOk Tryz.prog glob hG f (lSpec hG [.s suI .i64] (suV V)):=by
 refine lsp_ok false hG_ok hG_plain glob_lt (fun sz its p v bs e hp=>?_) fn
 unfold suV at e
 split at e
 .rename_i xs n ys
  split at e
  .rename_i s hs
   cases e
   obtain ⟨ho,hg⟩:=hp
   obtain ⟨k,x,hk,rfl,rfl⟩:=okF3_of ho
   obtain rfl:=suOf_eq hs
   obtain ⟨C,kd,nd,v0,co,hP,hG',ht,hr,hnum,hnd,hv⟩:=h s x k hg hk
   obtain ⟨q,h1,h2,h3,h4⟩:=oneG_tells hr hnum
   refine ⟨⟨fun h0=>?_,trivial⟩,rfl,C,1000,[suA s kd k],nd,v0,q,co,hP,hG',tell_su s kd k _ ht,h1,h2,hnd,h3,h4 sz _ hv⟩
   have:=congrArg List.length h0
   rw [spinF_len] at this
   simp only [List.length_nil] at this
   omega
  .cases e
 .cases e
def chkA:Su->List Int->AV:=fun s ys=>.int true .i64 (bif rightS s ys then 0 else 110)
theorem chkA_ok:NOk Tryz.prog glob hG 17 (lSpec hG [.s suI .i64] (suV chkA)):=by
 refine su_ok ⟨_,Tryz.func17,rfl⟩ fun s x n hg hn=>?_
 by_cases c1:s.kd=1
 .obtain ⟨nd,v0,a⟩:=ch1_all s x c1 hg n hn
  exact ⟨cNm,.int false .i64 1,nd,v0,cNm_ok,rfl,rfl,⟨rfl,c1⟩,a⟩
 .by_cases c2:s.kd=2
  .obtain ⟨nd,v0,a⟩:=ch2_all s x c2 hg n hn
   exact ⟨cNm,.int false .i64 2,nd,v0,cNm_ok,rfl,rfl,⟨rfl,c2⟩,a⟩
  .by_cases c3:s.kd=3
   .obtain ⟨nd,v0,a⟩:=ch3_all s x c3 hg n hn
    exact ⟨cNm,.int false .i64 3,nd,v0,cNm_ok,rfl,rfl,⟨rfl,c3⟩,a⟩
   .by_cases c4:s.kd=4
    .obtain ⟨nd,v0,a⟩:=ch4_all s x c4 hg n hn
     exact ⟨cNm,.int false .i64 4,nd,v0,cNm_ok,rfl,rfl,⟨rfl,c4⟩,a⟩
    .obtain ⟨nd,v0,a⟩:=ch0_all s x (inR_no c1 c2 c3 c4) hg n hn
     exact ⟨cNk,.int true .i64 s.kd,nd,v0,cNk_ok,rfl,rfl,⟨rfl,rfl⟩,a⟩
def rightA:Su->List Int->AV:=fun s ys=>.bool true (rightS s ys)
theorem rightA_ok:NOk Tryz.prog glob hG 55 (lSpec hG [.s suI .i64] (suV rightA)):=by
 refine su_ok ⟨_,Tryz.func55,rfl⟩ fun s x n hg hn=>?_
 obtain ⟨nd,v0,a⟩:=rt_all s x hg n hn
 exact ⟨cNm,.int true .i64 s.kd,nd,v0,cNm_ok,rfl,rfl,⟨rfl,rfl⟩,a⟩
end
end Go.Proofs.YtjcicegihechmaaGreatDoor.K
namespace Go.Proofs.YtjcicegihechmaaGreatDoor.K
open Go Go.Eng Go.Ar Go.Rd
noncomputable section
def sS:Sh:=.a [nI,nI]
def chkC (b:Bool) (k:Int):Nat->List Itm->Option (Prop×AV×List ABody):=fun _ its=>match its with
 | [.s xs n ys]=>match suOf xs with
  | some s=>some (okF3 n ys/\s.g.size<1000000000/\rightS s ys=b,.int false .i64 k,[])
  | none=>none
 | _=>none
theorem chkC_ok {b:Bool} {k:Int} (h:(bif b then 0 else 110)=k):NOk Tryz.prog glob hG 17 (lSpec hG [.s suI .i64] (chkC b k)):=by
 refine lSpec_weaken chkA_ok fun sz its p v bs e=>?_
 unfold chkC at e
 split at e
 .rename_i xs n ys
  split at e
  .rename_i s hs
   cases e
   refine ⟨okF3 n ys/\s.g.size<1000000000,chkA s ys,by simp only [suV,hs],fun hp=>⟨⟨hp.1,hp.2.1⟩,fun σ U hU=>?_⟩⟩
   have hU:VRel σ (.int true .i64 (bif rightS s ys then 0 else 110)) U:=hU
   rw [hp.2.2,h] at hU
   exact hU
  .cases e
 .cases e
def chk0S:NSpec:=lSpec hG [.s suI .i64] (chkC true 0)
def chk1S:NSpec:=lSpec hG [.s suI .i64] (chkC false 110)
def chkBad:PSpec:=fun args=>match Sh.readL [shS] args with
 | some (_,[.n a,.n b])=>some (.p (okSp a b=false),.int false .i64 20)
 | _=>none
theorem chkBad_ok:GOk Tryz.prog glob hG 18 chkBad:=by
 refine (schk_ok.g glob hG).weaken fun args nd v e=>?_
 unfold chkBad at e
 split at e
 .rename_i s a b hr
  cases e
  refine ⟨.tt,((Tm.n .i64 (chkS a b)).av s),?_,fun h=>⟨trivial,fun σ V k=>?_⟩⟩
  .show sChk args=_
   unfold sChk numSpec
   rw [hr]
  .rw [show chkS a b=20 by unfold chkS; rw [show okSp a b=false from h]; rfl] at k
   exact (Go.Eng.mkInt_rel _ _ _ _).1 k
 .cases e
def chkAt (c:Nat):HSpec:=fun args h=>match Nat.blt h.clock c with
 | true=>gH chkSpec args h
 | false=>gH chkBad args h
theorem chkAt_ok (c:Nat):HOk Tryz.prog glob hG 18 (chkAt c):=by
 refine ⟨fun args nd v h e same=>?_,chk0.h.fn⟩
 unfold chkAt at e
 split at e
 .exact chk0.h.call args nd v h e same
 .exact chkBad_ok.h.call args nd v h e same
def cBd (c:Nat):Ctx:=mkN Tryz.prog glob hG [(17,chk0S),(18,hN (chkAt c))] [] ext
theorem cBd_ok (c:Nat):CtxOk (cBd c):=by
 refine mkN_ok prog_ok ext_ok (fun x hx=>?_) (fun _ h=>by cases h)
 simp only [List.mem_cons,List.not_mem_nil,or_false] at hx
 rcases hx with rfl|rfl
 .exact chkC_ok rfl
 .exact (chkAt_ok c).n
def cNo:Ctx:=mkN Tryz.prog glob hG [(17,chk1S)] [] ext
theorem cNo_ok:CtxOk cNo:=by
 refine mkN_ok prog_ok ext_ok (fun x hx=>?_) (fun _ h=>by cases h)
 simp only [List.mem_cons,List.not_mem_nil,or_false] at hx
 subst hx
 exact chkC_ok rfl
def suB (cs:List AV) (n:Int) (a b x y:Int):List AV:=[.agg (cs++[.lslice hG.size n]),.agg [.int true .i64 a,.int true .i64 b],.agg [.int true .i64 x,.int true .i64 y]]
def suHr (ys:List Int):Hp:=viewsH true hG [(.i64,ys)]
def rw2 (C:Ctx) (f:FuncId) (cs:List AV) (n:Int) (ys:List Int) (a b x y:Int):Option (Nd×AV):=oneG (hG.size+1) hG.clock ((run C 1000).call f (suB cs n a b x y) (suHr ys))
def pOk (s:Su) (k n:Int) (ys:List Int) (b:Bool):Prop:=okF3 n ys/\s.g.size<1000000000/\rightS { s with kd:=k } ys=b
def suV2 (V:Su->List Int->Int->Int->Int->Int->AV):Nat->List Itm->Option (Prop×AV×List ABody):=fun _ its=>match its with
 | [.s xs n ys,.n [.n a,.n b],.n [.n x,.n y]]=>match suOf xs with
  | some s=>some (okF3 n ys/\s.g.size<1000000000,V s ys a b x y,[])
  | none=>none
 | _=>none
theorem tell_suB (s:Su) (cs:List AV) (n:Int) (ys:List Int) (a b x y:Int) (h:tellL s.ini cs):tellL (mkA true hG.size [.s suI .i64,.n sS,.n sS] [.s s.nus n ys,.n [.n a,.n b],.n [.n x,.n y]]) (suB cs n a b x y):=by
 have e:mkA true hG.size [.s suI .i64,.n sS,.n sS] [.s s.nus n ys,.n [.n a,.n b],.n [.n x,.n y]]=[.agg (s.ini++[.lslice hG.size n]),.agg [.int true .i64 a,.int true .i64 b],.agg [.int true .i64 x,.int true .i64 y]]:=rfl
 rw [e]
 exact ⟨tellL_app h ⟨rfl,trivial⟩,⟨⟨rfl,rfl⟩,⟨rfl,rfl⟩,trivial⟩,⟨⟨rfl,rfl⟩,⟨rfl,rfl⟩,trivial⟩,trivial⟩
theorem tell_kd {s:Su} {kd:AV} (h:tell (.int true .i64 s.kd) kd):tellL s.ini (s.cells kd):=by
 refine ⟨h,?_⟩
 repeat' first
  | exact trivial
  | refine ⟨⟨rfl,rfl⟩,?_⟩
  | refine ⟨rfl,?_⟩
theorem su2_ok {f:FuncId} {V:Su->List Int->Int->Int->Int->Int->AV} (fn:∃ fn:Func,Tryz.prog.funcs[f]?=some fn/\fn.body.isSome=true)
  (h:∀ (s:Su) (n:Int) (ys:List Int) (a b x y:Int),s.g.size<1000000000->okF3 n ys->∃ (C:Ctx) (cs:List AV) (nd:Nd) (v0:AV),CtxOk C/\C.P=Tryz.prog/\C.glob=glob/\tellL s.ini cs/\rw2 C f cs n ys a b x y=some (nd,v0)/\v0.num=true/\nd.val/\tell v0 (V s ys a b x y)):
  NOk Tryz.prog glob hG f (lSpec hG [.s suI .i64,.n sS,.n sS] (suV2 V)):=by
 refine lsp_ok true hG_ok hG_plain glob_lt (fun sz its p v bs e hp=>?_) fn
 unfold suV2 at e
 split at e
 .rename_i xs n ys a b x y
  split at e
  .rename_i s hs
   cases e
   obtain ⟨ho,hg⟩:=hp
   obtain rfl:=suOf_eq hs
   obtain ⟨C,cs,nd,v0,co,hP,hG',ht,hr,hnum,hnd,hv⟩:=h s n ys a b x y hg ho
   obtain ⟨q,h1,h2,h3,h4⟩:=oneG_tells hr hnum
   refine ⟨⟨fun h0=>?_,trivial⟩,rfl,C,1000,suB cs n a b x y,nd,v0,q,co,hP,hG',tell_suB s cs n ys a b x y ht,h1,h2,hnd,h3,h4 sz _ hv⟩
   obtain ⟨k1,k2,k3⟩:=ho
   rw [h0] at k3
   simp only [List.length_nil] at k3
   omega
  .cases e
 .cases e
theorem rk {s:Su} {ys:List Int} {n:Int} {b:Bool} {k:Int} (hk:s.kd=k) (ho:okF3 n ys) (hg:s.g.size<1000000000) (h:rightS s ys=b):pOk s k n ys b:=⟨ho,hg,by rw [su_kd hk]; exact h⟩
end
end Go.Proofs.YtjcicegihechmaaGreatDoor.K
namespace Go.Proofs.YtjcicegihechmaaGreatDoor.K
open Go Go.Eng Go.Ar Go.Rd
noncomputable section
def badV:AV:=.tuple [.agg [.int false .i64 0,.int false .i64 0],.int false .i64 6]
theorem outS_bad {σ:Sg} {s:Bool} {x:Sp} {W:Value} (h:VRel σ ((outS x).av s) W) (he:x=⟨0,0,6⟩):VRel σ badV W:=by
 subst he
 obtain ⟨K,rfl,h1⟩:=h
 obtain ⟨V1,L1,e1,h2,h3⟩:=h1
 obtain ⟨V2,L2,e2,h4,h5⟩:=h3
 obtain ⟨K1,rfl,h6⟩:=h2
 obtain ⟨V3,L3,e3,h7,h8⟩:=h6
 obtain ⟨V4,L4,e4,h9,h10⟩:=h8
 have h4:=(Go.Eng.mkInt_rel _ _ _ _).1 h4
 have h7:=(Go.Eng.mkInt_rel _ _ _ _).1 h7
 have h9:=(Go.Eng.mkInt_rel _ _ _ _).1 h9
 exact ⟨K,rfl,_,L1,e1,⟨K1,rfl,V3,L3,e3,h7,V4,L4,e4,h9,h10⟩,V2,L2,e2,h4,h5⟩
def bad4 (ss:List Sh) (F:Int->Int->Int->Int->Sp):PSpec:=fun args=>match Sh.readL ss args with
 | some (_,[.n a,.n b,.n c,.n d])=>some (.p (F a b c d=⟨0,0,6⟩),badV)
 | _=>none
def bad2 (ss:List Sh) (F:Int->Int->Sp):PSpec:=fun args=>match Sh.readL ss args with
 | some (_,[.n a,.n b])=>some (.p (F a b=⟨0,0,6⟩),badV)
 | _=>none
theorem bad_bin {f:FuncId} {F:Int->Int->Int->Int->Sp} (g:PureOk Tryz.prog f (sBin F)):GOk Tryz.prog glob hG f (bad4 [shS,shS] F):=by
 refine (g.g glob hG).weaken fun args nd v e=>?_
 unfold bad4 at e
 split at e
 .rename_i s a b c d hr
  cases e
  refine ⟨.tt,(outS (F a b c d)).av s,?_,fun hn=>⟨trivial,fun σ W hW=>outS_bad hW hn⟩⟩
  unfold sBin numSpec
  rw [hr]
 .cases e
theorem bad_un {f:FuncId} {F:Int->Int->Sp} (g:PureOk Tryz.prog f (sUn F)):GOk Tryz.prog glob hG f (bad2 [shS] F):=by
 refine (g.g glob hG).weaken fun args nd v e=>?_
 unfold bad2 at e
 split at e
 .rename_i s a b hr
  cases e
  refine ⟨.tt,(outS (F a b)).av s,?_,fun hn=>⟨trivial,fun σ W hW=>outS_bad hW hn⟩⟩
  unfold sUn numSpec
  rw [hr]
 .cases e
def sqrAt (c:Nat):HSpec:=fun args h=>match Nat.blt h.clock c with
 | true=>gH (good2 [shS] sqrS) args h
 | false=>gH (bad2 [shS] sqrS) args h
theorem sqrAt_ok (c:Nat):HOk Tryz.prog glob hG 52 (sqrAt c):=by
 have g1:=(good_un ssqr_ok).h
 have g2:=(bad_un ssqr_ok).h
 refine ⟨fun args nd v h e same=>?_,g1.fn⟩
 unfold sqrAt at e
 split at e
 .exact g1.call args nd v h e same
 .exact g2.call args nd v h e same
def tIn (T:Nat) (b:Bool):List (FuncId×NSpec):=[(17,chk0S),(18,hN (gH chkSpec)),(105,hN (gH mulSpec)),(52,hN (sqrAt T)),(36,hN (gH (match b with|false=>good4 [shS,shS] addS|true=>bad4 [shS,shS] addS)))]
theorem tIn_g (T:Nat) (b:Bool):∀ x∈tIn T b,NOk Tryz.prog glob hG x.1 x.2:=by
 intro x hx
 simp only [tIn,List.mem_cons,List.not_mem_nil,or_false] at hx
 rcases hx with rfl|rfl|rfl|rfl|rfl
 .exact chkC_ok rfl
 .exact chk0.h.n
 .exact (mul_ok.g glob hG).h.n
 .exact (sqrAt_ok T).n
 .cases b
  .exact (good_bin sadd_ok).h.n
  .exact (bad_bin sadd_ok).h.n
def cIn (T:Nat) (b:Bool):Ctx:=mkN Tryz.prog glob hG (tIn T b) [] ext
theorem cIn_ok (T:Nat) (b:Bool):CtxOk (cIn T b):=mkN_ok prog_ok ext_ok (tIn_g T b) fun _ h=>by cases h
end
end Go.Proofs.YtjcicegihechmaaGreatDoor.K
namespace Go.Rd
open Go Go.Eng Go.Ar
theorem right_sh {s:Su} {ys:List Int} (h:rightS s ys=true):(0<=s.se/\s.se<=1000000000)/\0<=s.ho/\s.ho<=1000000000:=by
 have h:=right_nums h
 unfold numsB at h
 simp only [Bool.and_eq_true,inR_iff] at h
 obtain ⟨⟨⟨⟨_,_⟩,⟨_,a,b⟩⟩,_⟩,_⟩:=h
 exact ⟨a,b⟩
theorem sqr_or {a b:Int} (h:okSp a b=true):(sqrS a b).e=0\/sqrS a b=⟨0,0,6⟩:=by
 unfold sqrS
 rw [h]
 simp only [cond_true]
 unfold toldS
 cases okF (rd (abL a b*abL a b) 4294967296 false)&&okF (rd (abH a b*abH a b) 4294967296 true)
 .exact .inr rfl
 .exact .inl rfl
theorem add_or {a b c d:Int} (h:okSp a b=true) (k:okSp c d=true):(addS a b c d).e=0\/addS a b c d=⟨0,0,6⟩:=by
 unfold addS both
 rw [h,k]
 simp only [Bool.and_self,cond_true]
 unfold toldS
 cases okF (a+c)&&okF (b+d)
 .exact .inr rfl
 .exact .inl rfl
theorem sqr_okSp {a b:Int} (h:(sqrS a b).e=0):okSp (sqrS a b).lo (sqrS a b).hi=true:=by
 have:=sqr_facts h
 exact okSp_iff.2 (by omega)
theorem ins_gen {se ho a b x y:Int} (s0:0<=se) (s1:se<=1000000000) (h0:0<=ho) (h1:ho<=1000000000) (oa:okSp a b=true) (ou:okSp x y=true) (he:errQ a b x y=0):ijN se ho a b x y/\ijV se ho a b x y=insV se ho (qL a b x y) (qH a b x y):=by
 obtain ⟨z1,z2,z3⟩:=errQ_0 he
 obtain ⟨l0,l1,l2⟩:=q_facts he
 have SS0:=Int.mul_nonneg s0 s0
 have SS1:=Int.mul_le_mul s1 s1 s0 (by omega)
 have HH0:=Int.mul_nonneg h0 h0
 have HH1:=Int.mul_le_mul h1 h1 h0 (by omega)
 obtain ⟨L,eL⟩:∃ L,qL a b x y=L:=⟨_,rfl⟩
 obtain ⟨H,eH⟩:∃ H,qH a b x y=H:=⟨_,rfl⟩
 rw [eL] at l0 l1
 rw [eH] at l1 l2
 have i1:ij1 se ho a b x y=se*se:=by
  unfold ij1; rw [i64w (by omega) (by omega),Go.Rd.u64w (by omega) (by omega)]
 have i14:ij14 se ho a b x y=ho*ho:=by
  unfold ij14; rw [i64w (by omega) (by omega),Go.Rd.u64w (by omega) (by omega)]
 have i3:ij3 se ho a b x y=L:=by
  unfold ij3; rw [show (addS _ _ _ _).lo=_ from eL]; exact Go.Rd.u64w (by omega) (by omega)
 have i13:ij13 se ho a b x y=H:=by
  unfold ij13; rw [show (addS _ _ _ _).hi=_ from eH]; exact Go.Rd.u64w (by omega) (by omega)
 rw [eL,eH]
 have d1:decide (0<=ij1 se ho a b x y/\ij1 se ho a b x y<18446744073709551616/\0<=(4294967296:Int)/\(4294967296:Int)<18446744073709551616)=true:=by rw [i1]; exact decide_eq_true (by omega)
 have d14:decide (0<=ij14 se ho a b x y/\ij14 se ho a b x y<18446744073709551616/\0<=(4294967296:Int)/\(4294967296:Int)<18446744073709551616)=true:=by rw [i14]; exact decide_eq_true (by omega)
 have d3:decide (0<=ij3 se ho a b x y/\ij3 se ho a b x y<18446744073709551616/\0<=(1000000000000:Int)/\(1000000000000:Int)<18446744073709551616)=true:=by rw [i3]; exact decide_eq_true (by omega)
 have d13:decide (0<=ij13 se ho a b x y/\ij13 se ho a b x y<18446744073709551616/\0<=(1000000000000:Int)/\(1000000000000:Int)<18446744073709551616)=true:=by rw [i13]; exact decide_eq_true (by omega)
 refine ⟨⟨⟨oa,ou⟩,⟨z1,z2,z3⟩,⟨fun _=>⟨⟨d1,d3⟩,fun _ _=>⟨d13,d14⟩⟩,fun _ _=>⟨d13,d14⟩⟩,fun _=>⟨fun _=>⟨⟨d1,d13⟩,fun _ _=>⟨d3,d14⟩⟩,fun _ _=>⟨d3,d14⟩⟩⟩,?_⟩
 have i11:ij11 se ho a b x y=decide (se*se*4294967296<L*1000000000000):=by
  have:=two_words (ij1 se ho a b x y*4294967296) (ij3 se ho a b x y*1000000000000) (by omega) (by omega)
  rw [i1,i3] at this
  rw [<- this]; unfold ij11 ij6 ij8 ij9 ij10 ij5 ij7; rw [i1,i3]; rfl
 have i23:ij23 se ho a b x y=decide (se*se*4294967296<H*1000000000000):=by
  have:=two_words (ij1 se ho a b x y*4294967296) (ij13 se ho a b x y*1000000000000) (by omega) (by omega)
  rw [i1,i13] at this
  rw [<- this]; unfold ij23 ij6 ij16 ij9 ij19 ij5 ij15; rw [i1,i13]; rfl
 have i21:ij21 se ho a b x y=holeB ho H:=by
  have:=two_words (ij13 se ho a b x y*1000000000000) (ij14 se ho a b x y*4294967296) (by omega) (by omega)
  rw [i13,i14] at this
  unfold holeB; rw [<- this]; unfold ij21 ij12 ij16 ij18 ij19 ij20 ij15 ij17; rw [i13,i14]; rfl
 have i24:ij24 se ho a b x y=holeB ho L:=by
  have:=two_words (ij3 se ho a b x y*1000000000000) (ij14 se ho a b x y*4294967296) (by omega) (by omega)
  rw [i3,i14] at this
  unfold holeB; rw [<- this]; unfold ij24 ij12 ij8 ij18 ij10 ij20 ij7 ij17; rw [i3,i14]; rfl
 unfold ijV insV ij22 ij0 judB
 rw [i11,i23,i21,i24]
end Go.Rd
namespace Go.Proofs.YtjcicegihechmaaGreatDoor.K
open Go Go.Eng Go.Ar Go.Rd
noncomputable section
def erV (k:Int):AV:=.tuple [.int false .i64 0,.int false .i64 k]
def ruA (C:Ctx) (s:Su) (n:Int) (ys:List Int) (a b x y:Int):Option (Nd×AV):=rw2 C 7 (s.cells (.int true .i64 s.kd)) n ys a b x y
theorem ai_0 (s:Su) (n:Int) (ys:List Int) (a b x y:Int):ruA cNo s n ys a b x y=some (.p (pOk s s.kd n ys false),erV 110):=by kernel_rfl
theorem ai_1 (s:Su) (n:Int) (ys:List Int) (a b x y:Int):ruA (cBd 0) s n ys a b x y=some (.p (pOk s s.kd n ys true/\okSp a b=false),erV 20):=by kernel_rfl
theorem ai_2 (s:Su) (n:Int) (ys:List Int) (a b x y:Int):ruA (cBd 30) s n ys a b x y=some (.p (pOk s s.kd n ys true/\okSp a b=true/\okSp x y=false),erV 20):=by kernel_rfl
theorem ai_3 (s:Su) (n:Int) (ys:List Int) (a b x y:Int):ruA (cIn 50 false) s n ys a b x y=some (.p (pOk s s.kd n ys true/\(okSp a b=true/\okSp x y=true)/\sqrS a b=⟨0,0,6⟩),erV 6):=by kernel_rfl
theorem ai_4 (s:Su) (n:Int) (ys:List Int) (a b x y:Int):ruA (cIn 70 false) s n ys a b x y=some (.p (pOk s s.kd n ys true/\(okSp a b=true/\okSp x y=true)/\(sqrS a b).e=0/\sqrS x y=⟨0,0,6⟩),erV 6):=by kernel_rfl
theorem ai_5 (s:Su) (n:Int) (ys:List Int) (a b x y:Int):ruA (cIn 900 true) s n ys a b x y=some (.p (pOk s s.kd n ys true/\(okSp a b=true/\okSp x y=true)/\(sqrS a b).e=0/\(sqrS x y).e=0/\addS (sqrS a b).lo (sqrS a b).hi (sqrS x y).lo (sqrS x y).hi=⟨0,0,6⟩),erV 6):=by kernel_rfl
theorem ai_6 (s:Su) (n:Int) (ys:List Int) (a b x y:Int):ruA (cIn 900 false) s n ys a b x y=some (.p (pOk s s.kd n ys true/\ijN s.se s.ho a b x y),.tuple [.int true .i64 (ijV s.se s.ho a b x y),.int false .i64 0]):=by kernel_rfl
def insA (s:Su) (ys:List Int) (a b x y:Int):AV:=.tuple [.int true .i64 (insN s ys a b x y),.int true .i64 (insE s ys a b x y)]
theorem er_tell {k:Int} {s:Su} {ys:List Int} {a b x y:Int} (h:insE s ys a b x y=k) (hk:k≠0):tell (erV k) (insA s ys a b x y):=by
 have h2:insN s ys a b x y=0:=by
  unfold insN; rw [h,beq_eq_false_iff_ne.2 hk]; rfl
 unfold insA
 rw [h,h2]
 exact ⟨⟨rfl,rfl⟩,⟨rfl,rfl⟩,trivial⟩
theorem ok_tell {v:Int} {s:Su} {ys:List Int} {a b x y:Int} (h:insE s ys a b x y=0) (hv:v=insV s.se s.ho (qL a b x y) (qH a b x y)):tell (.tuple [.int true .i64 v,.int false .i64 0]) (insA s ys a b x y):=by
 have h2:insN s ys a b x y=v:=by
  unfold insN; rw [h,hv]; rfl
 unfold insA
 rw [h,h2]
 exact ⟨⟨rfl,rfl⟩,⟨rfl,rfl⟩,trivial⟩
theorem insA_ok:NOk Tryz.prog glob hG 7 (lSpec hG [.s suI .i64,.n sS,.n sS] (suV2 insA)):=by
 refine su2_ok ⟨_,Tryz.func7,rfl⟩ fun s n ys a b x y hg ho=>?_
 cases hr:rightS s ys with
 | false=>exact ⟨cNo,s.cells (.int true .i64 s.kd),_,_,cNo_ok,rfl,rfl,tell_kd ⟨rfl,rfl⟩,ai_0 s n ys a b x y,rfl,rk rfl ho hg hr,er_tell (by unfold insE; rw [hr]; rfl) (by decide)⟩
 | true=>
  have R:=rk rfl ho hg hr
  cases h1:okSp a b with
  | false=>exact ⟨cBd 0,s.cells (.int true .i64 s.kd),_,_,cBd_ok _,rfl,rfl,tell_kd ⟨rfl,rfl⟩,ai_1 s n ys a b x y,rfl,⟨R,h1⟩,er_tell (by unfold insE okXY; rw [hr,h1]; rfl) (by decide)⟩
  | true=>
   cases h2:okSp x y with
   | false=>exact ⟨cBd 30,s.cells (.int true .i64 s.kd),_,_,cBd_ok _,rfl,rfl,tell_kd ⟨rfl,rfl⟩,ai_2 s n ys a b x y,rfl,⟨R,h1,h2⟩,er_tell (by unfold insE okXY; rw [hr,h1,h2]; rfl) (by decide)⟩
   | true=>
    have hE:insE s ys a b x y=errQ a b x y:=by unfold insE okXY; rw [hr,h1,h2]; rfl
    rcases sqr_or h1 with e1|e1
    .rcases sqr_or h2 with e2|e2
     .rcases add_or (sqr_okSp e1) (sqr_okSp e2) with e3|e3
      .have h0:errQ a b x y=0:=by unfold errQ; rw [e1,e2,e3]; rfl
       obtain ⟨⟨s0,s1⟩,t0,t1⟩:=right_sh hr
       obtain ⟨g1,g2⟩:=ins_gen s0 s1 t0 t1 h1 h2 h0
       exact ⟨cIn 900 false,s.cells (.int true .i64 s.kd),_,_,cIn_ok _ _,rfl,rfl,tell_kd ⟨rfl,rfl⟩,ai_6 s n ys a b x y,rfl,⟨R,g1⟩,ok_tell (hE.trans h0) g2⟩
      .exact ⟨cIn 900 true,s.cells (.int true .i64 s.kd),_,_,cIn_ok _ _,rfl,rfl,tell_kd ⟨rfl,rfl⟩,ai_5 s n ys a b x y,rfl,⟨R,⟨h1,h2⟩,e1,e2,e3⟩,er_tell (hE.trans (by unfold errQ; rw [e1,e2,e3]; rfl)) (by decide)⟩
     .exact ⟨cIn 70 false,s.cells (.int true .i64 s.kd),_,_,cIn_ok _ _,rfl,rfl,tell_kd ⟨rfl,rfl⟩,ai_4 s n ys a b x y,rfl,⟨R,⟨h1,h2⟩,e1,e2⟩,er_tell (hE.trans (by unfold errQ; rw [e1,e2]; rfl)) (by decide)⟩
    .exact ⟨cIn 50 false,s.cells (.int true .i64 s.kd),_,_,cIn_ok _ _,rfl,rfl,tell_kd ⟨rfl,rfl⟩,ai_3 s n ys a b x y,rfl,⟨R,⟨h1,h2⟩,e1⟩,er_tell (hE.trans (by unfold errQ; rw [e1]; rfl)) (by decide)⟩
end
end Go.Proofs.YtjcicegihechmaaGreatDoor.K
namespace Go.Proofs.YtjcicegihechmaaGreatDoor.K
open Go Go.Eng Go.Ar
noncomputable section
noncomputable def c0:Ctx:=mkC Tryz.prog [] ext
theorem c0_ok:CtxOk c0:=mkC_ok prog_ok (fun _ h=>by cases h) ext_ok
end
end Go.Proofs.YtjcicegihechmaaGreatDoor.K
namespace Go.Proofs.YtjcicegihechmaaGreatDoor.K
open Go Go.Eng Go.Ar
noncomputable section
end
end Go.Proofs.YtjcicegihechmaaGreatDoor.K
namespace Go.Proofs.YtjcicegihechmaaGreatDoor.K
open Go Go.Eng Go.Ar
noncomputable section
end
end Go.Proofs.YtjcicegihechmaaGreatDoor.K
namespace Go.Proofs.YtjcicegihechmaaGreatDoor.K
open Go Go.Eng Go.Ar
noncomputable section
def hintB (b:Bool):Option AV:=match b with
 | true=>some (.bool false true)
 | false=>some (.bool false false)
def pwH (K S:Nat) (c d:Nat):Option AV:=match Nat.beq d 5 with
 | true=>match Nat.ble 19 c&&Nat.blt c (32+12*K) with
  | true=>hintB (Nat.blt c (21+12*K))
  | false=>match Nat.ble S c&&Nat.blt c (S+12+12*K) with
   | true=>hintB (Nat.blt c (S+2+12*K))
   | false=>none
 | false=>none
noncomputable def cPw (K:Nat):Ctx:={ c0 with hint:=pwH K (79+50*K) }
theorem cPw_ok (K:Nat):CtxOk (cPw K):=⟨c0_ok.prog,c0_ok.con,c0_ok.ext,c0_ok.loop,c0_ok.two⟩
def ndD:Nat->Int->Prop
 | 0,v=>decide (v>0)=false
 | k+1,v=>decide (v>0)=true/\ndD k (IntKind.i64.wrap (v.tdiv 65536))
theorem pwD0 (v:Int):oneV ((run (cPw 0) 900).call 140 [.int true .i64 v,.int false .i64 2,.bool false false] ⟨[],0,1⟩)=some (.p (ndD 0 v/\ndD 0 v),.tuple [.int false .i64 0,.bool false true]):=by kernel_rfl
theorem pwD1 (v:Int):oneV ((run (cPw 1) 900).call 140 [.int true .i64 v,.int false .i64 2,.bool false false] ⟨[],0,1⟩)=some (.p (ndD 1 v/\ndD 1 v),.tuple [.int true .i64 (outP 1 v false),.bool true (decide (outP 1 v false<=4503599627370496))]):=by kernel_rfl
theorem pwD2 (v:Int):oneV ((run (cPw 2) 900).call 140 [.int true .i64 v,.int false .i64 2,.bool false false] ⟨[],0,1⟩)=some (.p (ndD 2 v/\ndD 2 v),.tuple [.int true .i64 (bif fitP 2 v then outP 2 v false else 0),.bool true (bif fitP 2 v then decide (outP 2 v false<=4503599627370496) else false)]):=by kernel_rfl
theorem pwD3 (v:Int):oneV ((run (cPw 3) 900).call 140 [.int true .i64 v,.int false .i64 2,.bool false false] ⟨[],0,1⟩)=some (.p (ndD 3 v/\ndD 3 v),.tuple [.int true .i64 (bif fitP 3 v then outP 3 v false else 0),.bool true (bif fitP 3 v then decide (outP 3 v false<=4503599627370496) else false)]):=by kernel_rfl
theorem pwD4 (v:Int):oneV ((run (cPw 4) 900).call 140 [.int true .i64 v,.int false .i64 2,.bool false false] ⟨[],0,1⟩)=some (.p (ndD 4 v/\ndD 4 v),.tuple [.int true .i64 (bif fitP 4 v then outP 4 v false else 0),.bool true (bif fitP 4 v then decide (outP 4 v false<=4503599627370496) else false)]):=by kernel_rfl
theorem pwU0 (v:Int):oneV ((run (cPw 0) 900).call 140 [.int true .i64 v,.int false .i64 2,.bool false true] ⟨[],0,1⟩)=some (.p (ndD 0 v/\ndD 0 v),.tuple [.int false .i64 0,.bool false true]):=by kernel_rfl
theorem pwU1 (v:Int):oneV ((run (cPw 1) 900).call 140 [.int true .i64 v,.int false .i64 2,.bool false true] ⟨[],0,1⟩)=some (.p (ndD 1 v/\ndD 1 v),.tuple [.int true .i64 (outP 1 v true),.bool true (decide (outP 1 v true<=4503599627370496))]):=by kernel_rfl
theorem pwU2 (v:Int):oneV ((run (cPw 2) 900).call 140 [.int true .i64 v,.int false .i64 2,.bool false true] ⟨[],0,1⟩)=some (.p (ndD 2 v/\ndD 2 v),.tuple [.int true .i64 (bif fitP 2 v then outP 2 v true else 0),.bool true (bif fitP 2 v then decide (outP 2 v true<=4503599627370496) else false)]):=by kernel_rfl
theorem pwU3 (v:Int):oneV ((run (cPw 3) 900).call 140 [.int true .i64 v,.int false .i64 2,.bool false true] ⟨[],0,1⟩)=some (.p (ndD 3 v/\ndD 3 v),.tuple [.int true .i64 (bif fitP 3 v then outP 3 v true else 0),.bool true (bif fitP 3 v then decide (outP 3 v true<=4503599627370496) else false)]):=by kernel_rfl
theorem pwU4 (v:Int):oneV ((run (cPw 4) 900).call 140 [.int true .i64 v,.int false .i64 2,.bool false true] ⟨[],0,1⟩)=some (.p (ndD 4 v/\ndD 4 v),.tuple [.int true .i64 (bif fitP 4 v then outP 4 v true else 0),.bool true (bif fitP 4 v then decide (outP 4 v true<=4503599627370496) else false)]):=by kernel_rfl
theorem nd0 {v:Int} (h:v=0):ndD 0 v:=by subst h; rfl
theorem ndS {k:Nat} {v:Int} (h0:0<v) (hb:v<=4503599627370496) (h:ndD k (v / 65536)):ndD (k+1) v:=by
 refine ⟨decide_eq_true h0,?_⟩
 rw [Int.tdiv_eq_ediv_of_nonneg (by omega),i64w (by omega) (by omega)]
 exact h
theorem pick (v:Int) (h0:0<=v) (ho:okF v=true):0<=v /\
  ((ndD 0 v/\True/\(∀ up,pV v up=0)/\(∀ up,pB v up=true)) ∨
   (ndD 1 v/\(∀ up,outP 1 v up=pV v up)/\(∀ up,decide (pV v up<=4503599627370496)=pB v up)) ∨
   (ndD 2 v/\(∀ up,(bif fitP 2 v then outP 2 v up else 0)=pV v up)/\(∀ up,(bif fitP 2 v then decide (outP 2 v up<=4503599627370496) else false)=pB v up)) ∨
   (ndD 3 v/\(∀ up,(bif fitP 3 v then outP 3 v up else 0)=pV v up)/\(∀ up,(bif fitP 3 v then decide (outP 3 v up<=4503599627370496) else false)=pB v up)) ∨
   (ndD 4 v/\(∀ up,(bif fitP 4 v then outP 4 v up else 0)=pV v up)/\(∀ up,(bif fitP 4 v then decide (outP 4 v up<=4503599627370496) else false)=pB v up))):=by
 have hb:=(okF_iff.1 ho).2
 refine ⟨h0,?_⟩
 have big:∀ k,2<=k->v<65536 ^ k->(∀ up,(bif fitP k v then outP k v up else 0)=pV v up)/\(∀ up,(bif fitP k v then decide (outP k v up<=4503599627370496) else false)=pB v up):=by
  intro k hk h1
  obtain ⟨t,r,e,_,g,_,o⟩:=pw_core k (by omega) v h0 hb h1
  have hf:fitP k v=!pEarly v:=by unfold fitP; rw [e]; exact g hk
  rw [hf]
  refine ⟨fun up=>?_,fun up=>?_⟩
  .unfold pV
   cases he:pEarly v with
   | true=>rfl
   | false=>rw [o he]; rfl
  .unfold pB
   cases he:pEarly v with
   | true=>rfl
   | false=>rw [o he]; rfl
 by_cases c0:v=0
 .subst c0
  exact .inl ⟨nd0 rfl,trivial,fun up=>by cases up <;> rfl,fun up=>by cases up <;> rfl⟩
 .by_cases c1:v<65536
  .obtain ⟨t,r,e,_,_,g,o⟩:=pw_core 1 (by omega) v h0 hb (by rw [Int.pow_one]; exact c1)
   obtain ⟨he,_⟩:=g rfl
   refine .inr (.inl ⟨ndS (by omega) hb (nd0 (by omega)),fun up=>?_,fun up=>?_⟩)
   .rw [o he]; unfold pV; rw [he]; rfl
   .unfold pV pB; rw [he]; rfl
  .by_cases c2:v<4294967296
   .exact .inr (.inr (.inl ⟨ndS (by omega) hb (ndS (by omega) (by omega) (nd0 (by omega))),big 2 (by decide) (by rw [show (65536:Int) ^ 2=4294967296 by decide]; exact c2)⟩))
   .by_cases c3:v<281474976710656
    .exact .inr (.inr (.inr (.inl ⟨ndS (by omega) hb (ndS (by omega) (by omega) (ndS (by omega) (by omega) (nd0 (by omega)))),big 3 (by decide) (by rw [show (65536:Int) ^ 3=281474976710656 by decide]; exact c3)⟩)))
    .exact .inr (.inr (.inr (.inr ⟨ndS (by omega) hb (ndS (by omega) (by omega) (ndS (by omega) (by omega) (ndS (by omega) (by omega) (nd0 (by omega))))),big 4 (by decide) (by rw [show (65536:Int) ^ 4=18446744073709551616 by decide]; omega)⟩)))
def two' (x:Int) (b:Bool):AV:=.tuple [.int true .i64 x,.bool true b]
theorem rpowD_ok:PureOk Tryz.prog 140 (sRPow false):=by
 refine num_ok' (fun xs hk hN=>?_) ⟨_,Tryz.func140,rfl⟩
 obtain ⟨v,_,rfl,h1⟩:=kn hk; obtain rfl:=k0 h1
 have hN:(decide (0<=v)&&okF v)=true:=hN
 simp only [Bool.and_eq_true,decide_eq_true_eq] at hN
 obtain ⟨k1,k2⟩:=pick v hN.1 hN.2
 rcases k2 with ⟨e,r1,r2⟩|⟨e,r1,r2⟩|⟨e,r1,r2⟩|⟨e,r1,r2⟩|⟨e,r1,r2⟩
 .exact ⟨cPw 0,900,.p (ndD 0 v/\ndD 0 v),.tuple [.int false .i64 0,.bool false true],cPw_ok 0,rfl,fun _=>rfl,rfl,pwD0 v,⟨e,e⟩,fun τ W h=>by show VRel τ (two' _ _) W; rw [show (two' (pV v false) (pB v false))=two' 0 true by rw [r2.1 false,r2.2 false]]; exact h⟩
 .exact ⟨cPw 1,900,.p (ndD 1 v/\ndD 1 v),two' (pV v false) (pB v false),cPw_ok 1,rfl,fun _=>rfl,rfl,(pwD1 v).trans (by rw [r1 false,r2 false]; rfl),⟨e,e⟩,fun τ W h=>h⟩
 .exact ⟨cPw 2,900,.p (ndD 2 v/\ndD 2 v),two' (pV v false) (pB v false),cPw_ok 2,rfl,fun _=>rfl,rfl,(pwD2 v).trans (by rw [r1 false,r2 false]; rfl),⟨e,e⟩,fun τ W h=>h⟩
 .exact ⟨cPw 3,900,.p (ndD 3 v/\ndD 3 v),two' (pV v false) (pB v false),cPw_ok 3,rfl,fun _=>rfl,rfl,(pwD3 v).trans (by rw [r1 false,r2 false]; rfl),⟨e,e⟩,fun τ W h=>h⟩
 .exact ⟨cPw 4,900,.p (ndD 4 v/\ndD 4 v),two' (pV v false) (pB v false),cPw_ok 4,rfl,fun _=>rfl,rfl,(pwD4 v).trans (by rw [r1 false,r2 false]; rfl),⟨e,e⟩,fun τ W h=>h⟩
theorem rpowU_ok:PureOk Tryz.prog 140 (sRPow true):=by
 refine num_ok' (fun xs hk hN=>?_) ⟨_,Tryz.func140,rfl⟩
 obtain ⟨v,_,rfl,h1⟩:=kn hk; obtain rfl:=k0 h1
 have hN:(decide (0<=v)&&okF v)=true:=hN
 simp only [Bool.and_eq_true,decide_eq_true_eq] at hN
 obtain ⟨k1,k2⟩:=pick v hN.1 hN.2
 rcases k2 with ⟨e,r1,r2⟩|⟨e,r1,r2⟩|⟨e,r1,r2⟩|⟨e,r1,r2⟩|⟨e,r1,r2⟩
 .exact ⟨cPw 0,900,.p (ndD 0 v/\ndD 0 v),.tuple [.int false .i64 0,.bool false true],cPw_ok 0,rfl,fun _=>rfl,rfl,pwU0 v,⟨e,e⟩,fun τ W h=>by show VRel τ (two' _ _) W; rw [show (two' (pV v true) (pB v true))=two' 0 true by rw [r2.1 true,r2.2 true]]; exact h⟩
 .exact ⟨cPw 1,900,.p (ndD 1 v/\ndD 1 v),two' (pV v true) (pB v true),cPw_ok 1,rfl,fun _=>rfl,rfl,(pwU1 v).trans (by rw [r1 true,r2 true]; rfl),⟨e,e⟩,fun τ W h=>h⟩
 .exact ⟨cPw 2,900,.p (ndD 2 v/\ndD 2 v),two' (pV v true) (pB v true),cPw_ok 2,rfl,fun _=>rfl,rfl,(pwU2 v).trans (by rw [r1 true,r2 true]; rfl),⟨e,e⟩,fun τ W h=>h⟩
 .exact ⟨cPw 3,900,.p (ndD 3 v/\ndD 3 v),two' (pV v true) (pB v true),cPw_ok 3,rfl,fun _=>rfl,rfl,(pwU3 v).trans (by rw [r1 true,r2 true]; rfl),⟨e,e⟩,fun τ W h=>h⟩
 .exact ⟨cPw 4,900,.p (ndD 4 v/\ndD 4 v),two' (pV v true) (pB v true),cPw_ok 4,rfl,fun _=>rfl,rfl,(pwU4 v).trans (by rw [r1 true,r2 true]; rfl),⟨e,e⟩,fun τ W h=>h⟩
end
end Go.Proofs.YtjcicegihechmaaGreatDoor.K
namespace Go.Proofs.YtjcicegihechmaaGreatDoor.K
open Go Go.Eng Go.Ar
noncomputable section
noncomputable def tbl6:List (FuncId×PSpec):=[(140,orS (sRPow false) (sRPow true))]
theorem tbl6_ok:TblOk Tryz.prog tbl6:=fun x hx=>by
 rcases List.mem_singleton.1 hx with rfl
 exact orS_ok rpowD_ok rpowU_ok
noncomputable def c6:Ctx:=mkC Tryz.prog tbl6 ext
theorem c6_ok:CtxOk c6:=mkC_ok prog_ok tbl6_ok ext_ok
end
end Go.Proofs.YtjcicegihechmaaGreatDoor.K
namespace Go.Ar
open Go Go.Eng
def rR (a b:Int):Bool:=bif rRt a then (bif rRt b then decide (a<=b) else false) else false
def rBad2 (a b c d:Int):Bool:=bif !rR a b then true else !rR c d
def rOut (g:Bool) (bad:Bool) (l h:Int):Sp:=⟨bif g then 0 else bif bad then 0 else l,bif g then 0 else bif bad then 0 else h,bif g then 20 else bif bad then 6 else 0⟩
def rChk (a b:Int):Int:=bif !rR a b then 20 else 0
def rAddS (a b c d:Int):Sp:=rOut (rBad2 a b c d) (!rR (IntKind.i64.wrap (a+c)) (IntKind.i64.wrap (b+d))) (IntKind.i64.wrap (a+c)) (IntKind.i64.wrap (b+d))
def ifmn (x y:Int):Int:=if y<x then y else x
def ifmx (x y:Int):Int:=if y>x then y else x
def rqV (a:Int) (up:Bool):Int:=bif decide (a>=0) then pV a up else pV (IntKind.i64.wrap (0 - a)) up
def rqB (a:Int) (up:Bool):Bool:=bif decide (a>=0) then pB a up else pB (IntKind.i64.wrap (0 - a)) up
def rqL (a b:Int):Int:=bif bif decide (a<0) then decide (b>0) else false then 0 else ifmn (rqV a false) (rqV b false)
def rqH (a b:Int):Int:=ifmx (rqV a true) (rqV b true)
def rqBad (a b:Int):Bool:=bif !rqB b true then true else !rR (rqL a b) (rqH a b)
def rq3 (a b x y:Int):Int:=bif rqB a false then bif rqB b false then bif rqB a true then bif rqBad a b then y else x else y else y else y
def rSqrS (a b:Int):Sp:=⟨bif !rR a b then 0 else rq3 a b (rqL a b) 0,bif !rR a b then 0 else rq3 a b (rqH a b) 0,bif !rR a b then 20 else rq3 a b 0 6⟩
theorem rR_eq (a b:Int):rR a b=okSp a b:=by
 unfold rR
 rw [rRt_eq,rRt_eq]
 unfold okF okSp
 by_cases h1:-4503599627370496<=a <;> by_cases h2:a<=b <;> by_cases h3:b<=4503599627370496 <;> simp [h1,h2,h3] <;> omega
theorem rR_told {l h:Int} (k:l<=h):rR l h=(okF l&&okF h):=by
 rw [rR_eq]
 unfold okF okSp
 rw [Bool.eq_iff_iff]
 simp
 omega
theorem rOut_told (a b c d l h:Int) (bad:Bool) (k:okSp a b=true->okSp c d=true->bad=!(okF l&&okF h)):rOut (rBad2 a b c d) bad l h=both a b c d (toldS l h):=by
 unfold rOut rBad2 both
 rw [rR_eq,rR_eq]
 cases h1:okSp a b with
 | false=>simp [err]
 | true=>
  cases h2:okSp c d with
  | false=>simp [err]
  | true=>
   rw [k h1 h2]
   unfold toldS
   cases okF l&&okF h <;> simp [err]
theorem rChk_eq (a b:Int):rChk a b=bif okSp a b then 0 else 20:=by
 unfold rChk; rw [rR_eq]; cases okSp a b <;> rfl
theorem rAddS_eq (a b c d:Int):rAddS a b c d=addS a b c d:=by
 unfold rAddS addS
 rw [rOut_told]
 .unfold both
  cases h1:okSp a b <;> cases h2:okSp c d <;> try rfl
  have:=okSp_iff.1 h1; have:=okSp_iff.1 h2
  rw [i64w (by omega) (by omega),i64w (by omega) (by omega)]
 .intro h1 h2
  have:=okSp_iff.1 h1; have:=okSp_iff.1 h2
  rw [rR_told]
  rw [i64w (by omega) (by omega),i64w (by omega) (by omega)]; omega
theorem ifmn_eq (x y:Int):ifmn x y=mn x y:=by
 unfold ifmn mn; by_cases h:y<x <;> simp [h]
theorem ifmx_eq (x y:Int):ifmx x y=mx x y:=by
 unfold ifmx mx; by_cases h:x<y <;> simp [h]
end Go.Ar
namespace Go.Ar
open Go Go.Eng
theorem rd_mn {x y d:Int} (hd:0<d):rd (mn x y) d false=mn (rd x d false) (rd y d false):=by
 have m:=mn_le x y
 have k:=mn_le (rd x d false) (rd y d false)
 by_cases h:y<x
 .have e:mn x y=y:=by unfold mn; rw [decide_eq_true h]; rfl
  have:=rd_lt_rd hd (Int.le_of_lt h) false
  rw [e]; omega
 .have e:mn x y=x:=by unfold mn; rw [decide_eq_false h]; rfl
  have:=rd_lt_rd hd (show x<=y by omega) false
  rw [e]; omega
theorem rd_mx {x y d:Int} (hd:0<d):rd (mx x y) d true=mx (rd x d true) (rd y d true):=by
 have m:=le_mx x y
 have k:=le_mx (rd x d true) (rd y d true)
 by_cases h:x<y
 .have e:mx x y=y:=by unfold mx; rw [decide_eq_true h]; rfl
  have:=rd_lt_rd hd (Int.le_of_lt h) true
  rw [e]; omega
 .have e:mx x y=x:=by unfold mx; rw [decide_eq_false h]; rfl
  have:=rd_lt_rd hd (show y<=x by omega) true
  rw [e]; omega
theorem pB_eq {v:Int} (up:Bool):pB v up=decide (rd (v*v) 4294967296 up<=4503599627370496)/\(pB v up=true->pV v up=rd (v*v) 4294967296 up):=by
 have h1:=rd_le (v*v) 4294967296 (by decide)
 have h2:rd (v*v) 4294967296 false=v*v / 4294967296:=rfl
 unfold pB pV
 cases he:pEarly v with
 | false=>exact ⟨rfl,fun _=>rfl⟩
 | true=>
  refine ⟨?_,fun h=>by cases h⟩
  have:=of_decide_eq_true he
  symm
  rw [cond_true,decide_eq_false_iff_not]
  cases up <;> omega
theorem rq_abs {a:Int} (h:okF a=true) (up:Bool):rqB a up=decide (rd (a*a) 4294967296 up<=4503599627370496)/\(rqB a up=true->rqV a up=rd (a*a) 4294967296 up):=by
 have h:=okF_iff.1 h
 unfold rqB rqV
 by_cases c:a>=0
 .rw [decide_eq_true c]; exact pB_eq up
 .rw [decide_eq_false c,cond_false,cond_false,i64w (by omega) (by omega),Int.zero_sub]
  have:=pB_eq (v:=-a) up
  rw [Int.neg_mul_neg] at this
  exact this
theorem rSqrS_eq (a b:Int):rSqrS a b=sqrS a b:=by
 unfold rSqrS sqrS
 rw [rR_eq]
 cases h:okSp a b with
 | false=>simp [err]
 | true=>
  obtain ⟨ha,hb⟩:=okF_of_sp h
  have k:=okSp_iff.1 h
  obtain ⟨_,_,l0,l1,l2⟩:=xa_eq h
  obtain ⟨af,vaf⟩:=rq_abs ha false
  obtain ⟨at',vat⟩:=rq_abs ha true
  obtain ⟨bf,vbf⟩:=rq_abs hb false
  obtain ⟨bt,vbt⟩:=rq_abs hb true
  have hl:abL a b*abL a b=(if a<0/\0<b then 0 else mn (a*a) (b*b))/\abH a b*abH a b=mx (a*a) (b*b):=by
   have q0:0<=a*a:=by
    rcases Int.le_total 0 a with c|c
    .exact Int.mul_nonneg c c
    .exact Int.mul_nonneg_of_nonpos_of_nonpos c c
   have q1:0<=b*b:=by
    rcases Int.le_total 0 b with c|c
    .exact Int.mul_nonneg c c
    .exact Int.mul_nonneg_of_nonpos_of_nonpos c c
   have key:∀ x y:Int,0<=x->x<=y->x*x<=y*y:=fun x y h1 h2=>Int.mul_le_mul h2 h2 h1 (by omega)
   rcases Int.lt_or_le a 0 with c|c
   .rcases Int.lt_or_le 0 b with e|e
    .have eL:abL a b=0:=by have m1:=le_mx a (-b); have m2:=le_mx (mx a (-b)) 0; unfold abL; omega
     rw [eL,if_pos ⟨c,e⟩]
     refine ⟨rfl,?_⟩
     unfold abH
     by_cases h2:b < -a
     .have eH:mx b (-a)=-a:=by unfold mx; rw [decide_eq_true h2]; rfl
      have:=key b (-a) (by omega) (by omega)
      rw [Int.neg_mul_neg] at this
      rw [eH,Int.neg_mul_neg]
      have m:=le_mx (a*a) (b*b); omega
     .have eH:mx b (-a)=b:=by unfold mx; rw [decide_eq_false h2]; rfl
      have:=key (-a) b (by omega) (by omega)
      rw [Int.neg_mul_neg] at this
      rw [eH]
      have m:=le_mx (a*a) (b*b); omega
    .have eL:abL a b=-b:=by have m1:=le_mx a (-b); have m2:=le_mx (mx a (-b)) 0; unfold abL; omega
     have eH:abH a b=-a:=by have m1:=le_mx b (-a); unfold abH; omega
     have:=key (-b) (-a) (by omega) (by omega)
     rw [Int.neg_mul_neg,Int.neg_mul_neg] at this
     rw [eL,eH,if_neg (by omega),Int.neg_mul_neg,Int.neg_mul_neg]
     have m:=le_mx (a*a) (b*b); have m':=mn_le (a*a) (b*b); omega
   .have eL:abL a b=a:=by have m1:=le_mx a (-b); have m2:=le_mx (mx a (-b)) 0; unfold abL; omega
    have eH:abH a b=b:=by have m1:=le_mx b (-a); unfold abH; omega
    have:=key a b c k.2.1
    rw [eL,eH,if_neg (by omega)]
    have m:=le_mx (a*a) (b*b); have m':=mn_le (a*a) (b*b); omega
  rw [hl.1,hl.2,rd_mx (by decide)]
  have lowE:rd (if a<0/\0<b then 0 else mn (a*a) (b*b)) 4294967296 false=(if a<0/\0<b then 0 else mn (rd (a*a) 4294967296 false) (rd (b*b) 4294967296 false)):=by
   split
   .rfl
   .exact rd_mn (by decide)
  rw [lowE]
  have q0:0<=rd (a*a) 4294967296 false:=by
   show 0<=a*a / 4294967296
   exact Int.ediv_nonneg (by
    rcases Int.le_total 0 a with c|c
    .exact Int.mul_nonneg c c
    .exact Int.mul_nonneg_of_nonpos_of_nonpos c c) (by decide)
  have q1:0<=rd (b*b) 4294967296 false:=by
   show 0<=b*b / 4294967296
   exact Int.ediv_nonneg (by
    rcases Int.le_total 0 b with c|c
    .exact Int.mul_nonneg c c
    .exact Int.mul_nonneg_of_nonpos_of_nonpos c c) (by decide)
  have o1:=rd_le (a*a) 4294967296 (by decide)
  have o2:=rd_le (b*b) 4294967296 (by decide)
  unfold rq3 rqBad rqL rqH
  generalize rd (a*a) 4294967296 false=A0 at *
  generalize rd (a*a) 4294967296 true=A1 at *
  generalize rd (b*b) 4294967296 false=B0 at *
  generalize rd (b*b) 4294967296 true=B1 at *
  have m:=mn_le A0 B0
  have kx:=le_mx A1 B1
  by_cases hall:A1<=4503599627370496/\B1<=4503599627370496
  .rw [decide_eq_true (show A0<=4503599627370496 by omega)] at af
   rw [decide_eq_true hall.1] at at'
   rw [decide_eq_true (show B0<=4503599627370496 by omega)] at bf
   rw [decide_eq_true hall.2] at bt
   rw [af,at',bf,bt,vaf af,vat at',vbf bf,vbt bt,ifmn_eq,ifmx_eq]
   have low:(bif bif decide (a<0) then decide (b>0) else false then 0 else mn A0 B0)=(if a<0/\0<b then 0 else mn A0 B0):=by
    by_cases c:a<0 <;> by_cases e:0<b <;> simp [c,e]
   rw [low]
   have bl:0<=(if a<0/\0<b then 0 else mn A0 B0)/\(if a<0/\0<b then 0 else mn A0 B0)<=mx A1 B1:=by split <;> omega
   generalize (if a<0/\0<b then 0 else mn A0 B0)=L at *
   rw [rR_told bl.2]
   have l:okF L=true:=okF_iff.2 (by omega)
   have u:okF (mx A1 B1)=true:=okF_iff.2 (by omega)
   unfold toldS
   rw [l,u]; rfl
  .have u:okF (mx A1 B1)=false:=okF_false.2 (by omega)
   unfold toldS
   rw [u,Bool.and_false]
   cases f1:rqB a false <;> cases f2:rqB b false <;> cases f3:rqB a true <;> cases f4:rqB b true <;> first|rfl|skip
   rw [f3] at at'
   rw [f4] at bt
   exact absurd ⟨of_decide_eq_true at'.symm,of_decide_eq_true bt.symm⟩ hall
end Go.Ar
namespace Go.Ar
open Go Go.Eng
def ndP (v:Int):Prop:=(decide (v>=0)=true->(decide (0<=v)&&okF v)=true)/\((!decide (v>=0))=true->(decide (0<=IntKind.i64.wrap (0 - v))&&okF (IntKind.i64.wrap (0 - v)))=true)
def ndSqr (a b:Int):Prop:=(!!rR a b)=true->ndP a/\ndP b/\ndP a/\ndP b
theorem ndP_ok {v:Int} (h:okF v=true):ndP v:=by
 have:=okF_iff.1 h
 refine ⟨fun k=>?_,fun k=>?_⟩
 .simp at k; simp [k,h]
 .simp at k
  have e:IntKind.i64.wrap (0 - v)=0 - v:=i64w (by omega) (by omega)
  have h2:okF (0 - v)=true:=okF_iff.2 (by omega)
  have h3:(0:Int)<=0 - v:=by omega
  rw [e,h2,decide_eq_true h3]; rfl
theorem ndSqr_ok (a b:Int):ndSqr a b:=by
 intro h
 rw [Bool.not_not,rR_eq] at h
 obtain ⟨h1,h2⟩:=okF_of_sp h
 exact ⟨ndP_ok h1,ndP_ok h2,ndP_ok h1,ndP_ok h2⟩
end Go.Ar
namespace Go.Proofs.YtjcicegihechmaaGreatDoor.K
open Go Go.Eng Go.Ar
noncomputable section
theorem radd_run (a b c d:Int):oneV ((run c6 300).call 58 [.agg [.int true .i64 a,.int true .i64 b],.agg [.int true .i64 c,.int true .i64 d]] ⟨[],0,1⟩)=some (.tt,(outS (rAddS a b c d)).av true):=by kernel_rfl
theorem rsqr_run (a b:Int):oneV ((run c6 300).call 59 [.agg [.int true .i64 a,.int true .i64 b]] ⟨[],0,1⟩)=some (.p (ndSqr a b),(outS (rSqrS a b)).av true):=by kernel_rfl
theorem rchk_run (a b:Int):oneV ((run c6 300).call 56 [.agg [.int true .i64 a,.int true .i64 b]] ⟨[],0,1⟩)=some (.tt,.int true .i64 (rChk a b)):=by kernel_rfl
theorem radd_ok:PureOk Tryz.prog 58 (sBin addS):=by
 refine num_ok (fun xs hk _=>?_) ⟨_,Tryz.func58,rfl⟩
 obtain ⟨a,_,rfl,h1⟩:=kn hk; obtain ⟨b,_,rfl,h2⟩:=kn h1; obtain ⟨c,_,rfl,h3⟩:=kn h2; obtain ⟨d,_,rfl,h4⟩:=kn h3; obtain rfl:=k0 h4
 exact ⟨c6,300,_,c6_ok,rfl,fun _=>rfl,rfl,(radd_run a b c d).trans (by rw [rAddS_eq]),trivial⟩
theorem rsqr_ok:PureOk Tryz.prog 59 (sUn sqrS):=by
 refine num_ok (fun xs hk _=>?_) ⟨_,Tryz.func59,rfl⟩
 obtain ⟨a,_,rfl,h1⟩:=kn hk; obtain ⟨b,_,rfl,h2⟩:=kn h1; obtain rfl:=k0 h2
 exact ⟨c6,300,_,c6_ok,rfl,fun _=>rfl,rfl,(rsqr_run a b).trans (by rw [rSqrS_eq]),ndSqr_ok a b⟩
theorem rchk_ok:PureOk Tryz.prog 56 sChk:=by
 refine num_ok (fun xs hk _=>?_) ⟨_,Tryz.func56,rfl⟩
 obtain ⟨a,_,rfl,h1⟩:=kn hk; obtain ⟨b,_,rfl,h2⟩:=kn h1; obtain rfl:=k0 h2
 have:=rchk_run a b
 rw [rChk_eq] at this
 exact ⟨c6,300,_,c6_ok,rfl,fun _=>rfl,rfl,this,trivial⟩
end
end Go.Proofs.YtjcicegihechmaaGreatDoor.K
namespace Go.Proofs.YtjcicegihechmaaGreatDoor.K
open Go Go.Eng Go.Ar Go.Rd
noncomputable section
abbrev glob8:Nat->Option Nat:=glob
abbrev hG8:Hp:=hG
theorem hG8_ok:hG8.ok:=hG_ok
theorem hG8_plain:blksPlain hG8.size hG8.blks=true:=hG_plain
theorem glob8_lt:∀ g i,glob8 g=some i->i<hG8.size:=glob_lt
theorem up8 {f:FuncId} {s:NSpec} (g:NOk Tryz.prog glob hG f s):NOk Tryz.prog glob8 hG8 f s:=g
def rOk (a b:Int):Bool:=bif bif decide (a>=-4503599627370496) then decide (a<=4503599627370496) else false then bif bif decide (b>=-4503599627370496) then decide (b<=4503599627370496) else false then decide (a<=b) else false else false
theorem rOk_eq (a b:Int):rOk a b=okSp a b:=by
 unfold rOk okSp
 have e1:∀ z:Int,decide (z>=-4503599627370496)=decide (-4503599627370496<=z):=fun _=>rfl
 simp only [e1]
 cases h1:decide (-4503599627370496<=a) <;> cases h2:decide (a<=4503599627370496) <;> cases h3:decide (-4503599627370496<=b) <;> cases h4:decide (b<=4503599627370496) <;> cases h5:decide (a<=b) <;> first|rfl|(simp only [decide_eq_true_eq,decide_eq_false_iff_not] at h1 h2 h3 h4 h5; omega)
def sOk:PSpec:=numSpec [shS] none fun
 | [.n a,.n b]=>.t (okSp a b)
 | _=>.u []
theorem rright_run (a b:Int):oneV ((run c6 300).call 82 [.agg [.int true .i64 a,.int true .i64 b]] ⟨[],0,1⟩)=some (.tt,.bool true (rOk a b)):=by kernel_rfl
theorem rright_ok:PureOk Tryz.prog 82 sOk:=by
 refine num_ok (fun xs hk _=>?_) ⟨_,Tryz.func82,rfl⟩
 obtain ⟨a,_,rfl,h1⟩:=kn hk; obtain ⟨b,_,rfl,h2⟩:=kn h1; obtain rfl:=k0 h2
 have:=rright_run a b
 rw [rOk_eq] at this
 exact ⟨c6,300,_,c6_ok,rfl,fun _=>rfl,rfl,this,trivial⟩
def tblR0:List (FuncId×PSpec):=[(82,sOk),(56,sChk),(58,sBin addS),(59,sUn sqrS)]
theorem tblR0_g:∀ x∈tblR0,GOk Tryz.prog glob8 hG8 x.1 x.2:=by
 intro x hx
 simp only [tblR0,List.mem_cons,List.not_mem_nil,or_false] at hx
 rcases hx with rfl|rfl|rfl|rfl
 .exact rright_ok.g _ _
 .exact rchk_ok.g _ _
 .exact radd_ok.g _ _
 .exact rsqr_ok.g _ _
def cR:Ctx:=mkG Tryz.prog glob8 hG8 tblR0 ext
theorem cR_ok:CtxOk cR:=mkG_ok prog_ok ext_ok tblR0_g
end
end Go.Proofs.YtjcicegihechmaaGreatDoor.K
namespace Go.Rd
open Go Go.Eng Go.Ar
def kB (s:Sp):Sp:=⟨bif s.e != 0 then 1 else s.lo,bif s.e != 0 then 0 else s.hi,0⟩
def outK (s:Sp):Tm:=.a [.n .i64 (kB s).lo,.n .i64 (kB s).hi]
section
variable (a0 b0 a1 b1 a2 b2 a3 b3 x y:Int)
end
end Go.Rd
namespace Go.Proofs.YtjcicegihechmaaGreatDoor.K
open Go Go.Eng Go.Ar Go.Rd
noncomputable section
theorem plus_run (a b c d:Int):oneG hG8.size hG8.clock ((run cR 300).call 28 (Sh.mkL [shS,shS] [.n a,.n b,.n c,.n d]).1 hG8)=some (.tt,(outK (addS a b c d)).av true):=by kernel_rfl
theorem square_run (a b:Int):oneG hG8.size hG8.clock ((run cR 300).call 29 (Sh.mkL [shS] [.n a,.n b]).1 hG8)=some (.tt,(outK (sqrS a b)).av true):=by kernel_rfl
theorem bad_run (a b:Int):oneG hG8.size hG8.clock ((run cR 300).call 27 (Sh.mkL [shS] [.n a,.n b]).1 hG8)=some (.tt,(Tm.t (chkS a b != 0)).av true):=by kernel_rfl
def kBin (F:Int->Int->Int->Int->Sp):PSpec:=numSpec [shS,shS] none fun
 | [.n a,.n b,.n c,.n d]=>outK (F a b c d)
 | _=>.u []
def kUn (F:Int->Int->Sp):PSpec:=numSpec [shS] none fun
 | [.n a,.n b]=>outK (F a b)
 | _=>.u []
def kBad:PSpec:=numSpec [shS] none fun
 | [.n a,.n b]=>.t (chkS a b != 0)
 | _=>.u []
theorem kBin_ok {f:FuncId} {F:Int->Int->Int->Int->Sp} (h:∀ a b c d,oneG hG8.size hG8.clock ((run cR 300).call f (Sh.mkL [shS,shS] [.n a,.n b,.n c,.n d]).1 hG8)=some (.tt,(outK (F a b c d)).av true)) (fn:∃ fn:Func,Tryz.prog.funcs[f]?=some fn/\fn.body.isSome=true):GOk Tryz.prog glob8 hG8 f (kBin F):=by
 refine gnum_ok hG8_ok hG8_plain glob8_lt (fun xs hk _=>?_) fn
 obtain ⟨a,_,rfl,h1⟩:=kn hk; obtain ⟨b,_,rfl,h2⟩:=kn h1; obtain ⟨c,_,rfl,h3⟩:=kn h2; obtain ⟨d,_,rfl,h4⟩:=kn h3; obtain rfl:=k0 h4
 exact ⟨cR,300,_,cR_ok,rfl,rfl,rfl,h a b c d,trivial⟩
theorem kUn_ok {f:FuncId} {F:Int->Int->Sp} (h:∀ a b,oneG hG8.size hG8.clock ((run cR 300).call f (Sh.mkL [shS] [.n a,.n b]).1 hG8)=some (.tt,(outK (F a b)).av true)) (fn:∃ fn:Func,Tryz.prog.funcs[f]?=some fn/\fn.body.isSome=true):GOk Tryz.prog glob8 hG8 f (kUn F):=by
 refine gnum_ok hG8_ok hG8_plain glob8_lt (fun xs hk _=>?_) fn
 obtain ⟨a,_,rfl,h1⟩:=kn hk; obtain ⟨b,_,rfl,h2⟩:=kn h1; obtain rfl:=k0 h2
 exact ⟨cR,300,_,cR_ok,rfl,rfl,rfl,h a b,trivial⟩
theorem kBad_ok:GOk Tryz.prog glob8 hG8 27 kBad:=by
 refine gnum_ok hG8_ok hG8_plain glob8_lt (fun xs hk _=>?_) ⟨_,Tryz.func27,rfl⟩
 obtain ⟨a,_,rfl,h1⟩:=kn hk; obtain ⟨b,_,rfl,h2⟩:=kn h1; obtain rfl:=k0 h2
 exact ⟨cR,300,_,cR_ok,rfl,rfl,rfl,bad_run a b,trivial⟩
def tblR1:List (FuncId×PSpec):=[(28,kBin addS),(29,kUn sqrS),(27,kBad)]
theorem tblR1_g:∀ x∈tblR1,GOk Tryz.prog glob8 hG8 x.1 x.2:=by
 intro x hx
 simp only [tblR1,List.mem_cons,List.not_mem_nil,or_false] at hx
 rcases hx with rfl|rfl|rfl
 .exact kBin_ok plus_run ⟨_,Tryz.func28,rfl⟩
 .exact kUn_ok square_run ⟨_,Tryz.func29,rfl⟩
 .exact kBad_ok
end
end Go.Proofs.YtjcicegihechmaaGreatDoor.K
namespace Go.Dg
theorem szq_div {a b:Int} (hb:0<b) (h1:a.natAbs<=9223372036854775808) (h2:b<=9223372036854775808):SzQ (Rat.divInt a b):=by
 have e3:pw 3=1000000000000000000000000000:=by decide
 have h6:=pw_mono (show 3<=600 by decide)
 constructor
 .rw [Rat.num_divInt,Int.sign_eq_one_of_pos hb,Int.one_mul]
  have:(a / ((Int.gcd b a:Nat):Int)).natAbs<=a.natAbs:=by
   rw [Int.natAbs_ediv_of_dvd (Int.gcd_dvd_right ..)]
   exact Nat.div_le_self ..
  omega
 .rw [Rat.den_divInt,if_neg (by omega)]
  have:b.natAbs / Int.gcd b a<=b.natAbs:=Nat.div_le_self ..
  omega
end Go.Dg
namespace Go.Proofs.YtjcicegihechmaaGreatDoor.K
open Go Go.Eng Go.Dg Go.Ar Go.Rd
noncomputable section
def abV:List Nu->List (List Int)->Option (Prop×To)
 | [.n q,.n l],[]=>some (q.natAbs<=4503599627370496/\0<=l/\l<=1000000000,.nu .i64 (abv q l))
 | _,_=>none
theorem above_ok:NOk Tryz.prog (fun _=>none) hG0 30 (mSpec hG0 .i64 [.nu (.i .i64),.nu (.i .i64)] abV):=by
 refine msp_runs (fun xs ys p t e h=>?_) ⟨_,Tryz.func30,rfl⟩
 unfold abV at e
 split at e
 .rename_i q l
  cases e
  obtain ⟨h1,h2,h3⟩:=h
  have m0:=Int.mul_nonneg h2 h2
  have m1:=Int.mul_le_mul h3 h3 h2 (by decide)
  have ew:IntKind.i64.wrap (l*l)=l*l:=iw (by omega) (by omega)
  have z1:SzQ (ab_t_x0 q l):=szq_div (by decide) (by omega) (by decide)
  have z2:SzQ (ab_t_x1 q l):=by
   show SzQ (Rat.divInt (IntKind.i64.wrap (l*l)) 1000000000000)
   rw [ew]
   exact szq_div (by decide) (by omega) (by decide)
  refine ⟨cAb,300,[.int true .i64 q,.int true .i64 l],_,_,_,_,_,cAb_ok,rfl,rfl,⟨⟨rfl,rfl⟩,⟨rfl,rfl⟩,trivial⟩,ab_t q l,rfl,⟨⟨by omega,by decide,by decide⟩,⟨by rw [ew]; omega,by decide,by decide⟩,⟨⟨rfl,rfl⟩,rfl,rfl⟩,okQ_q z1,okQ_q z2⟩,rfl,rfl,?_⟩
  show ordZ (_*_) (_*_)=abv q l
  rw [show ab_t_x2 q l=ab_t_x0 q l from qIn_q _,show ab_t_x3 q l=ab_t_x1 q l from qIn_q _]
  show oZ _ _=_
  unfold ab_t_x0 ab_t_x1
  rw [cross (by decide) (by decide),ew]
  rfl
 .cases e
def rightC (b:Bool):Nat->List Itm->Option (Prop×AV×List ABody):=fun _ its=>match its with
 | [.s xs n ys]=>match suOf xs with
  | some s=>some (okF3 n ys/\s.g.size<1000000000/\rightS s ys=b,(match b with|true=>.bool false true|false=>.bool false false),[])
  | none=>none
 | _=>none
theorem rightC_ok (b:Bool):NOk Tryz.prog glob8 hG8 55 (lSpec hG [.s suI .i64] (rightC b)):=by
 refine up8 (lSpec_weaken rightA_ok fun sz its p v bs e=>?_)
 unfold rightC at e
 split at e
 .rename_i xs n ys
  split at e
  .rename_i s hs
   cases e
   refine ⟨okF3 n ys/\s.g.size<1000000000,rightA s ys,by simp only [suV,hs],fun hp=>⟨⟨hp.1,hp.2.1⟩,fun σ U hU=>?_⟩⟩
   have hU:VRel σ (.bool true (rightS s ys)) U:=hU
   rw [hp.2.2] at hU
   cases b <;> exact hU
  .cases e
 .cases e
def tRI (b:Bool):List (FuncId×NSpec):=(55,lSpec hG [.s suI .i64] (rightC b)) :: (30,mSpec hG0 .i64 [.nu (.i .i64),.nu (.i .i64)] abV) :: tblR1.map fun x=>(x.1,hN (gH x.2))
theorem tRI_g (b:Bool):∀ x∈tRI b,NOk Tryz.prog glob hG x.1 x.2:=by
 intro x hx
 rcases List.mem_cons.1 hx with rfl|hx
 .exact rightC_ok b
 rcases List.mem_cons.1 hx with rfl|hx
 .exact above_ok.lift glob hG
 .obtain ⟨y,hy,rfl⟩:=List.mem_map.1 hx
  exact (tblR1_g y hy).h.n
def hR (l:List (Nat×Bool)):Nat->Nat->Option AV:=fun _ t=>match l with
 | []=>none
 | x :: l=>match Nat.beq t x.1 with
  | true=>(match x.2 with|true=>some (.bool false true)|false=>some (.bool false false))
  | false=>hR l 0 t
termination_by structural l
def cRI (b:Bool) (l:List (Nat×Bool)):Ctx:=hinting (mkN Tryz.prog glob hG (tRI b) [] ext) (hR l)
theorem cRI_ok (b:Bool) (l:List (Nat×Bool)):CtxOk (cRI b l):=hinting_ok (mkN_ok prog_ok ext_ok (tRI_g b) fun _ h=>by cases h) _
end
end Go.Proofs.YtjcicegihechmaaGreatDoor.K
namespace Go.Rd
open Go Go.Eng Go.Ar
def qK (a b x y:Int):Sp:=kB (addS (kB (sqrS a b)).lo (kB (sqrS a b)).hi (kB (sqrS x y)).lo (kB (sqrS x y)).hi)
def lIn (q l:Int):Prop:=q.natAbs<=4503599627370496/\0<=l/\l<=1000000000
def hoA (ho L:Int):Bool:=bif ho==0 then true else decide (abv L ho>=0)
def hoB (ho H:Int):Bool:=bif ho != 0 then decide (abv H ho<0) else false
def insideA (se ho L H:Int):Bool:=bif se==0 then hoA ho L else bif decide (abv H se<=0) then hoA ho L else false
def outsideA (se ho L H:Int):Bool:=bif se != 0 then (bif decide (abv L se>0) then true else hoB ho H) else hoB ho H
def rV (se ho L H:Int):Int:=bif insideA se ho L H then 1 else bif outsideA se ho L H then 0 else 2
def rN (se ho L H:Int):Prop:=(((se==0)=true->(ho==0)=false->lIn L ho)/\((se==0)=false->lIn H se/\(decide (abv H se<=0)=true->(ho==0)=false->lIn L ho))) /\
 ((!insideA se ho L H)=true->((se != 0)=true->lIn L se/\(decide (abv L se>0)=false->(ho != 0)=true->lIn H ho))/\((se != 0)=false->(ho != 0)=true->lIn H ho))
def spB (a b x y:Int) (r:Bool):Prop:=((chkS a b != 0)=true->true=r)/\((chkS a b != 0)=false->(chkS x y != 0)=r)
theorem rV_eq {se ho L H:Int} (h:L<=H):rV se ho L H=insV se ho L H:=by
 unfold rV insideA outsideA hoA hoB insV judB holeB
 rw [abv_le,abv_ge,abv_gt,abv_lt,bne,bne]
 have m1:se*se*4294967296<L*1000000000000->se*se*4294967296<H*1000000000000:=by omega
 have m2:H*1000000000000<ho*ho*4294967296->L*1000000000000<ho*ho*4294967296:=by omega
 generalize (se==0)=a
 generalize (ho==0)=b
 by_cases c1:se*se*4294967296<L*1000000000000 <;> by_cases c2:se*se*4294967296<H*1000000000000 <;> by_cases c3:H*1000000000000<ho*ho*4294967296 <;> by_cases c4:L*1000000000000<ho*ho*4294967296 <;>
  simp only [c1,c2,c3,c4,decide_true,decide_false] <;> first
   | exact absurd (m1 c1) c2
   | exact absurd (m2 c3) c4
   | (cases a <;> cases b <;> rfl)
theorem rN_ok {se ho L H:Int} (s0:0<=se) (s1:se<=1000000000) (h0:0<=ho) (h1:ho<=1000000000) (l0:0<=L) (l1:L<=H) (l2:H<=4503599627370496):rN se ho L H:=by
 have a:∀ q,0<=q->q<=4503599627370496->lIn q se:=fun q h1 h2=>⟨by omega,s0,s1⟩
 have b:∀ q,0<=q->q<=4503599627370496->lIn q ho:=fun q h3 h2=>⟨by omega,h0,h1⟩
 exact ⟨⟨fun _ _=>b L l0 (by omega),fun _=>⟨a H (by omega) l2,fun _ _=>b L l0 (by omega)⟩⟩,fun _=>⟨fun _=>⟨a L l0 (by omega),fun _ _=>b H (by omega) l2⟩,fun _ _=>b H (by omega) l2⟩⟩
theorem kB_ok {s:Sp} (h:s.e=0):kB s=s:=by
 obtain ⟨l,u,e⟩:=s
 have h:e=0:=h
 subst h
 rfl
theorem kB_bad {s:Sp} (h:s.e≠0):(kB s).lo=1/\(kB s).hi=0:=by
 have hb:(s.e != 0)=true:=bne_iff_ne.2 h
 unfold kB; rw [hb]; exact ⟨rfl,rfl⟩
theorem chk_ok {a b:Int} (h:okSp a b=true):(chkS a b != 0)=false:=by unfold chkS; rw [h]; rfl
theorem chk_no {a b:Int} (h:okSp a b=false):(chkS a b != 0)=true:=by unfold chkS; rw [h]; rfl
theorem spB_ok {a b x y:Int} (h:okSp a b=true) (k:okSp x y=true):spB a b x y false:=by
 unfold spB; rw [chk_ok h,chk_ok k]; exact ⟨fun h=>(by cases h),fun _=>rfl⟩
theorem spB_1 {a b x y:Int} (h:okSp a b=false):spB a b x y true:=by
 unfold spB; rw [chk_no h]; exact ⟨fun _=>rfl,fun h=>(by cases h)⟩
theorem spB_2 {a b x y:Int} (h:okSp a b=true) (k:okSp x y=false):spB a b x y true:=by
 unfold spB; rw [chk_ok h,chk_no k]; exact ⟨fun h=>(by cases h),fun _=>rfl⟩
theorem qK_ok {a b x y:Int} (h:errQ a b x y=0):(qK a b x y).lo=qL a b x y/\(qK a b x y).hi=qH a b x y/\(chkS (qK a b x y).lo (qK a b x y).hi != 0)=false:=by
 obtain ⟨h1,h2,h3⟩:=errQ_0 h
 have f:=q_facts h
 unfold qK
 rw [kB_ok h1,kB_ok h2,kB_ok h3]
 refine ⟨rfl,rfl,chk_ok (okSp_iff.2 ?_)⟩
 show _<=qL a b x y/\qL a b x y<=qH a b x y/\qH a b x y<=_
 omega
theorem add_bad {a b c d:Int} (h:okSp a b=false\/okSp c d=false):(addS a b c d).e≠0:=by
 intro e
 unfold addS at e
 obtain ⟨h1,h2,_⟩:=both_ok e
 rcases h with h|h
 .rw [h] at h1; cases h1
 .rw [h] at h2; cases h2
theorem qK_bad {a b x y:Int} (h:errQ a b x y≠0):(chkS (qK a b x y).lo (qK a b x y).hi != 0)=true:=by
 have ten:okSp 1 0=false:=by decide
 have key:(addS (kB (sqrS a b)).lo (kB (sqrS a b)).hi (kB (sqrS x y)).lo (kB (sqrS x y)).hi).e≠0:=by
  by_cases h1:(sqrS a b).e=0
  .by_cases h2:(sqrS x y).e=0
   .rw [kB_ok h1,kB_ok h2]
    intro h3
    apply h
    unfold errQ
    rw [h1,h2,h3]
    rfl
   .obtain ⟨k1,k2⟩:=kB_bad h2
    rw [k1,k2]
    exact add_bad (.inr ten)
  .obtain ⟨k1,k2⟩:=kB_bad h1
   rw [k1,k2]
   exact add_bad (.inl ten)
 obtain ⟨k1,k2⟩:=kB_bad key
 unfold qK
 rw [k1,k2]
 exact chk_no ten
theorem errQ_6 {a b x y:Int} (h1:okSp a b=true) (h2:okSp x y=true) (h:errQ a b x y≠0):errQ a b x y=6:=by
 rcases sqr_or h1 with e1|e1
 .rcases sqr_or h2 with e2|e2
  .rcases add_or (sqr_okSp e1) (sqr_okSp e2) with e3|e3
   .exact absurd (by unfold errQ; rw [e1,e2,e3]; rfl) h
   .unfold errQ; rw [e1,e2,e3]; rfl
  .unfold errQ; rw [e1,e2]; rfl
 .unfold errQ; rw [e1]; rfl
end Go.Rd
namespace Go.Proofs.YtjcicegihechmaaGreatDoor.K
open Go Go.Eng Go.Ar Go.Rd
noncomputable section
def ruR (C:Ctx) (s:Su) (n:Int) (ys:List Int) (a b x y:Int):Option (Nd×AV):=rw2 C 8 (s.cells (.int true .i64 s.kd)) n ys a b x y
theorem ri_0 (s:Su) (n:Int) (ys:List Int) (a b x y:Int):ruR (cRI false []) s n ys a b x y=some (.p (pOk s s.kd n ys false),erV 110):=by kernel_rfl
theorem ri_1 (s:Su) (n:Int) (ys:List Int) (a b x y:Int):ruR (cRI true [(20,true)]) s n ys a b x y=some (.p (pOk s s.kd n ys true/\spB a b x y true),erV 20):=by kernel_rfl
theorem ri_2 (s:Su) (n:Int) (ys:List Int) (a b x y:Int):ruR (cRI true [(20,false),(27,true)]) s n ys a b x y=some (.p (pOk s s.kd n ys true/\spB a b x y false/\(x=x/\y=y)/\(chkS (qK a b x y).lo (qK a b x y).hi != 0)=true),erV 6):=by kernel_rfl
theorem ri_3 (s:Su) (n:Int) (ys:List Int) (a b x y:Int):ruR (cRI true [(20,false),(27,false)]) s n ys a b x y=some (.p (pOk s s.kd n ys true/\spB a b x y false/\(x=x/\y=y)/\(chkS (qK a b x y).lo (qK a b x y).hi != 0)=false/\rN s.se s.ho (qK a b x y).lo (qK a b x y).hi),.tuple [.int true .i64 (rV s.se s.ho (qK a b x y).lo (qK a b x y).hi),.int false .i64 0]):=by kernel_rfl
theorem rinsA_ok:NOk Tryz.prog glob hG 8 (lSpec hG [.s suI .i64,.n sS,.n sS] (suV2 insA)):=by
 refine su2_ok ⟨_,Tryz.func8,rfl⟩ fun s n ys a b x y hg ho=>?_
 cases hr:rightS s ys with
 | false=>exact ⟨cRI false [],s.cells (.int true .i64 s.kd),_,_,cRI_ok _ _,rfl,rfl,tell_kd ⟨rfl,rfl⟩,ri_0 s n ys a b x y,rfl,rk rfl ho hg hr,er_tell (by unfold insE; rw [hr]; rfl) (by decide)⟩
 | true=>
  have R:=rk rfl ho hg hr
  have bad:okXY a b x y=false->spB a b x y true->_:=fun hx hb=>(⟨cRI true [(20,true)],s.cells (.int true .i64 s.kd),_,_,cRI_ok _ _,rfl,rfl,tell_kd ⟨rfl,rfl⟩,ri_1 s n ys a b x y,rfl,⟨R,hb⟩,er_tell (by unfold insE; rw [hr,hx]; rfl) (by decide)⟩:∃ (C:Ctx) (cs:List AV) (nd:Nd) (v0:AV),CtxOk C/\C.P=Tryz.prog/\C.glob=glob/\tellL s.ini cs/\rw2 C 8 cs n ys a b x y=some (nd,v0)/\v0.num=true/\nd.val/\tell v0 (insA s ys a b x y))
  cases h1:okSp a b with
  | false=>exact bad (by unfold okXY; rw [h1]; rfl) (spB_1 h1)
  | true=>
   cases h2:okSp x y with
   | false=>exact bad (by unfold okXY; rw [h1,h2]; rfl) (spB_2 h1 h2)
   | true=>
    have hE:insE s ys a b x y=errQ a b x y:=by unfold insE okXY; rw [hr,h1,h2]; rfl
    by_cases h0:errQ a b x y=0
    .obtain ⟨⟨s0,s1⟩,t0,t1⟩:=right_sh hr
     obtain ⟨k1,k2,k3⟩:=qK_ok h0
     obtain ⟨l0,l1,l2⟩:=q_facts h0
     exact ⟨cRI true [(20,false),(27,false)],s.cells (.int true .i64 s.kd),_,_,cRI_ok _ _,rfl,rfl,tell_kd ⟨rfl,rfl⟩,ri_3 s n ys a b x y,rfl,⟨R,spB_ok h1 h2,⟨rfl,rfl⟩,k3,by rw [k1,k2]; exact rN_ok s0 s1 t0 t1 l0 l1 l2⟩,ok_tell (hE.trans h0) (by rw [k1,k2]; exact rV_eq l1)⟩
    .exact ⟨cRI true [(20,false),(27,true)],s.cells (.int true .i64 s.kd),_,_,cRI_ok _ _,rfl,rfl,tell_kd ⟨rfl,rfl⟩,ri_2 s n ys a b x y,rfl,⟨R,spB_ok h1 h2,⟨rfl,rfl⟩,qK_bad h0⟩,er_tell (hE.trans (errQ_6 h1 h2 h0)) (by decide)⟩
end
end Go.Proofs.YtjcicegihechmaaGreatDoor.K
namespace Go.Rd
open Go Go.Eng Go.Ar
structure Df where
 kd:Int
 c0:Int
 c1:Int
 k0:Int
 k1:Int
 a0:Int
 a1:Int
 a2:Int
 a3:Int
 p0:Int
 p1:Int
 o:Int
 th:Int
 gl:Int
 se:Int
 ho:Int
 e0:Int
 e1:Int
 e2:Int
 e3:Int
 e4:Int
def Df.cells (d:Df):List AV:=[.int true .u8 d.kd,.int true .i16 d.c0,.int true .i16 d.c1,.int true .i16 d.k0,.int true .i16 d.k1,.int true .i8 d.a0,.int true .i8 d.a1,.int true .i8 d.a2,.int true .i8 d.a3,.int true .i8 d.p0,.int true .i8 d.p1,.int true .i8 d.o,.int true .i16 d.th,.int true .u8 d.gl,.int true .u8 d.se,.int true .u8 d.ho,.int true .i8 d.e0,.int true .i8 d.e1,.int true .i8 d.e2,.int true .i8 d.e3,.int true .i8 d.e4]
def drI:List Sh:=[.i .u8,.i .i16,.i .i16,.i .i16,.i .i16,.i .i8,.i .i8,.i .i8,.i .i8,.i .i8,.i .i8,.i .i8,.i .i16,.i .u8,.i .u8,.i .u8,.i .i8,.i .i8,.i .i8,.i .i8,.i .i8]
def Df.nus (d:Df):List Nu:=[.n d.kd,.n d.c0,.n d.c1,.n d.k0,.n d.k1,.n d.a0,.n d.a1,.n d.a2,.n d.a3,.n d.p0,.n d.p1,.n d.o,.n d.th,.n d.gl,.n d.se,.n d.ho,.n d.e0,.n d.e1,.n d.e2,.n d.e3,.n d.e4]
def drOf:List Nu->Option Df
 | [.n kd,.n c0,.n c1,.n k0,.n k1,.n a0,.n a1,.n a2,.n a3,.n p0,.n p1,.n o,.n th,.n gl,.n se,.n ho,.n e0,.n e1,.n e2,.n e3,.n e4]=>some ⟨kd,c0,c1,k0,k1,a0,a1,a2,a3,p0,p1,o,th,gl,se,ho,e0,e1,e2,e3,e4⟩
 | _=>none
theorem drOf_eq {xs:List Nu} {d:Df} (h:drOf xs=some d):xs=d.nus:=by
 unfold drOf at h
 split at h
 .cases h; rfl
 .cases h
def glB:Nat->ByteArray
 | 0=>⟨#[]⟩
 | 1=>⟨#[66,75,55]⟩
 | 2=>⟨#[83,70,45,49]⟩
 | 3=>⟨#[77,73,82,82,79,82]⟩
 | _=>⟨#[102,95,50]⟩
abbrev W64 (n:Int):Int:=IntKind.i64.wrap n
section
variable (d:Df) (g:ByteArray)
def dS:Int:=W64 (100000*W64 d.se)
def dV:Bool:=bif d.ho.tmod 4==1 then decide (dS d>0) else false
def tw {α:Type} (b:Bool) (x:α):α:=bif b then x else x
def dC:Int:=tw (dV d) (W64 (1000*W64 d.c0))
def dK:Int:=tw (dV d) (W64 (1000*W64 (d.k0.tmod 3000)))
def dT:Int:=tw (dV d) (W64 (1000*W64 (d.th.tmod 20000)))
def dSe:Int:=tw (dV d) (dS d)
def dHo:Int:=bif dV d then W64 ((dS d).tdiv 4) else 0
def dsA:Su:=⟨1,dC d,dK d,0,0,0,0,0,0,0,0,0,dT d,tw (dV d) g,dSe d,dHo d,0,0,0,0,0⟩
def dsB:Su:=⟨1,dC d,dK d,0,0,W64 (1000*W64 d.a0),W64 (1000*W64 d.a1),W64 (1000*W64 d.a2),W64 (1000*W64 d.a3),0,0,0,dT d,tw (dV d) g,dSe d,dHo d,0,0,0,0,0⟩
def dsC:Su:=⟨2,dC d,dK d,W64 (1000*W64 d.c1),W64 (1000*W64 (d.k1.tmod 3000)),0,0,0,0,0,0,0,dT d,tw (dV d) g,dSe d,dHo d,0,0,0,0,0⟩
def dsD:Su:=⟨3,0,0,0,0,0,0,0,0,0,0,0,dT d,⟨#[]⟩,0,0,W64 (10000*W64 d.e0),W64 (10000*W64 d.e1),W64 (100000*W64 d.e2),W64 (100000*W64 d.e3),W64 (100000*W64 d.e4)⟩
def dsE:Su:=⟨4,dC d,0,0,0,0,0,0,0,0,0,0,dT d,⟨#[]⟩,dSe d,dHo d,0,0,0,0,0⟩
def dM:Bool:=!eqBytes (tw (dV d) g) ⟨#[77,73,82,82,79,82]⟩
def dsF:Su:=⟨1,tw (dM d g) (dC d),tw (dM d g) (dK d),0,0,0,0,0,0,bif dM d g then W64 (1000*W64 d.p0) else 0,bif dM d g then W64 (1000*W64 d.p1) else 0,bif dM d g then W64 (d.o.tmod 4) else 0,tw (dM d g) (dT d),tw (dM d g) (tw (dV d) g),tw (dM d g) (dSe d),tw (dM d g) (dHo d),0,0,0,0,0⟩
end
def film0 (z:Int):List Int:=[W64 (13000000+W64 (50000*W64 z)),(W64 z).tmod 7,W64 (1+(W64 z).tmod 5)]
def filmsD:List Int->List Int
 | []=>[]
 | [x]=>film0 x
 | [x,y]=>film0 x++film0 y
 | x :: y :: z :: _=>film0 x++(film0 y++film0 z)
def nfD:List Int->Nat
 | []=>0
 | [_]=>1
 | [_,_]=>2
 | _ :: _ :: _ :: _=>3
theorem nfD_len (zs:List Int):(filmsD zs).length=3*nfD zs/\nfD zs<=3:=by
 unfold filmsD nfD
 split <;> exact ⟨rfl,by decide⟩
def dsu (d:Df):Su:=
 let g:=glB ((W64 d.gl).tmod 5).toNat
 bif d.kd.tmod 8==4 then dsB d g else bif d.kd.tmod 8==5 then dsC d g else bif d.kd.tmod 8==6 then dsD d else bif d.kd.tmod 8==7 then (bif d.o.tmod 2==0 then dsE d else dsF d g) else dsA d g
def dys (d:Df) (zs:List Int):List Int:=bif d.kd.tmod 8==4 then filmsD zs else []
def dnf (d:Df) (zs:List Int):Nat:=bif d.kd.tmod 8==4 then nfD zs else 0
theorem dys_ok (d:Df) (zs:List Int):(dys d zs).length=3*dnf d zs/\dnf d zs<=3:=by
 unfold dys dnf
 cases d.kd.tmod 8==4 with
 | true=>exact nfD_len zs
 | false=>exact ⟨rfl,Nat.zero_le _⟩
theorem glB_len (n:Nat):(glB n).size<=6:=by
 unfold glB
 split <;> decide
theorem tw_eq {α:Type} (b:Bool) (x:α):tw b x=x:=by cases b <;> rfl
theorem dsu_g (d:Df):(dsu d).g.size<=6:=by
 unfold dsu
 cases d.kd.tmod 8==4 <;> cases d.kd.tmod 8==5 <;> cases d.kd.tmod 8==6 <;> cases d.kd.tmod 8==7 <;> cases d.o.tmod 2==0 <;> simp only [cond_true,cond_false,dsA,dsB,dsC,dsD,dsE,dsF,tw_eq] <;> first|exact glB_len _|decide
def avA (s:Su):List AV:=[.int false .i64 1,.int true .i64 s.c,.int true .i64 s.k,.int false .i64 0,.int false .i64 0,.int false .i64 0,.int false .i64 0,.int false .i64 0,.int false .i64 0,.int false .i64 0,.int false .i64 0,.int false .i64 0,.int true .i64 s.th,.str true s.g,.int true .i64 s.se,.int true .i64 s.ho,.int false .i64 0,.int false .i64 0,.int false .i64 0,.int false .i64 0,.int false .i64 0]
def avB (s:Su):List AV:=[.int false .i64 1,.int true .i64 s.c,.int true .i64 s.k,.int false .i64 0,.int false .i64 0,.int true .i64 s.a0,.int true .i64 s.a1,.int true .i64 s.a2,.int true .i64 s.a3,.int false .i64 0,.int false .i64 0,.int false .i64 0,.int true .i64 s.th,.str true s.g,.int true .i64 s.se,.int true .i64 s.ho,.int false .i64 0,.int false .i64 0,.int false .i64 0,.int false .i64 0,.int false .i64 0]
def avC (s:Su):List AV:=[.int false .i64 2,.int true .i64 s.c,.int true .i64 s.k,.int true .i64 s.l,.int true .i64 s.m,.int false .i64 0,.int false .i64 0,.int false .i64 0,.int false .i64 0,.int false .i64 0,.int false .i64 0,.int false .i64 0,.int true .i64 s.th,.str true s.g,.int true .i64 s.se,.int true .i64 s.ho,.int false .i64 0,.int false .i64 0,.int false .i64 0,.int false .i64 0,.int false .i64 0]
def avD (s:Su):List AV:=[.int false .i64 3,.int false .i64 0,.int false .i64 0,.int false .i64 0,.int false .i64 0,.int false .i64 0,.int false .i64 0,.int false .i64 0,.int false .i64 0,.int false .i64 0,.int false .i64 0,.int false .i64 0,.int true .i64 s.th,.str false ⟨#[]⟩,.int false .i64 0,.int false .i64 0,.int true .i64 s.dx,.int true .i64 s.dy,.int true .i64 s.ax,.int true .i64 s.ay,.int true .i64 s.az]
def avE (s:Su):List AV:=[.int false .i64 4,.int true .i64 s.c,.int false .i64 0,.int false .i64 0,.int false .i64 0,.int false .i64 0,.int false .i64 0,.int false .i64 0,.int false .i64 0,.int false .i64 0,.int false .i64 0,.int false .i64 0,.int true .i64 s.th,.str false ⟨#[]⟩,.int true .i64 s.se,.int true .i64 s.ho,.int false .i64 0,.int false .i64 0,.int false .i64 0,.int false .i64 0,.int false .i64 0]
def avF (s:Su):List AV:=[.int false .i64 1,.int true .i64 s.c,.int true .i64 s.k,.int false .i64 0,.int false .i64 0,.int false .i64 0,.int false .i64 0,.int false .i64 0,.int false .i64 0,.int true .i64 s.f0,.int true .i64 s.f1,.int true .i64 s.o,.int true .i64 s.th,.str true s.g,.int true .i64 s.se,.int true .i64 s.ho,.int false .i64 0,.int false .i64 0,.int false .i64 0,.int false .i64 0,.int false .i64 0]
end Go.Rd
namespace Go.Proofs.YtjcicegihechmaaGreatDoor.K
open Go Go.Eng Go.Ar Go.Rd
noncomputable section
def bA (b:Bool):AV:=match b with|true=>.bool false true|false=>.bool false false
def dHint (k:Nat) (od fl:Bool) (_ t:Nat):Option AV:=match Nat.beq t 50 with
 | true=>some (bA (Nat.beq k 4))
 | false=>match Nat.beq t 68 with
  | true=>some (bA (Nat.beq k 5))
  | false=>match Nat.beq t 84 with
   | true=>some (bA (Nat.beq k 6))
   | false=>match Nat.beq t 114 with
    | true=>some (bA (Nat.beq k 7))
    | false=>match Nat.beq t 118 with
     | true=>some (bA od)
     | false=>match Nat.beq t 10&&fl with
      | true=>some (.bool false true)
      | false=>none
noncomputable def cDr (k:Nat) (od fl:Bool) (g:Int):Ctx:={ mkG Tryz.prog glob hG [] ext with hint:=dHint k od fl,hintT:=fun c=>match Nat.beq c 25 with|true=>some (25,.int false .i64 g)|false=>none }
theorem cDr_ok (k:Nat) (od fl:Bool) (g:Int):CtxOk (cDr k od fl g):=by
 have co:CtxOk (mkG Tryz.prog glob hG [] ext):=mkG_ok prog_ok ext_ok fun _ h=>by cases h
 exact ⟨co.prog,co.con,co.ext,co.loop,co.two⟩
def rd1 (C:Ctx) (d:Df) (coat:AV) (zs:List Int):Option (Nd×List AV×Nat×List Int):=outL (hG.size+1) hG.clock 2 .i64 ((run C 1000).call 5 [.agg (d.cells++[coat])] (viewsH false hG [(.u8,zs)]))
def co (n:Int):AV:=.pslice hG.size n.toNat false n
def dN (d:Df) (g:Int):Prop:=(W64 d.gl).tmod 5=g/\d.se=d.se/\d.gl=d.gl/\d.th=d.th/\d.k0=d.k0/\d.c0=d.c0
def nA (d:Df) (g:Int):Prop:=dN d g/\(d.kd.tmod 8==4)=false/\(d.kd.tmod 8==5)=false/\(d.kd.tmod 8==6)=false/\(d.kd.tmod 8==7)=false
def nC (d:Df) (g:Int):Prop:=dN d g/\(d.kd.tmod 8==4)=false/\(d.kd.tmod 8==5)=true
def nD (d:Df) (g:Int):Prop:=dN d g/\(d.kd.tmod 8==4)=false/\(d.kd.tmod 8==5)=false/\(d.kd.tmod 8==6)=true
def nE (d:Df) (g:Int) (b:Bool):Prop:=dN d g/\(d.kd.tmod 8==4)=false/\(d.kd.tmod 8==5)=false/\(d.kd.tmod 8==6)=false/\(d.kd.tmod 8==7)=true/\(d.o.tmod 2==0)=b
def nB (d:Df) (g:Int):Prop:=dN d g/\(d.kd.tmod 8==4)=true
def nB3 (d:Df) (g n:Int):Prop:=dN d g/\(d.kd.tmod 8==4)=true/\decide (0<n)=true/\decide (1<n)=true/\decide (2<n)=true/\decide (3<n)=true
end
end Go.Proofs.YtjcicegihechmaaGreatDoor.K
