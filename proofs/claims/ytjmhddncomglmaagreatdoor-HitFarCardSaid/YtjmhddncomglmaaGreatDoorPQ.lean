/- What is proved: a law of hits returns true, whatever the input (part 17). No conditions beyond those of the row. -/
import Derived.Test.YtjmhddncomglmaaGreatDoorPM
import Derived.Test.YtjmhddncomglmaaGreatDoorPN
import Derived.Test.YtjmhddncomglmaaGreatDoorPO
import Derived.Test.YtjmhddncomglmaaGreatDoorPP
set_option linter.unusedVariables false
set_option linter.unusedSimpArgs false
set_option linter.unusedSectionVars false
namespace Go.Proofs.YtjmhddncomglmaaGreatDoor.K
open Go Go.Eng Go.Ar Go.Rd Go.Vc Go.Ht
noncomputable section
theorem nr_run (F:HF) (s:Su) (n:Int) (ys:List Int) (p w:Ve) (t:Iv):rNr (cHtP F true) (.int true .i64 s.kd) s n ys p w t=some (.p (nNd F s ys p w t (okF3 n ys/\s.g.size<1000000000)),nAv F s ys p w t):=by kernel_rfl
end
end Go.Proofs.YtjmhddncomglmaaGreatDoor.K
namespace Go.Proofs.YtjmhddncomglmaaGreatDoor.K
open Go Go.Eng Go.Ar Go.Rd Go.Vc Go.Ht
noncomputable section
theorem vchk_ok:PureOk Tryz.prog 46 (vcHF hf0):=by
 refine num_ok (fun xs hk _=>?_) ⟨_,Tryz.func46,rfl⟩
 obtain ⟨a,_,rfl,h1⟩:=kn hk; obtain ⟨b,_,rfl,h2⟩:=kn h1; obtain ⟨c,_,rfl,h3⟩:=kn h2; obtain ⟨d,_,rfl,h4⟩:=kn h3; obtain ⟨e,_,rfl,h5⟩:=kn h4; obtain ⟨f,_,rfl,h6⟩:=kn h5; obtain rfl:=k0 h6
 exact ⟨cVeP vf0,3000,_,cVeP_ok,rfl,fun _=>rfl,rfl,vchk_run vf0 ⟨a,b,c,d,e,f⟩,fun _=>⟨⟨rfl,rfl⟩,⟨rfl,rfl⟩,rfl,rfl⟩⟩
theorem sscP_ok:PureOk Tryz.prog 112 (sScP scaleS):=by
 refine ⟨sscale_ok.fn,fun args nd v e hn σ A W hA cs=>?_⟩
 unfold sScP at e
 split at e
 .rename_i s a b n d hr
  cases e
  have hn:okSq a b n d:=hn
  exact sscale_ok.run args .tt ((outS (scaleS a b n d)).av s) (by unfold sSc numSpec; rw [hr]; simp only [xScaleS_eq a b n d hn]) trivial σ A W hA cs
 .cases e
theorem slHF_0:slHF hf0=slpG:=by kernel_rfl
theorem sgHF_0:sgHF hf0=sagA':=by kernel_rfl
theorem tblHtO_g:∀ x∈tblHtO hf0,NOk Tryz.prog glob hG x.1 x.2:=by
 intro x hx
 simp only [tblHtO,List.mem_cons,List.not_mem_nil,or_false] at hx
 rcases hx with rfl|rfl|rfl|rfl|rfl|rfl|rfl|rfl|rfl|rfl
 .exact ((sneg_ok.g _ _).h).n
 .exact ((sadd_ok.g _ _).h).n
 .exact ((ssub_ok.g _ _).h).n
 .exact ((smul_ok.g _ _).h).n
 .exact ((sdiv_ok.g _ _).h).n
 .exact ((sscP_ok.g _ _).h).n
 .exact ((ssqr_ok.g _ _).h).n
 .exact ((ssqrt_ok.g _ _).h).n
 .exact ((smid_ok.g _ _).h).n
 .exact ((smeet_ok.g _ _).h).n
theorem tblHtP_g (b:Bool):∀ x∈tblHtP hf0 b,NOk Tryz.prog glob hG x.1 x.2:=fun x hx=>by
 simp only [tblHtP,slHF_0,sgHF_0,List.mem_cons] at hx
 rcases hx with rfl|rfl|rfl|rfl|hx
 .cases b
  .exact chkC_ok rfl
  .exact chkC_ok rfl
 .exact sagG_ok
 .exact slpG_ok
 .exact ((vchk_ok.g _ _).h).n
 .exact tblHtO_g x hx
theorem cHtP_ok (b:Bool):CtxOk (cHtP hf0 b):=mkN_ok prog_ok ext_ok (tblHtP_g b) fun _ h=>by cases h
def solOf:List Nu->Option (Ve×Ve×Su)
 | .n a :: .n b :: .n c :: .n d :: .n e :: .n f :: .n g :: .n h :: .n i :: .n j :: .n k :: .n l :: r=>match suOf r with
  | some s=>some (⟨a,b,c,d,e,f⟩,⟨g,h,i,j,k,l⟩,s)
  | none=>none
 | _=>none
def veN (v:Ve):List Nu:=[.n v.a,.n v.b,.n v.c,.n v.d,.n v.e,.n v.f]
theorem solOf_eq {xs:List Nu} {p w:Ve} {s:Su} (h:solOf xs=some (p,w,s)):xs=veN p++(veN w++s.nus):=by
 unfold solOf at h
 split at h
 .split at h
  .rename_i hs
   cases h
   rw [suOf_eq hs]; rfl
  .cases h
 .cases h
def attV (F:HF):List Nu->Int->List Int->List (List Nu)->Option (Prop×AV):=fun xs n ys ts=>match solOf xs with
 | some (p,w,s)=>match ts with
  | [[.n a,.n b]]=>some (okF3 n ys/\s.g.size<1000000000,tryV (near F s ys p w ⟨a,b⟩))
  | _=>none
 | none=>none
theorem sol_under (p w:Ve) (s:Su):AV.underL hG.size (Sh.mkL solI (veN p++(veN w++s.nus))).1=true:=by kernel_rfl
abbrev bxT:List (List Sh):=[[.i .i64,.i .i64]]
theorem two_under (a b:Int):boxesU hG.size bxT [[.n a,.n b]]=true:=by kernel_rfl
theorem heap_eq (p w:Ve) (s:Su) (n:Int) (ys:List Int) (a b:Int):heapB hG solI .i64 bxT (veN p++(veN w++s.nus)) n ys [[.n a,.n b]]=(((viewsH true hG [(.i64,ys)]).push0 (.cells (p.cells++(w.cells++(s.cells (.int true .i64 s.kd)++[.lslice hG.size n]))))).push0 (.cells [.ptr (hG.size+1) 0])).push0 (.cells [.int true .i64 a,.int true .i64 b]):=by kernel_rfl
theorem try_num (r:Except Int Iv):(tryV r).num=true:=rfl
theorem try_tell (r:Except Int Iv):tell (tryV r) (tryV r):=⟨⟨⟨rfl,rfl⟩,⟨rfl,rfl⟩,trivial⟩,⟨rfl,rfl⟩,trivial⟩
def attS (F:HF):NSpec:=bSpec hG 85 solI .i64 bxT (attV F)
theorem att_ok:NOk Tryz.prog glob hG 83 (attS hf0):=by
 refine bsp_ok hG_ok hG_plain glob_lt (fun xs n ys ts p v e hp=>?_) ⟨_,Tryz.func83,rfl⟩
 unfold attV at e
 split at e
 .rename_i P w s hs
  split at e
  .rename_i a b
   cases e
   obtain rfl:=solOf_eq hs
   refine ⟨fun h=>?_,sol_under P w s,two_under a b,try_num _,cHtP hf0 true,60000,.p (nNd hf0 s ys P w ⟨a,b⟩ (okF3 n ys/\s.g.size<1000000000)),tryV (near hf0 s ys P w ⟨a,b⟩),cHtP_ok true,rfl,rfl,?_,nNd_ok hf0 s ys P w ⟨a,b⟩ hp,try_num _,try_tell _⟩
   .obtain ⟨⟨h1,h2,h3⟩,_⟩:=hp
    rw [h] at h3
    simp only [List.length_nil] at h3
    omega
   .rw [heap_eq,<- nAv_eq]
    exact nr_run hf0 s n ys P w ⟨a,b⟩
  .cases e
 .cases e
end
end Go.Proofs.YtjmhddncomglmaaGreatDoor.K
namespace Go.Proofs.YtjmhddncomglmaaGreatDoor.K
open Go Go.Eng Go.Ar Go.Rd Go.Vc Go.Ht
theorem co_run (F:HF) (s:Su) (n:Int) (ys:List Int) (p w:Ve) (c k:Int):rCo (cHtP F true) (.int true .i64 s.kd) s n ys p w c k=some (.p (cNd F p w c k),cAv F p w c k):=by kernel_rfl
end Go.Proofs.YtjmhddncomglmaaGreatDoor.K
namespace Go.Ht
open Go Go.Eng Go.Ar Go.Rd Go.Vc
section
variable (F:HF) (p w:Ve)
def rcE:Int:=bif !F.vc p != 0&&!F.vc w != 0 then 0 else 240
def lN:Sp:=F.ng p.e p.f
def lT:Sp:=F.di (lN F p).lo (lN F p).hi w.e w.f
def lA:Sp:=F.mu (lT F p w).lo (lT F p w).hi w.a w.b
def lB:Sp:=F.ad p.a p.b (lA F p w).lo (lA F p w).hi
def lC:Sp:=F.mu (lT F p w).lo (lT F p w).hi w.c w.d
def lD:Sp:=F.ad p.c p.d (lC F p w).lo (lC F p w).hi
def nz (s:Sp):Bool:=s.e != 0
def l6:Bool:=!nz (lN F p)&&!nz (lT F p w)
def l13:Bool:=!nz (lA F p w)&&!nz (lB F p w)
def l18:Bool:=l6 F p w&&(l13 F p w&&(!nz (lC F p w)&&!nz (lD F p w)))
def l1:Bool:=!rcE F p w != 0
def lSel (v:Int):Int:=bif l1 F p w&&nz (lN F p) then 0 else bif l1 F p w&&(l6 F p w&&(!nz (lA F p w)&&nz (lB F p w))) then 0 else bif l1 F p w&&(l6 F p w&&(l13 F p w&&nz (lC F p w))) then 0 else bif l1 F p w&&l18 F p w then v else 0
def plE:Int:=bif l1 F p w&&nz (lN F p) then (lN F p).e else bif l1 F p w&&(l6 F p w&&(!nz (lA F p w)&&nz (lB F p w))) then (lB F p w).e else bif l1 F p w&&(l6 F p w&&(l13 F p w&&nz (lC F p w))) then (lC F p w).e else bif l1 F p w&&l18 F p w then 0 else
 bif l1 F p w&&(l6 F p w&&(l13 F p w&&(!nz (lC F p w)&&nz (lD F p w)))) then (lD F p w).e else bif l1 F p w&&(l6 F p w&&nz (lA F p w)) then (lA F p w).e else bif l1 F p w&&(!nz (lN F p)&&nz (lT F p w)) then (lT F p w).e else rcE F p w
def lI (v:Int):AV:=.int true .i64 (lSel F p w v)
def lAv:AV:=.tuple [.agg [lI F p w (lB F p w).lo,lI F p w (lB F p w).hi,lI F p w (lD F p w).lo,lI F p w (lD F p w).hi,.int false .i64 0,.int false .i64 0,lI F p w w.a,lI F p w w.b,lI F p w w.c,lI F p w w.d,lI F p w w.e,lI F p w w.f],.agg [lI F p w (lT F p w).lo,lI F p w (lT F p w).hi],.int true .i64 (plE F p w)]
def lNd:Prop:=(l1 F p w=true->(((E2 w.e w.f)/\((!nz (lN F p))=true->E2 w.e w.f))/\(l6 F p w=true->(E2 p.a p.b/\((!nz (lA F p w))=true->E2 p.a p.b))/\(l13 F p w=true->E2 p.c p.d/\((!nz (lC F p w))=true->E2 p.c p.d))))/\(l18 F p w=true->E2 (lT F p w).lo (lT F p w).hi))
theorem lNd_ok:lNd F p w:=by
 have e:∀ a b,E2 a b:=fun _ _=>⟨rfl,rfl⟩
 exact fun _=>⟨⟨⟨e _ _,fun _=>e _ _⟩,fun _=>⟨⟨e _ _,fun _=>e _ _⟩,fun _=>⟨e _ _,fun _=>e _ _⟩⟩⟩,fun _=>e _ _⟩
theorem plane_st:planeP F p w=(st (lN F p) <| st (lT F p w) <| st (lA F p w) <| st (lB F p w) <| st (lC F p w) <| st (lD F p w) <| .ok (⟨(lB F p w).lo,(lB F p w).hi,(lD F p w).lo,(lD F p w).hi,0,0⟩,⟨(lT F p w).lo,(lT F p w).hi⟩)):=by
 simp only [planeP,add,mul,div,op_bind]
 rfl
theorem nz_ok {s:Sp}:nz s=!ok0 s:=rfl
theorem plane_tri (h:l1 F p w=true):(planeP F p w=.ok (⟨(lB F p w).lo,(lB F p w).hi,(lD F p w).lo,(lD F p w).hi,0,0⟩,⟨(lT F p w).lo,(lT F p w).hi⟩)/\plE F p w=0/\∀ v,lSel F p w v=v)\/(planeP F p w=.error (why (plE F p w))/\plE F p w≠0/\∀ v,lSel F p w v=0):=by
 rw [plane_st]
 have ne:∀ s:Sp,ok0 s=false->s.e≠0:=fun s hs he=>by unfold ok0 at hs; rw [he] at hs; cases hs
 unfold plE lSel l18 l13 l6 st
 simp only [nz_ok,h,Bool.true_and,Bool.not_not]
 cases h1:ok0 (lN F p)
 .exact .inr ⟨rfl,ne _ h1,fun _=>rfl⟩
 cases h2:ok0 (lT F p w)
 .exact .inr ⟨rfl,ne _ h2,fun _=>rfl⟩
 cases h3:ok0 (lA F p w)
 .exact .inr ⟨rfl,ne _ h3,fun _=>rfl⟩
 cases h4:ok0 (lB F p w)
 .exact .inr ⟨rfl,ne _ h4,fun _=>rfl⟩
 cases h5:ok0 (lC F p w)
 .exact .inr ⟨rfl,ne _ h5,fun _=>rfl⟩
 cases h6:ok0 (lD F p w)
 .exact .inr ⟨rfl,ne _ h6,fun _=>rfl⟩
 exact .inl ⟨rfl,rfl,fun _=>rfl⟩
def inE (e:Int):Prop:=e=0\/e=2\/e=6\/e=7\/e=20
theorem plE_in (h:l1 F p w=true) (hn:∀ a b,inE (F.ng a b).e) (hd:∀ a b c d,inE (F.di a b c d).e) (hm:∀ a b c d,inE (F.mu a b c d).e) (ha:∀ a b c d,inE (F.ad a b c d).e):inE (plE F p w):=by
 have z:inE (rcE F p w):=by
  have:rcE F p w=0:=by
   unfold l1 at h
   simpa using h
  exact .inl this
 have bf:∀ (b:Bool) (x y:Int),inE x->inE y->inE (bif b then x else y):=fun b x y hx hy=>by cases b <;> assumption
 unfold plE
 exact bf _ _ _ (hn _ _) (bf _ _ _ (ha _ _ _ _) (bf _ _ _ (hm _ _ _ _) (bf _ _ _ (.inl rfl) (bf _ _ _ (ha _ _ _ _) (bf _ _ _ (hm _ _ _ _) (bf _ _ _ (hd _ _ _ _) z))))))
end
theorem told_in (a b:Int):inE (toldS a b).e:=by
 unfold toldS err
 cases okF a&&okF b
 .exact .inr (.inr (.inl rfl))
 .exact .inl rfl
theorem both_in {a b c d:Int} {s:Sp} (h:inE s.e):inE (both a b c d s).e:=by
 unfold both err
 cases okSp a b&&okSp c d
 .exact .inr (.inr (.inr (.inr rfl)))
 .exact h
theorem neg_in (a b:Int):inE (negS a b).e:=by
 unfold negS err
 cases okSp a b
 .exact .inr (.inr (.inr (.inr rfl)))
 .exact .inl rfl
theorem add_in (a b c d:Int):inE (addS a b c d).e:=both_in (told_in _ _)
theorem mul_in (a b c d:Int):inE (mulS a b c d).e:=both_in (told_in _ _)
theorem div_in (a b c d:Int):inE (divS a b c d).e:=by
 refine both_in ?_
 cases decide (c<=0)&&decide (0<=d)
 .exact told_in _ _
 .exact .inr (.inr (.inr (.inl rfl)))
end Go.Ht
namespace Go.Proofs.YtjmhddncomglmaaGreatDoor.K
open Go Go.Eng Go.Ar Go.Rd Go.Vc Go.Ht
noncomputable def twI:List Sh:=[.i .i64,.i .i64,.i .i64,.i .i64,.i .i64,.i .i64,.i .i64,.i .i64,.i .i64,.i .i64,.i .i64,.i .i64]
noncomputable def shR:Sh:=.a twI
noncomputable def rRay (C:Ctx) (f:FuncId) (p w:Ve):Option (Nd×AV):=oneG hG.size hG.clock ((run C 60000).call f [.agg (p.cells++w.cells)] hG)
theorem rc_run (F:HF) (p w:Ve):rRay (cHtP F true) 11 p w=some (.tt,.int true .i64 (rcE F p w)):=by kernel_rfl
theorem pl_run (F:HF) (p w:Ve):rRay (cHtP F true) 16 p w=some (.p (lNd F p w),lAv F p w):=by kernel_rfl
noncomputable def rayV (V:Ve->Ve->Prop×AV):Nat->List Itm->Option (Prop×AV×List ABody):=fun _ its=>match its with
 | [.n [.n a,.n b,.n c,.n d,.n e,.n f,.n g,.n h,.n i,.n j,.n k,.n l]]=>some ((V ⟨a,b,c,d,e,f⟩ ⟨g,h,i,j,k,l⟩).1,(V ⟨a,b,c,d,e,f⟩ ⟨g,h,i,j,k,l⟩).2,[])
 | _=>none
theorem ray_ok {f:FuncId} {V:Ve->Ve->Prop×AV} (fn:∃ fn:Func,Tryz.prog.funcs[f]?=some fn/\fn.body.isSome=true)
  (hr:∀ p w,(V p w).1->∃ nd A,rRay (cHtP hf0 true) f p w=some (nd,A)/\nd.val/\A.num=true/\tell A (V p w).2):NOk Tryz.prog glob hG f (lSpec hG [.n shR] (rayV V)):=by
 refine lsp_okM hG_ok hG_plain glob_lt (fun sz its p v bs e hp=>?_) fn
 unfold rayV at e
 split at e
 .rename_i a b c d e' f' g h i j k l
  cases e
  refine ⟨trivial,rfl,true,?_⟩
  obtain ⟨nd,A,r,hnd,hA,ht⟩:=hr ⟨a,b,c,d,e',f'⟩ ⟨g,h,i,j,k,l⟩ hp
  unfold rRay at r
  obtain ⟨q,a1,a2,a3,a4⟩:=oneG_tells r hA
  refine ⟨cHtP hf0 true,60000,[.agg (Ve.cells ⟨a,b,c,d,e',f'⟩++Ve.cells ⟨g,h,i,j,k,l⟩)],nd,A,q,cHtP_ok true,rfl,rfl,?_,a1,a2,hnd,a3,a4 sz _ ht⟩
  exact ⟨⟨⟨rfl,rfl⟩,⟨rfl,rfl⟩,⟨rfl,rfl⟩,⟨rfl,rfl⟩,⟨rfl,rfl⟩,⟨rfl,rfl⟩,⟨rfl,rfl⟩,⟨rfl,rfl⟩,⟨rfl,rfl⟩,⟨rfl,rfl⟩,⟨rfl,rfl⟩,⟨rfl,rfl⟩,trivial⟩,trivial⟩
 .cases e
noncomputable def rckS (F:HF) (k:Int):NSpec:=lSpec hG [.n shR] (rayV fun p w=>(rcE F p w=k,.int false .i64 k))
theorem rck_ok (k:Int):NOk Tryz.prog glob hG 11 (rckS hf0 k):=ray_ok ⟨_,Tryz.func11,rfl⟩ fun p w h=>⟨_,_,rc_run hf0 p w,trivial,rfl,⟨rfl,h⟩⟩
noncomputable def Z (n:Int):AV:=.int true .i64 n
noncomputable def plOkV (F:HF) (p w:Ve):AV:=.tuple [.agg [Z (lB F p w).lo,Z (lB F p w).hi,Z (lD F p w).lo,Z (lD F p w).hi,.int false .i64 0,.int false .i64 0,Z w.a,Z w.b,Z w.c,Z w.d,Z w.e,Z w.f],.agg [Z (lT F p w).lo,Z (lT F p w).hi],.int false .i64 0]
noncomputable def plNoV (k:Int):AV:=.tuple [.agg [.int false .i64 0,.int false .i64 0,.int false .i64 0,.int false .i64 0,.int false .i64 0,.int false .i64 0,.int false .i64 0,.int false .i64 0,.int false .i64 0,.int false .i64 0,.int false .i64 0,.int false .i64 0],.agg [.int false .i64 0,.int false .i64 0],.int false .i64 k]
noncomputable def plOkS (F:HF):NSpec:=lSpec hG [.n shR] (rayV fun p w=>(l1 F p w=true/\plE F p w=0,plOkV F p w))
noncomputable def plNoS (F:HF) (k:Int):NSpec:=lSpec hG [.n shR] (rayV fun p w=>(l1 F p w=true/\plE F p w=k/\k≠0,plNoV k))
theorem plOk_ok:NOk Tryz.prog glob hG 16 (plOkS hf0):=ray_ok ⟨_,Tryz.func16,rfl⟩ fun p w h=>by
 refine ⟨_,_,pl_run hf0 p w,lNd_ok hf0 p w,rfl,?_⟩
 rcases plane_tri hf0 p w h.1 with ⟨_,h2,h3⟩|⟨_,h2,_⟩
 .exact ⟨⟨⟨rfl,h3 _⟩,⟨rfl,h3 _⟩,⟨rfl,h3 _⟩,⟨rfl,h3 _⟩,⟨rfl,rfl⟩,⟨rfl,rfl⟩,⟨rfl,h3 _⟩,⟨rfl,h3 _⟩,⟨rfl,h3 _⟩,⟨rfl,h3 _⟩,⟨rfl,h3 _⟩,⟨rfl,h3 _⟩,trivial⟩,⟨⟨rfl,h3 _⟩,⟨rfl,h3 _⟩,trivial⟩,⟨rfl,h2⟩,trivial⟩
 .exact absurd h.2 h2
theorem plNo_ok (k:Int):NOk Tryz.prog glob hG 16 (plNoS hf0 k):=ray_ok ⟨_,Tryz.func16,rfl⟩ fun p w h=>by
 refine ⟨_,_,pl_run hf0 p w,lNd_ok hf0 p w,rfl,?_⟩
 rcases plane_tri hf0 p w h.1 with ⟨_,h2,_⟩|⟨_,h2,h3⟩
 .exact absurd (h.2.1.symm.trans h2) h.2.2
 .exact ⟨⟨⟨rfl,h3 _⟩,⟨rfl,h3 _⟩,⟨rfl,h3 _⟩,⟨rfl,h3 _⟩,⟨rfl,rfl⟩,⟨rfl,rfl⟩,⟨rfl,h3 _⟩,⟨rfl,h3 _⟩,⟨rfl,h3 _⟩,⟨rfl,h3 _⟩,⟨rfl,h3 _⟩,⟨rfl,h3 _⟩,trivial⟩,⟨⟨rfl,h3 _⟩,⟨rfl,h3 _⟩,trivial⟩,⟨rfl,h.2.1⟩,trivial⟩
noncomputable def conV (F:HF) (j:Int):List Nu->Int->List Int->List (List Nu)->Option (Prop×AV):=fun xs n ys ts=>match solOf xs with
 | some (p,w,_)=>match ts with
  | [[.n c],[.n k]]=>some ((ys=[]->n=0)/\(okSc c 1000000000/\okSc (kW k) 1000000)/\tryC (conicP F p w c k)=j,.tuple [.agg [.int true .i64 (tryI (conicP F p w c k)).lo,.int true .i64 (tryI (conicP F p w c k)).hi],.int false .i64 j])
  | _=>none
 | none=>none
abbrev bxC:List (List Sh):=[[.i .i64],[.i .i64]]
theorem con_under (c k:Int):boxesU hG.size bxC [[.n c],[.n k]]=true:=by kernel_rfl
theorem heapC_eq (p w:Ve) (s:Su) (n:Int) (ys:List Int) (c k:Int):heapB hG solI .i64 bxC (veN p++(veN w++s.nus)) n ys [[.n c],[.n k]]=((((viewsH true hG [(.i64,ys)]).push0 (.cells (p.cells++(w.cells++(s.cells (.int true .i64 s.kd)++[.lslice hG.size n]))))).push0 (.cells [.ptr (hG.size+1) 0])).push0 (.cells [.int true .i64 c])).push0 (.cells [.int true .i64 k]):=by kernel_rfl
noncomputable def conS (F:HF) (j:Int):NSpec:=bSpec hG 84 solI .i64 bxC (conV F j)
theorem con_ok (jj:Int):NOk Tryz.prog glob hG 83 (conS hf0 jj):=by
 refine bsp_ok hG_ok hG_plain glob_lt (fun xs n ys ts p v e hp=>?_) ⟨_,Tryz.func83,rfl⟩
 unfold conV at e
 split at e
 .rename_i P w s hs
  split at e
  .rename_i c k
   cases e
   obtain rfl:=solOf_eq hs
   refine ⟨hp.1,sol_under P w s,con_under c k,rfl,cHtP hf0 true,60000,.p (cNd hf0 P w c k),tryV (conicP hf0 P w c k),cHtP_ok true,rfl,rfl,?_,cNd_ok hf0 P w c k (fun _ _=>okSq_of hp.2.1.1) (fun _ _=>okSq_of hp.2.1.2),rfl,⟨⟨rfl,rfl⟩,⟨rfl,rfl⟩,trivial⟩,⟨rfl,hp.2.2⟩,trivial⟩
   rw [heapC_eq,<- cAv_eq]
   exact co_run hf0 s n ys P w c k
  .cases e
 .cases e
noncomputable def plS (F:HF) (pl:Int):NSpec:=match pl with
 | 0=>plOkS F
 | pl=>plNoS F pl
theorem pl_ok (k:Int):NOk Tryz.prog glob hG 16 (plS hf0 k):=by
 unfold plS
 split
 .exact plOk_ok
 .exact plNo_ok _
noncomputable def cHt (F:HF) (b:Bool) (rc pl co:Int):Ctx:=mkN Tryz.prog glob hG ((11,rckS F rc) :: (16,plS F pl) :: (83,attS F) :: (83,conS F co) :: tblHtP F b) [] ext
theorem cHt_ok (b:Bool) (rc pl co:Int):CtxOk (cHt hf0 b rc pl co):=mkN_ok prog_ok ext_ok (fun x hx=>by
 rcases List.mem_cons.1 hx with rfl|hx
 .exact rck_ok rc
 rcases List.mem_cons.1 hx with rfl|hx
 .exact pl_ok pl
 rcases List.mem_cons.1 hx with rfl|hx
 .exact att_ok
 rcases List.mem_cons.1 hx with rfl|hx
 .exact con_ok co
 .exact tblHtP_g b x hx) fun _ h=>by cases h
end Go.Proofs.YtjmhddncomglmaaGreatDoor.K
namespace Go.Proofs.YtjmhddncomglmaaGreatDoor.K
open Go Go.Eng Go.Ar Go.Rd Go.Vc Go.Ht
noncomputable def sIv (F:HF) (s:Su) (ys:List Int) (p w:Ve) (t:Iv):AV:=.tuple [.agg [.int true .i64 (j17 F s ys p w t).lo,.int true .i64 (j17 F s ys p w t).hi],.bool true (jIs F s ys p w t)]
noncomputable def rconV (A:Ve->Ve->Int->Int->AV):Nat->List Itm->Option (Prop×AV×List ABody):=fun _ its=>match its with
 | [.n [.n a,.n b,.n c,.n d,.n e,.n f,.n g,.n h,.n i,.n j,.n k,.n l],.n [.n x],.n [.n y]]=>some (True,A ⟨a,b,c,d,e,f⟩ ⟨g,h,i,j,k,l⟩ x y,[])
 | _=>none
noncomputable def rneV (A:Su->List Int->Ve->Ve->Iv->AV):Nat->List Itm->Option (Prop×AV×List ABody):=fun _ its=>match its with
 | [.s xs n ys,.n [.n a,.n b,.n c,.n d,.n e,.n f,.n g,.n h,.n i,.n j,.n k,.n l],.n [.n x,.n y]]=>match suOf xs with
  | some s=>some (okF3 n ys/\s.g.size<1000000000,A s ys ⟨a,b,c,d,e,f⟩ ⟨g,h,i,j,k,l⟩ ⟨x,y⟩,[])
  | none=>none
 | _=>none
noncomputable abbrev coPa:List Pa:=[.n shR,.n (.i .i64),.n (.i .i64)]
noncomputable abbrev nePa:List Pa:=[.s suI .i64,.n shR,.n shS]
noncomputable def tblHn (F:HF):List (FuncId×NSpec):=(102,lSpec hG nePa (rneV (sIv F))) :: tblHr F
noncomputable def cHn (F:HF):Ctx:=mkN Tryz.prog glob hG (tblHn F) [] ext
noncomputable def rNw (C:Ctx) (kd:AV) (s:Su) (n:Int) (ys:List Int) (p w:Ve) (x y m:Int):Option (Nd×AV):=oneG (viewsH true hG [(.i64,ys)]).size hG.clock ((run C 60000).call 64 [.agg (s.cells kd++[.lslice hG.size n]),.agg (p.cells++w.cells),.agg [.int true .i64 x,.int true .i64 y],.int true .i64 m] (viewsH true hG [(.i64,ys)]))
end Go.Proofs.YtjmhddncomglmaaGreatDoor.K
namespace Go.Ht
open Go Go.Eng Go.Ar Go.Rd Go.Vc Go.Iv
section
variable (F:HF) (S:Su) (ys:List Int) (p w:Ve)
def roundR (t:Iv) (b:Bool):Option (Iv×Bool):=match nearR F S ys p w t with
 | .error _=>none
 | .ok v=>bif (F.mt v.lo v.hi t.lo t.hi).e==0 then some (⟨(F.mt v.lo v.hi t.lo t.hi).lo,(F.mt v.lo v.hi t.lo t.hi).hi⟩,b||(decide (v.lo>t.lo)&&decide (v.hi<t.hi))) else none
def roundsR:Nat->Iv->Bool->Option (Iv×Bool)
 | 0,t,b=>some (t,b)
 | n+1,t,b=>match roundR F S ys p w t b with
  | none=>none
  | some (u,c)=>roundsR n u c
def wideR (b:Iv) (n:Int):Option Iv:=bif (F.ad b.lo b.hi (-n) n).e==0 then (match roundsR F S ys p w 8 ⟨(F.ad b.lo b.hi (-n) n).lo,(F.ad b.lo b.hi (-n) n).hi⟩ false with
  | some (t,true)=>some t
  | _=>none) else none
def widthsR (b:Iv):List Int->Except Int Iv
 | []=>.error 2
 | n :: l=>match wideR F S ys p w b n with
  | some t=>.ok t
  | none=>widthsR b l
def curvedR (c k:Int):Except Int Iv:=match conicR F p w c k with
 | .error x=>.error (bif x==5 then 5 else 2)
 | .ok b=>widthsR F S ys p w b [1048576,67108864,2147483648,34359738368]
def wayR:Except Int Iv:=bif S.kd==1 then (bif flat S then conicR F p w S.c S.k else curvedR F S ys p w S.c S.k)
 else bif S.kd==2 then curvedR F S ys p w ((S.c+S.l) / 2) 0 else .ok ⟨0,0⟩
def hitR:Except Int (Ve×Iv):=do
 let (q,a)<-planeP F p w
 let t<-wayR F S ys q w
 bif S.kd==1||S.kd==2 then do
  let at'<-toP F q w t
  let b<-add F a t
  return (at',b)
 else return (q,a)
end
theorem meet_vi {a b c d:Int} (e:(meetS a b c d).e=0):vi ⟨(meetS a b c d).lo,(meetS a b c d).hi⟩:=by
 unfold meetS at e ⊢
 cases h:okSp a b&&okSp c d with
 | false=>rw [h] at e; cases e
 | true=>
  rw [h] at e
  simp only [cond_true] at e ⊢
  cases k:decide (mx a c>mn b d) with
  | true=>rw [k] at e; cases e
  | false=>
   rw [k] at e
   simp only [cond_false] at e ⊢
   have k:=of_decide_eq_false k
   exact told_b rfl e (by
    unfold toldS at e ⊢
    cases ho:okF (mx a c)&&okF (mn b d) with
    | false=>rw [ho] at e; cases e
    | true=>simp only [cond_true]; omega)
section
variable {S:Su} {ys:List Int} {p w:Ve} (hn:∀ t,vi t->∃ v,mul hf0 t ⟨w.e,w.f⟩=.ok v)
include hn
theorem round_eq {t:Iv} (h:vi t) (b:Bool):roundP hf0 S ys p w t b=roundR hf0 S ys p w t b:=by
 have e:=near_eq hf0 S ys p w t (hn t h)
 unfold roundP roundR
 cases h1:near hf0 S ys p w t <;> cases h2:nearR hf0 S ys p w t <;> rw [h1,h2] at e <;> cases e <;> rfl
omit hn in
theorem round_vi {t u:Iv} {b c:Bool} (h:roundP hf0 S ys p w t b=some (u,c)):vi u:=by
 unfold roundP at h
 split at h
 .cases h
 .rename_i v hv
  have k:=@meet_vi v.lo v.hi t.lo t.hi
  show vi u
  have h:(bif (meetS v.lo v.hi t.lo t.hi).e==0 then some ((⟨(meetS v.lo v.hi t.lo t.hi).lo,(meetS v.lo v.hi t.lo t.hi).hi⟩:Iv),b||(decide (v.lo>t.lo)&&decide (v.hi<t.hi))) else none)=some (u,c):=h
  cases he:(meetS v.lo v.hi t.lo t.hi).e==0 with
  | false=>simp only [he,cond_false] at h; cases h
  | true=>
   simp only [he,cond_true] at h
   cases h
   exact k (beq_iff_eq.1 he)
theorem rounds_eq:∀ (n:Nat) {t:Iv} (h:vi t) (b:Bool),roundsP hf0 S ys p w n t b=roundsR hf0 S ys p w n t b
 | 0,_,_,_=>rfl
 | n+1,t,h,b=>by
  unfold roundsP roundsR
  rw [<- round_eq hn h]
  cases hr:roundP hf0 S ys p w t b with
  | none=>rfl
  | some x=>
   obtain ⟨u,c⟩:=x
   exact rounds_eq n (round_vi hr) c
theorem widths_eq {b:Iv} (hb:vi b):∀ (l:List Int) (_:∀ n∈l,0<=n/\n<=34359738368),widths hf0 S ys p w b l=widthsR hf0 S ys p w b l
 | [],_=>rfl
 | n :: l,hl=>by
  have h0:=hl n (List.mem_cons_self ..)
  have ih:=widths_eq hb l fun m hm=>hl m (List.mem_cons_of_mem _ hm)
  have e:wide hf0 S ys p w b n=wideR hf0 S ys p w b n:=by
   have va:(addS b.lo b.hi (-n) n).e=0->vi ⟨(addS b.lo b.hi (-n) n).lo,(addS b.lo b.hi (-n) n).hi⟩:=fun e=>(r_add (ri hb) (t:=⟨-n,n,0⟩) (Ri.of (okSp_iff.2 ⟨by show _<=-n; omega,by show -n<=n; omega,by show n<=_; omega⟩)) e).ok
   unfold wide wideR
   show (bif (addS b.lo b.hi (-n) n).e==0 then _ else _)=(bif (addS b.lo b.hi (-n) n).e==0 then _ else _)
   cases he:(addS b.lo b.hi (-n) n).e==0 with
   | false=>rfl
   | true=>
    simp only [cond_true]
    have:=rounds_eq (S:=S) (ys:=ys) (p:=p) hn 8 (va (beq_iff_eq.1 he)) false
    exact congrArg (fun z=>match z with
     | some (t,true)=>some t
     | _=>none) this
  unfold widths widthsR
  rw [e,ih]
  cases wideR hf0 S ys p w b n <;> rfl
end
end Go.Ht
namespace Go.Ht
open Go Go.Eng Go.Ar Go.Rd Go.Vc
section
variable (F:HF) (S:Su) (ys:List Int) (Q w:Ve)
def rM (t:Iv):Sp:=F.mt (j17 F S ys Q w t).lo (j17 F S ys Q w t).hi t.lo t.hi
def rG (t:Iv):Bool:=!!jIs F S ys Q w t&&!(rM F S ys Q w t).e != 0
def rX (t:Iv):Iv:=⟨(rM F S ys Q w t).lo,(rM F S ys Q w t).hi⟩
def rCt (t:Iv):Bool:=bif decide ((j17 F S ys Q w t).lo>t.lo) then decide ((j17 F S ys Q w t).hi<t.hi) else false
def rGs:Nat->Iv->Bool
 | 0,t=>rG F S ys Q w t
 | n+1,t=>rG F S ys Q w t&&rGs n (rX F S ys Q w t)
def rCs:Nat->Bool->Iv->Bool
 | 0,b,_=>b
 | n+1,b,t=>rCs n (bif b then true else rCt F S ys Q w t) (rX F S ys Q w t)
def rFin:Nat->Iv->Iv
 | 0,t=>t
 | n+1,t=>rFin n (rX F S ys Q w t)
variable (a b m:Int)
def rW:Sp:=F.ad a b (IntKind.i64.wrap (0 - m)) m
def rW0:Bool:=(rW F a b m).e != 0
def rT:Iv:=⟨(rW F a b m).lo,(rW F a b m).hi⟩
def nwV (z:Int):Int:=bif rW0 F a b m then 0 else bif rGs F S ys Q w 7 (rT F a b m) then z else 0
def nwF:Iv:=rFin F S ys Q w 8 (rT F a b m)
def nwIs:Bool:=bif rW0 F a b m then false else bif rGs F S ys Q w 7 (rT F a b m) then rCs F S ys Q w 7 (rCt F S ys Q w (rT F a b m)) (rX F S ys Q w (rT F a b m)) else false
def nwAv:AV:=.tuple [.agg [.int true .i64 (nwV F S ys Q w a b m (nwF F S ys Q w a b m).lo),.int true .i64 (nwV F S ys Q w a b m (nwF F S ys Q w a b m).hi)],.bool true (nwIs F S ys Q w a b m)]
def nwR (k:Prop):Nat->Iv->Prop
 | 0,_=>k
 | n+1,t=>k/\(rG F S ys Q w t=true->nwR k n (rX F S ys Q w t))
def nwNd (k:Prop):Prop:=(!rW0 F a b m)=true->nwR F S ys Q w k 7 (rT F a b m)
theorem nwR_ok {k:Prop} (h:k):∀ n t,nwR F S ys Q w k n t
 | 0,_=>h
 | n+1,_=>⟨h,fun _=>nwR_ok h n _⟩
theorem nwNd_ok {k:Prop} (h:k):nwNd F S ys Q w a b m k:=fun _=>nwR_ok F S ys Q w h _ _
end
theorem orB (b p q:Bool):(b||(p&&q))=bif b then true else bif p then q else false:=by cases b <;> cases p <;> rfl
section
variable (F:HF) (S:Su) (ys:List Int) (Q w:Ve)
theorem roundR_rg (t:Iv) (b:Bool):roundR F S ys Q w t b=bif rG F S ys Q w t then some (rX F S ys Q w t,bif b then true else rCt F S ys Q w t) else none:=by
 unfold roundR rG rX rCt rM
 rcases nearR_two F S ys Q w t with ⟨h1,h2⟩|⟨h1,c,h2⟩
 .rw [h1,h2]
  simp only [Bool.not_true,Bool.not_false,Bool.true_and]
  rw [bne,Bool.not_not,orB]
 .rw [h1,h2]; rfl
theorem roundsR_rg:∀ (n:Nat) (t:Iv) (b:Bool),roundsR F S ys Q w (n+1) t b=bif rGs F S ys Q w n t then some (rFin F S ys Q w (n+1) t,rCs F S ys Q w n (bif b then true else rCt F S ys Q w t) (rX F S ys Q w t)) else none
 | 0,t,b=>by
  simp only [roundsR,roundR_rg,rGs,rFin,rCs]
  cases rG F S ys Q w t <;> rfl
 | n+1,t,b=>by
  rw [roundsR,roundR_rg]
  rw [rGs]
  cases rG F S ys Q w t with
  | false=>rfl
  | true=>
   simp only [cond_true,Bool.true_and]
   rw [roundsR_rg n]
   rfl
theorem wideR_rg (b:Iv) (n:Int) (hn:IntKind.i64.wrap (0 - n)=-n):wideR F S ys Q w b n=bif nwIs F S ys Q w b.lo b.hi n then some (nwF F S ys Q w b.lo b.hi n) else none:=by
 unfold wideR nwIs nwF rT
 have h:((F.ad b.lo b.hi (-n) n).e==0)=!rW0 F b.lo b.hi n:=by unfold rW0 rW; rw [hn,bne,Bool.not_not]
 rw [h,roundsR_rg F S ys Q w 7]
 unfold rW
 rw [hn]
 cases rW0 F b.lo b.hi n with
 | true=>rfl
 | false=>
  show (match bif rGs F S ys Q w 7 ⟨(F.ad b.lo b.hi (-n) n).lo,(F.ad b.lo b.hi (-n) n).hi⟩ then some (rFin F S ys Q w 8 ⟨(F.ad b.lo b.hi (-n) n).lo,(F.ad b.lo b.hi (-n) n).hi⟩,rCs F S ys Q w 7 (rCt F S ys Q w ⟨(F.ad b.lo b.hi (-n) n).lo,(F.ad b.lo b.hi (-n) n).hi⟩) (rX F S ys Q w ⟨(F.ad b.lo b.hi (-n) n).lo,(F.ad b.lo b.hi (-n) n).hi⟩)) else none with|some (t,true)=>some t|_=>none)=_
  simp only [cond_false]
  cases rGs F S ys Q w 7 ⟨(F.ad b.lo b.hi (-n) n).lo,(F.ad b.lo b.hi (-n) n).hi⟩ with
  | false=>rfl
  | true=>cases rCs F S ys Q w 7 (rCt F S ys Q w ⟨(F.ad b.lo b.hi (-n) n).lo,(F.ad b.lo b.hi (-n) n).hi⟩) (rX F S ys Q w ⟨(F.ad b.lo b.hi (-n) n).lo,(F.ad b.lo b.hi (-n) n).hi⟩) <;> rfl
end
end Go.Ht
namespace Go.Proofs.YtjmhddncomglmaaGreatDoor.K
open Go Go.Eng Go.Ar Go.Rd Go.Vc Go.Ht
theorem nw_run (F:HF) (s:Su) (n:Int) (ys:List Int) (p w:Ve) (x y m:Int):rNw (cHn F) (.int true .i64 s.kd) s n ys p w x y m=some (.p (nwNd F s ys p w x y m (okF3 n ys/\s.g.size<1000000000)),nwAv F s ys p w x y m):=by kernel_rfl
end Go.Proofs.YtjmhddncomglmaaGreatDoor.K
namespace Go.Proofs.YtjmhddncomglmaaGreatDoor.K
open Go Go.Eng Go.Ar Go.Rd Go.Vc Go.Ht
theorem tblHr_g:∀ x∈tblHr hf0,NOk Tryz.prog glob hG x.1 x.2:=by
 have e1:sgHF hf0=sagA':=by kernel_rfl
 have e2:slHF hf0=slpG:=by kernel_rfl
 intro x hx
 simp only [tblHr,e1,e2,List.mem_cons,List.not_mem_nil,or_false] at hx
 rcases hx with rfl|rfl|rfl|rfl|rfl|rfl|rfl|rfl|rfl|rfl|rfl|rfl
 .exact ((rneg_ok.g _ _).h).n
 .exact ((radd_ok.g _ _).h).n
 .exact ((rsub_ok.g _ _).h).n
 .exact ((rmul_ok.g _ _).h).n
 .exact ((rdiv_ok.g _ _).h).n
 .exact ((rsc_ok.g _ _).h).n
 .exact ((rsqr_ok.g _ _).h).n
 .exact ((rsqrt_ok.g _ _).h).n
 .exact ((rmid_ok.g _ _).h).n
 .exact ((rmeet_ok.g _ _).h).n
 .exact rsag_ok
 .exact rslp_ok
theorem cHr_ok:CtxOk (cHr hf0):=mkN_ok prog_ok ext_ok tblHr_g fun _ h=>by cases h
theorem t12 {a b c d e f g h i j k l:Int}:tell (.agg [.int true .i64 a,.int true .i64 b,.int true .i64 c,.int true .i64 d,.int true .i64 e,.int true .i64 f,.int true .i64 g,.int true .i64 h,.int true .i64 i,.int true .i64 j,.int true .i64 k,.int true .i64 l]) (.agg [.int true .i64 a,.int true .i64 b,.int true .i64 c,.int true .i64 d,.int true .i64 e,.int true .i64 f,.int true .i64 g,.int true .i64 h,.int true .i64 i,.int true .i64 j,.int true .i64 k,.int true .i64 l]):=
 ⟨⟨rfl,rfl⟩,⟨rfl,rfl⟩,⟨rfl,rfl⟩,⟨rfl,rfl⟩,⟨rfl,rfl⟩,⟨rfl,rfl⟩,⟨rfl,rfl⟩,⟨rfl,rfl⟩,⟨rfl,rfl⟩,⟨rfl,rfl⟩,⟨rfl,rfl⟩,⟨rfl,rfl⟩,trivial⟩
noncomputable def conA (F:HF) (p w:Ve) (c k:Int):AV:=tryV (conicR F p w c k)
theorem rcon_ok:NOk Tryz.prog glob hG 24 (lSpec hG coPa (rconV (conA hf0))):=by
 refine lsp_okM hG_ok hG_plain glob_lt (fun sz its p v bs e hp=>?_) ⟨_,Tryz.func24,rfl⟩
 unfold rconV at e
 split at e
 .rename_i a b c d e' f g h i j k l x y
  cases e
  refine ⟨trivial,rfl,true,?_⟩
  have r:=cr_run hf0 ⟨a,b,c,d,e',f⟩ ⟨g,h,i,j,k,l⟩ x y
  unfold rCoR at r
  obtain ⟨q,a1,a2,a3,a4⟩:=oneG_tells r rfl
  exact ⟨cHr hf0,60000,[.agg (Ve.cells ⟨a,b,c,d,e',f⟩++Ve.cells ⟨g,h,i,j,k,l⟩),.int true .i64 x,.int true .i64 y],_,_,q,cHr_ok,rfl,rfl,⟨t12,⟨rfl,rfl⟩,⟨rfl,rfl⟩,trivial⟩,a1,a2,cNdR_ok _ _ _ _ _,a3,a4 sz _ (by rw [kAv_eq]; exact ⟨⟨⟨rfl,rfl⟩,⟨rfl,rfl⟩,trivial⟩,⟨rfl,rfl⟩,trivial⟩)⟩
 .cases e
theorem okF3_emp' {n:Int} {ys:List Int} (h:okF3 n ys):ys=[]->n=0:=by
 intro he
 have:=h.2.2
 rw [he] at this
 have:=h.1
 simp only [List.length_nil] at *
 omega
theorem kdT (s:Su):tellL s.ini (s.cells (.int true .i64 s.kd)):=tell_kd (kd:=.int true .i64 s.kd) ⟨rfl,rfl⟩
theorem to_runs {f:FuncId} {ps:List Pa} {its:List Itm} {C:Ctx} {ar:List AV} {nd:Nd} {V v:AV} {ys:List Int} {sz:Nat} (co:CtxOk C) (hP:C.P=Tryz.prog) (hGl:C.glob=glob) (hl:lists ps its=[(.i64,ys)]) (ht:tellL (mkA true hG.size ps its) ar) (hV:V.num=true)
  (r:oneG (viewsH true hG [(.i64,ys)]).size hG.clock ((run C 60000).call f ar (viewsH true hG [(.i64,ys)]))=some (nd,V)) (hn:nd.val) (htl:tell V v):RunsTo Tryz.prog glob hG f true ps its (mkA true hG.size ps its) sz v []:=by
 obtain ⟨q,a1,a2,a3,a4⟩:=oneG_tells r hV
 unfold RunsTo
 rw [hl]
 exact ⟨C,60000,ar,nd,V,q,co,hP,hGl,ht,a1,a2,hn,a3,a4 sz _ htl⟩
theorem rne_ok:NOk Tryz.prog glob hG 102 (lSpec hG nePa (rneV (sIv hf0))):=by
 refine lsp_okM hG_ok hG_plain glob_lt (fun sz its p v bs e hp=>?_) ⟨_,Tryz.func102,rfl⟩
 unfold rneV at e
 split at e
 .rename_i xs n ys a b c d e' f g h i j k l x y
  split at e
  .rename_i s hs
   cases e
   obtain rfl:=suOf_eq hs
   refine ⟨⟨okF3_emp' hp.1,trivial⟩,rfl,true,?_⟩
   have ht:tell (jAv hf0 s ys ⟨a,b,c,d,e',f⟩ ⟨g,h,i,j,k,l⟩ ⟨x,y⟩) (sIv hf0 s ys ⟨a,b,c,d,e',f⟩ ⟨g,h,i,j,k,l⟩ ⟨x,y⟩):=⟨⟨⟨rfl,jSel_eq _ _ _ _ _ _ _⟩,⟨rfl,jSel_eq _ _ _ _ _ _ _⟩,trivial⟩,rfl,trivial⟩
   have hnd:nNdR hf0 s n ys ⟨a,b,c,d,e',f⟩ ⟨g,h,i,j,k,l⟩ ⟨x,y⟩:=nNdR_ok _ _ _ _ _ _ _ hp.1 hp.2
   have r:=nr2_run hf0 s n ys ⟨a,b,c,d,e',f⟩ ⟨g,h,i,j,k,l⟩ x y
   unfold rNrR at r
   have hk:tellL (mkA true hG.size nePa [.s s.nus n ys,.n [.n a,.n b,.n c,.n d,.n e',.n f,.n g,.n h,.n i,.n j,.n k,.n l],.n [.n x,.n y]]) [.agg (s.cells (.int true .i64 s.kd)++[.lslice hG.size n]),.agg (Ve.cells ⟨a,b,c,d,e',f⟩++Ve.cells ⟨g,h,i,j,k,l⟩),.agg [.int true .i64 x,.int true .i64 y]]:=⟨tellL_app (kdT s) ⟨rfl,trivial⟩,t12,⟨⟨rfl,rfl⟩,⟨rfl,rfl⟩,trivial⟩,trivial⟩
   exact to_runs cHr_ok rfl rfl rfl hk rfl r hnd ht
  .cases e
 .cases e
theorem cHn_ok:CtxOk (cHn hf0):=mkN_ok prog_ok ext_ok (fun x hx=>by
 rcases List.mem_cons.1 hx with rfl|hx
 .exact rne_ok
 .exact tblHr_g x hx) fun _ h=>by cases h
noncomputable def rnwV (A:Su->List Int->Ve->Ve->Int->Int->Int->AV):Nat->List Itm->Option (Prop×AV×List ABody):=fun _ its=>match its with
 | [.s xs n ys,.n [.n a,.n b,.n c,.n d,.n e,.n f,.n g,.n h,.n i,.n j,.n k,.n l],.n [.n x,.n y],.n [.n m]]=>match suOf xs with
  | some s=>some (okF3 n ys/\s.g.size<1000000000,A s ys ⟨a,b,c,d,e,f⟩ ⟨g,h,i,j,k,l⟩ x y m,[])
  | none=>none
 | _=>none
noncomputable abbrev nwPa:List Pa:=[.s suI .i64,.n shR,.n shS,.n (.i .i64)]
noncomputable def nwA (F:HF) (s:Su) (ys:List Int) (p w:Ve) (x y m:Int):AV:=.tuple [.agg [.int true .i64 (nwV F s ys p w x y m (nwF F s ys p w x y m).lo),.int true .i64 (nwV F s ys p w x y m (nwF F s ys p w x y m).hi)],.bool true (nwIs F s ys p w x y m)]
theorem rnw_ok:NOk Tryz.prog glob hG 64 (lSpec hG nwPa (rnwV (nwA hf0))):=by
 refine lsp_okM hG_ok hG_plain glob_lt (fun sz its p v bs e hp=>?_) ⟨_,Tryz.func64,rfl⟩
 unfold rnwV at e
 split at e
 .rename_i xs n ys a b c d e' f g h i j k l x y m
  split at e
  .rename_i s hs
   cases e
   obtain rfl:=suOf_eq hs
   refine ⟨⟨okF3_emp' hp.1,trivial⟩,rfl,true,?_⟩
   have ht:tell (nwAv hf0 s ys ⟨a,b,c,d,e',f⟩ ⟨g,h,i,j,k,l⟩ x y m) (nwA hf0 s ys ⟨a,b,c,d,e',f⟩ ⟨g,h,i,j,k,l⟩ x y m):=⟨⟨⟨rfl,rfl⟩,⟨rfl,rfl⟩,trivial⟩,rfl,trivial⟩
   have hnd:nwNd hf0 s ys ⟨a,b,c,d,e',f⟩ ⟨g,h,i,j,k,l⟩ x y m (okF3 n ys/\s.g.size<1000000000):=nwNd_ok _ _ _ _ _ _ _ _ hp
   have r:=nw_run hf0 s n ys ⟨a,b,c,d,e',f⟩ ⟨g,h,i,j,k,l⟩ x y m
   unfold rNw at r
   have hk:tellL (mkA true hG.size nwPa [.s s.nus n ys,.n [.n a,.n b,.n c,.n d,.n e',.n f,.n g,.n h,.n i,.n j,.n k,.n l],.n [.n x,.n y],.n [.n m]]) [.agg (s.cells (.int true .i64 s.kd)++[.lslice hG.size n]),.agg (Ve.cells ⟨a,b,c,d,e',f⟩++Ve.cells ⟨g,h,i,j,k,l⟩),.agg [.int true .i64 x,.int true .i64 y],.int true .i64 m]:=⟨tellL_app (kdT s) ⟨rfl,trivial⟩,t12,⟨⟨rfl,rfl⟩,⟨rfl,rfl⟩,trivial⟩,⟨rfl,rfl⟩,trivial⟩
   exact to_runs cHn_ok rfl rfl rfl hk rfl r hnd ht
  .cases e
 .cases e
noncomputable def tblHh (F:HF):List (FuncId×NSpec):=(24,lSpec hG coPa (rconV (conA F))) :: (64,lSpec hG nwPa (rnwV (nwA F))) :: tblHr F
end Go.Proofs.YtjmhddncomglmaaGreatDoor.K
namespace Go.Ht
open Go Go.Eng Go.Ar Go.Rd Go.Vc Go.Iv
theorem rd_in {n:Int} (h:-(4503599627370496*4294967296)<=n) (k:n<=4503599627370496*4294967296) (up:Bool):-4503599627370496<=rd n 4294967296 up/\rd n 4294967296 up<=4503599627370496:=by
 have a:-4503599627370496<=rd n 4294967296 false:=(rd_ge_iff two32).2 (by omega)
 have b:rd n 4294967296 true<=4503599627370496:=(rd_le_iff two32).2 (by omega)
 have c:=rd_le n 4294967296 two32
 cases up
 .exact ⟨a,by omega⟩
 .exact ⟨by omega,b⟩
theorem mF_in {x y:Int} (hx:-4503599627370496<=x/\x<=4503599627370496) (hy:-4294967296<=y/\y<=4294967296) (up:Bool):-4503599627370496<=mF x y up/\mF x y up<=4503599627370496:=by
 have h1:x*y<=4503599627370496*4294967296:=by
  rcases Int.le_total 0 x with p|p <;> rcases Int.le_total 0 y with q|q
  .exact Int.mul_le_mul hx.2 hy.2 q (by omega)
  .have:=Int.mul_nonneg p (b:=-y) (by omega); rw [Int.mul_neg] at this; omega
  .have:=Int.mul_nonneg (a:=-x) (by omega) q; rw [Int.neg_mul] at this; omega
  .have:-x * -y<=4503599627370496*4294967296:=Int.mul_le_mul (by omega) (by omega) (by omega) (by omega)
   rw [Int.neg_mul_neg] at this; exact this
 have h2:-(4503599627370496*4294967296)<=x*y:=by
  rcases Int.le_total 0 x with p|p <;> rcases Int.le_total 0 y with q|q
  .have:=Int.mul_nonneg p q; omega
  .have:x * -y<=4503599627370496*4294967296:=Int.mul_le_mul (by omega) (by omega) (by omega) (by omega)
   rw [Int.mul_neg] at this; omega
  .have:-x*y<=4503599627370496*4294967296:=Int.mul_le_mul (by omega) (by omega) (by omega) (by omega)
   rw [Int.neg_mul] at this; omega
  .have:=Int.mul_nonneg (a:=-x) (b:=-y) (by omega) (by omega); rw [Int.neg_mul_neg] at this; omega
 exact rd_in h2 h1 up
theorem mul_unit {t:Iv} {e f:Int} (h:vi t) (he:-4294967296<=e) (ef:e<=f) (hf:f<=4294967296):∃ v,mul hf0 t ⟨e,f⟩=.ok v:=by
 have k:=okSp_iff.1 h
 have o2:okSp e f=true:=okSp_iff.2 ⟨by omega,by omega,by omega⟩
 have m:∀ up,(-4503599627370496<=mF t.lo e up/\mF t.lo e up<=4503599627370496)/\(-4503599627370496<=mF t.lo f up/\mF t.lo f up<=4503599627370496)/\(-4503599627370496<=mF t.hi e up/\mF t.hi e up<=4503599627370496)/\(-4503599627370496<=mF t.hi f up/\mF t.hi f up<=4503599627370496):=fun up=>
  ⟨mF_in (by omega) (by omega) up,mF_in (by omega) (by omega) up,mF_in (by omega) (by omega) up,mF_in (by omega) (by omega) up⟩
 have e0:(mulS t.lo t.hi e f).e=0:=by
  unfold mulS both
  rw [h,o2]
  show (hull4 mF t.lo t.hi e f).e=0
  unfold hull4
  have mf:=m false
  have mt:=m true
  have a1:∀ a b:Int,-4503599627370496<=a/\a<=4503599627370496->-4503599627370496<=b/\b<=4503599627370496->-4503599627370496<=mn a b/\mn a b<=4503599627370496:=fun a b p q=>by
   unfold mn; cases decide (b<a) <;> assumption
  have a2:∀ a b:Int,-4503599627370496<=a/\a<=4503599627370496->-4503599627370496<=b/\b<=4503599627370496->-4503599627370496<=mx a b/\mx a b<=4503599627370496:=fun a b p q=>by
   unfold mx; cases decide (a<b) <;> assumption
  exact told_0 (a1 _ _ (a1 _ _ (a1 _ _ mf.1 mf.2.1) mf.2.2.1) mf.2.2.2) (a2 _ _ (a2 _ _ (a2 _ _ mt.1 mt.2.1) mt.2.2.1) mt.2.2.2)
 refine ⟨⟨(mulS t.lo t.hi e f).lo,(mulS t.lo t.hi e f).hi⟩,?_⟩
 show op (mulS t.lo t.hi e f)=_
 unfold op
 rw [e0]
 rfl
end Go.Ht
namespace Go.Ht
open Go Go.Eng Go.Ar Go.Rd Go.Vc Go.Iv
def Vd (x:Except Int Iv):Prop:=∀ v,x=.ok v->vi v
theorem Vd.bind {x:Except Int Iv} {k:Iv->Except Int Iv} (h:Vd x) (g:∀ v,vi v->Vd (k v)):Vd (x >>= k):=by
 cases x with
 | error e=>intro v hv; cases hv
 | ok v=>exact g v (h v rfl)
theorem Vd.skip {x:Except Int Unit} {k:Except Int Iv} (h:Vd k):Vd (x >>= fun _=>k):=by
 cases x with
 | error e=>intro v hv; cases hv
 | ok v=>exact h
theorem Vd.any {x:Except Int Iv} {k:Iv->Except Int Iv} (g:∀ v,Vd (k v)):Vd (x >>= k):=by
 cases x with
 | error e=>intro v hv; cases hv
 | ok v=>exact g v
theorem vd_ok {x:Iv} (h:vi x):Vd (.ok x):=fun v hv=>by cases hv; exact h
theorem vd_op {s:Sp} (k:s.e=0->Ri s):Vd (op s):=fun v hv=>by
 unfold op at hv
 cases h:s.e==0 with
 | false=>rw [h] at hv; cases hv
 | true=>
  rw [h] at hv
  cases hv
  exact (k (beq_iff_eq.1 h)).ok
theorem vd_div {x y:Iv} (h:vi x) (k:vi y):Vd (div hf0 x y):=by
 have h1:(divS x.lo x.hi y.lo y.hi).e=0->Ri (divS x.lo x.hi y.lo y.hi):=r_div (s:=⟨x.lo,x.hi,0⟩) (t:=⟨y.lo,y.hi,0⟩) (ri h) (ri k)
 exact vd_op h1
theorem vd_rt {x:Iv} (h:vi x):Vd (op (hf0.rt x.lo x.hi)):=by
 have h1:(sqrtS x.lo x.hi).e=0->Ri (sqrtS x.lo x.hi):=r_rt (s:=⟨x.lo,x.hi,0⟩) (ri h)
 exact vd_op h1
theorem vd_ng {x:Iv} (h:vi x):Vd (op (hf0.ng x.lo x.hi)):=by
 have k:=okSp_iff.1 h
 refine vd_op fun _=>?_
 show Ri (negS x.lo x.hi)
 unfold negS
 rw [h]
 exact ⟨by show _<=-x.hi; omega,by show -x.hi<=-x.lo; omega,by show -x.lo<=_; omega⟩
section
variable {S:Su} {ys:List Int} {p w:Ve} (hp:vv p) (hw:vv w)
include hp hw
theorem conic_vd {c k:Int} (hc:inL c) (hk:inK k):Vd (conicP hf0 p w c k):=by
 unfold conicP
 obtain ⟨p1,p2,p3⟩:=hp
 obtain ⟨w1,w2,w3⟩:=hw
 have p1:vi ⟨p.a,p.b⟩:=p1
 have p2:vi ⟨p.c,p.d⟩:=p2
 have w1:vi ⟨w.a,w.b⟩:=w1
 have w2:vi ⟨w.c,w.d⟩:=w2
 have w3:vi ⟨w.e,w.f⟩:=w3
 refine Vd.bind (gd_sqr p1).v fun x2 v1=>Vd.bind (gd_sqr p2).v fun y2 v2=>Vd.bind (gd_add v1 v2).v fun rr v3=>Vd.bind (gd_scl v3 (sc_c hc) (ok_c hc)).v fun f vf=>Vd.bind (gd_mul w1 p1).v fun lx v4=>Vd.bind (gd_mul w2 p2).v fun my v5=>Vd.bind (gd_add v4 v5).v fun lm v6=>Vd.bind (gd_scl v6 (sc_c hc) (ok_c hc)).v fun cl v7=>Vd.bind (gd_sub w3 v7).v fun g vg=>?_
 refine Vd.bind (gd_sqr w1).v fun l2 u1=>Vd.bind (gd_sqr w2).v fun m2 u2=>Vd.bind (gd_add u1 u2).v fun s2 u3=>Vd.bind (gd_sqr w3).v fun n2 u4=>Vd.bind (gd_scl u4 (sc_k hk) (ok_k hk)).v fun kn u5=>Vd.bind (gd_add u3 u5).v fun a ua=>?_
 refine Vd.bind (gd_sqr vg).v fun g2 vg2=>Vd.bind (gd_scl vf (sc_c hc) (ok_c hc)).v fun fc vfc=>Vd.bind (gd_mul vfc ua).v fun fa vfa=>Vd.bind (gd_sub vg2 vfa).v fun h vh=>Vd.skip ?_
 refine Vd.bind (vd_rt vh) fun r vr=>Vd.bind (?_:Vd (bif decide (w.f<0) then op (hf0.ng r.lo r.hi) else .ok r)) fun r' vr'=>Vd.bind (gd_add vg vr').v fun d vd=>Vd.bind (vd_div vf vd) fun t vt=>?_
 .cases decide (w.f<0)
  .exact vd_ok vr
  .exact vd_ng vr
 .exact Vd.any fun _=>Vd.any fun _=>Vd.any fun _=>Vd.any fun _=>Vd.skip (vd_ok vt)
end
theorem plane_vd {p w:Ve} (hp:vv p) (hw:vv w):∀ q a,planeP hf0 p w=.ok (q,a)->vv q:=by
 intro q a h
 obtain ⟨p1,p2,p3⟩:=hp
 obtain ⟨w1,w2,w3⟩:=hw
 have p1:vi ⟨p.a,p.b⟩:=p1
 have p2:vi ⟨p.c,p.d⟩:=p2
 have p3:vi ⟨p.e,p.f⟩:=p3
 have w1:vi ⟨w.a,w.b⟩:=w1
 have w2:vi ⟨w.c,w.d⟩:=w2
 have w3:vi ⟨w.e,w.f⟩:=w3
 unfold planeP at h
 have st:∀ {α:Type} {x:Except Int Iv} {k:Iv->Except Int α} {y:α},Vd x->(x >>= k)=.ok y->∃ v,vi v/\k v=.ok y:=fun {α x k y} hx e=>by
  cases x with
  | error e'=>cases e
  | ok v=>exact ⟨v,hx v rfl,e⟩
 obtain ⟨m,vm,h⟩:=st (vd_ng p3) h
 obtain ⟨t,vt,h⟩:=st (vd_div vm w3) h
 obtain ⟨x,vx,h⟩:=st (gd_mul vt w1).v h
 obtain ⟨b,vb,h⟩:=st (gd_add p1 vx).v h
 obtain ⟨c,vc,h⟩:=st (gd_mul vt w2).v h
 obtain ⟨d,vd,h⟩:=st (gd_add p2 vc).v h
 cases h
 exact ⟨vb,vd,(by decide:okSp 0 0=true)⟩
theorem bcong {α β:Type} {x:Except Int α} {k k':α->Except Int β} (h:∀ a,x=.ok a->k a=k' a):(x >>= k)=(x >>= k'):=by
 cases x with
 | error e=>rfl
 | ok a=>exact h a rfl
theorem hit_eq {S:Su} {ys:List Int} {p w:Ve} (hr:rightS S ys=true) (hp:vv p) (hw:vv w) (he:-4294967296<=w.e) (hf:w.f<=4294967296):hitR hf0 S ys p w=hitP hf0 S ys p w:=by
 have hc:=(right_std hr).hc
 have hk:=(right_std hr).hk
 have hl:=(right_bic hr).hl
 have ef:=(okSp_iff.1 hw.2.2).2.1
 unfold hitR hitP
 refine bcong fun x hpl=>?_
 obtain ⟨q,a⟩:=x
 have vq:=plane_vd hp hw q a hpl
 have cv:∀ {c k:Int},inL c->inK k->curvedR hf0 S ys q w c k=curvedP hf0 S ys q w c k:=fun {c k} hc hk=>by
  unfold curvedR curvedP
  rw [conic_eq vq hw hc hk]
  have cb:=conic_vd vq hw hc hk
  generalize conicP hf0 q w c k=z at cb
  cases z with
  | error e=>rfl
  | ok b=>
   exact (widths_eq (fun t vt=>mul_unit vt he ef hf) (cb b rfl) _ (by
    intro n hn
    simp only [List.mem_cons,List.not_mem_nil,or_false] at hn
    omega)).symm
 have e:wayR hf0 S ys q w=wayP hf0 S ys q w:=by
  unfold wayR wayP
  rw [conic_eq vq hw hc hk,cv hc hk,cv (by unfold inL at hc hl ⊢; omega) (by unfold inK; omega)]
 show (wayR hf0 S ys q w >>= _)=(wayP hf0 S ys q w >>= _)
 rw [e]
end Go.Ht
namespace Go.Ht
open Go Go.Eng Go.Ar Go.Rd Go.Vc
section
variable (F:HF) (S:Su) (ys:List Int) (Q w:Ve)
def tc (t:Iv):Bool:=tryC (near F S ys Q w t) != 0
def mS (t:Iv):Sp:=F.mt (tryI (near F S ys Q w t)).lo (tryI (near F S ys Q w t)).hi t.lo t.hi
def te (t:Iv):Bool:=(mS F S ys Q w t).e != 0
def nx (t:Iv):Iv:=⟨(mS F S ys Q w t).lo,(mS F S ys Q w t).hi⟩
def gd (t:Iv):Bool:=!tc F S ys Q w t&&!te F S ys Q w t
def bR (t:Iv):Bool:=tc F S ys Q w t||!tc F S ys Q w t&&te F S ys Q w t
def ct (t:Iv):Bool:=bif decide ((tryI (near F S ys Q w t)).lo>t.lo) then decide ((tryI (near F S ys Q w t)).hi<t.hi) else false
def gds:Nat->Iv->Bool
 | 0,t=>gd F S ys Q w t
 | n+1,t=>gd F S ys Q w t&&gds n (nx F S ys Q w t)
def bds:Nat->Iv->Bool
 | 0,t=>bR F S ys Q w t
 | n+1,t=>gd F S ys Q w t&&bds n (nx F S ys Q w t)||bR F S ys Q w t
def cts:Nat->Bool->Iv->Bool
 | 0,b,_=>b
 | n+1,b,t=>cts n (bif b then true else ct F S ys Q w t) (nx F S ys Q w t)
def crt (t:Iv):Bool:=cts F S ys Q w 7 (ct F S ys Q w t) (nx F S ys Q w t)
def fin:Nat->Iv->Iv
 | 0,t=>t
 | n+1,t=>fin n (nx F S ys Q w t)
variable (b:Iv)
def wA (n:Int):Sp:=F.ad b.lo b.hi (-n) n
def wE (n:Int):Bool:=(wA F b n).e != 0
def wT (n:Int):Iv:=⟨(wA F b n).lo,(wA F b n).hi⟩
def wOk' (n:Int):Bool:=!wE F b n&&(gds F S ys Q w 7 (wT F b n)&&crt F S ys Q w (wT F b n))
def wNo (n:Int):Bool:=!wE F b n&&(gds F S ys Q w 7 (wT F b n)&&!crt F S ys Q w (wT F b n))||(wE F b n||!wE F b n&&bds F S ys Q w 7 (wT F b n))
def wF (n:Int):Iv:=fin F S ys Q w 8 (wT F b n)
def allOk:Bool:=wOk' F S ys Q w b 1048576||wNo F S ys Q w b 1048576&&(wOk' F S ys Q w b 67108864||wNo F S ys Q w b 67108864&&(wOk' F S ys Q w b 2147483648||wNo F S ys Q w b 2147483648&&wOk' F S ys Q w b 34359738368))
def allNo:Bool:=wNo F S ys Q w b 1048576&&(wNo F S ys Q w b 67108864&&(wNo F S ys Q w b 2147483648&&wNo F S ys Q w b 34359738368))
def tLo:Int:=bif wOk' F S ys Q w b 1048576 then (wF F S ys Q w b 1048576).lo else bif wOk' F S ys Q w b 67108864 then (wF F S ys Q w b 67108864).lo else bif wOk' F S ys Q w b 2147483648 then (wF F S ys Q w b 2147483648).lo else (wF F S ys Q w b 34359738368).lo
def tHi:Int:=bif wOk' F S ys Q w b 1048576 then (wF F S ys Q w b 1048576).hi else bif wOk' F S ys Q w b 67108864 then (wF F S ys Q w b 67108864).hi else bif wOk' F S ys Q w b 2147483648 then (wF F S ys Q w b 2147483648).hi else (wF F S ys Q w b 34359738368).hi
def ndR (k:Prop):Nat->Iv->Prop
 | 0,_=>k
 | n+1,t=>k/\(gd F S ys Q w t=true->ndR k n (nx F S ys Q w t))
def ndW (k:Prop) (n:Int):Prop:=(!wE F b n)=true->ndR F S ys Q w k 7 (wT F b n)
def ndA (k:Prop):Prop:=ndW F S ys Q w b k 1048576/\(wNo F S ys Q w b 1048576=true->ndW F S ys Q w b k 67108864/\(wNo F S ys Q w b 67108864=true->ndW F S ys Q w b k 2147483648/\(wNo F S ys Q w b 2147483648=true->ndW F S ys Q w b k 34359738368)))
theorem ndR_ok {k:Prop} (h:k):∀ n t,ndR F S ys Q w k n t
 | 0,_=>h
 | n+1,_=>⟨h,fun _=>ndR_ok h n _⟩
theorem ndA_ok {k:Prop} (h:k):ndA F S ys Q w b k:=⟨fun _=>ndR_ok F S ys Q w h _ _,fun _=>⟨fun _=>ndR_ok F S ys Q w h _ _,fun _=>⟨fun _=>ndR_ok F S ys Q w h _ _,fun _ _=>ndR_ok F S ys Q w h _ _⟩⟩⟩
def aW (l:Sp) (x y:Int):Sp:=F.ad l.lo l.hi x y
def tb (q:Sp->Bool) (l:Sp) (x y:Int):Bool:=ptOk F Q w x y&&bd q (aW F l x y)||ptBad F Q w q x y
def ansV (z:Int->Int) (l:Sp) (x y:Int) (c e:Int):AV:=.tuple [.agg [.int true .i64 (z (p2 F Q w x y).lo),.int true .i64 (z (p2 F Q w x y).hi),.int true .i64 (z (p4 F Q w x y).lo),.int true .i64 (z (p4 F Q w x y).hi),.int true .i64 (z (p5 F Q w x y).lo),.int true .i64 (z (p5 F Q w x y).hi)],.agg [.int true .i64 (z (aW F l x y).lo),.int true .i64 (z (aW F l x y).hi)],.int true .i64 c,.int true .i64 e]
variable (l:Sp)
def cB2:Bool:=allNo F S ys Q w b||allOk F S ys Q w b&&tb F Q w q2 l (tLo F S ys Q w b) (tHi F S ys Q w b)
def cB5:Bool:=allOk F S ys Q w b&&tb F Q w q6 l (tLo F S ys Q w b) (tHi F S ys Q w b)
def cAns:AV:=ansV F Q w (fun v=>bif cB2 F S ys Q w b l then 0 else bif cB5 F S ys Q w b l then 0 else v) l (tLo F S ys Q w b) (tHi F S ys Q w b) (bif cB2 F S ys Q w b l then 2 else bif cB5 F S ys Q w b l then 5 else 0) (bif cB2 F S ys Q w b l then 9 else bif cB5 F S ys Q w b l then 9 else 0)
def ndT:Prop:=allOk F S ys Q w b=true->ptOk F Q w (tLo F S ys Q w b) (tHi F S ys Q w b)=true->E2 (tLo F S ys Q w b) (tHi F S ys Q w b)/\E2 l.lo l.hi
end
section
variable (F:HF) (Q w:Ve) (c k:Int) (l:Sp)
def fB5:Bool:=coO F Q w c k&&tb F Q w q6 l (cT F Q w c k).lo (cT F Q w c k).hi||coF F Q w c k
def fB2:Bool:=coU F Q w c k||coO F Q w c k&&tb F Q w q2 l (cT F Q w c k).lo (cT F Q w c k).hi
def fOk:Bool:=coO F Q w c k&&(ptOk F Q w (cT F Q w c k).lo (cT F Q w c k).hi&&ok0 (aW F l (cT F Q w c k).lo (cT F Q w c k).hi))
def fAns:AV:=ansV F Q w (fun v=>bif fB5 F Q w c k l then 0 else bif fB2 F Q w c k l then 0 else bif fOk F Q w c k l then v else 0) l (cT F Q w c k).lo (cT F Q w c k).hi (bif fB5 F Q w c k l then 5 else bif fB2 F Q w c k l then 2 else bif fOk F Q w c k l then 0 else 1) (bif fB5 F Q w c k l then 9 else bif fB2 F Q w c k l then 9 else bif fOk F Q w c k l then 0 else 9)
end
def flB (S:Su):Bool:=S.a0==0&&(S.a1==0&&(S.a2==0&&(S.a3==0&&true)))
def lQ (F:HF) (p w:Ve):Ve:=⟨(lB F p w).lo,(lB F p w).hi,(lD F p w).lo,(lD F p w).hi,0,0⟩
end Go.Ht
namespace Go.Ht
open Go Go.Eng Go.Ar Go.Rd Go.Vc
section
variable (F:HF) (S:Su) (ys:List Int) (Q w:Ve)
theorem orA (b p q:Bool):(b||(p&&q))=bif b then true else bif p then q else false:=by cases b <;> cases p <;> rfl
theorem round_gd (t:Iv) (b:Bool):roundP F S ys Q w t b=bif gd F S ys Q w t then some (nx F S ys Q w t,bif b then true else ct F S ys Q w t) else none:=by
 unfold roundP gd te nx ct tc mS
 rcases near_tri F S ys Q w t with ⟨h1,_⟩|⟨h1,_⟩|⟨h1,_⟩
 .rw [h1]
  simp only [tryC,tryI,bne_self_eq_false,Bool.not_false,Bool.true_and]
  rw [bne,Bool.not_not,orA]
  cases (F.mt (nR F S ys Q w t).lo (nR F S ys Q w t).hi t.lo t.hi).e==0
  .rfl
  .rfl
 .rw [h1]; rfl
 .rw [h1]; rfl
theorem rounds_gd:∀ (n:Nat) (t:Iv) (b:Bool),roundsP F S ys Q w (n+1) t b=bif gds F S ys Q w n t then some (fin F S ys Q w (n+1) t,cts F S ys Q w n (bif b then true else ct F S ys Q w t) (nx F S ys Q w t)) else none
 | 0,t,b=>by
  simp only [roundsP,round_gd,gds,fin,cts]
  cases gd F S ys Q w t <;> rfl
 | n+1,t,b=>by
  rw [roundsP,round_gd]
  rw [gds]
  cases gd F S ys Q w t with
  | false=>rfl
  | true=>
   simp only [cond_true,Bool.true_and]
   rw [rounds_gd n]
   rfl
theorem bR_eq (t:Iv):bR F S ys Q w t=!gd F S ys Q w t:=by
 unfold bR gd
 cases tc F S ys Q w t <;> cases te F S ys Q w t <;> rfl
theorem bds_eq:∀ (n:Nat) (t:Iv),bds F S ys Q w n t=!gds F S ys Q w n t
 | 0,t=>bR_eq F S ys Q w t
 | n+1,t=>by
  rw [bds,gds,bds_eq n,bR_eq]
  cases gd F S ys Q w t <;> cases gds F S ys Q w n (nx F S ys Q w t) <;> rfl
variable (b:Iv)
theorem wNo_eq (n:Int):wNo F S ys Q w b n=!wOk' F S ys Q w b n:=by
 unfold wNo wOk'
 rw [bds_eq]
 cases wE F b n <;> cases gds F S ys Q w 7 (wT F b n) <;> cases crt F S ys Q w (wT F b n) <;> rfl
theorem wide_eq (n:Int):wide F S ys Q w b n=bif wOk' F S ys Q w b n then some (wF F S ys Q w b n) else none:=by
 unfold wide wOk'
 have h:((F.ad b.lo b.hi (-n) n).e==0)=!wE F b n:=by unfold wE wA; rw [bne,Bool.not_not]
 rw [h,rounds_gd F S ys Q w 7]
 cases wE F b n with
 | true=>rfl
 | false=>
  show (match bif gds F S ys Q w 7 (wT F b n) then some (wF F S ys Q w b n,crt F S ys Q w (wT F b n)) else none with|some (t,true)=>some t|_=>none)=_
  cases gds F S ys Q w 7 (wT F b n) with
  | false=>rfl
  | true=>cases crt F S ys Q w (wT F b n) <;> rfl
theorem widths_all:(allOk F S ys Q w b=true/\allNo F S ys Q w b=false/\widths F S ys Q w b [1048576,67108864,2147483648,34359738368]=.ok ⟨tLo F S ys Q w b,tHi F S ys Q w b⟩)\/(allOk F S ys Q w b=false/\allNo F S ys Q w b=true/\widths F S ys Q w b [1048576,67108864,2147483648,34359738368]=.error 2):=by
 simp only [widths,wide_eq]
 unfold allOk allNo tLo tHi
 simp only [wNo_eq]
 cases wOk' F S ys Q w b 1048576
 .cases wOk' F S ys Q w b 67108864
  .cases wOk' F S ys Q w b 2147483648
   .cases wOk' F S ys Q w b 34359738368
    .exact .inr ⟨rfl,rfl,rfl⟩
    .exact .inl ⟨rfl,rfl,rfl⟩
   .exact .inl ⟨rfl,rfl,rfl⟩
  .exact .inl ⟨rfl,rfl,rfl⟩
 .exact .inl ⟨rfl,rfl,rfl⟩
def behind (l:Iv) (r:Except Int Iv):HO:=match (do
  let t<-r
  let at'<-toP F Q w t
  let b<-add F l t
  return (at',b)) with
 | .ok (a,t)=>⟨a,t,0,0⟩
 | .error c=>⟨ve0,⟨0,0⟩,c,9⟩
def hoV (o:HO):AV:=.tuple [.agg o.at'.cells,.agg [.int true .i64 o.way.lo,.int true .i64 o.way.hi],.int true .i64 o.c,.int true .i64 o.e]
theorem end_tri (l:Sp) (x y:Int):(behind F Q w ⟨l.lo,l.hi⟩ (.ok ⟨x,y⟩)=⟨⟨(p2 F Q w x y).lo,(p2 F Q w x y).hi,(p4 F Q w x y).lo,(p4 F Q w x y).hi,(p5 F Q w x y).lo,(p5 F Q w x y).hi⟩,⟨(aW F l x y).lo,(aW F l x y).hi⟩,0,0⟩/\tb F Q w q2 l x y=false/\tb F Q w q6 l x y=false/\(ptOk F Q w x y&&ok0 (aW F l x y))=true) ∨
  (behind F Q w ⟨l.lo,l.hi⟩ (.ok ⟨x,y⟩)=⟨ve0,⟨0,0⟩,2,9⟩/\tb F Q w q2 l x y=true/\tb F Q w q6 l x y=false/\(ptOk F Q w x y&&ok0 (aW F l x y))=false)\/(behind F Q w ⟨l.lo,l.hi⟩ (.ok ⟨x,y⟩)=⟨ve0,⟨0,0⟩,5,9⟩/\tb F Q w q2 l x y=false/\tb F Q w q6 l x y=true/\(ptOk F Q w x y&&ok0 (aW F l x y))=false):=by
 unfold behind tb
 simp only [add,bind,Except.bind,pure,Except.pure]
 rcases tri_to F Q w x y with ⟨a1,a2,a3,a4⟩|⟨a1,a2,a3,a4⟩|⟨a1,a2,a3,a4⟩
 .rw [a1]; simp only []
  rcases tri_op (aW F l x y) with ⟨v,b1,rfl,b2,b3,b4⟩|⟨b1,b2,b3,b4⟩|⟨b1,b2,b3,b4⟩ <;>
  .rw [show op (F.ad l.lo l.hi x y)=_ from b1]; simp [a2,a3,a4,b2,b3,b4]
 all_goals (rw [a1]; simp [a2,a3,a4])
theorem cAns_eq (l:Sp):cAns F S ys Q w b l=hoV (behind F Q w ⟨l.lo,l.hi⟩ (widths F S ys Q w b [1048576,67108864,2147483648,34359738368])):=by
 unfold cAns
 rcases widths_all F S ys Q w b with ⟨h1,h2,h3⟩|⟨h1,h2,h3⟩
 .rw [h3]
  have hb2:cB2 F S ys Q w b l=tb F Q w q2 l (tLo F S ys Q w b) (tHi F S ys Q w b):=by unfold cB2; rw [h1,h2]; rfl
  have hb5:cB5 F S ys Q w b l=tb F Q w q6 l (tLo F S ys Q w b) (tHi F S ys Q w b):=by unfold cB5; rw [h1]; rfl
  rw [hb2,hb5]
  rcases end_tri F Q w l (tLo F S ys Q w b) (tHi F S ys Q w b) with ⟨e1,e2,e3,_⟩|⟨e1,e2,e3,_⟩|⟨e1,e2,e3,_⟩ <;>
  .rw [e1,e2,e3]; rfl
 .rw [h3]
  have hb2:cB2 F S ys Q w b l=true:=by unfold cB2; rw [h2]; rfl
  rw [hb2]; rfl
end
section
variable (F:HF) (Q w:Ve) (c k:Int) (l:Sp)
theorem fAns_eq:fAns F Q w c k l=hoV (behind F Q w ⟨l.lo,l.hi⟩ (conicP F Q w c k)):=by
 unfold fAns
 rcases conic_tri F Q w c k with ⟨h1,h2,h3,h4,h5⟩|⟨h1,h2,h3,h4,h5⟩|⟨h1,h2,h3,h4,h5⟩|⟨h1,h2,h3,h4,h5⟩
 .rw [h1]
  have hb5:fB5 F Q w c k l=tb F Q w q6 l (cT F Q w c k).lo (cT F Q w c k).hi:=by unfold fB5; rw [h4,h5,Bool.or_false,Bool.true_and]
  have hb2:fB2 F Q w c k l=tb F Q w q2 l (cT F Q w c k).lo (cT F Q w c k).hi:=by unfold fB2; rw [h3,h4,Bool.false_or,Bool.true_and]
  have hok:fOk F Q w c k l=(ptOk F Q w (cT F Q w c k).lo (cT F Q w c k).hi&&ok0 (aW F l (cT F Q w c k).lo (cT F Q w c k).hi)):=by unfold fOk; rw [h4,Bool.true_and]
  rw [hb5,hb2,hok]
  rcases end_tri F Q w l (cT F Q w c k).lo (cT F Q w c k).hi with ⟨e1,e2,e3,e4⟩|⟨e1,e2,e3,e4⟩|⟨e1,e2,e3,e4⟩ <;>
  .rw [e1,e2,e3,e4]; rfl
 .have hb5:fB5 F Q w c k l=false:=by unfold fB5; rw [h4,h5]; rfl
  have hb2:fB2 F Q w c k l=false:=by unfold fB2; rw [h3,h4]; rfl
  have hok:fOk F Q w c k l=false:=by unfold fOk; rw [h4]; rfl
  rw [h1,hb5,hb2,hok]; rfl
 .have hb5:fB5 F Q w c k l=false:=by unfold fB5; rw [h4,h5]; rfl
  have hb2:fB2 F Q w c k l=true:=by unfold fB2; rw [h3]; rfl
  rw [h1,hb5,hb2]; rfl
 .have hb5:fB5 F Q w c k l=true:=by unfold fB5; rw [h4,h5]; rfl
  rw [h1,hb5]; rfl
end
end Go.Ht
namespace Go.Ht
open Go Go.Eng Go.Ar Go.Rd Go.Vc
theorem hf0_e:(∀ a b,inE (hf0.ng a b).e)/\(∀ a b c d,inE (hf0.di a b c d).e)/\(∀ a b c d,inE (hf0.mu a b c d).e)/\(∀ a b c d,inE (hf0.ad a b c d).e):=⟨neg_in,div_in,mul_in,add_in⟩
section
variable {s:Su} {ys:List Int} {p w:Ve}
theorem ans_bad (h:rightS s ys=false):hitA hf0 s ys p w=⟨ve0,⟨0,0⟩,0,110⟩:=by
 have:hf0.ck s ys=110:=by show (bif rightS s ys then _ else _)=_; rw [h]; rfl
 unfold hitA
 rw [this]; rfl
theorem rc_two (F:HF) (p w:Ve):rcE F p w=0/\(F.vc p==0&&F.vc w==0)=true\/rcE F p w=240/\(F.vc p==0&&F.vc w==0)=false:=by
 unfold rcE
 rw [bne,bne,Bool.not_not,Bool.not_not]
 cases F.vc p==0 <;> cases F.vc w==0
 .exact .inr ⟨rfl,rfl⟩
 .exact .inr ⟨rfl,rfl⟩
 .exact .inr ⟨rfl,rfl⟩
 .exact .inl ⟨rfl,rfl⟩
theorem ck_ok (h:rightS s ys=true):hf0.ck s ys=0:=by show (bif rightS s ys then _ else _)=_; rw [h]; rfl
theorem ans_ray (h:rightS s ys=true) (hr:rcE hf0 p w=240):hitA hf0 s ys p w=⟨ve0,⟨0,0⟩,0,240⟩:=by
 rcases rc_two hf0 p w with ⟨h1,_⟩|⟨_,h2⟩
 .rw [h1] at hr; cases hr
 .unfold hitA
  rw [ck_ok h,h2]; rfl
theorem rc_l1 {F:HF} (hr:rcE F p w=0):l1 F p w=true:=by unfold l1; rw [hr]; rfl
theorem ans_good (h:rightS s ys=true) (hr:rcE hf0 p w=0):hitA hf0 s ys p w=match hitP hf0 s ys p w with
  | .ok (a,t)=>⟨a,t,0,0⟩
  | .error c=>⟨ve0,⟨0,0⟩,c,9⟩:=by
 rcases rc_two hf0 p w with ⟨_,h2⟩|⟨h1,_⟩
 .unfold hitA
  rw [ck_ok h,h2]; rfl
 .rw [h1] at hr; cases hr
theorem ans_pl (h:rightS s ys=true) (hr:rcE hf0 p w=0) (he:plE hf0 p w≠0):hitA hf0 s ys p w=⟨ve0,⟨0,0⟩,why (plE hf0 p w),9⟩:=by
 rw [ans_good h hr]
 rcases plane_tri hf0 p w (rc_l1 hr) with ⟨_,h2,_⟩|⟨h1,_,_⟩
 .exact absurd h2 he
 .unfold hitP
  rw [h1]; rfl
theorem plane_ok (hr:rcE hf0 p w=0) (he:plE hf0 p w=0):planeP hf0 p w=.ok (lQ hf0 p w,⟨(lT hf0 p w).lo,(lT hf0 p w).hi⟩):=by
 rcases plane_tri hf0 p w (rc_l1 hr) with ⟨h1,_,_⟩|⟨_,h2,_⟩
 .exact h1
 .exact absurd he h2
theorem ans_34 (h:rightS s ys=true) (hr:rcE hf0 p w=0) (he:plE hf0 p w=0) (hk:s.kd=3\/s.kd=4):hitA hf0 s ys p w=⟨lQ hf0 p w,⟨(lT hf0 p w).lo,(lT hf0 p w).hi⟩,0,0⟩:=by
 rw [ans_good h hr]
 unfold hitP wayP
 rw [plane_ok hr he]
 rcases hk with hk|hk <;> rw [hk] <;> rfl
theorem ans_12 (h:rightS s ys=true) (hr:rcE hf0 p w=0) (he:plE hf0 p w=0) (hk:s.kd=1\/s.kd=2):hitA hf0 s ys p w=behind hf0 (lQ hf0 p w) w ⟨(lT hf0 p w).lo,(lT hf0 p w).hi⟩ (wayP hf0 s ys (lQ hf0 p w) w):=by
 rw [ans_good h hr]
 unfold hitP behind
 rw [plane_ok hr he]
 have hb:(s.kd==1||s.kd==2)=true:=by rcases hk with hk|hk <;> rw [hk] <;> rfl
 simp only [hb,cond_true]
 rfl
theorem fl_eq (s:Su):flB s=flat s:=by
 unfold flB flat
 rw [Bool.and_true]
theorem way_1f (hk:s.kd=1) (hf:flB s=true) (Q:Ve):wayP hf0 s ys Q w=conicP hf0 Q w s.c s.k:=by
 unfold wayP
 rw [hk,<- fl_eq,hf]; rfl
theorem way_1c (hk:s.kd=1) (hf:flB s=false) (Q:Ve):wayP hf0 s ys Q w=curvedP hf0 s ys Q w s.c s.k:=by
 unfold wayP
 rw [hk,<- fl_eq,hf]; rfl
theorem way_2 (hk:s.kd=2) (Q:Ve):wayP hf0 s ys Q w=curvedP hf0 s ys Q w ((s.c+s.l) / 2) 0:=by
 unfold wayP
 rw [hk]; rfl
theorem curved_c (Q:Ve) (c k:Int):(tryC (conicP hf0 Q w c k)=0/\curvedP hf0 s ys Q w c k=widths hf0 s ys Q w (tryI (conicP hf0 Q w c k)) [1048576,67108864,2147483648,34359738368])\/(tryC (conicP hf0 Q w c k)=1/\curvedP hf0 s ys Q w c k=.error 2)\/(tryC (conicP hf0 Q w c k)=2/\curvedP hf0 s ys Q w c k=.error 2)\/(tryC (conicP hf0 Q w c k)=5/\curvedP hf0 s ys Q w c k=.error 5):=by
 unfold curvedP
 rcases conic_tri hf0 Q w c k with ⟨h1,_⟩|⟨h1,_⟩|⟨h1,_⟩|⟨h1,_⟩ <;> rw [h1]
 .exact .inl ⟨rfl,rfl⟩
 .exact .inr (.inl ⟨rfl,rfl⟩)
 .exact .inr (.inr (.inl ⟨rfl,rfl⟩))
 .exact .inr (.inr (.inr ⟨rfl,rfl⟩))
end
end Go.Ht
namespace Go.Ht
open Go Go.Eng Go.Ar Go.Rd Go.Vc
section
variable (F:HF) (S:Su) (ys:List Int) (p w:Ve)
def e1:Sp:=kS 0 (F.ng p.e p.f)
def e2:Sp:=kS (e1 F p).e (F.di (e1 F p).lo (e1 F p).hi w.e w.f)
def e3:Sp:=kS (e2 F p w).e (F.mu (e2 F p w).lo (e2 F p w).hi w.a w.b)
def e4:Sp:=kS (e3 F p w).e (F.ad p.a p.b (e3 F p w).lo (e3 F p w).hi)
def e5:Sp:=kS (e4 F p w).e (F.mu (e2 F p w).lo (e2 F p w).hi w.c w.d)
def e6:Sp:=kS (e5 F p w).e (F.ad p.c p.d (e5 F p w).lo (e5 F p w).hi)
def eQ:Ve:=⟨(e4 F p w).lo,(e4 F p w).hi,(e6 F p w).lo,(e6 F p w).hi,0,0⟩
variable (nf:Bool) (c k:Int)
def eB:Except Int Iv:=conicR F (eQ F p w) w c k
def eI (n:Int):Bool:=nwIs F S ys (eQ F p w) w (tryI (eB F p w c k)).lo (tryI (eB F p w c k)).hi n
def eV (n:Int) (f:Iv->Int):Int:=nwV F S ys (eQ F p w) w (tryI (eB F p w c k)).lo (tryI (eB F p w c k)).hi n (f (nwF F S ys (eQ F p w) w (tryI (eB F p w c k)).lo (tryI (eB F p w c k)).hi n))
def eN:Bool:=!eI F S ys p w c k 1048576&&(!eI F S ys p w c k 67108864&&(!eI F S ys p w c k 2147483648&&!eI F S ys p w c k 34359738368))
def eC:Int:=bif nf then bif tryC (eB F p w c k)==5 then tryC (eB F p w c k) else bif tryC (eB F p w c k) != 0 then 2 else bif eN F S ys p w c k then 2 else 0 else tryC (eB F p w c k)
def eT (f:Iv->Int):Int:=bif nf then bif tryC (eB F p w c k)==5 then 0 else bif tryC (eB F p w c k) != 0 then 0 else bif eN F S ys p w c k then 0 else bif eI F S ys p w c k 1048576 then eV F S ys p w c k 1048576 f else bif eI F S ys p w c k 67108864 then eV F S ys p w c k 67108864 f else bif eI F S ys p w c k 2147483648 then eV F S ys p w c k 2147483648 f else eV F S ys p w c k 34359738368 f else f (tryI (eB F p w c k))
end
section
variable (F:HF) (p w:Ve) (x y:Int)
def e7:Sp:=kS (e6 F p w).e (F.mu x y w.a w.b)
def e8:Sp:=kS (e7 F p w x y).e (F.ad (e4 F p w).lo (e4 F p w).hi (e7 F p w x y).lo (e7 F p w x y).hi)
def e9:Sp:=kS (e8 F p w x y).e (F.mu x y w.c w.d)
def e10:Sp:=kS (e9 F p w x y).e (F.ad (e6 F p w).lo (e6 F p w).hi (e9 F p w x y).lo (e9 F p w x y).hi)
def e11:Sp:=kS (e10 F p w x y).e (F.mu x y w.e w.f)
def e12:Sp:=kS (e11 F p w x y).e (F.ad (e2 F p w).lo (e2 F p w).hi x y)
def eZ (C z:Int):Int:=bif (e6 F p w).e != 0 then 0 else bif C != 0 then 0 else bif (e12 F p w x y).e != 0 then 0 else z
def eAv (C:Int):AV:=.tuple [.agg [.int true .i64 (eZ F p w x y C (e8 F p w x y).lo),.int true .i64 (eZ F p w x y C (e8 F p w x y).hi),.int true .i64 (eZ F p w x y C (e10 F p w x y).lo),.int true .i64 (eZ F p w x y C (e10 F p w x y).hi),.int true .i64 (eZ F p w x y C (e11 F p w x y).lo),.int true .i64 (eZ F p w x y C (e11 F p w x y).hi)],
 .agg [.int true .i64 (eZ F p w x y C (e12 F p w x y).lo),.int true .i64 (eZ F p w x y C (e12 F p w x y).hi)],.int true .i64 (bif (e6 F p w).e != 0 then why (e6 F p w).e else bif C != 0 then C else bif (e12 F p w x y).e != 0 then why (e12 F p w x y).e else 0),.int true .i64 (bif (e6 F p w).e != 0 then 9 else bif C != 0 then 9 else bif (e12 F p w x y).e != 0 then 9 else 0)]
theorem st_bind {α β:Type} (s:Sp) (k:Except Int α) (f:α->Except Int β):(st s k >>= f)=st s (k >>= f):=by
 unfold st
 cases ok0 s <;> rfl
def hoR (r:Except Int (Ve×Iv)):HO:=match r with
 | .ok (a,t)=>⟨a,t,0,0⟩
 | .error c=>⟨ve0,⟨0,0⟩,c,9⟩
theorem e_er6 {C e:Int} (h:(e6 F p w).e=e) (h0:e≠0):eAv F p w x y C=hoV (hoR (.error (why e))):=by
 have:((e6 F p w).e != 0)=true:=by rw [h]; simpa using h0
 unfold eAv eZ
 rw [this,h]; rfl
theorem e_er12 {e:Int} (h6:(e6 F p w).e=0) (h:(e12 F p w x y).e=e) (h0:e≠0):eAv F p w x y 0=hoV (hoR (.error (why e))):=by
 have:((e12 F p w x y).e != 0)=true:=by rw [h]; simpa using h0
 unfold eAv eZ
 rw [h6,this,h]; rfl
theorem e_erC {C:Int} (h6:(e6 F p w).e=0) (h0:C≠0):eAv F p w x y C=hoV (hoR (.error C)):=by
 have:(C != 0)=true:=by simpa using h0
 unfold eAv eZ
 rw [h6,this]; rfl
end
def P3 (r:Except Int Iv):Prop:=(∃ v,r=.ok v)\/r=.error 1\/r=.error 2\/r=.error 5
theorem P3.st {s:Sp} {k:Except Int Iv} (h:P3 k):P3 (st s k):=by
 rcases st_two s with ⟨_,e⟩|⟨_,e⟩
 .rw [e]; exact h
 .rw [e]
  unfold why
  cases s.e==6
  .exact .inr (.inr (.inl rfl))
  .exact .inr (.inr (.inr rfl))
theorem P3.ng {b:Bool} {s:Sp} {k:Except Int Iv} (h:P3 k):P3 (ng b s k):=by
 unfold Ht.ng
 cases b&&!ok0 s
 .exact h
 .unfold why
  cases s.e==6
  .exact .inr (.inr (.inl rfl))
  .exact .inr (.inr (.inr rfl))
theorem P3.ps {b d:Bool} {k:Except Int Iv} (h:P3 k):P3 (bif b then .error 1 else bif d then .error 2 else k):=by
 cases b
 .cases d
  .exact h
  .exact .inr (.inr (.inl rfl))
 .exact .inr (.inl rfl)
theorem conicR_3 (F:HF) (p w:Ve) (c k:Int):P3 (conicR F p w c k):=by
 rw [conicR_st]
 iterate 19 refine P3.st ?_
 refine P3.ps (P3.st (P3.ng ?_))
 iterate 6 refine P3.st ?_
 exact P3.ps (.inl ⟨_,rfl⟩)
section
variable (F:HF) (S:Su) (ys:List Int) (p w:Ve) (c k:Int)
theorem nwV_is {Q:Ve} {a b m z:Int} (h:nwIs F S ys Q w a b m=true):nwV F S ys Q w a b m z=z:=by
 unfold nwIs at h
 unfold nwV
 cases h1:rW0 F a b m with
 | true=>rw [h1] at h; cases h
 | false=>
  cases h2:rGs F S ys Q w 7 (rT F a b m) with
  | false=>rw [h1,h2] at h; cases h
  | true=>rfl
theorem curved_eC:(eC F S ys p w true c k=0/\curvedR F S ys (eQ F p w) w c k=.ok ⟨eT F S ys p w true c k Iv.lo,eT F S ys p w true c k Iv.hi⟩)\/(eC F S ys p w true c k≠0/\curvedR F S ys (eQ F p w) w c k=.error (eC F S ys p w true c k)):=by
 have h3:=conicR_3 F (eQ F p w) w c k
 have w1:IntKind.i64.wrap (0 - 1048576)=-1048576:=by decide
 have w2:IntKind.i64.wrap (0 - 67108864)=-67108864:=by decide
 have w3:IntKind.i64.wrap (0 - 2147483648)=-2147483648:=by decide
 have w4:IntKind.i64.wrap (0 - 34359738368)=-34359738368:=by decide
 unfold curvedR eC eT
 unfold P3 at h3
 have hB:eB F p w c k=conicR F (eQ F p w) w c k:=rfl
 rcases h3 with ⟨v,h3⟩|h3|h3|h3
 .rw [hB,h3]
  have hI:∀ n,nwIs F S ys (eQ F p w) w v.lo v.hi n=eI F S ys p w c k n:=fun n=>by unfold eI; rw [hB,h3]; rfl
  have hF:∀ n (f:Iv->Int),eI F S ys p w c k n=true->eV F S ys p w c k n f=f (nwF F S ys (eQ F p w) w v.lo v.hi n):=fun n f hi=>by
   have hi':=hi
   unfold eI at hi'
   unfold eV
   rw [nwV_is F S ys w hi',hB,h3]; rfl
  simp only [widthsR,wideR_rg F S ys (eQ F p w) w v _ w1,wideR_rg F S ys (eQ F p w) w v _ w2,wideR_rg F S ys (eQ F p w) w v _ w3,wideR_rg F S ys (eQ F p w) w v _ w4,hI]
  show (_/\_)\/_
  unfold eN
  cases i1:eI F S ys p w c k 1048576 with
  | true=>simp [tryC,hF _ _ i1]
  | false=>
  cases i2:eI F S ys p w c k 67108864 with
  | true=>simp [tryC,hF _ _ i2]
  | false=>
  cases i3:eI F S ys p w c k 2147483648 with
  | true=>simp [tryC,hF _ _ i3]
  | false=>
  cases i4:eI F S ys p w c k 34359738368 with
  | true=>simp [tryC,hF _ _ i4]
  | false=>simp [tryC]
 .rw [hB,h3]; exact .inr ⟨show (2:Int)≠0 by decide,rfl⟩
 .rw [hB,h3]; exact .inr ⟨show (2:Int)≠0 by decide,rfl⟩
 .rw [hB,h3]; exact .inr ⟨show (5:Int)≠0 by decide,rfl⟩
theorem flat_eC:(eC F S ys p w false c k=0/\conicR F (eQ F p w) w c k=.ok ⟨eT F S ys p w false c k Iv.lo,eT F S ys p w false c k Iv.hi⟩)\/(eC F S ys p w false c k≠0/\conicR F (eQ F p w) w c k=.error (eC F S ys p w false c k)):=by
 have h3:=conicR_3 F (eQ F p w) w c k
 have hB:eB F p w c k=conicR F (eQ F p w) w c k:=rfl
 unfold eC eT
 rw [hB]
 unfold P3 at h3
 rcases h3 with ⟨v,h3⟩|h3|h3|h3 <;> rw [h3]
 .exact .inl ⟨rfl,rfl⟩
 .exact .inr ⟨show (1:Int)≠0 by decide,rfl⟩
 .exact .inr ⟨show (2:Int)≠0 by decide,rfl⟩
 .exact .inr ⟨show (5:Int)≠0 by decide,rfl⟩
theorem g_e6 (_:(e6 F p w).e≠0):(e6 F p w).e=(e6 F p w).e:=rfl
theorem g_e5 (h:(e5 F p w).e≠0):(e6 F p w).e=(e5 F p w).e:=by
 have e:(e6 F p w).e=(e5 F p w).e:=kS_k h
 exact (g_e6 F p w (by rw [e]; exact h)).trans e
theorem g_e4 (h:(e4 F p w).e≠0):(e6 F p w).e=(e4 F p w).e:=by
 have e:(e5 F p w).e=(e4 F p w).e:=kS_k h
 exact (g_e5 F p w (by rw [e]; exact h)).trans e
theorem g_e3 (h:(e3 F p w).e≠0):(e6 F p w).e=(e3 F p w).e:=by
 have e:(e4 F p w).e=(e3 F p w).e:=kS_k h
 exact (g_e4 F p w (by rw [e]; exact h)).trans e
theorem g_e2 (h:(e2 F p w).e≠0):(e6 F p w).e=(e2 F p w).e:=by
 have e:(e3 F p w).e=(e2 F p w).e:=kS_k h
 exact (g_e3 F p w (by rw [e]; exact h)).trans e
theorem g_e1 (h:(e1 F p).e≠0):(e6 F p w).e=(e1 F p).e:=by
 have e:(e2 F p w).e=(e1 F p).e:=kS_k h
 exact (g_e2 F p w (by rw [e]; exact h)).trans e
theorem g_e12 (x y:Int) (_:(e12 F p w x y).e≠0):(e12 F p w x y).e=(e12 F p w x y).e:=rfl
theorem g_e11 (x y:Int) (h:(e11 F p w x y).e≠0):(e12 F p w x y).e=(e11 F p w x y).e:=by
 have e:(e12 F p w x y).e=(e11 F p w x y).e:=kS_k h
 exact (g_e12 F p w x y (by rw [e]; exact h)).trans e
theorem g_e10 (x y:Int) (h:(e10 F p w x y).e≠0):(e12 F p w x y).e=(e10 F p w x y).e:=by
 have e:(e11 F p w x y).e=(e10 F p w x y).e:=kS_k h
 exact (g_e11 F p w x y (by rw [e]; exact h)).trans e
theorem g_e9 (x y:Int) (h:(e9 F p w x y).e≠0):(e12 F p w x y).e=(e9 F p w x y).e:=by
 have e:(e10 F p w x y).e=(e9 F p w x y).e:=kS_k h
 exact (g_e10 F p w x y (by rw [e]; exact h)).trans e
theorem g_e8 (x y:Int) (h:(e8 F p w x y).e≠0):(e12 F p w x y).e=(e8 F p w x y).e:=by
 have e:(e9 F p w x y).e=(e8 F p w x y).e:=kS_k h
 exact (g_e9 F p w x y (by rw [e]; exact h)).trans e
theorem g_e7 (x y:Int) (h:(e7 F p w x y).e≠0):(e12 F p w x y).e=(e7 F p w x y).e:=by
 have e:(e8 F p w x y).e=(e7 F p w x y).e:=kS_k h
 exact (g_e8 F p w x y (by rw [e]; exact h)).trans e
theorem eAv_eq (x y C:Int) (way:Ve->Except Int Iv) (hw:(C=0/\way (eQ F p w)=.ok ⟨x,y⟩)\/(C≠0/\way (eQ F p w)=.error C)):
  eAv F p w x y C=hoV (hoR (do
   let (q,a)<-planeP F p w
   let t<-way q
   let at'<-toP F q w t
   let b<-add F a t
   return (at',b))):=by
 rw [plane_st]
 rcases st_two (lN F p) with ⟨x0,y0⟩|⟨x0,y0⟩
 rotate_left
 .rw [y0]
  have q:(e1 F p)=kS 0 (lN F p):=by
   show kS 0 (F.ng p.e p.f)=_
   rfl
  refine e_er6 F p w x y ((g_e1 F p w (by rw [q,kS_e x0]; exact x0)).trans (by rw [q,kS_e x0])) x0
 rw [y0]
 have q0:(e1 F p)=lN F p:=by
  show kS 0 (F.ng p.e p.f)=_
  exact kS_0 x0
 have z0:(e1 F p).e=0:=by rw [q0]; exact x0
 rcases st_two (lT F p w) with ⟨x1,y1⟩|⟨x1,y1⟩
 rotate_left
 .rw [y1]
  have q:(e2 F p w)=kS 0 (lT F p w):=by
   show kS (e1 F p).e (F.di (e1 F p).lo (e1 F p).hi w.e w.f)=_
   rw [z0,q0]
   rfl
  refine e_er6 F p w x y ((g_e2 F p w (by rw [q,kS_e x1]; exact x1)).trans (by rw [q,kS_e x1])) x1
 rw [y1]
 have q1:(e2 F p w)=lT F p w:=by
  show kS (e1 F p).e (F.di (e1 F p).lo (e1 F p).hi w.e w.f)=_
  rw [z0,q0]
  exact kS_0 x1
 have z1:(e2 F p w).e=0:=by rw [q1]; exact x1
 rcases st_two (lA F p w) with ⟨x2,y2⟩|⟨x2,y2⟩
 rotate_left
 .rw [y2]
  have q:(e3 F p w)=kS 0 (lA F p w):=by
   show kS (e2 F p w).e (F.mu (e2 F p w).lo (e2 F p w).hi w.a w.b)=_
   rw [z1,q1]
   rfl
  refine e_er6 F p w x y ((g_e3 F p w (by rw [q,kS_e x2]; exact x2)).trans (by rw [q,kS_e x2])) x2
 rw [y2]
 have q2:(e3 F p w)=lA F p w:=by
  show kS (e2 F p w).e (F.mu (e2 F p w).lo (e2 F p w).hi w.a w.b)=_
  rw [z1,q1]
  exact kS_0 x2
 have z2:(e3 F p w).e=0:=by rw [q2]; exact x2
 rcases st_two (lB F p w) with ⟨x3,y3⟩|⟨x3,y3⟩
 rotate_left
 .rw [y3]
  have q:(e4 F p w)=kS 0 (lB F p w):=by
   show kS (e3 F p w).e (F.ad p.a p.b (e3 F p w).lo (e3 F p w).hi)=_
   rw [z2,q2]
   rfl
  refine e_er6 F p w x y ((g_e4 F p w (by rw [q,kS_e x3]; exact x3)).trans (by rw [q,kS_e x3])) x3
 rw [y3]
 have q3:(e4 F p w)=lB F p w:=by
  show kS (e3 F p w).e (F.ad p.a p.b (e3 F p w).lo (e3 F p w).hi)=_
  rw [z2,q2]
  exact kS_0 x3
 have z3:(e4 F p w).e=0:=by rw [q3]; exact x3
 rcases st_two (lC F p w) with ⟨x4,y4⟩|⟨x4,y4⟩
 rotate_left
 .rw [y4]
  have q:(e5 F p w)=kS 0 (lC F p w):=by
   show kS (e4 F p w).e (F.mu (e2 F p w).lo (e2 F p w).hi w.c w.d)=_
   rw [z3,q1]
   rfl
  refine e_er6 F p w x y ((g_e5 F p w (by rw [q,kS_e x4]; exact x4)).trans (by rw [q,kS_e x4])) x4
 rw [y4]
 have q4:(e5 F p w)=lC F p w:=by
  show kS (e4 F p w).e (F.mu (e2 F p w).lo (e2 F p w).hi w.c w.d)=_
  rw [z3,q1]
  exact kS_0 x4
 have z4:(e5 F p w).e=0:=by rw [q4]; exact x4
 rcases st_two (lD F p w) with ⟨x5,y5⟩|⟨x5,y5⟩
 rotate_left
 .rw [y5]
  have q:(e6 F p w)=kS 0 (lD F p w):=by
   show kS (e5 F p w).e (F.ad p.c p.d (e5 F p w).lo (e5 F p w).hi)=_
   rw [z4,q4]
   rfl
  refine e_er6 F p w x y ((g_e6 F p w (by rw [q,kS_e x5]; exact x5)).trans (by rw [q,kS_e x5])) x5
 rw [y5]
 have q5:(e6 F p w)=lD F p w:=by
  show kS (e5 F p w).e (F.ad p.c p.d (e5 F p w).lo (e5 F p w).hi)=_
  rw [z4,q4]
  exact kS_0 x5
 have z5:(e6 F p w).e=0:=by rw [q5]; exact x5
 have hQ:eQ F p w=lQ F p w:=by unfold eQ; rw [q3,q5]; rfl
 rw [hQ] at hw
 rcases hw with ⟨rfl,hw⟩|⟨hC,hw⟩
 rotate_left
 .rw [e_erC F p w x y z5 hC]
  show _=hoV (hoR (way (lQ F p w) >>= _))
  rw [hw]; rfl
 have tl:(do
   let (q,a)<-(.ok (lQ F p w,⟨(lT F p w).lo,(lT F p w).hi⟩):Except Int (Ve×Iv))
   let t<-(.ok ⟨x,y⟩:Except Int Iv)
   let at'<-toP F q w t
   let b<-add F a t
   return (at',b))=(st (p1 F (lQ F p w) w x y) <| st (p2 F (lQ F p w) w x y) <| st (p3 F (lQ F p w) w x y) <| st (p4 F (lQ F p w) w x y) <| st (p5 F (lQ F p w) w x y) <| st (aW F (lT F p w) x y) <| .ok (⟨(p2 F (lQ F p w) w x y).lo,(p2 F (lQ F p w) w x y).hi,(p4 F (lQ F p w) w x y).lo,(p4 F (lQ F p w) w x y).hi,(p5 F (lQ F p w) w x y).lo,(p5 F (lQ F p w) w x y).hi⟩,⟨(aW F (lT F p w) x y).lo,(aW F (lT F p w) x y).hi⟩)):=by
  show (toP F (lQ F p w) w ⟨x,y⟩ >>= fun at'=>add F ⟨(lT F p w).lo,(lT F p w).hi⟩ ⟨x,y⟩ >>= fun b=>pure (at',b))=_
  unfold toP
  simp only [mul,add,bind_assoc,pure_bind,op_bind,st_bind]
  rfl
 have tl':(do
   let (q,a)<-(.ok (lQ F p w,⟨(lT F p w).lo,(lT F p w).hi⟩):Except Int (Ve×Iv))
   let t<-way q
   let at'<-toP F q w t
   let b<-add F a t
   return (at',b))=_:=Eq.trans (by show (way (lQ F p w) >>= _)=_; rw [hw]; rfl) tl
 refine Eq.trans ?_ (congrArg (fun z=>hoV (hoR z)) tl'.symm)
 show eAv F p w x y 0=hoV (hoR _)
 rcases st_two (p1 F (lQ F p w) w x y) with ⟨x6,y6⟩|⟨x6,y6⟩
 rotate_left
 .rw [y6]
  have q:(e7 F p w x y)=kS 0 (p1 F (lQ F p w) w x y):=by
   show kS (e6 F p w).e (F.mu x y w.a w.b)=_
   rw [z5]
   rfl
  refine e_er12 F p w x y z5 ((g_e7 F p w x y (by rw [q,kS_e x6]; exact x6)).trans (by rw [q,kS_e x6])) x6
 rw [y6]
 have q6:(e7 F p w x y)=p1 F (lQ F p w) w x y:=by
  show kS (e6 F p w).e (F.mu x y w.a w.b)=_
  rw [z5]
  exact kS_0 x6
 have z6:(e7 F p w x y).e=0:=by rw [q6]; exact x6
 rcases st_two (p2 F (lQ F p w) w x y) with ⟨x7,y7⟩|⟨x7,y7⟩
 rotate_left
 .rw [y7]
  have q:(e8 F p w x y)=kS 0 (p2 F (lQ F p w) w x y):=by
   show kS (e7 F p w x y).e (F.ad (e4 F p w).lo (e4 F p w).hi (e7 F p w x y).lo (e7 F p w x y).hi)=_
   rw [z6,q3,q6]
   rfl
  refine e_er12 F p w x y z5 ((g_e8 F p w x y (by rw [q,kS_e x7]; exact x7)).trans (by rw [q,kS_e x7])) x7
 rw [y7]
 have q7:(e8 F p w x y)=p2 F (lQ F p w) w x y:=by
  show kS (e7 F p w x y).e (F.ad (e4 F p w).lo (e4 F p w).hi (e7 F p w x y).lo (e7 F p w x y).hi)=_
  rw [z6,q3,q6]
  exact kS_0 x7
 have z7:(e8 F p w x y).e=0:=by rw [q7]; exact x7
 rcases st_two (p3 F (lQ F p w) w x y) with ⟨x8,y8⟩|⟨x8,y8⟩
 rotate_left
 .rw [y8]
  have q:(e9 F p w x y)=kS 0 (p3 F (lQ F p w) w x y):=by
   show kS (e8 F p w x y).e (F.mu x y w.c w.d)=_
   rw [z7]
   rfl
  refine e_er12 F p w x y z5 ((g_e9 F p w x y (by rw [q,kS_e x8]; exact x8)).trans (by rw [q,kS_e x8])) x8
 rw [y8]
 have q8:(e9 F p w x y)=p3 F (lQ F p w) w x y:=by
  show kS (e8 F p w x y).e (F.mu x y w.c w.d)=_
  rw [z7]
  exact kS_0 x8
 have z8:(e9 F p w x y).e=0:=by rw [q8]; exact x8
 rcases st_two (p4 F (lQ F p w) w x y) with ⟨x9,y9⟩|⟨x9,y9⟩
 rotate_left
 .rw [y9]
  have q:(e10 F p w x y)=kS 0 (p4 F (lQ F p w) w x y):=by
   show kS (e9 F p w x y).e (F.ad (e6 F p w).lo (e6 F p w).hi (e9 F p w x y).lo (e9 F p w x y).hi)=_
   rw [z8,q5,q8]
   rfl
  refine e_er12 F p w x y z5 ((g_e10 F p w x y (by rw [q,kS_e x9]; exact x9)).trans (by rw [q,kS_e x9])) x9
 rw [y9]
 have q9:(e10 F p w x y)=p4 F (lQ F p w) w x y:=by
  show kS (e9 F p w x y).e (F.ad (e6 F p w).lo (e6 F p w).hi (e9 F p w x y).lo (e9 F p w x y).hi)=_
  rw [z8,q5,q8]
  exact kS_0 x9
 have z9:(e10 F p w x y).e=0:=by rw [q9]; exact x9
 rcases st_two (p5 F (lQ F p w) w x y) with ⟨x10,y10⟩|⟨x10,y10⟩
 rotate_left
 .rw [y10]
  have q:(e11 F p w x y)=kS 0 (p5 F (lQ F p w) w x y):=by
   show kS (e10 F p w x y).e (F.mu x y w.e w.f)=_
   rw [z9]
   rfl
  refine e_er12 F p w x y z5 ((g_e11 F p w x y (by rw [q,kS_e x10]; exact x10)).trans (by rw [q,kS_e x10])) x10
 rw [y10]
 have q10:(e11 F p w x y)=p5 F (lQ F p w) w x y:=by
  show kS (e10 F p w x y).e (F.mu x y w.e w.f)=_
  rw [z9]
  exact kS_0 x10
 have z10:(e11 F p w x y).e=0:=by rw [q10]; exact x10
 rcases st_two (aW F (lT F p w) x y) with ⟨x11,y11⟩|⟨x11,y11⟩
 rotate_left
 .rw [y11]
  have q:(e12 F p w x y)=kS 0 (aW F (lT F p w) x y):=by
   show kS (e11 F p w x y).e (F.ad (e2 F p w).lo (e2 F p w).hi x y)=_
   rw [z10,q1]
   rfl
  refine e_er12 F p w x y z5 ((g_e12 F p w x y (by rw [q,kS_e x11]; exact x11)).trans (by rw [q,kS_e x11])) x11
 rw [y11]
 have q11:(e12 F p w x y)=aW F (lT F p w) x y:=by
  show kS (e11 F p w x y).e (F.ad (e2 F p w).lo (e2 F p w).hi x y)=_
  rw [z10,q1]
  exact kS_0 x11
 have z11:(e12 F p w x y).e=0:=by rw [q11]; exact x11
 unfold eAv eZ
 rw [z5,z11,q7,q9,q10,q11]
 rfl
end
end Go.Ht
