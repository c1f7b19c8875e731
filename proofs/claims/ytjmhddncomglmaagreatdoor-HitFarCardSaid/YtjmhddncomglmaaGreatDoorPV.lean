/- What is proved: a law of hits returns true, whatever the input (part 22). No conditions beyond those of the row. -/
import Derived.Test.YtjmhddncomglmaaGreatDoorPF
import Derived.Test.YtjmhddncomglmaaGreatDoorPN
import Derived.Test.YtjmhddncomglmaaGreatDoorPQ
import Derived.Test.YtjmhddncomglmaaGreatDoorPR
import Derived.Test.YtjmhddncomglmaaGreatDoorPU
set_option linter.unusedVariables false
set_option linter.unusedSimpArgs false
set_option linter.unusedSectionVars false
namespace Go.Proofs.YtjmhddncomglmaaGreatDoor.K
open Go Go.Eng Go.Ar Go.Rd Go.Vc Go.Ht
noncomputable section
def hitV (A:Su->List Int->Ve->Ve->HO):Nat->List Itm->Option (Prop×AV×List ABody):=fun _ its=>match its with
 | [.s xs n ys,.n [.n a,.n b,.n c,.n d,.n e,.n f,.n g,.n h,.n i,.n j,.n k,.n l]]=>match suOf xs with
  | some s=>some (okF3 n ys/\s.g.size<1000000000,hoV (A s ys ⟨a,b,c,d,e,f⟩ ⟨g,h,i,j,k,l⟩),[])
  | none=>none
 | _=>none
abbrev htPa:List Pa:=[.s suI .i64,.n shR]
theorem okF3_emp {n:Int} {ys:List Int} (h:okF3 n ys):ys=[]->n=0:=by
 intro he
 have:=h.2.2
 rw [he] at this
 have:=h.1
 simp only [List.length_nil] at *
 omega
theorem hit_gen {f:FuncId} {A:Su->List Int->Ve->Ve->HO} (fn:∃ fn:Func,Tryz.prog.funcs[f]?=some fn/\fn.body.isSome=true)
  (hr:∀ (s:Su) (n:Int) (ys:List Int) (p w:Ve),okF3 n ys/\s.g.size<1000000000->∃ C cs nd V,CtxOk C/\C.P=Tryz.prog/\C.glob=glob/\nd.val/\tellL s.ini cs/\V.num=true/\oneG (viewsH true hG [(.i64,ys)]).size hG.clock ((run C 60000).call f [.agg (cs++[.lslice hG.size n]),.agg (p.cells++w.cells)] (viewsH true hG [(.i64,ys)]))=some (nd,V)/\tell V (hoV (A s ys p w))):NOk Tryz.prog glob hG f (lSpec hG htPa (hitV A)):=by
 refine lsp_okM hG_ok hG_plain glob_lt (fun sz its p v bs e hp=>?_) fn
 unfold hitV at e
 split at e
 .rename_i xs n ys a b c d e' f' g h i j k l
  split at e
  .rename_i s hs
   cases e
   obtain rfl:=suOf_eq hs
   refine ⟨⟨okF3_emp hp.1,trivial⟩,rfl,true,?_⟩
   obtain ⟨C,cs,nd,V,co,hP,hGl,hnd,hk,hV,r,ht⟩:=hr s n ys ⟨a,b,c,d,e',f'⟩ ⟨g,h,i,j,k,l⟩ hp
   obtain ⟨q,a1,a2,a3,a4⟩:=oneG_tells r hV
   refine ⟨C,60000,[.agg (cs++[.lslice hG.size n]),.agg (Ve.cells ⟨a,b,c,d,e',f'⟩++Ve.cells ⟨g,h,i,j,k,l⟩)],nd,V,q,co,hP,hGl,?_,a1,a2,hnd,a3,a4 sz _ ht⟩
   exact ⟨tellL_app hk ⟨rfl,trivial⟩,⟨⟨rfl,rfl⟩,⟨rfl,rfl⟩,⟨rfl,rfl⟩,⟨rfl,rfl⟩,⟨rfl,rfl⟩,⟨rfl,rfl⟩,⟨rfl,rfl⟩,⟨rfl,rfl⟩,⟨rfl,rfl⟩,⟨rfl,rfl⟩,⟨rfl,rfl⟩,⟨rfl,rfl⟩,trivial⟩,trivial⟩
  .cases e
 .cases e
theorem no_tell {c e:Int} {o:HO} (h:(⟨ve0,⟨0,0⟩,c,e⟩:HO)=o):tell (noV c e) (hoV o):=by
 subst h
 exact ⟨⟨⟨rfl,rfl⟩,⟨rfl,rfl⟩,⟨rfl,rfl⟩,⟨rfl,rfl⟩,⟨rfl,rfl⟩,⟨rfl,rfl⟩,trivial⟩,⟨⟨rfl,rfl⟩,⟨rfl,rfl⟩,trivial⟩,⟨rfl,rfl⟩,⟨rfl,rfl⟩,trivial⟩
theorem ho_tell {o r:HO} (h:o=r):tell (hoV o) (hoV r):=by
 subst h
 exact ⟨⟨⟨rfl,rfl⟩,⟨rfl,rfl⟩,⟨rfl,rfl⟩,⟨rfl,rfl⟩,⟨rfl,rfl⟩,⟨rfl,rfl⟩,trivial⟩,⟨⟨rfl,rfl⟩,⟨rfl,rfl⟩,trivial⟩,⟨rfl,rfl⟩,⟨rfl,rfl⟩,trivial⟩
theorem pl_tell {p w:Ve} {o:HO} (h:(⟨lQ hf0 p w,⟨(lT hf0 p w).lo,(lT hf0 p w).hi⟩,0,0⟩:HO)=o):tell (plV hf0 p w) (hoV o):=by
 subst h
 exact ⟨⟨⟨rfl,rfl⟩,⟨rfl,rfl⟩,⟨rfl,rfl⟩,⟨rfl,rfl⟩,⟨rfl,rfl⟩,⟨rfl,rfl⟩,trivial⟩,⟨⟨rfl,rfl⟩,⟨rfl,rfl⟩,trivial⟩,⟨rfl,rfl⟩,⟨rfl,rfl⟩,trivial⟩
theorem suK_eq {s:Su} {k:Int} (h:s.kd=k):suK s k=s:=by subst h; rfl
theorem su2_eq {s:Su} (h:s.kd=2) (h0:s.a0=0/\s.a1=0/\s.a2=0/\s.a3=0):su2 s=s:=by
 cases s
 obtain ⟨rfl,rfl,rfl,rfl⟩:=h0
 subst h
 rfl
theorem bc_eq {s:Su} {ys:List Int} (h:rightS s ys=true):bcC s=(s.c+s.l) / 2/\inL ((s.c+s.l) / 2):=by
 have hb:=right_bic h
 have hc:=hb.1
 have hl:=hb.3
 unfold inL at hc hl ⊢
 have hw:IntKind.i64.wrap (s.c+s.l)=s.c+s.l:=i64w (by omega) (by omega)
 refine ⟨?_,by omega⟩
 unfold bcC
 rw [hw]
 show (s.c+s.l).fdiv 2=_
 rw [Int.fdiv_eq_ediv_of_nonneg _ (by decide)]
theorem kdS (s:Su):tellL s.ini (s.cells (.int true .i64 s.kd)):=tell_kd (kd:=.int true .i64 s.kd) ⟨rfl,rfl⟩
theorem kdP {s:Su} {k:Int} (h:s.kd=k):tellL s.ini (s.cells (.int false .i64 k)):=tell_kd (kd:=.int false .i64 k) ⟨rfl,h⟩
theorem hit_ok:NOk Tryz.prog glob hG 6 (lSpec hG htPa (hitV (hitA hf0))):=
 hit_gen ⟨_,Tryz.func6,rfl⟩ fun s n ys p w ho=>by
  cases hr:rightS s ys with
  | false=>exact ⟨_,_,.p _,_,cHt_ok false 0 0 0,rfl,rfl,(⟨ho.1,ho.2,hr⟩:suO s n ys false),kdS s,rfl,ht_bad hf0 s n ys p w,no_tell (ans_bad hr).symm⟩
  | true=>
   have h0:suO s n ys true:=⟨ho.1,ho.2,hr⟩
   rcases rc_two hf0 p w with ⟨hrc,_⟩|⟨hrc,_⟩
   .have hl:=rc_l1 hrc
    have hin:=plE_in hf0 p w hl hf0_e.1 hf0_e.2.1 hf0_e.2.2.1 hf0_e.2.2.2
    have ans:∀ k c:Int,plE hf0 p w=k->k≠0->why k=c->(⟨ve0,⟨0,0⟩,c,9⟩:HO)=hitA hf0 s ys p w:=fun k c hk hk0 hc=>by
     rw [ans_pl hr hrc (by rw [hk]; exact hk0),hk,hc]
    rcases hin with he|he|he|he|he
    .-- the way to the plane is there
     have okp:∀ (k:Int) (q:Prop),s.kd=k->q->okP hf0 (suK s k) n ys p w q:=fun k q hk hq=>by
      rw [suK_eq hk]; exact ⟨h0,hrc,⟨hl,he⟩,hq⟩
     rcases right_kd hr with hk|hk|hk|hk
     .have ans1:=ans_12 hr hrc he (.inl hk)
      have hs:=right_std hr
      have hc:okSc s.c 1000000000:=sc_c hs.1
      have hkk:okSc (kW s.k) 1000000:=sc_k hs.2
      cases hf:flB s with
      | true=>
       rw [way_1f hk hf] at ans1
       exact ⟨_,_,.p _,_,cHi_ok true 0,rfl,rfl,okp 1 _ hk ⟨⟨hf,cNd_ok hf0 _ w s.c s.k (fun _ _=>okSq_of hc) (fun _ _=>okSq_of hkk)⟩,fun _ _=>⟨⟨rfl,rfl⟩,rfl,rfl⟩⟩,kdP hk,rfl,ht_1f hf0 s n ys p w,by rw [fAns_eq]; exact ho_tell ans1.symm⟩
      | false=>
       rw [way_1c hk hf] at ans1
       have cop:∀ j:Int,tryC (conicP hf0 (lQ hf0 p w) w s.c s.k)=j->coP hf0 n ys p w s.c s.k j:=fun j hj=>⟨okF3_emp ho.1,⟨hc,hkk⟩,hj⟩
       rcases curved_c (s:=s) (ys:=ys) (w:=w) (lQ hf0 p w) s.c s.k with ⟨c1,c2⟩|⟨c1,c2⟩|⟨c1,c2⟩|⟨c1,c2⟩
       .rw [c2] at ans1
        exact ⟨_,_,.p _,_,cHi_ok false 0,rfl,rfl,okp 1 _ hk ⟨⟨hf,cop 0 c1,ndA_ok hf0 _ ys _ w _ ho⟩,fun _ _=>⟨⟨rfl,rfl⟩,rfl,rfl⟩⟩,kdP hk,rfl,ht_10 hf0 s n ys p w,by rw [suK_eq hk,cAns_eq]; exact ho_tell ans1.symm⟩
       .rw [c2] at ans1
        exact ⟨_,_,.p _,_,cHi_ok false 1,rfl,rfl,okp 1 _ hk ⟨hf,cop 1 c1⟩,kdP hk,rfl,ht_11 hf0 s n ys p w,no_tell ans1.symm⟩
       .rw [c2] at ans1
        exact ⟨_,_,.p _,_,cHi_ok false 2,rfl,rfl,okp 1 _ hk ⟨hf,cop 2 c1⟩,kdP hk,rfl,ht_12 hf0 s n ys p w,no_tell ans1.symm⟩
       .rw [c2] at ans1
        exact ⟨_,_,.p _,_,cHi_ok false 5,rfl,rfl,okp 1 _ hk ⟨hf,cop 5 c1⟩,kdP hk,rfl,ht_15 hf0 s n ys p w,no_tell ans1.symm⟩
     .have ans2:=ans_12 hr hrc he (.inr hk)
      have ha:=right_noA hr hk
      obtain ⟨b1,b2⟩:=bc_eq hr
      rw [way_2 hk,<- b1] at ans2
      have hc:okSc (bcC s) 1000000000:=by rw [b1]; exact sc_c b2
      have hkk:okSc (kW 0) 1000000:=sc_k (by unfold inK; decide)
      have okp2:∀ q:Prop,q->okP hf0 (su2 s) n ys p w q:=fun q hq=>by
       rw [su2_eq hk ha]; exact ⟨h0,hrc,⟨hl,he⟩,hq⟩
      have cop:∀ j:Int,tryC (conicP hf0 (lQ hf0 p w) w (bcC s) 0)=j->coP hf0 n ys p w (bcC s) 0 j:=fun j hj=>⟨okF3_emp ho.1,⟨hc,hkk⟩,hj⟩
      rcases curved_c (s:=s) (ys:=ys) (w:=w) (lQ hf0 p w) (bcC s) 0 with ⟨c1,c2⟩|⟨c1,c2⟩|⟨c1,c2⟩|⟨c1,c2⟩
      .rw [c2] at ans2
       exact ⟨_,_,.p _,_,cHt_ok true 0 0 0,rfl,rfl,okp2 _ ⟨⟨cop 0 c1,ndA_ok hf0 _ ys _ w _ ho⟩,fun _ _=>⟨⟨rfl,rfl⟩,rfl,rfl⟩⟩,tell_kz hk ha,rfl,ht_20 hf0 s n ys p w,by rw [su2_eq hk ha,cAns_eq]; exact ho_tell ans2.symm⟩
      .rw [c2] at ans2
       exact ⟨_,_,.p _,_,cHt_ok true 0 0 1,rfl,rfl,okp2 _ (cop 1 c1),tell_kz hk ha,rfl,ht_21 hf0 s n ys p w,no_tell ans2.symm⟩
      .rw [c2] at ans2
       exact ⟨_,_,.p _,_,cHt_ok true 0 0 2,rfl,rfl,okp2 _ (cop 2 c1),tell_kz hk ha,rfl,ht_22 hf0 s n ys p w,no_tell ans2.symm⟩
      .rw [c2] at ans2
       exact ⟨_,_,.p _,_,cHt_ok true 0 0 5,rfl,rfl,okp2 _ (cop 5 c1),tell_kz hk ha,rfl,ht_25 hf0 s n ys p w,no_tell ans2.symm⟩
     .exact ⟨_,_,.p _,_,cHt_ok true 0 0 0,rfl,rfl,okp 3 _ hk ⟨rfl,rfl⟩,kdP hk,rfl,ht_3 hf0 s n ys p w,pl_tell (ans_34 hr hrc he (.inl hk)).symm⟩
     .exact ⟨_,_,.p _,_,cHt_ok true 0 0 0,rfl,rfl,okp 4 _ hk ⟨rfl,rfl⟩,kdP hk,rfl,ht_4 hf0 s n ys p w,pl_tell (ans_34 hr hrc he (.inr hk)).symm⟩
    .exact ⟨_,_,.p _,_,cHt_ok true 0 2 0,rfl,rfl,(⟨h0,hrc,hl,he,by decide⟩:plP hf0 s n ys p w 2),kdS s,rfl,ht_p2 hf0 s n ys p w,no_tell (ans 2 2 he (by decide) rfl)⟩
    .exact ⟨_,_,.p _,_,cHt_ok true 0 6 0,rfl,rfl,(⟨h0,hrc,hl,he,by decide⟩:plP hf0 s n ys p w 6),kdS s,rfl,ht_p6 hf0 s n ys p w,no_tell (ans 6 5 he (by decide) rfl)⟩
    .exact ⟨_,_,.p _,_,cHt_ok true 0 7 0,rfl,rfl,(⟨h0,hrc,hl,he,by decide⟩:plP hf0 s n ys p w 7),kdS s,rfl,ht_p7 hf0 s n ys p w,no_tell (ans 7 2 he (by decide) rfl)⟩
    .exact ⟨_,_,.p _,_,cHt_ok true 0 20 0,rfl,rfl,(⟨h0,hrc,hl,he,by decide⟩:plP hf0 s n ys p w 20),kdS s,rfl,ht_p20 hf0 s n ys p w,no_tell (ans 20 2 he (by decide) rfl)⟩
   .exact ⟨_,_,.p _,_,cHt_ok true 240 0 0,rfl,rfl,(⟨h0,hrc⟩:suO s n ys true/\rcE hf0 p w=240),kdS s,rfl,ht_ray hf0 s n ys p w,no_tell (ans_ray hr hrc).symm⟩
end
end Go.Proofs.YtjmhddncomglmaaGreatDoor.K
namespace Go.Proofs.YtjmhddncomglmaaGreatDoor.K
open Go Go.Eng Go.Ar Go.Rd Go.Vc
noncomputable section
structure Sp14 where
 kd:Int
 c0:Int
 c1:Int
 k0:Int
 k1:Int
 a0:Int
 a1:Int
 a2:Int
 a3:Int
 m:Bool
def Sp14.cells (p:Sp14):List AV:=[.int true .u8 p.kd,.int true .i16 p.c0,.int true .i16 p.c1,.int true .i16 p.k0,.int true .i16 p.k1,.int true .i8 p.a0,.int true .i8 p.a1,.int true .i8 p.a2,.int true .i8 p.a3,.bool true p.m]
end
end Go.Proofs.YtjmhddncomglmaaGreatDoor.K
namespace Go.Proofs.YtjmhddncomglmaaGreatDoor.K
open Go Go.Eng Go.Ar Go.Rd Go.Vc Go.Ht
noncomputable section
def hitT (A:Su->List Int->Ve->Ve->HO):List Itm->Option (Prop×AV):=fun its=>match its with
 | [.s xs n ys,.n [.n a,.n b,.n c,.n d,.n e,.n f,.n g,.n h,.n i,.n j,.n k,.n l]]=>match suOf xs with
  | some s=>some (okF3 n ys/\s.g.size<1000000000,hoV (A s ys ⟨a,b,c,d,e,f⟩ ⟨g,h,i,j,k,l⟩))
  | none=>none
 | _=>none
theorem hitT_ok {f:FuncId} (g:NOk Tryz.prog glob hG f (lSpec hG htPa (hitV (hitA hf0)))):NOk Tryz.prog glob hG f (tSpec hG 3 htPa (hitT (hitA hf0))):=by
 refine tSpec_ok hG_ok hG_plain glob_lt g fun its p v e hp=>?_
 unfold hitT at e
 split at e
 .rename_i xs n ys a b c d e' f' g' h i j k l
  split at e
  .rename_i s hs
   cases e
   have hs':=hs
   obtain rfl:=suOf_eq hs
   exact ⟨_,by simp only [hitV,hs'],hp,rfl,⟨okF3_emp hp.1,trivial⟩,rfl,⟨_,rfl⟩,rfl,rfl⟩
  .cases e
 .cases e
def okI (its:List Itm):Bool:=match its with
 | .s xs n ys :: _=>match suOf xs with
  | some s=>decide (n=0)&&(ys.isEmpty&&Nat.ble s.g.size 100)
  | none=>false
 | _=>false
def plQ (V:List Itm->Option (Prop×AV)) (its:List Itm):Option AV:=match okI its with
 | true=>match V its with
  | some (_,v)=>some v
  | none=>none
 | false=>none
theorem okI_p {xs:List Nu} {n:Int} {ys:List Int} {l:List Itm} {s:Su} (h:okI (.s xs n ys :: l)=true) (hs:suOf xs=some s):okF3 n ys/\s.g.size<1000000000:=by
 simp only [okI,hs,Bool.and_eq_true,decide_eq_true_eq] at h
 obtain ⟨rfl,h1,h2⟩:=h
 have:ys=[]:=by cases ys with
  | nil=>rfl
  | cons a l=>cases h1
 subst this
 exact ⟨⟨by decide,by decide,rfl⟩,by have:=Nat.le_of_ble_eq_true h2; omega⟩
theorem plV_hit:∀ its v,plQ (hitT (hitA hf0)) its=some v->∃ p:Prop,hitT (hitA hf0) its=some (p,v)/\p:=by
 intro its v e
 unfold plQ at e
 split at e
 .rename_i ho
  split at e
  .rename_i p v' hV
   cases e
   refine ⟨p,hV,?_⟩
   unfold hitT at hV
   split at hV
   .split at hV
    .rename_i s hs
     cases hV
     exact okI_p ho hs
    .cases hV
   .cases hV
  .cases e
 .cases e
def tblWk:List (FuncId×NSpec):=[(6,tP hG 3 htPa (plQ (hitT (hitA hf0)))),(68,hp (plainS (sSc scaleS)))]
def cWk:Ctx:=mkN Tryz.prog glob hG tblWk [] ext
theorem cWk_ok:CtxOk cWk:=mkN_ok prog_ok ext_ok (fun x hx=>by
 simp only [tblWk,List.mem_cons,List.not_mem_nil,or_false] at hx
 rcases hx with rfl|rfl
 .exact tP_ok (hitT_ok hit_ok) plV_hit
 .exact ((rsc_ok.plainS.g _ _).h).n) fun _ h=>by cases h
theorem works_run:oneG hG.size hG.clock ((run cWk 5000).call 8 [] hG)=some (.tt,.bool false true):=by kernel_rfl
theorem works_ok:NOk Tryz.prog glob hG 8 (cSpec (.bool false true)):=
 cSpec_ok hG_ok hG_plain glob_lt cWk_ok rfl rfl ⟨_,Tryz.func8,rfl⟩ works_run trivial rfl rfl
end
end Go.Proofs.YtjmhddncomglmaaGreatDoor.K
namespace Go.Ht
open Go Go.Eng Go.Ar Go.Rd Go.Vc Go.Iv
theorem vc_vv {v:Ve} (h:vv v):hf0.vc v=0:=by
 show vC0 vf0 v=0
 rw [vC0_eq vf0_law]
 have:wOk vf0 v=false:=by
  show (!bif okSp v.a v.b then bif okSp v.c v.d then okSp v.e v.f else false else false)=false
  rw [h.1,h.2.1,h.2.2]; rfl
 rw [this]; rfl
theorem rc_vv {p w:Ve} (hp:vv p) (hw:vv w):rcE hf0 p w=0:=by
 unfold rcE
 rw [vc_vv hp,vc_vv hw]; rfl
theorem ref_A {S:Su} {ys:List Int} {p w:Ve} (hr:rightS S ys=true) (hp:vv p) (hw:vv w) (he:-4294967296<=w.e) (hf:w.f<=4294967296):hitA hf0 S ys p w=hoR (hitR hf0 S ys p w):=by
 rw [ans_good hr (rc_vv hp hw),hit_eq hr hp hw he hf]
 rfl
section
variable {S:Su} {ys:List Int} {p w:Ve}
theorem hitR_12 (hk:S.kd=1\/S.kd=2):hitR hf0 S ys p w=(do
   let (q,a)<-planeP hf0 p w
   let t<-wayR hf0 S ys q w
   let at'<-toP hf0 q w t
   let b<-add hf0 a t
   return (at',b)):=by
 have hb:(S.kd==1||S.kd==2)=true:=by rcases hk with hk|hk <;> rw [hk] <;> rfl
 unfold hitR
 simp only [hb,cond_true]
theorem eAv_1 (hk:S.kd=1):eAv hf0 p w (eT hf0 S ys p w (!flB S) S.c S.k Iv.lo) (eT hf0 S ys p w (!flB S) S.c S.k Iv.hi) (eC hf0 S ys p w (!flB S) S.c S.k)=hoV (hoR (hitR hf0 S ys p w)):=by
 rw [hitR_12 (.inl hk)]
 refine eAv_eq hf0 p w _ _ _ (fun q=>wayR hf0 S ys q w) ?_
 have hw':wayR hf0 S ys (eQ hf0 p w) w=bif flB S then conicR hf0 (eQ hf0 p w) w S.c S.k else curvedR hf0 S ys (eQ hf0 p w) w S.c S.k:=by
  unfold wayR
  rw [hk,fl_eq]; rfl
 show (_/\wayR hf0 S ys (eQ hf0 p w) w=_)\/(_/\wayR hf0 S ys (eQ hf0 p w) w=_)
 rw [hw']
 cases flB S with
 | true=>exact flat_eC hf0 S ys p w S.c S.k
 | false=>exact curved_eC hf0 S ys p w S.c S.k
theorem eAv_2 (hk:S.kd=2):eAv hf0 p w (eT hf0 S ys p w true ((S.c+S.l) / 2) 0 Iv.lo) (eT hf0 S ys p w true ((S.c+S.l) / 2) 0 Iv.hi) (eC hf0 S ys p w true ((S.c+S.l) / 2) 0)=hoV (hoR (hitR hf0 S ys p w)):=by
 rw [hitR_12 (.inr hk)]
 refine eAv_eq hf0 p w _ _ _ (fun q=>wayR hf0 S ys q w) ?_
 have hw':wayR hf0 S ys (eQ hf0 p w) w=curvedR hf0 S ys (eQ hf0 p w) w ((S.c+S.l) / 2) 0:=by
  unfold wayR
  rw [hk]; rfl
 show (_/\wayR hf0 S ys (eQ hf0 p w) w=_)\/(_/\wayR hf0 S ys (eQ hf0 p w) w=_)
 rw [hw']
 exact curved_eC hf0 S ys p w _ 0
end
theorem half_e {x:Int} (h:-2000000000<=x/\x<=2000000000):IntKind.i64.wrap ((bif (IntKind.i64.wrap x).tmod 2 != 0 then IntKind.i64.wrap (IntKind.i64.wrap x - 1) else IntKind.i64.wrap x).tdiv 2)=x / 2:=by
 have e1:IntKind.i64.wrap x=x:=i64w (by omega) (by omega)
 have e2:IntKind.i64.wrap (x - 1)=x - 1:=i64w (by omega) (by omega)
 rw [e1,e2]
 have key:(bif x.tmod 2 != 0 then x - 1 else x).tdiv 2=x / 2:=by
  by_cases hx:0<=x
  .rw [Int.tmod_eq_emod_of_nonneg hx]
   by_cases h2:x % 2=0
   .have:(x % 2 != 0)=false:=by simp; omega
    rw [this]
    simp only [cond_false]
    rw [Int.tdiv_eq_ediv_of_nonneg hx]
   .have:(x % 2 != 0)=true:=by simp; omega
    rw [this]
    simp only [cond_true]
    rw [Int.tdiv_eq_ediv_of_nonneg (by omega)]
    omega
  .have ht:x.tmod 2=-((-x) % 2):=by
    have:x=-(-x):=by omega
    rw [this,Int.neg_tmod,Int.tmod_eq_emod_of_nonneg (by omega)]
    omega
   by_cases h2:x % 2=0
   .have:(x.tmod 2 != 0)=false:=by rw [ht]; simp; omega
    rw [this]
    simp only [cond_false]
    have:x=-(-x):=by omega
    rw [this,Int.neg_tdiv,Int.tdiv_eq_ediv_of_nonneg (by omega)]
    omega
   .have:(x.tmod 2 != 0)=true:=by rw [ht]; simp; omega
    rw [this]
    simp only [cond_true]
    have:x - 1=-(1 - x):=by omega
    rw [this,Int.neg_tdiv,Int.tdiv_eq_ediv_of_nonneg (by omega)]
    omega
 rw [key]
 exact i64w (by omega) (by omega)
end Go.Ht
namespace Go.Proofs.YtjmhddncomglmaaGreatDoor.K
open Go Go.Eng Go.Ar Go.Rd Go.Vc Go.Ht Go.Iv
noncomputable section
def okHr (s:Su) (n:Int) (ys:List Int) (p w:Ve):Prop:=(okF3 n ys/\s.g.size<1000000000)/\rightS s ys=true/\(s.kd=1\/s.kd=2)/\vv p/\vv w/\-4294967296<=w.e/\w.f<=4294967296
def rhitV (Q:Su->Int->List Int->Ve->Ve->Prop) (A:Su->List Int->Ve->Ve->HO):Nat->List Itm->Option (Prop×AV×List ABody):=fun _ its=>match its with
 | [.s xs n ys,.n [.n a,.n b,.n c,.n d,.n e,.n f,.n g,.n h,.n i,.n j,.n k,.n l]]=>match suOf xs with
  | some s=>some (Q s n ys ⟨a,b,c,d,e,f⟩ ⟨g,h,i,j,k,l⟩,hoV (A s ys ⟨a,b,c,d,e,f⟩ ⟨g,h,i,j,k,l⟩),[])
  | none=>none
 | _=>none
theorem sk_eq {s:Su} {k:Int} (h:s.kd=k):sk s k=s:=by subst h; rfl
theorem rc_eq {s:Su} {ys:List Int} (h:rightS s ys=true):rcC s=(s.c+s.l) / 2:=by
 have hb:=right_bic h
 have hc:=hb.1
 have hl:=hb.3
 unfold inL at hc hl
 unfold rcC
 exact half_e (by omega)
theorem rhit_ok:NOk Tryz.prog glob hG 7 (lSpec hG htPa (rhitV okHr (hitA hf0))):=by
 refine lsp_okM hG_ok hG_plain glob_lt (fun sz its p v bs e hp=>?_) ⟨_,Tryz.func7,rfl⟩
 unfold rhitV at e
 split at e
 .rename_i xs n ys a b c d e' f g h i j k l
  split at e
  .rename_i s hs
   cases e
   obtain rfl:=suOf_eq hs
   obtain ⟨ho,hr,hk,hpp,hww,he,hf⟩:=hp
   refine ⟨⟨okF3_emp ho.1,trivial⟩,rfl,true,?_⟩
   rw [ref_A hr hpp hww he hf]
   have hkt:∀ {cs:List AV},tellL s.ini cs->tellL (mkA true hG.size htPa [.s s.nus n ys,.n [.n a,.n b,.n c,.n d,.n e',.n f,.n g,.n h,.n i,.n j,.n k,.n l]]) [.agg (cs++[.lslice hG.size n]),.agg (Ve.cells ⟨a,b,c,d,e',f⟩++Ve.cells ⟨g,h,i,j,k,l⟩)]:=fun hc=>⟨tellL_app hc ⟨rfl,trivial⟩,t12,trivial⟩
   rcases hk with hk|hk
   .have r:=hr_1 hf0 s n ys ⟨a,b,c,d,e',f⟩ ⟨g,h,i,j,k,l⟩
    unfold rHh at r
    have hnd:hP s n ys ⟨a,b,c,d,e',f⟩ ⟨g,h,i,j,k,l⟩ 1 (nd1 hf0 s n ys ⟨a,b,c,d,e',f⟩ ⟨g,h,i,j,k,l⟩):=by
     refine ⟨?_,⟨hpp,hww⟩,nd1_ok _ _ _ _ _ _ ho.1 ho.2⟩
     rw [sk_eq hk]
     exact ⟨ho.1,ho.2,hr⟩
    have ht:tell (eAv hf0 ⟨a,b,c,d,e',f⟩ ⟨g,h,i,j,k,l⟩ (eT hf0 (sk s 1) ys ⟨a,b,c,d,e',f⟩ ⟨g,h,i,j,k,l⟩ (!flB s) s.c s.k Iv.lo) (eT hf0 (sk s 1) ys ⟨a,b,c,d,e',f⟩ ⟨g,h,i,j,k,l⟩ (!flB s) s.c s.k Iv.hi) (eC hf0 (sk s 1) ys ⟨a,b,c,d,e',f⟩ ⟨g,h,i,j,k,l⟩ (!flB s) s.c s.k)) (hoV (hoR (hitR hf0 s ys ⟨a,b,c,d,e',f⟩ ⟨g,h,i,j,k,l⟩))):=by
     rw [sk_eq hk,eAv_1 hk]
     exact ho_tell rfl
    exact to_runs cHx_ok rfl rfl rfl (hkt (kdP hk)) rfl r hnd ht
   .have r:=hr_2 hf0 s n ys ⟨a,b,c,d,e',f⟩ ⟨g,h,i,j,k,l⟩
    unfold rHh at r
    have hnd:hP s n ys ⟨a,b,c,d,e',f⟩ ⟨g,h,i,j,k,l⟩ 2 (nd2 hf0 s n ys ⟨a,b,c,d,e',f⟩ ⟨g,h,i,j,k,l⟩):=by
     refine ⟨?_,⟨hpp,hww⟩,nd2_ok _ _ _ _ _ _ ho.1 ho.2⟩
     rw [sk_eq hk]
     exact ⟨ho.1,ho.2,hr⟩
    have ht:tell (eAv hf0 ⟨a,b,c,d,e',f⟩ ⟨g,h,i,j,k,l⟩ (eT hf0 (sk s 2) ys ⟨a,b,c,d,e',f⟩ ⟨g,h,i,j,k,l⟩ true (rcC s) 0 Iv.lo) (eT hf0 (sk s 2) ys ⟨a,b,c,d,e',f⟩ ⟨g,h,i,j,k,l⟩ true (rcC s) 0 Iv.hi) (eC hf0 (sk s 2) ys ⟨a,b,c,d,e',f⟩ ⟨g,h,i,j,k,l⟩ true (rcC s) 0)) (hoV (hoR (hitR hf0 s ys ⟨a,b,c,d,e',f⟩ ⟨g,h,i,j,k,l⟩))):=by
     rw [sk_eq hk,rc_eq hr,eAv_2 hk]
     exact ho_tell rfl
    exact to_runs cHx_ok rfl rfl rfl (hkt (kdP hk)) rfl r hnd ht
  .cases e
 .cases e
end
end Go.Proofs.YtjmhddncomglmaaGreatDoor.K
namespace Go.Proofs.YtjmhddncomglmaaGreatDoor.K
open Go Go.Eng Go.Ar Go.Rd Go.Vc Go.Ht
noncomputable section
end
end Go.Proofs.YtjmhddncomglmaaGreatDoor.K
namespace Go.Proofs.YtjmhddncomglmaaGreatDoor.K
open Go Go.Eng Go.Ar Go.Rd Go.Vc Go.Ht
noncomputable section
def rhitT (Q:Su->Int->List Int->Ve->Ve->Prop) (A:Su->List Int->Ve->Ve->HO):List Itm->Option (Prop×AV):=fun its=>match its with
 | [.s xs n ys,.n [.n a,.n b,.n c,.n d,.n e,.n f,.n g,.n h,.n i,.n j,.n k,.n l]]=>match suOf xs with
  | some s=>some (Q s n ys ⟨a,b,c,d,e,f⟩ ⟨g,h,i,j,k,l⟩,hoV (A s ys ⟨a,b,c,d,e,f⟩ ⟨g,h,i,j,k,l⟩))
  | none=>none
 | _=>none
def tblHF (Q:Su->Int->List Int->Ve->Ve->Prop) (A:Su->List Int->Ve->Ve->HO):List (FuncId×NSpec):=[(6,tSpec hG 3 htPa (hitT A)),(7,tSpec hG 3 htPa (rhitT Q A)),(8,cSpec (.bool false true))]
def cHF (Q:Su->Int->List Int->Ve->Ve->Prop) (A:Su->List Int->Ve->Ve->HO):Ctx:=mkN Tryz.prog glob hG (tblHF Q A) [] ext
end
end Go.Proofs.YtjmhddncomglmaaGreatDoor.K
namespace Go.Ht
open Go Go.Eng Go.Ar Go.Rd Go.Vc Go.Iv
structure Fr where
 kd:Int
 c0:Int
 c1:Int
 k0:Int
 k1:Int
 a0:Int
 a1:Int
 a2:Int
 a3:Int
 fr:Int
def Fr.k (x:Fr):Int:=lw (1+lw (x.kd.tmod 2))
def Fr.b (x:Fr):Bool:=x.k==2
def nL (x:Int):Int:=(lw x).tmod 1000000001
def nK (x:Int):Int:=(lw x).tmod 100000001
def fG (b:Bool):ByteArray:=bif b then ⟨#[]⟩ else ⟨#[]⟩
def fSu (x:Fr):Su:=⟨bif x.b then x.k else x.k,bif x.b then nL x.c0 else nL x.c0,bif x.b then nK x.k0 else nK x.k0,bif x.b then nL x.c1 else 0,bif x.b then nK x.k1 else 0,bif x.b then 0 else nL x.a0,bif x.b then 0 else nL x.a1,bif x.b then 0 else nL x.a2,bif x.b then 0 else nL x.a3,0,0,0,0,fG x.b,0,0,0,0,0,0,0⟩
def fS (x:Fr):Int:=2 ^ min (x.fr.tmod 14).toNat IntKind.i64.bits
def fAt (x:Fr) (t:Th):Ve:=⟨lw ((atV t).a*fS x),lw ((atV t).b*fS x),lw ((atV t).c*fS x),lw ((atV t).d*fS x),lw ((atV t).e*fS x),lw ((atV t).f*fS x)⟩
section
variable (A:Su->List Int->Ve->Ve->HO) (Q:Su->Int->List Int->Ve->Ve->Prop) (x:Fr) (t:Th)
def hf1:HO:=A (fSu x) [] (fAt x t) (dirV t)
def hfR:Bool:=bif eqB (hf1 A x t).at' (hf1 A x t).at' then bif (hf1 A x t).way.lo==(hf1 A x t).way.lo&&((hf1 A x t).way.hi==(hf1 A x t).way.hi&&true) then bif (hf1 A x t).c==(hf1 A x t).c then bif (hf1 A x t).e==(hf1 A x t).e then true else false else false else false else false
def hfN:Prop:=(x.b=true->x.k1=x.k1)/\((0<=x.fr.tmod 14/\0<=x.fr.tmod 14)/\(0<=x.fr.tmod 14/\0<=x.fr.tmod 14)/\0<=x.fr.tmod 14/\0<=x.fr.tmod 14)/\(okF3 0 []/\(fSu x).g.size<1000000000)/\Q (fSu x) 0 [] (fAt x t) (dirV t)
theorem hfR_t:hfR A x t=true:=by
 unfold hfR eqB
 simp
end
structure FrR (x:Fr):Prop where
 kd:0<=x.kd/\x.kd<=255
 c0:-2147483648<=x.c0/\x.c0<=2147483647
 c1:-2147483648<=x.c1/\x.c1<=2147483647
 k0:-2147483648<=x.k0/\x.k0<=2147483647
 k1:-2147483648<=x.k1/\x.k1<=2147483647
 a0:-2147483648<=x.a0/\x.a0<=2147483647
 a1:-2147483648<=x.a1/\x.a1<=2147483647
 a2:-2147483648<=x.a2/\x.a2<=2147483647
 a3:-2147483648<=x.a3/\x.a3<=2147483647
 fr:0<=x.fr/\x.fr<=255
theorem nL_e (x:Int):-1000000000<=nL x/\nL x<=1000000000:=by
 unfold nL
 generalize lw x=y
 have h1:=Int.lt_tmod_of_pos y (show (0:Int)<1000000001 by decide)
 have h2:=Int.tmod_lt_of_pos y (show (0:Int)<1000000001 by decide)
 omega
theorem nK_e (x:Int):-100000000<=nK x/\nK x<=100000000:=by
 unfold nK
 generalize lw x=y
 have h1:=Int.lt_tmod_of_pos y (show (0:Int)<100000001 by decide)
 have h2:=Int.tmod_lt_of_pos y (show (0:Int)<100000001 by decide)
 omega
theorem k_e {x:Fr} (h:FrR x):x.k=1\/x.k=2:=by
 have hk:=h.kd
 unfold Fr.k
 rw [Int.tmod_eq_emod_of_nonneg hk.1,lwi (x:=x.kd % 2) (by omega),lwi (by omega)]
 omega
theorem fG_e (b:Bool):fG b=⟨#[]⟩:=by cases b <;> rfl
theorem iR {lo hi n:Int} (h:lo<=n/\n<=hi):inR lo hi n=true:=inR_iff.2 h
theorem rf_1 {c k a0 a1 a2 a3:Int} (hc:-1000000000<=c/\c<=1000000000) (hk:-100000000<=k/\k<=100000000) (h0:-1000000000<=a0/\a0<=1000000000) (h1:-1000000000<=a1/\a1<=1000000000) (h2:-1000000000<=a2/\a2<=1000000000) (h3:-1000000000<=a3/\a3<=1000000000):rightS ⟨1,c,k,0,0,a0,a1,a2,a3,0,0,0,0,⟨#[]⟩,0,0,0,0,0,0,0⟩ []=true:=by
 have n:numsB ⟨1,c,k,0,0,a0,a1,a2,a3,0,0,0,0,⟨#[]⟩,0,0,0,0,0,0,0⟩=true:=by
  unfold numsB noG
  simp only [iR hc,iR hk,iR h0,iR h1,iR h2,iR h3]
  rfl
 show (numsB _&&kindB _ true&&filmsB []&&decide (0<=24))=true
 rw [n]
 rfl
theorem rf_2 {c k l m:Int} (hc:-1000000000<=c/\c<=1000000000) (hk:-100000000<=k/\k<=100000000) (hl:-1000000000<=l/\l<=1000000000) (hm:-100000000<=m/\m<=100000000):rightS ⟨2,c,k,l,m,0,0,0,0,0,0,0,0,⟨#[]⟩,0,0,0,0,0,0,0⟩ []=true:=by
 have n:numsB ⟨2,c,k,l,m,0,0,0,0,0,0,0,0,⟨#[]⟩,0,0,0,0,0,0,0⟩=true:=by
  unfold numsB noG
  simp only [iR hc,iR hk,iR hl,iR hm]
  rfl
 show (numsB _&&kindB _ true&&filmsB []&&decide (0<=24))=true
 rw [n]
 rfl
theorem fSu_r {x:Fr} (h:FrR x):rightS (fSu x) []=true/\((fSu x).kd=1\/(fSu x).kd=2):=by
 unfold fSu
 rw [fG_e]
 rcases k_e h with hk|hk
 .have hb:x.b=false:=by unfold Fr.b; rw [hk]; rfl
  rw [hb,hk]
  exact ⟨rf_1 (nL_e _) (nK_e _) (nL_e _) (nL_e _) (nL_e _) (nL_e _),.inl rfl⟩
 .have hb:x.b=true:=by unfold Fr.b; rw [hk]; rfl
  rw [hb,hk]
  exact ⟨rf_2 (nL_e _) (nK_e _) (nL_e _) (nK_e _),.inr rfl⟩
theorem fS_e {x:Fr} (h:FrR x):1<=fS x/\fS x<=8192:=by
 have hf:=h.fr
 unfold fS
 rw [Int.tmod_eq_emod_of_nonneg hf.1]
 have h1:(x.fr % 14).toNat<=13:=by omega
 have hm:min (x.fr % 14).toNat IntKind.i64.bits=(x.fr % 14).toNat:=Nat.min_eq_left (by show _<=64; omega)
 rw [hm]
 generalize (x.fr % 14).toNat=n at h1
 have:n=0\/n=1\/n=2\/n=3\/n=4\/n=5\/n=6\/n=7\/n=8\/n=9\/n=10\/n=11\/n=12\/n=13:=by omega
 rcases this with h|h|h|h|h|h|h|h|h|h|h|h|h|h <;> subst h <;> decide
theorem mul_le8 {a s:Int} (h:-549755813888<=a/\a<=549755813888) (hs:1<=s/\s<=8192):-4503599627370496<=a*s/\a*s<=4503599627370496:=by
 have e1:a*s<=549755813888*s:=Int.mul_le_mul_of_nonneg_right h.2 (by omega)
 have e2:-549755813888*s<=a*s:=Int.mul_le_mul_of_nonneg_right h.1 (by omega)
 omega
theorem pair_v {a b s:Int} (h:-549755813888<=a/\a<=b/\b<=549755813888) (hs:1<=s/\s<=8192):okSp (lw (a*s)) (lw (b*s))=true:=by
 have h1:=mul_le8 (a:=a) (s:=s) (by omega) hs
 have h2:=mul_le8 (a:=b) (s:=s) (by omega) hs
 have h3:a*s<=b*s:=Int.mul_le_mul_of_nonneg_right h.2.1 (by omega)
 rw [lwi (by omega),lwi (by omega),okSp_iff]
 omega
theorem fAt_v {x:Fr} {t:Th} (h:FrR x) (r:ThR t):vv (fAt x t):=by
 have:=wd_e r
 have h1:=r.a; have h2:=r.b; have h3:=r.c
 have hs:=fS_e h
 unfold fAt atV vv
 simp only [bif_same,pL_e r.a,pL_e r.b,pL_e r.c,pH_e r r.a (.inl rfl),pH_e r r.b (.inr rfl),pH_e r r.c (.inl rfl)]
 exact ⟨pair_v (by omega) hs,pair_v (by omega) hs,pair_v (by omega) hs⟩
theorem dir_un {t:Th} (r:ThR t):-4294967296<=(dirV t).e/\(dirV t).f<=4294967296:=by
 have:=wd_e r
 rw [dir_e r]
 cases t.k
 .show -4294967296<=4294967296 - t.wd/\(4294967296:Int)<=4294967296; omega
 .show (-4294967296:Int)<=-4294967296/\-4294967296+t.wd<=4294967296; omega
end Go.Ht
namespace Go.Proofs.YtjmhddncomglmaaGreatDoor.K
open Go Go.Eng Go.Ar Go.Rd Go.Vc Go.Ht Go.Iv
noncomputable section
def rHF (C:Ctx) (f:FuncId) (x:Fr) (t:Th):Option (Nd×AV):=oneG hG.size hG.clock ((run C 10000).call f [.int true .u8 x.kd,.agg [.int true .i32 x.c0,.int true .i32 x.c1],.agg [.int true .i32 x.k0,.int true .i32 x.k1],.agg [.int true .i32 x.a0,.int true .i32 x.a1,.int true .i32 x.a2,.int true .i32 x.a3],.agg t.cells,.int true .u8 x.fr] hG)
theorem hf_run (Q:Su->Int->List Int->Ve->Ve->Prop) (A:Su->List Int->Ve->Ve->HO) (x:Fr) (t:Th):rHF (cHF Q A) 3 x t=some (.p (hfN Q x t),.bool true (hfR A x t)):=by kernel_rfl
theorem rhitT_ok:NOk Tryz.prog glob hG 7 (tSpec hG 3 htPa (rhitT okHr (hitA hf0))):=by
 refine tSpec_ok hG_ok hG_plain glob_lt rhit_ok fun its p v e hp=>?_
 unfold rhitT at e
 split at e
 .rename_i xs n ys a b c d e' f g' h i j k l
  split at e
  .rename_i s hs
   cases e
   have hs':=hs
   obtain rfl:=suOf_eq hs
   exact ⟨_,by simp only [rhitV,hs'],hp,rfl,⟨okF3_emp hp.1.1,trivial⟩,rfl,⟨_,rfl⟩,rfl,rfl⟩
  .cases e
 .cases e
theorem cHF_ok:CtxOk (cHF okHr (hitA hf0)):=mkN_ok prog_ok ext_ok (fun x hx=>by
 simp only [tblHF,List.mem_cons,List.not_mem_nil,or_false] at hx
 rcases hx with rfl|rfl|rfl
 .exact hitT_ok hit_ok
 .exact rhitT_ok
 .exact works_ok) fun _ h=>by cases h
def shsHF:List Sh:=[.i .u8,.a [.i .i32,.i .i32],.a [.i .i32,.i .i32],.a [.i .i32,.i .i32,.i .i32,.i .i32],.a [.i .i16,.i .i16,.i .i16,.i .i16,.i .i16,.i .i16,.i .u8,.b],.i .u8]
theorem law_true:∀ xs,xs.map Nu.isN=Sh.kindsL shsHF->inRange (Sh.leavesL shsHF) xs->LawTrue Tryz.prog glob hG 3 (Sh.mkL shsHF xs).1:=by
 intro xs hk r
 obtain ⟨x0,_,rfl,g0⟩:=kn hk
 obtain ⟨x1,_,rfl,g1⟩:=kn g0
 obtain ⟨x2,_,rfl,g2⟩:=kn g1
 obtain ⟨x3,_,rfl,g3⟩:=kn g2
 obtain ⟨x4,_,rfl,g4⟩:=kn g3
 obtain ⟨x5,_,rfl,g5⟩:=kn g4
 obtain ⟨x6,_,rfl,g6⟩:=kn g5
 obtain ⟨x7,_,rfl,g7⟩:=kn g6
 obtain ⟨x8,_,rfl,g15⟩:=kn g7
 obtain ⟨z0,_,rfl,g16⟩:=kn g15
 obtain ⟨z1,_,rfl,g17⟩:=kn g16
 obtain ⟨z2,_,rfl,g18⟩:=kn g17
 obtain ⟨z3,_,rfl,g19⟩:=kn g18
 obtain ⟨z4,_,rfl,g20⟩:=kn g19
 obtain ⟨z5,_,rfl,g21⟩:=kn g20
 obtain ⟨z6,_,rfl,g22⟩:=kn g21
 obtain ⟨z7,_,rfl,g23⟩:=kt g22
 obtain ⟨b,_,rfl,g24⟩:=kn g23
 obtain rfl:=k0 g24
 obtain ⟨r0,r1,r2,r3,r4,r5,r6,r7,r8,t0,t1,t2,t3,t4,t5,t6,t7,-⟩:=r
 have e:(Sh.mkL shsHF [.n x0,.n x1,.n x2,.n x3,.n x4,.n x5,.n x6,.n x7,.n x8,.n z0,.n z1,.n z2,.n z3,.n z4,.n z5,.n z6,.t z7,.n b]).1=[.int true .u8 x0,.agg [.int true .i32 x1,.int true .i32 x2],.agg [.int true .i32 x3,.int true .i32 x4],.agg [.int true .i32 x5,.int true .i32 x6,.int true .i32 x7,.int true .i32 x8],.agg (Th.cells ⟨z0,z1,z2,z3,z4,z5,z6,z7⟩),.int true .u8 b]:=rfl
 rw [e]
 have ht:ThR ⟨z0,z1,z2,z3,z4,z5,z6,z7⟩:=⟨t0,t1,t2,t3,t4,t6⟩
 have hx:FrR ⟨x0,x1,x2,x3,x4,x5,x6,x7,x8,b⟩:=⟨r0,r1,r2,r3,r4,r5,r6,r7,r8,t7⟩
 have hf:0<=b.tmod 14:=by rw [Int.tmod_eq_emod_of_nonneg t7.1]; omega
 obtain ⟨s1,s2⟩:=fSu_r hx
 have hg:(fSu ⟨x0,x1,x2,x3,x4,x5,x6,x7,x8,b⟩).g.size<1000000000:=by
  show (fG _).size<1000000000
  rw [fG_e]; decide
 have o3:okF3 0 []:=⟨by decide,by decide,rfl⟩
 have hn:hfN okHr ⟨x0,x1,x2,x3,x4,x5,x6,x7,x8,b⟩ ⟨z0,z1,z2,z3,z4,z5,z6,z7⟩:=⟨fun _=>rfl,⟨⟨hf,hf⟩,⟨hf,hf⟩,hf,hf⟩,⟨o3,hg⟩,⟨o3,hg⟩,s1,s2,fAt_v hx ht,dir_v ht,(dir_un ht).1,(dir_un ht).2⟩
 exact ⟨cHF okHr (hitA hf0),10000,.p _,true,_,cHF_ok,rfl,rfl,hf_run okHr (hitA hf0) ⟨x0,x1,x2,x3,x4,x5,x6,x7,x8,b⟩ ⟨z0,z1,z2,z3,z4,z5,z6,z7⟩,hn,hfR_t _ _ _⟩
end
end Go.Proofs.YtjmhddncomglmaaGreatDoor.K
