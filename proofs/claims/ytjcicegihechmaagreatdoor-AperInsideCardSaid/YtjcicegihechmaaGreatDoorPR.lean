/- What is proved: AperInside returns true, whatever the input (part 18). No conditions beyond those of the row. -/
import Derived.Test.YtjcicegihechmaaGreatDoorPQ
set_option linter.unusedVariables false
set_option linter.unusedSimpArgs false
set_option linter.unusedSectionVars false
namespace Go.Proofs.YtjcicegihechmaaGreatDoor.K
open Go Go.Eng Go.Ar Go.Rd
noncomputable section
def draftV:Nat->List Itm->Option (Prop×AV×List ABody):=fun sz its=>match its with
 | [.s xs n zs]=>match drOf xs with
  | some d=>some (n=zs.length/\0<=d.gl/\d.gl<=255,.agg ((dsu d).ini++[.lslice sz (dnf d zs)]),[.rows .i64 (dys d zs)])
  | none=>none
 | _=>none
theorem dcells_t (d:Df):tellL d.cells d.cells:=by
 repeat' first
  | exact trivial
  | refine ⟨⟨rfl,rfl⟩,?_⟩
theorem tell_dr (d:Df) (n:Int) (zs:List Int) (coat:AV) (h:tell (.pslice hG.size n.toNat false n) coat):tellL (mkA false hG.size [.s drI .u8] [.s d.nus n zs]) [.agg (d.cells++[coat])]:=by
 have e:mkA false hG.size [.s drI .u8] [.s d.nus n zs]=[.agg (d.cells++[.pslice hG.size n.toNat false n])]:=rfl
 rw [e]
 exact ⟨tellL_app (dcells_t d) ⟨h,trivial⟩,trivial⟩
theorem tavA (d:Df) (g:ByteArray):tellL (avA (dsA d g)) (dsA d g).ini:=by
 repeat' first
  | exact trivial
  | refine ⟨⟨rfl,rfl⟩,?_⟩
  | refine ⟨rfl,?_⟩
theorem tavB (d:Df) (g:ByteArray):tellL (avB (dsB d g)) (dsB d g).ini:=by
 repeat' first
  | exact trivial
  | refine ⟨⟨rfl,rfl⟩,?_⟩
  | refine ⟨rfl,?_⟩
theorem tavC (d:Df) (g:ByteArray):tellL (avC (dsC d g)) (dsC d g).ini:=by
 repeat' first
  | exact trivial
  | refine ⟨⟨rfl,rfl⟩,?_⟩
  | refine ⟨rfl,?_⟩
theorem tavD (d:Df):tellL (avD (dsD d)) (dsD d).ini:=by
 repeat' first
  | exact trivial
  | refine ⟨⟨rfl,rfl⟩,?_⟩
  | refine ⟨rfl,?_⟩
theorem tavE (d:Df):tellL (avE (dsE d)) (dsE d).ini:=by
 repeat' first
  | exact trivial
  | refine ⟨⟨rfl,rfl⟩,?_⟩
  | refine ⟨rfl,?_⟩
theorem tavF (d:Df) (g:ByteArray):tellL (avF (dsF d g)) (dsF d g).ini:=by
 repeat' first
  | exact trivial
  | refine ⟨⟨rfl,rfl⟩,?_⟩
  | refine ⟨rfl,?_⟩
set_option maxRecDepth 4000 in
theorem draft_ok:NOk Tryz.prog glob hG 5 (lSpec hG [.s drI .u8] draftV):=by
 refine lsp_ok false hG_ok hG_plain glob_lt (fun sz its p v bs e hp=>?_) ⟨_,Tryz.func5,rfl⟩
 unfold draftV at e
 split at e
 .rename_i xs n zs
  split at e
  .rename_i d hs
   cases e
   obtain ⟨hn,hg0,hg1⟩:=hp
   obtain rfl:=drOf_eq hs
   have w:W64 d.gl=d.gl:=Go.Ar.i64w (by omega) (by omega)
   have hgl:(W64 d.gl).tmod 5=(((W64 d.gl).tmod 5).toNat:Int)/\((W64 d.gl).tmod 5).toNat<5:=by
    rw [w,Int.tmod_eq_emod_of_nonneg hg0]
    omega
   obtain ⟨hg,hlt⟩:=hgl
   obtain ⟨G,hGe⟩:∃ G,((W64 d.gl).tmod 5).toNat=G:=⟨_,rfl⟩
   rw [hGe] at hg hlt
   have hN:dN d (G:Int):=⟨hg,rfl,rfl,rfl,rfl,rfl⟩
   clear w hg0 hg1
   refine ⟨⟨fun h0=>by rw [hn,h0]; rfl,trivial⟩,rfl,?_⟩
   have fin:∀ {C:Ctx} {coat:AV} {nd:Nd} {init:List AV} {k:Nat} {ys:List Int} (co:CtxOk C) (hP:C.P=Tryz.prog) (hG':C.glob=glob) (hco:tell (.pslice hG.size n.toNat false n) coat) (hr:rd1 C d coat zs=some (nd,init,k,ys)) (hnum:AV.numL init=true) (hnd:nd.val) (ht:tellL init (dsu d).ini) (hk:(dnf d zs:Int)=k) (hy:dys d zs=ys),
     ∃ (C:Ctx) (n':Nat) (ar:List AV) (nd0:Nd) (v0:AV) (k:Hp),CtxOk C/\C.P=Tryz.prog/\C.glob=glob/\tellL (mkA false hG.size [.s drI .u8] [.s d.nus n zs]) ar /\
      (run C n').call 5 ar (viewsH false hG (lists [.s drI .u8] [.s d.nus n zs]))=some ⟨nd0,[⟨.tt,v0,k⟩]⟩/\v0.isPanic=false/\nd0.val/\allOld hG.clock (dropN (k.size - (viewsH false hG (lists [.s drI .u8] [.s d.nus n zs])).size) k.blks)=true/\Tells (viewsH false hG (lists [.s drI .u8] [.s d.nus n zs])).size k v0 sz (.agg ((dsu d).ini++[.lslice sz (dnf d zs)])) [.rows .i64 (dys d zs)]:=by
    intro C coat nd init k ys co hP hG' hco hr hnum hnd ht hk hy
    obtain ⟨v0,q,h1,h2,h3,h4⟩:=outL_tells hr hnum
    exact ⟨C,1000,[.agg (d.cells++[coat])],nd,v0,q,co,hP,hG',tell_dr d n zs coat hco,h1,h2,hnd,h3,h4 sz _ _ _ ht hk hy⟩
   have same:tell (.pslice hG.size n.toNat false n) (co n):=⟨rfl,Nat.le_refl _,rfl⟩
   cases h4:d.kd.tmod 8==4 with
   | true=>
    have ed:dsu d=dsB d (glB G):=by unfold dsu; rw [h4,hGe]; rfl
    have ef:dnf d zs=nfD zs:=by unfold dnf; rw [h4]; rfl
    have ey:dys d zs=filmsD zs:=by unfold dys; rw [h4]; rfl
    have tt:tellL (avB (dsB d (glB G))) (dsu d).ini:=by rw [ed]; exact tavB d _
    rcases zs with _|⟨x,_|⟨y,_|⟨z,_|⟨t,r⟩⟩⟩⟩
    .obtain rfl:n=0:=hn
     exact fin (cDr_ok 4 false false G) rfl rfl same (dr_B0 d G hlt) rfl ⟨hN,h4⟩ tt (by rw [ef]; rfl) ey
    .obtain rfl:n=1:=hn
     exact fin (cDr_ok 4 false false G) rfl rfl same (dr_B1 d x G hlt) rfl ⟨hN,h4⟩ tt (by rw [ef]; rfl) ey
    .obtain rfl:n=2:=hn
     exact fin (cDr_ok 4 false false G) rfl rfl same (dr_B2 d x y G hlt) rfl ⟨hN,h4⟩ tt (by rw [ef]; rfl) ey
    .obtain rfl:n=3:=hn
     exact fin (cDr_ok 4 false false G) rfl rfl same (dr_B3e d x y z G hlt) rfl ⟨hN,h4⟩ tt (by rw [ef]; rfl) ey
    .have h0:4<=n:=by rw [hn]; simp only [List.length_cons]; omega
     exact fin (cDr_ok 4 false true G) rfl rfl (show tell _ (.pslice hG.size 3 true n) from ⟨rfl,by omega,rfl⟩) (dr_B3 d x y z n (t :: r) G hlt) rfl ⟨hN,h4,decide_eq_true (by omega),decide_eq_true (by omega),decide_eq_true (by omega),decide_eq_true (by omega)⟩ tt (by rw [ef]; rfl) ey
   | false=>
    have ef:dnf d zs=0:=by unfold dnf; rw [h4]; rfl
    have ey:dys d zs=[]:=by unfold dys; rw [h4]; rfl
    have ef':(dnf d zs:Int)=(0:Nat):=by rw [ef]
    have fin2:∀ {C:Ctx} {nd:Nd} {init:List AV} (cok:CtxOk C) (hP:C.P=Tryz.prog) (hG':C.glob=glob) (h0:rd1 C d (co 0) []=some (nd,init,0,[])) (h1:∀ x r,rd1 C d (co n) (x :: r)=some (nd,init,0,[])) (hnum:AV.numL init=true) (hnd:nd.val) (ht:tellL init (dsu d).ini),_:=fun {C nd init} cok hP hG' h0 h1 hnum hnd ht=>
     fin (C:=C) (nd:=nd) (init:=init) cok hP hG' same (by
      cases hz:zs with
      | nil=>rw [show n=0 by rw [hn,hz]; rfl]; exact h0
      | cons x r=>exact h1 x r) hnum hnd ht ef' ey
    cases h5:d.kd.tmod 8==5 with
    | true=>
     have ed:dsu d=dsC d (glB G):=by unfold dsu; rw [h4,h5,hGe]; rfl
     exact fin2 (cDr_ok 5 false false G) rfl rfl (dr_C0 d G hlt) (fun x r=>dr_C1 d n x r G hlt) rfl ⟨hN,h4,h5⟩ (by rw [ed]; exact tavC d _)
    | false=>
     cases h6:d.kd.tmod 8==6 with
     | true=>
      have ed:dsu d=dsD d:=by unfold dsu; rw [h4,h5,h6]; rfl
      exact fin2 (cDr_ok 6 false false G) rfl rfl (dr_D0 d G hlt) (fun x r=>dr_D1 d n x r G hlt) rfl ⟨hN,h4,h5,h6⟩ (by rw [ed]; exact tavD d)
     | false=>
      cases h7:d.kd.tmod 8==7 with
      | true=>
       cases ho:d.o.tmod 2==0 with
       | true=>
        have ed:dsu d=dsE d:=by unfold dsu; rw [h4,h5,h6,h7,ho]; rfl
        exact fin2 (cDr_ok 7 true false G) rfl rfl (dr_E0 d G hlt) (fun x r=>dr_E1 d n x r G hlt) rfl ⟨hN,h4,h5,h6,h7,ho⟩ (by rw [ed]; exact tavE d)
       | false=>
        have ed:dsu d=dsF d (glB G):=by unfold dsu; rw [h4,h5,h6,h7,ho,hGe]; rfl
        exact fin2 (cDr_ok 7 false false G) rfl rfl (dr_F0 d G hlt) (fun x r=>dr_F1 d n x r G hlt) rfl ⟨hN,h4,h5,h6,h7,ho⟩ (by rw [ed]; exact tavF d _)
      | false=>
       have ed:dsu d=dsA d (glB G):=by unfold dsu; rw [h4,h5,h6,h7,hGe]; rfl
       exact fin2 (cDr_ok 1 false false G) rfl rfl (dr_A0 d G hlt) (fun x r=>dr_A1 d n x r G hlt) rfl ⟨hN,h4,h5,h6,h7⟩ (by rw [ed]; exact tavA d _)
  .cases e
 .cases e
end
end Go.Proofs.YtjcicegihechmaaGreatDoor.K
