/- What is proved: a law of hits returns true, whatever the input (part 18). No conditions beyond those of the row. -/
import Derived.Test.YtjmhddncomglmaaGreatDoorPQ
set_option linter.unusedVariables false
set_option linter.unusedSimpArgs false
set_option linter.unusedSectionVars false
namespace Go.Proofs.YtjmhddncomglmaaGreatDoor.K
open Go Go.Eng Go.Ar Go.Rd Go.Vc Go.Ht
noncomputable section
def rrV:Nat->List Itm->Option (Prop×AV×List ABody):=fun _ its=>match its with
 | [.n [.n a,.n b,.n c,.n d,.n e,.n f,.n g,.n h,.n i,.n j,.n k,.n l]]=>some ((okSp a b=true/\okSp c d=true/\okSp e f=true)/\okSp g h=true/\okSp i j=true/\okSp k l=true,.bool false true,[])
 | _=>none
def skQ (ck:Int->Int->Int):PSpec:=numSpec [shS] none fun
 | [.n a,.n b]=>.n .i64 (ck a b)
 | _=>.u []
def cRq (ck:Int->Int->Int):Ctx:=mkN Tryz.prog glob hG [(56,hp (skQ ck))] [] ext
def rrA (ck:Int->Int->Int) (a b c d:Int):Bool:=bif ck a b != 0 then true else ck c d != 0
theorem rr_run (ck:Int->Int->Int) (p w:Ve):oneG hG.size hG.clock ((run (cRq ck) 3000).call 21 [.agg (p.cells++w.cells)] hG)=some (.tt,.bool true (bif rrA ck p.a p.b w.a w.b||!rrA ck p.a p.b w.a w.b&&(rrA ck p.c p.d w.c w.d||!rrA ck p.c p.d w.c w.d&&bif ck p.e p.f != 0 then true else ck w.e w.f != 0) then false else true)):=by kernel_rfl
theorem rchk_F:sChk=skQ chkS:=by kernel_rfl
theorem cRq_ok:CtxOk (cRq chkS):=mkN_ok prog_ok ext_ok (fun x hx=>by
 rcases List.mem_cons.1 hx with rfl|hx
 .have:=((rchk_ok.g glob hG).h).n
  rw [rchk_F] at this
  exact this
 .cases hx) fun _ h=>by cases h
theorem rr_ok:NOk Tryz.prog glob hG 21 (lSpec hG [.n shR] rrV):=by
 refine lsp_okM hG_ok hG_plain glob_lt (fun sz its p v bs e hp=>?_) ⟨_,Tryz.func21,rfl⟩
 unfold rrV at e
 split at e
 .rename_i a b c d e' f g h i j k l
  cases e
  refine ⟨trivial,rfl,true,?_⟩
  obtain ⟨⟨h1,h2,h3⟩,h4,h5,h6⟩:=hp
  have ck:∀ {x y:Int},okSp x y=true->chkS x y=0:=fun h=>by unfold chkS; rw [h]; rfl
  have r:=rr_run chkS ⟨a,b,c,d,e',f⟩ ⟨g,h,i,j,k,l⟩
  have e1:rrA chkS a b g h=false:=by unfold rrA; rw [ck h1,ck h4]; rfl
  have e2:rrA chkS c d i j=false:=by unfold rrA; rw [ck h2,ck h5]; rfl
  have hv:(bif rrA chkS a b g h||!rrA chkS a b g h&&(rrA chkS c d i j||!rrA chkS c d i j&&bif chkS e' f != 0 then true else chkS k l != 0) then false else true)=true:=by
   rw [e1,e2,ck h3,ck h6]; rfl
  obtain ⟨q,a1,a2,a3,a4⟩:=oneG_tells r rfl
  exact ⟨cRq chkS,3000,[.agg (Ve.cells ⟨a,b,c,d,e',f⟩++Ve.cells ⟨g,h,i,j,k,l⟩)],.tt,_,q,cRq_ok,rfl,rfl,⟨t12,trivial⟩,a1,a2,trivial,a3,a4 sz _ hv⟩
 .cases e
def rigC:Nat->List Itm->Option (Prop×AV×List ABody):=fun _ its=>match its with
 | [.s xs n ys]=>match suOf xs with
  | some s=>some (okF3 n ys/\s.g.size<1000000000/\rightS s ys=true,.bool false true,[])
  | none=>none
 | _=>none
theorem rigC_ok:NOk Tryz.prog glob hG 20 (lSpec hG [.s suI .i64] rigC):=by
 refine lSpec_weaken rightA_ok fun sz its p v bs e=>?_
 unfold rigC at e
 split at e
 .rename_i xs n ys
  split at e
  .rename_i s hs
   cases e
   refine ⟨okF3 n ys/\s.g.size<1000000000,rightA s ys,by simp only [suV,hs],fun hp=>⟨⟨hp.1,hp.2.1⟩,fun σ U hU=>?_⟩⟩
   have hU:VRel σ (.bool true (rightS s ys)) U:=hU
   rw [hp.2.2] at hU
   exact hU
  .cases e
 .cases e
def cHx (F:HF):Ctx:=mkN Tryz.prog glob hG ((20,lSpec hG [.s suI .i64] rigC) :: (21,lSpec hG [.n shR] rrV) :: tblHh F) [] ext
theorem cHx_ok:CtxOk (cHx hf0):=mkN_ok prog_ok ext_ok (fun x hx=>by
 rcases List.mem_cons.1 hx with rfl|hx
 .exact rigC_ok
 rcases List.mem_cons.1 hx with rfl|hx
 .exact rr_ok
 rcases List.mem_cons.1 hx with rfl|hx
 .exact rcon_ok
 rcases List.mem_cons.1 hx with rfl|hx
 .exact rnw_ok
 .exact tblHr_g x hx) fun _ h=>by cases h
def rHh (C:Ctx) (kd:AV) (s:Su) (n:Int) (ys:List Int) (p w:Ve):Option (Nd×AV):=oneG (viewsH true hG [(.i64,ys)]).size hG.clock ((run C 60000).call 7 [.agg (s.cells kd++[.lslice hG.size n]),.agg (p.cells++w.cells)] (viewsH true hG [(.i64,ys)]))
abbrev sk (s:Su) (k:Int):Su:={ s with kd:=k }
noncomputable def rcC (s:Su):Int:=IntKind.i64.wrap ((bif (IntKind.i64.wrap (s.c+s.l)).tmod 2 != 0 then IntKind.i64.wrap (IntKind.i64.wrap (s.c+s.l) - 1) else IntKind.i64.wrap (s.c+s.l)).tdiv 2)
section
variable (F:HF) (s:Su) (n:Int) (ys:List Int) (p w:Ve)
abbrev hP (k:Int) (q:Prop):Prop:=(okF3 n ys/\(sk s k).g.size<1000000000/\rightS (sk s k) ys=true)/\((okSp p.a p.b=true/\okSp p.c p.d=true/\okSp p.e p.f=true)/\okSp w.a w.b=true/\okSp w.c w.d=true/\okSp w.e w.f=true)/\q
def nd1:Prop:=(((w.e=w.e/\w.f=w.f)/\(p.a=p.a/\p.b=p.b)/\(p.c=p.c/\p.d=p.d)/\(e2 F p w).lo=(e2 F p w).lo/\(e2 F p w).hi=(e2 F p w).hi)/\((!((e6 F p w).e != 0))=true->True/\((!flB s)=true->s.k=s.k/\True/\((!(tryC (eB F p w s.c s.k)==5))=true->(!(tryC (eB F p w s.c s.k) != 0))=true->(okF3 n ys/\(sk s 1).g.size<1000000000)/\((!eI F (sk s 1) ys p w s.c s.k 1048576)=true->(okF3 n ys/\(sk s 1).g.size<1000000000)/\((!eI F (sk s 1) ys p w s.c s.k 67108864)=true->(okF3 n ys/\(sk s 1).g.size<1000000000)/\((!eI F (sk s 1) ys p w s.c s.k 2147483648)=true->okF3 n ys/\(sk s 1).g.size<1000000000)))))/\((!(eC F (sk s 1) ys p w (!flB s) s.c s.k != 0))=true->(((w.e=w.e/\w.f=w.f)/\((eT F (sk s 1) ys p w (!flB s) s.c s.k Iv.lo)=(eT F (sk s 1) ys p w (!flB s) s.c s.k Iv.lo)/\(eT F (sk s 1) ys p w (!flB s) s.c s.k Iv.hi)=(eT F (sk s 1) ys p w (!flB s) s.c s.k Iv.hi))/\(w.c=w.c/\w.d=w.d)/\((eT F (sk s 1) ys p w (!flB s) s.c s.k Iv.lo)=(eT F (sk s 1) ys p w (!flB s) s.c s.k Iv.lo)/\(eT F (sk s 1) ys p w (!flB s) s.c s.k Iv.hi)=(eT F (sk s 1) ys p w (!flB s) s.c s.k Iv.hi))/\((e6 F p w).lo=(e6 F p w).lo/\(e6 F p w).hi=(e6 F p w).hi)/\(e4 F p w).lo=(e4 F p w).lo/\(e4 F p w).hi=(e4 F p w).hi)/\((w.e=w.e/\w.f=w.f)/\((eT F (sk s 1) ys p w (!flB s) s.c s.k Iv.lo)=(eT F (sk s 1) ys p w (!flB s) s.c s.k Iv.lo)/\(eT F (sk s 1) ys p w (!flB s) s.c s.k Iv.hi)=(eT F (sk s 1) ys p w (!flB s) s.c s.k Iv.hi))/\(w.c=w.c/\w.d=w.d)/\((eT F (sk s 1) ys p w (!flB s) s.c s.k Iv.lo)=(eT F (sk s 1) ys p w (!flB s) s.c s.k Iv.lo)/\(eT F (sk s 1) ys p w (!flB s) s.c s.k Iv.hi)=(eT F (sk s 1) ys p w (!flB s) s.c s.k Iv.hi))/\(e6 F p w).lo=(e6 F p w).lo/\(e6 F p w).hi=(e6 F p w).hi)/\((w.e=w.e/\w.f=w.f)/\((eT F (sk s 1) ys p w (!flB s) s.c s.k Iv.lo)=(eT F (sk s 1) ys p w (!flB s) s.c s.k Iv.lo)/\(eT F (sk s 1) ys p w (!flB s) s.c s.k Iv.hi)=(eT F (sk s 1) ys p w (!flB s) s.c s.k Iv.hi))/\(e6 F p w).lo=(e6 F p w).lo/\(e6 F p w).hi=(e6 F p w).hi)/\(w.e=w.e/\w.f=w.f)/\(eT F (sk s 1) ys p w (!flB s) s.c s.k Iv.lo)=(eT F (sk s 1) ys p w (!flB s) s.c s.k Iv.lo)/\(eT F (sk s 1) ys p w (!flB s) s.c s.k Iv.hi)=(eT F (sk s 1) ys p w (!flB s) s.c s.k Iv.hi))/\((!((e12 F p w (eT F (sk s 1) ys p w (!flB s) s.c s.k Iv.lo) (eT F (sk s 1) ys p w (!flB s) s.c s.k Iv.hi)).e != 0))=true->(e12 F p w (eT F (sk s 1) ys p w (!flB s) s.c s.k Iv.lo) (eT F (sk s 1) ys p w (!flB s) s.c s.k Iv.hi)).lo=(e12 F p w (eT F (sk s 1) ys p w (!flB s) s.c s.k Iv.lo) (eT F (sk s 1) ys p w (!flB s) s.c s.k Iv.hi)).lo/\(e12 F p w (eT F (sk s 1) ys p w (!flB s) s.c s.k Iv.lo) (eT F (sk s 1) ys p w (!flB s) s.c s.k Iv.hi)).hi=(e12 F p w (eT F (sk s 1) ys p w (!flB s) s.c s.k Iv.lo) (eT F (sk s 1) ys p w (!flB s) s.c s.k Iv.hi)).hi))))
def nd2:Prop:=(((w.e=w.e/\w.f=w.f)/\(p.a=p.a/\p.b=p.b)/\(p.c=p.c/\p.d=p.d)/\(e2 F p w).lo=(e2 F p w).lo/\(e2 F p w).hi=(e2 F p w).hi)/\((!((e6 F p w).e != 0))=true->True/\(s.k=s.k/\True/\((!(tryC (eB F p w (rcC s) 0)==5))=true->(!(tryC (eB F p w (rcC s) 0) != 0))=true->(okF3 n ys/\(sk s 2).g.size<1000000000)/\((!eI F (sk s 2) ys p w (rcC s) 0 1048576)=true->(okF3 n ys/\(sk s 2).g.size<1000000000)/\((!eI F (sk s 2) ys p w (rcC s) 0 67108864)=true->(okF3 n ys/\(sk s 2).g.size<1000000000)/\((!eI F (sk s 2) ys p w (rcC s) 0 2147483648)=true->okF3 n ys/\(sk s 2).g.size<1000000000)))))/\((!(eC F (sk s 2) ys p w true (rcC s) 0 != 0))=true->(((w.e=w.e/\w.f=w.f)/\((eT F (sk s 2) ys p w true (rcC s) 0 Iv.lo)=(eT F (sk s 2) ys p w true (rcC s) 0 Iv.lo)/\(eT F (sk s 2) ys p w true (rcC s) 0 Iv.hi)=(eT F (sk s 2) ys p w true (rcC s) 0 Iv.hi))/\(w.c=w.c/\w.d=w.d)/\((eT F (sk s 2) ys p w true (rcC s) 0 Iv.lo)=(eT F (sk s 2) ys p w true (rcC s) 0 Iv.lo)/\(eT F (sk s 2) ys p w true (rcC s) 0 Iv.hi)=(eT F (sk s 2) ys p w true (rcC s) 0 Iv.hi))/\((e6 F p w).lo=(e6 F p w).lo/\(e6 F p w).hi=(e6 F p w).hi)/\(e4 F p w).lo=(e4 F p w).lo/\(e4 F p w).hi=(e4 F p w).hi)/\((w.e=w.e/\w.f=w.f)/\((eT F (sk s 2) ys p w true (rcC s) 0 Iv.lo)=(eT F (sk s 2) ys p w true (rcC s) 0 Iv.lo)/\(eT F (sk s 2) ys p w true (rcC s) 0 Iv.hi)=(eT F (sk s 2) ys p w true (rcC s) 0 Iv.hi))/\(w.c=w.c/\w.d=w.d)/\((eT F (sk s 2) ys p w true (rcC s) 0 Iv.lo)=(eT F (sk s 2) ys p w true (rcC s) 0 Iv.lo)/\(eT F (sk s 2) ys p w true (rcC s) 0 Iv.hi)=(eT F (sk s 2) ys p w true (rcC s) 0 Iv.hi))/\(e6 F p w).lo=(e6 F p w).lo/\(e6 F p w).hi=(e6 F p w).hi)/\((w.e=w.e/\w.f=w.f)/\((eT F (sk s 2) ys p w true (rcC s) 0 Iv.lo)=(eT F (sk s 2) ys p w true (rcC s) 0 Iv.lo)/\(eT F (sk s 2) ys p w true (rcC s) 0 Iv.hi)=(eT F (sk s 2) ys p w true (rcC s) 0 Iv.hi))/\(e6 F p w).lo=(e6 F p w).lo/\(e6 F p w).hi=(e6 F p w).hi)/\(w.e=w.e/\w.f=w.f)/\(eT F (sk s 2) ys p w true (rcC s) 0 Iv.lo)=(eT F (sk s 2) ys p w true (rcC s) 0 Iv.lo)/\(eT F (sk s 2) ys p w true (rcC s) 0 Iv.hi)=(eT F (sk s 2) ys p w true (rcC s) 0 Iv.hi))/\((!((e12 F p w (eT F (sk s 2) ys p w true (rcC s) 0 Iv.lo) (eT F (sk s 2) ys p w true (rcC s) 0 Iv.hi)).e != 0))=true->(e12 F p w (eT F (sk s 2) ys p w true (rcC s) 0 Iv.lo) (eT F (sk s 2) ys p w true (rcC s) 0 Iv.hi)).lo=(e12 F p w (eT F (sk s 2) ys p w true (rcC s) 0 Iv.lo) (eT F (sk s 2) ys p w true (rcC s) 0 Iv.hi)).lo/\(e12 F p w (eT F (sk s 2) ys p w true (rcC s) 0 Iv.lo) (eT F (sk s 2) ys p w true (rcC s) 0 Iv.hi)).hi=(e12 F p w (eT F (sk s 2) ys p w true (rcC s) 0 Iv.lo) (eT F (sk s 2) ys p w true (rcC s) 0 Iv.hi)).hi))))
theorem nd1_ok (h:okF3 n ys) (h':s.g.size<1000000000):nd1 F s n ys p w:=by
 unfold nd1
 repeat' first|with_reducible exact rfl|exact h|exact h'|exact True.intro|refine And.intro ?_ ?_|intro _
theorem nd2_ok (h:okF3 n ys) (h':s.g.size<1000000000):nd2 F s n ys p w:=by
 unfold nd2
 repeat' first|with_reducible exact rfl|exact h|exact h'|exact True.intro|refine And.intro ?_ ?_|intro _
theorem hr_1:rHh (cHx F) (.int false .i64 1) s n ys p w=some (.p (hP s n ys p w 1 (nd1 F s n ys p w)),eAv F p w (eT F (sk s 1) ys p w (!flB s) s.c s.k Iv.lo) (eT F (sk s 1) ys p w (!flB s) s.c s.k Iv.hi) (eC F (sk s 1) ys p w (!flB s) s.c s.k)):=by kernel_rfl
theorem hr_2:rHh (cHx F) (.int false .i64 2) s n ys p w=some (.p (hP s n ys p w 2 (nd2 F s n ys p w)),eAv F p w (eT F (sk s 2) ys p w true (rcC s) 0 Iv.lo) (eT F (sk s 2) ys p w true (rcC s) 0 Iv.hi) (eC F (sk s 2) ys p w true (rcC s) 0)):=by kernel_rfl
end
end
end Go.Proofs.YtjmhddncomglmaaGreatDoor.K
