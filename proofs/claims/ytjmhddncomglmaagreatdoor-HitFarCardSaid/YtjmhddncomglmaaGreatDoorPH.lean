/- What is proved: a law of hits returns true, whatever the input (part 8). No conditions beyond those of the row. -/
import Derived.Test.YtjmhddncomglmaaGreatDoorPE
import Derived.Test.YtjmhddncomglmaaGreatDoorPF
import Derived.Test.YtjmhddncomglmaaGreatDoorPG
import Derived.Test.YtjmhddncomglmaaGreatDoorProg
import Derived.Test.YtjmhddncomglmaaGreatDoorRows
import Derived.Laws.Externs
import Derived.KernelRfl
set_option linter.unusedVariables false
set_option linter.unusedSimpArgs false
set_option linter.unusedSectionVars false
namespace Go.Proofs.YtjmhddncomglmaaGreatDoor
open Go Go.Eng
theorem all_names:(Tryz.prog.funcs.toList.all fun fn=>!(fn.name=="runtime.NumGoroutine"))=true:=by kernel_rfl
theorem prog_ok:ProgOk Tryz.prog:=by
 refine ⟨fun f fn h _=>?_,by kernel_rfl⟩
 have h1:fn∈Tryz.prog.funcs.toList:=by
  rw [Array.mem_toList_iff]
  exact Array.mem_of_getElem? h
 have:=List.all_eq_true.1 all_names fn h1
 simpa using this
def ext (f:FuncId) (args:List AV):Option (Nd×AV):=
 match Nat.beq f 203 with
 | true=>match args with
  | [.int false .u64 x,.int false .u64 y,.int false .u64 c]=>match decide (0<=x/\0<=y/\0<=c/\c<=1) with
   | true=>some (.tt,.tuple [mkInt false .u64 ((x+y+c) % 18446744073709551616),mkInt false .u64 ((x+y+c) / 18446744073709551616)])
   | false=>none
  | _=>none
 | false=>none
theorem add64_run (x y c:Int) (hx:0<=x) (hy:0<=y) (hc0:0<=c) (hc:c<=1) (w:World):
  (callFunc 203 #[.int .u64 x,.int .u64 y,.int .u64 c]).run Tryz.prog w=.ok (.value (.tuple #[.int .u64 ((x+y+c) % 18446744073709551616),.int .u64 ((x+y+c) / 18446744073709551616)])) w:=by
 rw [run_callFunc_extern Tryz.func203 (by kernel_rfl) (by kernel_rfl) (by kernel_rfl) (e:=add64Entry) (by kernel_rfl),run_add64 x y c hx hy hc0 hc]
 rfl
theorem ext_ok:ExtOk Tryz.prog ext:=by
 intro f args nd v e hn σ A W ha
 unfold ext at e
 split at e
 .rename_i hf
  have:=Nat.eq_of_beq_eq_true hf
  subst this
  split at e
  .rename_i x y c
   split at e
   .rename_i hd
    have hd:=of_decide_eq_true hd
    cases e
    obtain ⟨V,L,hL,rfl,V2,L2,hL2,rfl,V3,L3,hL3,rfl,hL4⟩:=ha
    rw [hL2,hL3,show L3=[] from hL4] at hL
    have hA:A=#[.int .u64 x,.int .u64 y,.int .u64 c]:=by
     apply Array.toList_inj.1; simpa using hL
    subst hA
    exact ⟨_,⟨_,rfl,_,_,rfl,(mkInt_rel _ _ _ _).2 rfl,_,_,rfl,(mkInt_rel _ _ _ _).2 rfl,rfl⟩,add64_run x y c hd.1 hd.2.1 hd.2.2.1 hd.2.2.2 W⟩
   .cases e
  .cases e
 .cases e
def gl:List (Nat×IntKind×List Int):=[(2,.i64,[1,0]),(0,.i64,[1048576,67108864,2147483648,34359738368]),(1,.i64,[4294967296,4294967296])]
def glob (g:Nat):Option Nat:=
 match Nat.beq g 1 with
 | true=>some 0
 | false=>match Nat.beq g 0 with
  | true=>some 1
  | false=>match Nat.beq g 2 with
   | true=>some 2
   | false=>none
def hG:Hp:=⟨[⟨0,.cells [.int false .i64 1,.int false .i64 0]⟩,⟨0,.cells [.int false .i64 1048576,.int false .i64 67108864,.int false .i64 2147483648,.int false .i64 34359738368]⟩,⟨0,.cells [.int false .i64 4294967296,.int false .i64 4294967296]⟩],3,1⟩
theorem hG_eq:hG=⟨intBlks gl,gl.length,1⟩:=rfl
theorem glob_lt:∀ g i,glob g=some i->i<hG.size:=by
 intro g i h
 unfold glob at h
 repeat' (split at h; · cases h; decide)
 cases h
def laidL:List (String×DataW Unit):=[("monocle/monocleref11.bad",Rows.laid_monocle_monocleref11_bad),("monocle/surface.one",Rows.laid_monocle_surface_one),("monocle/hit.widths",Rows.laid_monocle_hit_widths)]
theorem of_laid {W:World} (h:laidMetH Tryz.prog laidL W):∃ σ:Sg,(∀ gl i,glob gl=some i->∃ N,σ i=some (gl,N))/\HRel σ hG W:=by
 have hl:(laidL.all fun x=>x.2.handleName?.isNone)=true:=by kernel_rfl
 obtain ⟨cs0,e0,n0,p0,h0,d0⟩:=laid_cells h hl (n:="monocle/surface.one") (.tail _ (.head _)) (g:=1) (t:=34) (by kernel_rfl) (by kernel_rfl) (of_decide_eq_true (by kernel_rfl)) (trod_len_struct Tryz.underlying34)
 have q0:=two_ints (k:=.i64) Tryz.underlying34 rfl rfl rfl rfl Tryz.underlying3 (by kernel_rfl) (by kernel_rfl) d0
 obtain ⟨cs1,e1,n1,p1,h1,d1⟩:=laid_cells h hl (n:="monocle/hit.widths") (.tail _ (.tail _ (.head _))) (g:=0) (t:=28) (by kernel_rfl) (by kernel_rfl) (of_decide_eq_true (by kernel_rfl)) (trod_len_arr Tryz.underlying28)
 have q1:=arr_ints (k:=.i64) (ns:=[1048576,67108864,2147483648,34359738368]) Tryz.underlying28 Tryz.underlying3 (by kernel_rfl) (by kernel_rfl) rfl d1
 obtain ⟨cs2,e2,n2,p2,h2,d2⟩:=laid_cells h hl (n:="monocle/monocleref11.bad") (.head _) (g:=2) (t:=34) (by kernel_rfl) (by kernel_rfl) (of_decide_eq_true (by kernel_rfl)) (trod_len_struct Tryz.underlying34)
 have q2:=two_ints (k:=.i64) Tryz.underlying34 rfl rfl rfl rfl Tryz.underlying3 (by kernel_rfl) (by kernel_rfl) d2
 refine ⟨intSg gl,fun g i hg=>?_,hG_eq ▸ int_rel (by decide) fun x hx=>?_⟩
 .unfold glob at hg
  split at hg
  .rename_i hb; cases hg; rw [Nat.eq_of_beq_eq_true hb]; exact ⟨_,rfl⟩
  .split at hg
   .rename_i hb; cases hg; rw [Nat.eq_of_beq_eq_true hb]; exact ⟨_,rfl⟩
   .split at hg
    .rename_i hb; cases hg; rw [Nat.eq_of_beq_eq_true hb]; exact ⟨_,rfl⟩
    .cases hg
 .simp only [gl,List.mem_cons,List.not_mem_nil,or_false] at hx
  rcases hx with rfl|rfl|rfl
  .exact ⟨cs2,e2,h2,q2⟩
  .exact ⟨cs1,e1,h1,q1⟩
  .exact ⟨cs0,e0,h0,q0⟩
end Go.Proofs.YtjmhddncomglmaaGreatDoor
namespace Go.Proofs.YtjmhddncomglmaaGreatDoor.K
open Go Go.Eng Go.Ar
noncomputable section
noncomputable def tblP:List (FuncId×PSpec):=[(111,sChk),(54,sBin addS),(114,sBin subS),(90,sBin mulS),(89,sBin divS),(113,sUn sqrS),(79,sUn sqrtS),(112,sSc xScaleS)]
theorem tblP_ok:TblOk Tryz.prog tblP:=by
 intro x hx
 simp only [tblP,List.mem_cons,List.not_mem_nil,or_false] at hx
 rcases hx with rfl|rfl|rfl|rfl|rfl|rfl|rfl|rfl
 .exact schk_ok
 .exact sadd_ok
 .exact ssub_ok
 .exact smul_ok
 .exact sdiv_ok
 .exact ssqr_ok
 .exact ssqrt_ok
 .exact sscale_ok
theorem tblP_g:∀ x∈tblP,GOk Tryz.prog glob hG x.1 x.2:=fun x hx=>(tblP_ok x hx).g glob hG
theorem hG_plain:blksPlain hG.size hG.blks=true:=by kernel_rfl
end
end Go.Proofs.YtjmhddncomglmaaGreatDoor.K
namespace Go.Proofs.YtjmhddncomglmaaGreatDoor.K
open Go Go.Eng Go.Ar
noncomputable section
def goodV (s:Sp):AV:=.tuple [.agg [.int true .i64 s.lo,.int true .i64 s.hi],.int false .i64 0]
def good4 (ss:List Sh) (F:Int->Int->Int->Int->Sp):PSpec:=fun args=>match Sh.readL ss args with
 | some (_,[.n a,.n b,.n c,.n d])=>some (.p ((F a b c d).e=0),goodV (F a b c d))
 | _=>none
def good2 (ss:List Sh) (F:Int->Int->Sp):PSpec:=fun args=>match Sh.readL ss args with
 | some (_,[.n a,.n b])=>some (.p ((F a b).e=0),goodV (F a b))
 | _=>none
theorem outS_good {σ:Sg} {s:Bool} {x:Sp} {W:Value} (h:VRel σ ((outS x).av s) W) (he:x.e=0):VRel σ (goodV x) W:=by
 obtain ⟨K,rfl,h1⟩:=h
 obtain ⟨V1,L1,e1,h2,h3⟩:=h1
 obtain ⟨V2,L2,e2,h4,h5⟩:=h3
 obtain ⟨K1,rfl,h6⟩:=h2
 obtain ⟨V3,L3,e3,h7,h8⟩:=h6
 obtain ⟨V4,L4,e4,h9,h10⟩:=h8
 have h4:=(Go.Eng.mkInt_rel _ _ _ _).1 h4
 have h7:=(Go.Eng.mkInt_rel _ _ _ _).1 h7
 have h9:=(Go.Eng.mkInt_rel _ _ _ _).1 h9
 rw [he] at h4
 exact ⟨K,rfl,_,L1,e1,⟨K1,rfl,V3,L3,e3,h7,V4,L4,e4,h9,h10⟩,V2,L2,e2,h4,h5⟩
theorem good_bin {f:FuncId} {F:Int->Int->Int->Int->Sp} (g:PureOk Tryz.prog f (sBin F)):GOk Tryz.prog glob hG f (good4 [shS,shS] F):=by
 refine (g.g glob hG).weaken fun args nd v e=>?_
 unfold good4 at e
 split at e
 .rename_i s a b c d hr
  cases e
  refine ⟨.tt,(outS (F a b c d)).av s,?_,fun hn=>⟨trivial,fun σ W hW=>outS_good hW hn⟩⟩
  unfold sBin numSpec
  rw [hr]
 .cases e
theorem good_sc {f:FuncId} {F:Int->Int->Int->Int->Sp} (g:PureOk Tryz.prog f (sSc F)):GOk Tryz.prog glob hG f (good4 [shS,.i .i64,.i .i64] F):=by
 refine (g.g glob hG).weaken fun args nd v e=>?_
 unfold good4 at e
 split at e
 .rename_i s a b c d hr
  cases e
  refine ⟨.tt,(outS (F a b c d)).av s,?_,fun hn=>⟨trivial,fun σ W hW=>outS_good hW hn⟩⟩
  unfold sSc numSpec
  rw [hr]
 .cases e
theorem good_un {f:FuncId} {F:Int->Int->Sp} (g:PureOk Tryz.prog f (sUn F)):GOk Tryz.prog glob hG f (good2 [shS] F):=by
 refine (g.g glob hG).weaken fun args nd v e=>?_
 unfold good2 at e
 split at e
 .rename_i s a b hr
  cases e
  refine ⟨.tt,(outS (F a b)).av s,?_,fun hn=>⟨trivial,fun σ W hW=>outS_good hW hn⟩⟩
  unfold sUn numSpec
  rw [hr]
 .cases e
def nOkSp:List Nu->Bool
 | [.n a,.n b]=>okSp a b
 | _=>false
def chkSpec:PSpec:=fun args=>match Sh.readL [shS] args with
 | some (_,[.n a,.n b])=>some (.p (okSp a b=true),.int false .i64 0)
 | _=>none
theorem chk_of {f:FuncId} (g:GOk Tryz.prog glob hG f (constSpec [shS] nOkSp (.int false .i64 0))):GOk Tryz.prog glob hG f chkSpec:=by
 refine g.weaken fun args nd v e=>?_
 unfold chkSpec at e
 split at e
 .rename_i s a b hr
  cases e
  refine ⟨.p (nOkSp [.n a,.n b]=true),.int false .i64 0,?_,fun hn=>⟨hn,fun σ W hW=>hW⟩⟩
  unfold constSpec
  rw [hr]
 .cases e
theorem chk0:GOk Tryz.prog glob hG 111 chkSpec:=chk_of <|
 const_of (schk_ok.g glob hG) fun xs hk hn=>by
  obtain ⟨a,_,rfl,h1⟩:=kn hk; obtain ⟨b,_,rfl,h2⟩:=kn h1; obtain rfl:=k0 h2
  show Tm.n IntKind.i64 (chkS a b)=_
  unfold chkS
  rw [show okSp a b=true from hn]; rfl
end
end Go.Proofs.YtjmhddncomglmaaGreatDoor.K
namespace Go.Rd
def g1:ByteArray:=⟨#[66,75,55]⟩
def g2:ByteArray:=⟨#[83,70,45,49]⟩
def g3:ByteArray:=⟨#[77,73,82,82,79,82]⟩
def g4:ByteArray:=⟨#[102,95,50]⟩
def isG (b:ByteArray):Prop:=b=g1\/b=g2\/b=g3\/b=g4
end Go.Rd
namespace Go.Proofs.YtjmhddncomglmaaGreatDoor.K
open Go Go.Eng Go.Ar Go.Rd
noncomputable section
theorem hG_ok:hG.ok:=rfl
def zi:Sh:=.c (.int false .i64 0)
def nI:Sh:=.i .i64
def e0:Sh:=.c (.str false ⟨#[]⟩)
def kd (n:Int):Sh:=.c (.int false .i64 n)
def stI:List Sh:=[kd 1,nI,nI,zi,zi,nI,nI,nI,nI,nI,nI,nI,nI,.str,nI,nI,zi,zi,zi,zi,zi]
def biI:List Sh:=[kd 2,nI,nI,nI,nI,zi,zi,zi,zi,zi,zi,zi,nI,.str,nI,nI,zi,zi,zi,zi,zi]
def brI:List Sh:=[kd 3,zi,zi,zi,zi,zi,zi,zi,zi,zi,zi,zi,nI,e0,zi,zi,nI,nI,nI,nI,nI]
def idI:List Sh:=[kd 4,nI,zi,zi,zi,zi,zi,zi,zi,zi,zi,zi,nI,e0,nI,nI,zi,zi,zi,zi,zi]
def noC:Sh:=.c .nilslice
end
end Go.Proofs.YtjmhddncomglmaaGreatDoor.K
namespace Go.Rd
open Go Go.Eng Go.Ar
def cAt (b:ByteArray) (i:Int):Int:=((b.data.toList.getD i.toNat 0).toNat:Int)
def nmAll (L:Int->Bool) (b:ByteArray):Nat->Int->Bool
 | 0,_=>true
 | n+1,i=>L (cAt b i)&&nmAll L b n (IntKind.i64.wrap (i+1))
def let0 (c:Int):Bool:=bif c==45 then true else c==95
def let1 (c:Int):Bool:=bif decide (c>=48) then bif decide (c<=57) then true else let0 c else let0 c
def let2 (c:Int):Bool:=bif decide (c>=97) then bif decide (c<=122) then true else let1 c else let1 c
def letP (c:Int):Bool:=bif decide (c>=65) then bif decide (c<=90) then true else let2 c else let2 c
def lnt0 (c:Int):Bool:=bif c==45 then false else !(c==95)
def lnt1 (c:Int):Bool:=bif decide (c>=48) then bif decide (c<=57) then false else lnt0 c else lnt0 c
def lnt2 (c:Int):Bool:=bif decide (c>=97) then bif decide (c<=122) then false else lnt1 c else lnt1 c
def letN (c:Int):Bool:=bif decide (c>=65) then bif decide (c<=90) then false else lnt2 c else lnt2 c
theorem letN_eq (c:Int):letN c=!letP c:=by
 unfold letN lnt2 lnt1 lnt0 letP let2 let1 let0
 cases decide (c>=65) <;> cases decide (c<=90) <;> cases decide (c>=97) <;> cases decide (c<=122) <;> cases decide (c>=48) <;> cases decide (c<=57) <;> cases c==45 <;> rfl
def nmLen (n:Int):Bool:=bif decide (n>=1) then decide (n<=16) else false
def nameB (b:ByteArray):Bool:=nmAll letP b b.size 0&&nmLen b.size
end Go.Rd
namespace Go.Proofs.YtjmhddncomglmaaGreatDoor.K
open Go Go.Eng Go.Ar Go.Rd
noncomputable section
noncomputable def cE:Ctx:=mkC Tryz.prog [] ext
theorem cE_ok:CtxOk cE:=mkC_ok prog_ok (fun _ h=>by cases h) ext_ok
def nmFr:AFr:=⟨43,none⟩
noncomputable def nmA:Code:=loopOf Tryz.prog 43 0
def nmS (b:ByteArray):St:=⟨[⟨0,.str true b⟩,⟨0,.tuple []⟩,⟨3,.bool false false⟩,⟨0,.tuple []⟩,⟨4,.str true b⟩,⟨5,.int true .i64 b.size⟩,⟨6,.int false .i64 0⟩]++blankT 16,[],⟨[],0,7⟩⟩
def nmD:List (Nat×AV):=(3,.any false) :: deadT 7 8
def nmP (i:Int):Patch:=⟨nmD++[(6,.int true .i64 i)],[],[]⟩
def nmO:Patch:=⟨nmD++[(6,.any false)],[],[]⟩
def nmT:Patch:=⟨nmD++[(6,.any false),(2,.bool false false)],[],[]⟩
def nmU (b:ByteArray):Sum Int:=
 {
  S:=nmP
  I:=fun y=>0<=y/\y<=b.size
  μ:=fun y=>(b.size - y).toNat
  F:=fun y=>bif nmAll letP b (b.size - y).toNat y then (.exit 0,nmO) else (.ret,nmT)
  next:=fun y=>IntKind.i64.wrap (y+1)
  ids:=[]
  X:=fun _ x=>match x with
   | .ret=>some (nmT,[])
   | _=>some (nmO,[]) }
def rmFr:AFr:=⟨95,none⟩
noncomputable def rmA:Code:=loopOf Tryz.prog 95 0
def rmS (b:ByteArray):St:=⟨[⟨0,.str true b⟩,⟨0,.tuple []⟩,⟨3,.bool false false⟩,⟨4,.int false .i64 0⟩]++blankT 49,[],⟨[],0,5⟩⟩
def rmD:List (Nat×AV):=deadT 4 41
def rmP (i:Int):Patch:=⟨rmD++[(3,.int true .i64 i)],[],[]⟩
def rmO:Patch:=⟨rmD++[(3,.any false)],[],[]⟩
def rmT:Patch:=⟨rmD++[(3,.any false),(2,.bool false false)],[],[]⟩
def rmU (b:ByteArray):Sum Int:=
 {
  S:=rmP
  I:=fun y=>0<=y/\y<=b.size
  μ:=fun y=>(b.size - y).toNat
  F:=fun y=>bif nmAll letP b (b.size - y).toNat y then (.exit 0,rmO) else (.ret,rmT)
  next:=fun y=>IntKind.i64.wrap (y+1)
  ids:=[]
  X:=fun _ x=>match x with
   | .ret=>some (rmT,[])
   | _=>some (rmO,[]) }
end
end Go.Proofs.YtjmhddncomglmaaGreatDoor.K
namespace Go.Proofs.YtjmhddncomglmaaGreatDoor.K
open Go Go.Eng Go.Ar Go.Rd
noncomputable section
def nmL (b:ByteArray) (i:Int):Bool:=letP (cAt b i)
def nmI (b:ByteArray) (i:Int):Bool:=decide (i<(b.size:Int))
def nmNd (U:Sum Int) (x y:Ex×Patch) (go stop:Bool) (b:ByteArray) (i:Int):Prop:=
 (nmI b i=true->0<=i/\i<(b.size:Int)) /\
 ((!nmI b i)=true->U.F i=x) /\
 ((nmI b i&&go)=true->IntKind.i64.wrap (i+1)=IntKind.i64.wrap (i+1)/\U.I (U.next i)/\U.μ (U.next i)<U.μ i/\U.F (U.next i)=U.F i) /\
 ((nmI b i&&stop)=true->U.F i=y)
theorem nm_run (b:ByteArray) (i:Int):chkR (nmS b) ((nmU b).way i) ((run cE 300).code nmFr nmA (patch (nmS b) ((nmU b).S i)))=some (.p (nmNd (nmU b) (.exit 0,nmO) (.ret,nmT) (!!nmL b i) (!nmL b i) b i)):=by kernel_rfl
theorem rm_run (b:ByteArray) (i:Int):chkR (rmS b) ((rmU b).way i) ((run cE 300).code rmFr rmA (patch (rmS b) ((rmU b).S i)))=some (.p (nmNd (rmU b) (.exit 0,rmO) (.ret,rmT) (!letN (cAt b i)) (letN (cAt b i)) b i)):=by kernel_rfl
theorem nm_start (b:ByteArray):fit (nmS b) (nmS b) (patch (nmS b) ((nmU b).S 0)) []=some (.p ((0:Int)=0)):=by kernel_rfl
theorem rm_start (b:ByteArray):fit (rmS b) (rmS b) (patch (rmS b) ((rmU b).S 0)) []=some (.p ((0:Int)=0)):=by kernel_rfl
theorem nm_step {b:ByteArray} (hb:b.size<1000000000) {i:Int} (h0:0<=i) (h1:i<=b.size) {x y:Ex×Patch} {U:Sum Int} (hI:U.I=fun y:Int=>0<=y/\y<=(b.size:Int)) (hm:U.μ=fun y:Int=>((b.size:Int) - y).toNat) (hF:U.F=fun y':Int=>bif nmAll letP b ((b.size:Int) - y').toNat y' then x else y) (hn:U.next=fun y:Int=>IntKind.i64.wrap (y+1)) {go stop:Bool} (hg:go=nmL b i) (hs:stop=!nmL b i):nmNd U x y go stop b i:=by
 have w:IntKind.i64.wrap (i+1)=i+1:=i64w (by omega) (by omega)
 subst hg hs
 unfold nmNd nmI
 rw [hI,hm,hF,hn]
 simp only [w,decide_eq_true_eq,Bool.and_eq_true,Bool.not_eq_true',decide_eq_false_iff_not,Bool.not_not]
 have step:i<b.size->((b.size:Int) - i).toNat=((b.size:Int) - (i+1)).toNat+1:=fun h=>by omega
 refine ⟨fun h=>⟨h0,h⟩,fun h=>?_,fun h=>⟨trivial,⟨by omega,by omega⟩,by omega,?_⟩,fun h=>?_⟩
 .rw [show ((b.size:Int) - i).toNat=0 by omega]; rfl
 .rw [step h.1,nmAll,show letP (cAt b i)=true from h.2,w,Bool.true_and]
 .rw [step h.1,nmAll,show letP (cAt b i)=false from h.2,Bool.false_and]; rfl
theorem nm_loop {b:ByteArray} (hb:b.size<1000000000):CodeOk cE nmFr (.loop nmA) (nmS b) ⟨.tt,[⟨.b (nmAll letP b b.size 0),.exit 0,patch (nmS b) nmO⟩,⟨.b (!nmAll letP b b.size 0),.ret,patch (nmS b) nmT⟩]⟩:=
 sum_two (run_sound cE_ok 300) (nmU b) (y0:=0) (show (0:Int)<=0/\(0:Int)<=b.size by omega) ⟨_,nm_start b,rfl⟩ (by kernel_rfl) (fun y hy=>⟨_,nm_run b y,nm_step hb hy.1 hy.2 rfl rfl rfl rfl (Bool.not_not _) rfl⟩) (show (bif nmAll letP b ((b.size:Int) - 0).toNat 0 then _ else _)=_ by rw [show ((b.size:Int) - 0).toNat=b.size by omega])
theorem rm_loop {b:ByteArray} (hb:b.size<1000000000):CodeOk cE rmFr (.loop rmA) (rmS b) ⟨.tt,[⟨.b (nmAll letP b b.size 0),.exit 0,patch (rmS b) rmO⟩,⟨.b (!nmAll letP b b.size 0),.ret,patch (rmS b) rmT⟩]⟩:=
 sum_two (run_sound cE_ok 300) (rmU b) (y0:=0) (show (0:Int)<=0/\(0:Int)<=b.size by omega) ⟨_,rm_start b,rfl⟩ (by kernel_rfl) (fun y hy=>⟨_,rm_run b y,nm_step hb hy.1 hy.2 rfl rfl rfl rfl (by rw [letN_eq,Bool.not_not]; rfl) (letN_eq _)⟩) (show (bif nmAll letP b ((b.size:Int) - 0).toNat 0 then _ else _)=_ by rw [show ((b.size:Int) - 0).toNat=b.size by omega])
noncomputable def cNa (b:ByteArray):Ctx:=withLoops cE [twoLoop 43 7 nmFr nmA (nmS b) (nmAll letP b b.size 0) (.exit 0) nmO .ret nmT]
theorem cNa_ok {b:ByteArray} (hb:b.size<1000000000):CtxOk (cNa b):=withTwo_ok cE_ok (nm_loop hb) (withNone_ok cE_ok)
noncomputable def cRa (b:ByteArray):Ctx:=withLoops cE [twoLoop 95 5 rmFr rmA (rmS b) (nmAll letP b b.size 0) (.exit 0) rmO .ret rmT]
theorem cRa_ok {b:ByteArray} (hb:b.size<1000000000):CtxOk (cRa b):=withTwo_ok cE_ok (rm_loop hb) (withNone_ok cE_ok)
def nmV2 (b:ByteArray):Bool:=bif !nmAll letP b b.size 0 then false else nmLen b.size
theorem name_run (b:ByteArray):oneV ((run (cNa b) 300).call 43 [.str true b] ⟨[],0,1⟩)=some (.p (At nmFr nmFr nmA nmA (nmS b) (nmS b)),.bool true (nmV2 b)):=by kernel_rfl
theorem rname_run (b:ByteArray):oneV ((run (cRa b) 300).call 95 [.str true b] ⟨[],0,1⟩)=some (.p (At rmFr rmFr rmA rmA (rmS b) (rmS b)),.bool true (nmV2 b)):=by kernel_rfl
end
end Go.Proofs.YtjmhddncomglmaaGreatDoor.K
namespace Go.Rd
open Go Go.Eng Go.Ar
def okCK (c k:Int):Prop:=(-1000000000<=c/\c<=1000000000)/\(-100000000<=k/\k<=100000000)
def s0 (c k a b d e:Int):Sp:=(sqrS a b)
def s1 (c k a b d e:Int):Sp:=(sqrS d e)
def s2 (c k a b d e:Int):Sp:=(addS (s0 c k a b d e).lo (s0 c k a b d e).hi (s1 c k a b d e).lo (s1 c k a b d e).hi)
def s3 (c k a b d e:Int):Sp:=(xScaleS (s2 c k a b d e).lo (s2 c k a b d e).hi c 1000000000)
def s4 (c k a b d e:Int):Sp:=(xScaleS (s3 c k a b d e).lo (s3 c k a b d e).hi c 1000000000)
def s5 (c k a b d e:Int):Sp:=(xScaleS (s4 c k a b d e).lo (s4 c k a b d e).hi (IntKind.i64.wrap (1000000+k)) 1000000)
def s6 (c k a b d e:Int):Sp:=(subS 4294967296 4294967296 (s5 c k a b d e).lo (s5 c k a b d e).hi)
def s7 (c k a b d e:Int):Sp:=(sqrtS (s6 c k a b d e).lo (s6 c k a b d e).hi)
def s8 (c k a b d e:Int):Sp:=(addS (s3 c k a b d e).lo (s3 c k a b d e).hi 0 0)
def s9 (c k a b d e:Int):Sp:=(addS 4294967296 4294967296 (s7 c k a b d e).lo (s7 c k a b d e).hi)
def s10 (c k a b d e:Int):Sp:=(divS (s8 c k a b d e).lo (s8 c k a b d e).hi (s9 c k a b d e).lo (s9 c k a b d e).hi)
def s11 (c k a b d e:Int):Sp:=(xScaleS d e c 1000000000)
def s12 (c k a b d e:Int):Sp:=(divS (s11 c k a b d e).lo (s11 c k a b d e).hi (s7 c k a b d e).lo (s7 c k a b d e).hi)
def s13 (c k a b d e:Int):Sp:=(xScaleS a b c 1000000000)
def s14 (c k a b d e:Int):Sp:=(divS (s13 c k a b d e).lo (s13 c k a b d e).hi (s7 c k a b d e).lo (s7 c k a b d e).hi)
def b0 (c k l m a b d e:Int):Sp:=(sqrS a b)
def b1 (c k l m a b d e:Int):Sp:=(xScaleS (b0 c k l m a b d e).lo (b0 c k l m a b d e).hi l 1000000000)
def b2 (c k l m a b d e:Int):Sp:=(sqrS d e)
def b3 (c k l m a b d e:Int):Sp:=(xScaleS (b2 c k l m a b d e).lo (b2 c k l m a b d e).hi c 1000000000)
def b4 (c k l m a b d e:Int):Sp:=(xScaleS (b1 c k l m a b d e).lo (b1 c k l m a b d e).hi l 1000000000)
def b5 (c k l m a b d e:Int):Sp:=(xScaleS (b3 c k l m a b d e).lo (b3 c k l m a b d e).hi c 1000000000)
def b6 (c k l m a b d e:Int):Sp:=(xScaleS (b4 c k l m a b d e).lo (b4 c k l m a b d e).hi (IntKind.i64.wrap (1000000+m)) 1000000)
def b7 (c k l m a b d e:Int):Sp:=(xScaleS (b5 c k l m a b d e).lo (b5 c k l m a b d e).hi (IntKind.i64.wrap (1000000+k)) 1000000)
def b8 (c k l m a b d e:Int):Sp:=(addS (b6 c k l m a b d e).lo (b6 c k l m a b d e).hi (b7 c k l m a b d e).lo (b7 c k l m a b d e).hi)
def b9 (c k l m a b d e:Int):Sp:=(subS 4294967296 4294967296 (b8 c k l m a b d e).lo (b8 c k l m a b d e).hi)
def b10 (c k l m a b d e:Int):Sp:=(sqrtS (b9 c k l m a b d e).lo (b9 c k l m a b d e).hi)
def b11 (c k l m a b d e:Int):Sp:=(addS (b1 c k l m a b d e).lo (b1 c k l m a b d e).hi (b3 c k l m a b d e).lo (b3 c k l m a b d e).hi)
def b12 (c k l m a b d e:Int):Sp:=(addS 4294967296 4294967296 (b10 c k l m a b d e).lo (b10 c k l m a b d e).hi)
def b13 (c k l m a b d e:Int):Sp:=(divS (b11 c k l m a b d e).lo (b11 c k l m a b d e).hi (b12 c k l m a b d e).lo (b12 c k l m a b d e).hi)
def b14 (c k l m a b d e:Int):Sp:=(xScaleS a b l 1000000000)
def b15 (c k l m a b d e:Int):Sp:=(xScaleS (b14 c k l m a b d e).lo (b14 c k l m a b d e).hi l 1000000000)
def b16 (c k l m a b d e:Int):Sp:=(xScaleS (b15 c k l m a b d e).lo (b15 c k l m a b d e).hi (IntKind.i64.wrap (1000000+m)) 1000000)
def b17 (c k l m a b d e:Int):Sp:=(divS (b16 c k l m a b d e).lo (b16 c k l m a b d e).hi (b10 c k l m a b d e).lo (b10 c k l m a b d e).hi)
def b18 (c k l m a b d e:Int):Sp:=(xScaleS d e c 1000000000)
def b19 (c k l m a b d e:Int):Sp:=(xScaleS (b18 c k l m a b d e).lo (b18 c k l m a b d e).hi c 1000000000)
def b20 (c k l m a b d e:Int):Sp:=(xScaleS (b19 c k l m a b d e).lo (b19 c k l m a b d e).hi (IntKind.i64.wrap (1000000+k)) 1000000)
def b21 (c k l m a b d e:Int):Sp:=(divS (b20 c k l m a b d e).lo (b20 c k l m a b d e).hi (b10 c k l m a b d e).lo (b10 c k l m a b d e).hi)
def b22 (c k l m a b d e:Int):Sp:=(mulS (b13 c k l m a b d e).lo (b13 c k l m a b d e).hi (b21 c k l m a b d e).lo (b21 c k l m a b d e).hi)
def b23 (c k l m a b d e:Int):Sp:=(xScaleS (b18 c k l m a b d e).lo (b18 c k l m a b d e).hi 2 1)
def b24 (c k l m a b d e:Int):Sp:=(addS (b23 c k l m a b d e).lo (b23 c k l m a b d e).hi (b22 c k l m a b d e).lo (b22 c k l m a b d e).hi)
def b25 (c k l m a b d e:Int):Sp:=(divS (b24 c k l m a b d e).lo (b24 c k l m a b d e).hi (b12 c k l m a b d e).lo (b12 c k l m a b d e).hi)
def b26 (c k l m a b d e:Int):Sp:=(mulS (b13 c k l m a b d e).lo (b13 c k l m a b d e).hi (b17 c k l m a b d e).lo (b17 c k l m a b d e).hi)
def b27 (c k l m a b d e:Int):Sp:=(xScaleS (b14 c k l m a b d e).lo (b14 c k l m a b d e).hi 2 1)
def b28 (c k l m a b d e:Int):Sp:=(addS (b27 c k l m a b d e).lo (b27 c k l m a b d e).hi (b26 c k l m a b d e).lo (b26 c k l m a b d e).hi)
def b29 (c k l m a b d e:Int):Sp:=(divS (b28 c k l m a b d e).lo (b28 c k l m a b d e).hi (b12 c k l m a b d e).lo (b12 c k l m a b d e).hi)
structure PsagSF (c k a b d e:Int):Prop where
 h0:okCK c k
 h1:okSp a b=true
 h2:okSp d e=true
 h3:(s0 c k a b d e).e=0
 h4:(s1 c k a b d e).e=0
 h5:(s2 c k a b d e).e=0
 h6:(s3 c k a b d e).e=0
 h7:(s4 c k a b d e).e=0
 h8:(s5 c k a b d e).e=0
 h9:(s6 c k a b d e).e=0
 h10:decide ((s6 c k a b d e).lo<=0)=true
structure PsagSG (c k a b d e:Int):Prop where
 h0:okCK c k
 h1:okSp a b=true
 h2:okSp d e=true
 h3:(s0 c k a b d e).e=0
 h4:(s1 c k a b d e).e=0
 h5:(s2 c k a b d e).e=0
 h6:(s3 c k a b d e).e=0
 h7:(s4 c k a b d e).e=0
 h8:(s5 c k a b d e).e=0
 h9:(s6 c k a b d e).e=0
 h10:decide ((s6 c k a b d e).lo<=0)=false
 h11:(s7 c k a b d e).e=0
 h12:(s8 c k a b d e).e=0
 h13:(s9 c k a b d e).e=0
 h14:(s10 c k a b d e).e=0
structure PsagBF (c k l m a b d e:Int):Prop where
 h0:okCK c k
 h1:okCK l m
 h2:okSp a b=true
 h3:okSp d e=true
 h4:(b0 c k l m a b d e).e=0
 h5:(b1 c k l m a b d e).e=0
 h6:(b2 c k l m a b d e).e=0
 h7:(b3 c k l m a b d e).e=0
 h8:(b4 c k l m a b d e).e=0
 h9:(b6 c k l m a b d e).e=0
 h10:(b5 c k l m a b d e).e=0
 h11:(b7 c k l m a b d e).e=0
 h12:(b8 c k l m a b d e).e=0
 h13:(b9 c k l m a b d e).e=0
 h14:decide ((b9 c k l m a b d e).lo<=0)=true
structure PsagBG (c k l m a b d e:Int):Prop where
 h0:okCK c k
 h1:okCK l m
 h2:okSp a b=true
 h3:okSp d e=true
 h4:(b0 c k l m a b d e).e=0
 h5:(b1 c k l m a b d e).e=0
 h6:(b2 c k l m a b d e).e=0
 h7:(b3 c k l m a b d e).e=0
 h8:(b4 c k l m a b d e).e=0
 h9:(b6 c k l m a b d e).e=0
 h10:(b5 c k l m a b d e).e=0
 h11:(b7 c k l m a b d e).e=0
 h12:(b8 c k l m a b d e).e=0
 h13:(b9 c k l m a b d e).e=0
 h14:decide ((b9 c k l m a b d e).lo<=0)=false
 h15:(b10 c k l m a b d e).e=0
 h16:(b11 c k l m a b d e).e=0
 h17:(b12 c k l m a b d e).e=0
 h18:(b13 c k l m a b d e).e=0
structure PslopeS (c k a b d e:Int):Prop where
 h0:okCK c k
 h1:okSp a b=true
 h2:okSp d e=true
 h3:(s0 c k a b d e).e=0
 h4:(s1 c k a b d e).e=0
 h5:(s2 c k a b d e).e=0
 h6:(s3 c k a b d e).e=0
 h7:(s4 c k a b d e).e=0
 h8:(s5 c k a b d e).e=0
 h9:(s6 c k a b d e).e=0
 h10:decide ((s6 c k a b d e).lo<=0)=false
 h11:(s7 c k a b d e).e=0
 h12:(s8 c k a b d e).e=0
 h13:(s9 c k a b d e).e=0
 h14:(s10 c k a b d e).e=0
 h15:(s13 c k a b d e).e=0
 h16:(s14 c k a b d e).e=0
 h17:(s11 c k a b d e).e=0
 h18:(s12 c k a b d e).e=0
structure PslopeB (c k l m a b d e:Int):Prop where
 h0:okCK c k
 h1:okCK l m
 h2:okSp a b=true
 h3:okSp d e=true
 h4:(b0 c k l m a b d e).e=0
 h5:(b1 c k l m a b d e).e=0
 h6:(b2 c k l m a b d e).e=0
 h7:(b3 c k l m a b d e).e=0
 h8:(b4 c k l m a b d e).e=0
 h9:(b6 c k l m a b d e).e=0
 h10:(b5 c k l m a b d e).e=0
 h11:(b7 c k l m a b d e).e=0
 h12:(b8 c k l m a b d e).e=0
 h13:(b9 c k l m a b d e).e=0
 h14:decide ((b9 c k l m a b d e).lo<=0)=false
 h15:(b10 c k l m a b d e).e=0
 h16:(b11 c k l m a b d e).e=0
 h17:(b12 c k l m a b d e).e=0
 h18:(b13 c k l m a b d e).e=0
 h19:(b14 c k l m a b d e).e=0
 h20:(b15 c k l m a b d e).e=0
 h21:(b16 c k l m a b d e).e=0
 h22:(b17 c k l m a b d e).e=0
 h23:(b27 c k l m a b d e).e=0
 h24:(b26 c k l m a b d e).e=0
 h25:(b28 c k l m a b d e).e=0
 h26:(b29 c k l m a b d e).e=0
 h27:(b18 c k l m a b d e).e=0
 h28:(b19 c k l m a b d e).e=0
 h29:(b20 c k l m a b d e).e=0
 h30:(b21 c k l m a b d e).e=0
 h31:(b23 c k l m a b d e).e=0
 h32:(b22 c k l m a b d e).e=0
 h33:(b24 c k l m a b d e).e=0
 h34:(b25 c k l m a b d e).e=0
end Go.Rd
namespace Go.Rd
open Go Go.Eng Go.Ar
def cc (n:Int):Int:=IntKind.i64.wrap (1000*IntKind.i64.wrap n)
end Go.Rd
namespace Go.Rd
open Go Go.Eng Go.Ar
structure Bd (s:Sp) (M:Int):Prop where
 e:s.e=0
 lo:-M<=s.lo
 le:s.lo<=s.hi
 hi:s.hi<=M
structure En (s:Sp) (N D:Int):Prop where
 lo:s.lo*D<=N
 hi:N<=s.hi*D
theorem rd_f {n d:Int} (hd:0<d):rd n d false*d<=n/\n<rd n d false*d+d:=by
 have h1:=Int.mul_ediv_add_emod n d
 have h2:=Int.emod_nonneg n (show d≠0 by omega)
 have h3:=Int.emod_lt_of_pos n hd
 show n / d*d<=n/\n<n / d*d+d
 rw [Int.mul_comm] at h1
 omega
theorem rd_t {n d:Int} (hd:0<d):n<=rd n d true*d/\rd n d true*d<n+d:=by
 have:=rd_f (n:=-n) hd
 have e:rd n d true=-(rd (-n) d false):=rfl
 rw [e,Int.neg_mul]
 omega
theorem rd_le_of {n d M:Int} (hd:0<d) (h:n<=M*d):rd n d true<=M:=by
 have:=(rd_t (n:=n) hd).2
 rcases Int.lt_or_le M (rd n d true) with c|c
 .have:(M+1)*d<=rd n d true*d:=Int.mul_le_mul_of_nonneg_right (by omega) (by omega)
  rw [Int.add_mul] at this
  omega
 .exact c
theorem le_rd_of {n d M:Int} (hd:0<d) (h:M*d<=n):M<=rd n d false:=by
 have:=(rd_f (n:=n) hd).2
 rcases Int.lt_or_le (rd n d false) M with c|c
 .have:(rd n d false+1)*d<=M*d:=Int.mul_le_mul_of_nonneg_right (by omega) (by omega)
  rw [Int.add_mul] at this
  omega
 .exact c
theorem mul_bd {a n M L:Int} (h1:-M<=a) (h2:a<=M) (h3:-L<=n) (h4:n<=L):-(M*L)<=a*n/\a*n<=M*L:=by
 have k1:=Int.mul_nonneg (show 0<=M - a by omega) (show 0<=L - n by omega)
 have k2:=Int.mul_nonneg (show 0<=M+a by omega) (show 0<=L+n by omega)
 have k3:=Int.mul_nonneg (show 0<=M - a by omega) (show 0<=L+n by omega)
 have k4:=Int.mul_nonneg (show 0<=M+a by omega) (show 0<=L - n by omega)
 constructor <;> grind
theorem scale_op {s:Sp} {n d M L M':Int} (h:Bd s M) (hM:M<=4503599627370496) (hn:-L<=n/\n<=L) (hL:L<=4611686018427387904) (hd:1<=d) (hd':d<=4611686018427387904) (hb:M*L<=M'*d) (hM':M'<=4503599627370496) (hbig:M*L<18446744073709551615*d):
  Bd (xScaleS s.lo s.hi n d) M'/\(xScaleS s.lo s.hi n d).lo=rd (mn (s.lo*n) (s.hi*n)) d false/\(xScaleS s.lo s.hi n d).hi=rd (mx (s.lo*n) (s.hi*n)) d true:=by
 obtain ⟨_,h1,h2,h3⟩:=h
 have ha:=mul_bd (n:=n) (L:=L) h1 (show s.lo<=M by omega) hn.1 hn.2
 have hb':=mul_bd (n:=n) (L:=L) (show -M<=s.hi by omega) h3 hn.1 hn.2
 have hx:xScaleS s.lo s.hi n d=scaleS s.lo s.hi n d:=xScaleS_eq _ _ _ _ fun _ _=>by
  have q:0<=abH s.lo s.hi/\abH s.lo s.hi<=M:=by
   have:=le_mx s.hi (-s.lo); unfold abH; omega
  have q':0<=sg n n/\sg n n<=L:=by
   unfold sg; cases hh:decide (n<0) <;> simp at hh ⊢ <;> omega
  have:=Int.mul_le_mul q.2 q'.2 q'.1 (by omega)
  omega
 have o1:okSp s.lo s.hi=true:=okSp_iff.2 (by omega)
 have o2:okR n d=true:=by simp [okR]; omega
 rw [hx]
 unfold scaleS
 rw [o1,o2,cond_true,cond_true]
 have m:=mn_le (s.lo*n) (s.hi*n)
 have k:=le_mx (s.lo*n) (s.hi*n)
 have l1:-M'<=rd (mn (s.lo*n) (s.hi*n)) d false:=le_rd_of (by omega) (by rw [Int.neg_mul]; omega)
 have l2:rd (mx (s.lo*n) (s.hi*n)) d true<=M':=rd_le_of (by omega) (by omega)
 have l3:=rd_le (mn (s.lo*n) (s.hi*n)) d (by omega)
 have l4:=rd_lt_rd (n:=mn (s.lo*n) (s.hi*n)) (m:=mx (s.lo*n) (s.hi*n)) (d:=d) (by omega) (by omega) true
 unfold toldS
 rw [okF_iff.2 (by omega),okF_iff.2 (by omega)]
 exact ⟨⟨rfl,l1,Int.le_trans l3 l4,l2⟩,rfl,rfl⟩
end Go.Rd
namespace Go.Rd
open Go Go.Eng Go.Ar
theorem le_of_sq {a b:Int} (hb:0<=b) (h:a*a<=b*b):a<=b:=by
 rcases Int.lt_or_le b a with c|c
 .have:=Int.mul_le_mul (show b+1<=a by omega) (show b+1<=a by omega) (show 0<=b+1 by omega) (show 0<=a by omega)
  rw [Int.add_mul,Int.mul_add] at this
  omega
 .exact c
theorem lt_of_sq {a b:Int} (hb:0<=b) (h:a*a<b*b):a<b:=by
 rcases Int.lt_or_le a b with c|c
 .exact c
 .have:=Int.mul_le_mul c c hb (Int.le_trans hb c)
  omega
theorem rtV_t {a:Int} (h:sqOk a=true):0<=rtV a true/\a*4294967296<=rtV a true*rtV a true/\(rtV a true=sqR a\/rtV a true=sqR a+1/\sqR a*sqR a<a*4294967296):=by
 obtain ⟨q0,q1,q2,_⟩:=sqR_spec h
 unfold rtV
 cases hh:sqR a*sqR a==a*4294967296 with
 | true=>
  have:=of_decide_eq_true (show decide (sqR a*sqR a=a*4294967296)=true from hh)
  exact ⟨q0,by show _<=sqR a*sqR a; omega,.inl rfl⟩
 | false=>
  have:=of_decide_eq_false (show decide (sqR a*sqR a=a*4294967296)=false from hh)
  exact ⟨by show 0<=sqR a+1; omega,by show _<=(sqR a+1)*(sqR a+1); omega,.inr ⟨rfl,by omega⟩⟩
end Go.Rd
namespace Go.Rd
open Go Go.Eng Go.Ar
theorem mn4 (p q r s:Int):mn (mn (mn p q) r) s<=p/\mn (mn (mn p q) r) s<=q/\mn (mn (mn p q) r) s<=r/\mn (mn (mn p q) r) s<=s/\(∀ m,m<=p->m<=q->m<=r->m<=s->m<=mn (mn (mn p q) r) s):=by
 have h1:=mn_le p q
 have h2:=mn_le (mn p q) r
 have h3:=mn_le (mn (mn p q) r) s
 refine ⟨by omega,by omega,by omega,by omega,fun m _ _ _ _=>by omega⟩
theorem mx4 (p q r s:Int):p<=mx (mx (mx p q) r) s/\q<=mx (mx (mx p q) r) s/\r<=mx (mx (mx p q) r) s/\s<=mx (mx (mx p q) r) s/\(∀ m,p<=m->q<=m->r<=m->s<=m->mx (mx (mx p q) r) s<=m):=by
 have h1:=le_mx p q
 have h2:=le_mx (mx p q) r
 have h3:=le_mx (mx (mx p q) r) s
 refine ⟨by omega,by omega,by omega,by omega,fun m _ _ _ _=>by omega⟩
end Go.Rd
namespace Go.Rd
open Go Go.Eng Go.Ar
structure Wi (s t:Sp):Prop where
 lo:t.lo<=s.lo
 le:s.lo<=s.hi
 hi:s.hi<=t.hi
structure Ri (s:Sp):Prop where
 lo:-4503599627370496<=s.lo
 le:s.lo<=s.hi
 hi:s.hi<=4503599627370496
theorem Ri.ok {s:Sp} (h:Ri s):okSp s.lo s.hi=true:=okSp_iff.2 ⟨h.lo,h.le,h.hi⟩
theorem Ri.of {s:Sp} (h:okSp s.lo s.hi=true):Ri s:=let k:=okSp_iff.1 h; ⟨k.1,k.2.1,k.2.2⟩
theorem Wi.ri {s t:Sp} (w:Wi s t) (h:Ri t):Ri s:=⟨Int.le_trans h.lo w.lo,w.le,Int.le_trans w.hi h.hi⟩
theorem Wi.refl {s:Sp} (h:s.lo<=s.hi):Wi s s:=⟨Int.le_refl _,h,Int.le_refl _⟩
theorem told_ok {lo hi:Int} (h:(toldS lo hi).e=0):toldS lo hi=⟨lo,hi,0⟩/\-4503599627370496<=lo/\lo<=4503599627370496/\-4503599627370496<=hi/\hi<=4503599627370496:=by
 unfold toldS at h ⊢
 cases h1:okF lo <;> cases h2:okF hi <;> rw [h1,h2] at h
 .cases h
 .cases h
 .cases h
 .have:=okF_iff.1 h1
  have:=okF_iff.1 h2
  exact ⟨rfl,by omega,by omega,by omega,by omega⟩
theorem told_of {lo hi:Int} (h1:-4503599627370496<=lo) (h2:lo<=4503599627370496) (h3:-4503599627370496<=hi) (h4:hi<=4503599627370496):toldS lo hi=⟨lo,hi,0⟩:=by
 unfold toldS
 rw [okF_iff.2 (by omega),okF_iff.2 (by omega)]
 rfl
theorem both_ok {a b c d:Int} {r:Sp} (h:(both a b c d r).e=0):okSp a b=true/\okSp c d=true/\both a b c d r=r:=by
 unfold both at h ⊢
 cases h1:okSp a b <;> cases h2:okSp c d <;> rw [h1,h2] at h
 .cases h
 .cases h
 .cases h
 .exact ⟨rfl,rfl,rfl⟩
theorem both_of {a b c d:Int} {r:Sp} (h1:okSp a b=true) (h2:okSp c d=true):both a b c d r=r:=by
 unfold both
 rw [h1,h2]
 rfl
def Mo2 (F:Int->Int->Int->Int->Sp):Prop:=∀ {s t s' t':Sp},Wi s' s->Wi t' t->(F s.lo s.hi t.lo t.hi).e=0->(F s'.lo s'.hi t'.lo t'.hi).e=0/\Wi (F s'.lo s'.hi t'.lo t'.hi) (F s.lo s.hi t.lo t.hi)
def Mo1 (F:Int->Int->Sp):Prop:=∀ {s s':Sp},Wi s' s->(F s.lo s.hi).e=0->(F s'.lo s'.hi).e=0/\Wi (F s'.lo s'.hi) (F s.lo s.hi)
theorem add_mo:Mo2 addS:=by
 intro s t s' t' w v h
 unfold addS at h ⊢
 obtain ⟨h1,h2,h3⟩:=both_ok h
 rw [h3] at h ⊢
 obtain ⟨h4,h5,h6,h7,h8⟩:=told_ok h
 have r:=Ri.of h1
 have q:=Ri.of h2
 rw [both_of (w.ri r).ok (v.ri q).ok]
 obtain ⟨w1,w2,w3⟩:=w
 obtain ⟨v1,v2,v3⟩:=v
 rw [h4,told_of (by omega) (by omega) (by omega) (by omega)]
 exact ⟨rfl,by show s.lo+t.lo<=s'.lo+t'.lo; omega,by show s'.lo+t'.lo<=s'.hi+t'.hi; omega,by show s'.hi+t'.hi<=s.hi+t.hi; omega⟩
theorem sub_mo:Mo2 subS:=by
 intro s t s' t' w v h
 unfold subS at h ⊢
 obtain ⟨h1,h2,h3⟩:=both_ok h
 rw [h3] at h ⊢
 obtain ⟨h4,h5,h6,h7,h8⟩:=told_ok h
 have r:=Ri.of h1
 have q:=Ri.of h2
 rw [both_of (w.ri r).ok (v.ri q).ok]
 obtain ⟨w1,w2,w3⟩:=w
 obtain ⟨v1,v2,v3⟩:=v
 rw [h4,told_of (by omega) (by omega) (by omega) (by omega)]
 exact ⟨rfl,by show s.lo - t.hi<=s'.lo - t'.hi; omega,by show s'.lo - t'.hi<=s'.hi - t'.lo; omega,by show s'.hi - t'.lo<=s.hi - t.lo; omega⟩
theorem mid_le {a b x n M:Int} (h1:a<=x) (h2:x<=b) (u1:a*n<=M) (u2:b*n<=M):x*n<=M:=by
 rcases Int.lt_or_le n 0 with c|c
 .have:=Int.mul_le_mul_of_nonpos_right h1 (Int.le_of_lt c); omega
 .have:=Int.mul_le_mul_of_nonneg_right h2 c; omega
theorem mid_ge {a b x n M:Int} (h1:a<=x) (h2:x<=b) (u1:M<=a*n) (u2:M<=b*n):M<=x*n:=by
 rcases Int.lt_or_le n 0 with c|c
 .have:=Int.mul_le_mul_of_nonpos_right h2 (Int.le_of_lt c); omega
 .have:=Int.mul_le_mul_of_nonneg_right h1 c; omega
theorem box_le {a b c d x y M:Int} (h1:a<=x) (h2:x<=b) (k1:c<=y) (k2:y<=d) (u1:a*c<=M) (u2:a*d<=M) (u3:b*c<=M) (u4:b*d<=M):x*y<=M:=by
 have e1:x*c<=M:=mid_le h1 h2 u1 u3
 have e2:x*d<=M:=mid_le h1 h2 u2 u4
 rw [Int.mul_comm] at e1 e2 ⊢
 exact mid_le k1 k2 e1 e2
theorem box_ge {a b c d x y M:Int} (h1:a<=x) (h2:x<=b) (k1:c<=y) (k2:y<=d) (u1:M<=a*c) (u2:M<=a*d) (u3:M<=b*c) (u4:M<=b*d):M<=x*y:=by
 have e1:M<=x*c:=mid_ge h1 h2 u1 u3
 have e2:M<=x*d:=mid_ge h1 h2 u2 u4
 rw [Int.mul_comm] at e1 e2 ⊢
 exact mid_ge k1 k2 e1 e2
theorem hull_mo {F:Int->Int->Bool->Int} {a b c d a' b' c' d':Int} (h:(hull4 F a b c d).e=0) (hF:∀ x y,(x=a'\/x=b')->(y=c'\/y=d')->F x y false<=F x y true)
  (h1:∀ m x y,(x=a'\/x=b')->(y=c'\/y=d')->m<=F a c false->m<=F a d false->m<=F b c false->m<=F b d false->m<=F x y false)
  (h2:∀ m x y,(x=a'\/x=b')->(y=c'\/y=d')->F a c true<=m->F a d true<=m->F b c true<=m->F b d true<=m->F x y true<=m):
  (hull4 F a' b' c' d').e=0/\Wi (hull4 F a' b' c' d') (hull4 F a b c d):=by
 unfold hull4 at h ⊢
 obtain ⟨h4,h5,h6,h7,h8⟩:=told_ok h
 obtain ⟨m1,m2,m3,m4,_⟩:=mn4 (F a c false) (F a d false) (F b c false) (F b d false)
 obtain ⟨k1,k2,k3,k4,_⟩:=mx4 (F a c true) (F a d true) (F b c true) (F b d true)
 obtain ⟨i1,i2,i3,i4,i5⟩:=mn4 (F a' c' false) (F a' d' false) (F b' c' false) (F b' d' false)
 obtain ⟨j1,j2,j3,j4,j5⟩:=mx4 (F a' c' true) (F a' d' true) (F b' c' true) (F b' d' true)
 rw [h4]
 generalize mn (mn (mn (F a c false) (F a d false)) (F b c false)) (F b d false)=lo at *
 generalize mx (mx (mx (F a c true) (F a d true)) (F b c true)) (F b d true)=hi at *
 have l:=i5 lo (h1 lo _ _ (.inl rfl) (.inl rfl) m1 m2 m3 m4) (h1 lo _ _ (.inl rfl) (.inr rfl) m1 m2 m3 m4) (h1 lo _ _ (.inr rfl) (.inl rfl) m1 m2 m3 m4) (h1 lo _ _ (.inr rfl) (.inr rfl) m1 m2 m3 m4)
 have u:=j5 hi (h2 hi _ _ (.inl rfl) (.inl rfl) k1 k2 k3 k4) (h2 hi _ _ (.inl rfl) (.inr rfl) k1 k2 k3 k4) (h2 hi _ _ (.inr rfl) (.inl rfl) k1 k2 k3 k4) (h2 hi _ _ (.inr rfl) (.inr rfl) k1 k2 k3 k4)
 have f:=hF _ _ (.inl rfl) (.inl rfl)
 generalize mn (mn (mn (F a' c' false) (F a' d' false)) (F b' c' false)) (F b' d' false)=lo' at *
 generalize mx (mx (mx (F a' c' true) (F a' d' true)) (F b' c' true)) (F b' d' true)=hi' at *
 rw [told_of (by omega) (by omega) (by omega) (by omega)]
 exact ⟨rfl,l,by show lo'<=hi'; omega,u⟩
theorem rd_ge_iff {n d m:Int} (hd:0<d):m<=rd n d false ↔ m*d<=n:=by
 constructor
 .intro h
  have:=(rd_f (n:=n) hd).1
  have:=Int.mul_le_mul_of_nonneg_right h (Int.le_of_lt hd)
  omega
 .exact le_rd_of hd
theorem rd_le_iff {n d m:Int} (hd:0<d):rd n d true<=m ↔ n<=m*d:=by
 constructor
 .intro h
  have:=(rd_t (n:=n) hd).1
  have:=Int.mul_le_mul_of_nonneg_right h (Int.le_of_lt hd)
  omega
 .exact rd_le_of hd
theorem Wi.at {s t:Sp} (w:Wi s t) {x:Int} (h:x=s.lo\/x=s.hi):t.lo<=x/\x<=t.hi:=by
 obtain ⟨w1,w2,w3⟩:=w
 omega
theorem mul_mo:Mo2 mulS:=by
 intro s t s' t' w v h
 unfold mulS at h ⊢
 obtain ⟨h1,h2,h3⟩:=both_ok h
 rw [h3] at h ⊢
 rw [both_of (w.ri (Ri.of h1)).ok (v.ri (Ri.of h2)).ok]
 refine hull_mo h (fun x y _ _=>rd_le _ _ (by decide)) ?_ ?_
 .intro m x y hx hy u1 u2 u3 u4
  have a:=w.at hx
  have b:=v.at hy
  exact (rd_ge_iff (by decide)).2 (box_ge a.1 a.2 b.1 b.2 ((rd_ge_iff (by decide)).1 u1) ((rd_ge_iff (by decide)).1 u2) ((rd_ge_iff (by decide)).1 u3) ((rd_ge_iff (by decide)).1 u4))
 .intro m x y hx hy u1 u2 u3 u4
  have a:=w.at hx
  have b:=v.at hy
  exact (rd_le_iff (by decide)).2 (box_le a.1 a.2 b.1 b.2 ((rd_le_iff (by decide)).1 u1) ((rd_le_iff (by decide)).1 u2) ((rd_le_iff (by decide)).1 u3) ((rd_le_iff (by decide)).1 u4))
theorem dF_ge_p {x y m:Int} (hy:0<y):m<=dF x y false ↔ m*y<=x*4294967296:=by
 unfold dF sg
 rw [decide_eq_false (show ¬ y<0 by omega)]
 exact rd_ge_iff hy
theorem dF_le_p {x y m:Int} (hy:0<y):dF x y true<=m ↔ x*4294967296<=m*y:=by
 unfold dF sg
 rw [decide_eq_false (show ¬ y<0 by omega)]
 exact rd_le_iff hy
theorem dF_ge_n {x y m:Int} (hy:y<0):m<=dF x y false ↔ x*4294967296<=m*y:=by
 unfold dF sg
 rw [decide_eq_true hy,cond_true,cond_true,rd_ge_iff (by omega),Int.mul_neg]
 omega
theorem dF_le_n {x y m:Int} (hy:y<0):dF x y true<=m ↔ m*y<=x*4294967296:=by
 unfold dF sg
 rw [decide_eq_true hy,cond_true,cond_true,rd_le_iff (by omega),Int.mul_neg]
 omega
theorem dF_le {x y:Int} (hy:y≠0):dF x y false<=dF x y true:=by
 unfold dF sg
 cases h:decide (y<0) with
 | true=>exact rd_le _ _ (by show 0 < -y; have:=of_decide_eq_true h; omega)
 | false=>exact rd_le _ _ (by show 0<y; have:=of_decide_eq_false h; omega)
theorem lin_ge {a b c d x y m:Int} (h1:a<=x) (_h2:x<=b) (k1:c<=y) (k2:y<=d) (u1:m*c<=a*4294967296) (u2:m*d<=a*4294967296):m*y<=x*4294967296:=by
 have:y*m<=a*4294967296:=mid_le k1 k2 (by rw [Int.mul_comm]; exact u1) (by rw [Int.mul_comm]; exact u2)
 rw [Int.mul_comm] at this
 omega
theorem lin_le {a b c d x y m:Int} (_h1:a<=x) (h2:x<=b) (k1:c<=y) (k2:y<=d) (u1:b*4294967296<=m*c) (u2:b*4294967296<=m*d):x*4294967296<=m*y:=by
 have:b*4294967296<=y*m:=mid_ge k1 k2 (by rw [Int.mul_comm c m]; exact u1) (by rw [Int.mul_comm d m]; exact u2)
 rw [Int.mul_comm y m] at this
 omega
theorem div_ok {a b c d:Int} (h:(divS a b c d).e=0):okSp a b=true/\okSp c d=true/\(0<c\/d<0)/\divS a b c d=hull4 dF a b c d:=by
 unfold divS at h ⊢
 obtain ⟨h1,h2,h3⟩:=both_ok h
 rw [h3] at h ⊢
 cases h4:decide (c<=0) <;> cases h5:decide (0<=d) <;> rw [h4,h5] at h
 .have:=of_decide_eq_false h4; exact ⟨h1,h2,.inl (by omega),rfl⟩
 .have:=of_decide_eq_false h4; exact ⟨h1,h2,.inl (by omega),rfl⟩
 .have:=of_decide_eq_false h5; exact ⟨h1,h2,.inr (by omega),rfl⟩
 .cases h
theorem div_of {a b c d:Int} (h1:okSp a b=true) (h2:okSp c d=true) (h3:0<c\/d<0):divS a b c d=hull4 dF a b c d:=by
 unfold divS
 rw [both_of h1 h2]
 rcases h3 with h|h
 .rw [decide_eq_false (show ¬ c<=0 by omega)]; rfl
 .rw [decide_eq_false (show ¬ 0<=d by omega),Bool.and_false]; rfl
theorem div_mo:Mo2 divS:=by
 intro s t s' t' w v h
 obtain ⟨h1,h2,h3,h4⟩:=div_ok h
 rw [h4] at h ⊢
 obtain ⟨v1,v2,v3⟩:=id v
 rw [div_of (w.ri (Ri.of h1)).ok (v.ri (Ri.of h2)).ok (by omega)]
 rcases h3 with h3|h3
 .refine hull_mo h (fun x y _ hy=>dF_le (by have:=v.at hy; omega)) ?_ ?_
  .intro m x y hx hy u1 u2 u3 u4
   have a:=w.at hx
   have b:=v.at hy
   exact (dF_ge_p (by omega)).2 (lin_ge a.1 a.2 b.1 b.2 ((dF_ge_p (by omega)).1 u1) ((dF_ge_p (by omega)).1 u2))
  .intro m x y hx hy u1 u2 u3 u4
   have a:=w.at hx
   have b:=v.at hy
   exact (dF_le_p (by omega)).2 (lin_le a.1 a.2 b.1 b.2 ((dF_le_p (by omega)).1 u3) ((dF_le_p (by omega)).1 u4))
 .refine hull_mo h (fun x y _ hy=>dF_le (by have:=v.at hy; omega)) ?_ ?_
  .intro m x y hx hy u1 u2 u3 u4
   have a:=w.at hx
   have b:=v.at hy
   exact (dF_ge_n (by omega)).2 (lin_le a.1 a.2 b.1 b.2 ((dF_ge_n (by omega)).1 u3) ((dF_ge_n (by omega)).1 u4))
  .intro m x y hx hy u1 u2 u3 u4
   have a:=w.at hx
   have b:=v.at hy
   exact (dF_le_n (by omega)).2 (lin_ge a.1 a.2 b.1 b.2 ((dF_le_n (by omega)).1 u1) ((dF_le_n (by omega)).1 u2))
theorem abs_mo {s s':Sp} (w:Wi s' s):abL s.lo s.hi<=abL s'.lo s'.hi/\abH s'.lo s'.hi<=abH s.lo s.hi/\0<=abL s.lo s.hi/\abL s'.lo s'.hi<=abH s'.lo s'.hi:=by
 obtain ⟨w1,w2,w3⟩:=w
 unfold abL abH
 have:=le_mx s.lo (-s.hi)
 have:=le_mx (mx s.lo (-s.hi)) 0
 have:=le_mx s'.lo (-s'.hi)
 have:=le_mx (mx s'.lo (-s'.hi)) 0
 have:=le_mx s.hi (-s.lo)
 have:=le_mx s'.hi (-s'.lo)
 omega
theorem sq_le {a b:Int} (h:0<=a) (k:a<=b):a*a<=b*b:=Int.mul_le_mul k k h (Int.le_trans h k)
theorem sqr_mo:Mo1 sqrS:=by
 intro s s' w h
 unfold sqrS at h ⊢
 cases h1:okSp s.lo s.hi <;> rw [h1] at h
 .cases h
 .rw [(w.ri (Ri.of h1)).ok]
  rw [cond_true] at h ⊢
  rw [cond_true]
  obtain ⟨h4,h5,h6,h7,h8⟩:=told_ok h
  obtain ⟨p1,p2,p3,p4⟩:=abs_mo w
  rw [h4]
  have l:=rd_lt_rd (d:=4294967296) (by decide) (sq_le p3 p1) false
  have u:=rd_lt_rd (d:=4294967296) (by decide) (sq_le (Int.le_trans (Int.le_trans p3 p1) p4) p2) true
  have m:=Int.le_trans (rd_lt_rd (d:=4294967296) (by decide) (sq_le (Int.le_trans p3 p1) p4) false) (rd_le (abH s'.lo s'.hi*abH s'.lo s'.hi) 4294967296 (by decide))
  generalize rd (abL s.lo s.hi*abL s.lo s.hi) 4294967296 false=lo at *
  generalize rd (abH s.lo s.hi*abH s.lo s.hi) 4294967296 true=hi at *
  generalize rd (abL s'.lo s'.hi*abL s'.lo s'.hi) 4294967296 false=lo' at *
  generalize rd (abH s'.lo s'.hi*abH s'.lo s'.hi) 4294967296 true=hi' at *
  rw [told_of (by omega) (by omega) (by omega) (by omega)]
  exact ⟨rfl,l,m,u⟩
theorem sqR_mono {a b:Int} (ha:sqOk a=true) (hb:sqOk b=true) (h:a<=b):sqR a<=sqR b:=by
 obtain ⟨u0,u1,u2,_⟩:=sqR_spec ha
 obtain ⟨v0,v1,v2,_⟩:=sqR_spec hb
 have:=lt_of_sq (a:=sqR a) (b:=sqR b+1) (by omega) (by omega)
 omega
theorem rtT_mono {a b:Int} (ha:sqOk a=true) (hb:sqOk b=true) (h:a<=b):rtV a true<=rtV b true:=by
 obtain ⟨u0,u1,u2⟩:=rtV_t ha
 obtain ⟨v0,v1,v2⟩:=rtV_t hb
 rcases u2 with u2|⟨u2,u3⟩
 .obtain ⟨q0,q1,_,_⟩:=sqR_spec ha
  rw [u2]
  exact le_of_sq v0 (by omega)
 .have:=lt_of_sq (a:=sqR a) (b:=rtV b true) v0 (by omega)
  omega
theorem sqrt_mo:Mo1 sqrtS:=by
 intro s s' w h
 unfold sqrtS at h ⊢
 cases h1:okSp s.lo s.hi <;> rw [h1] at h
 .cases h
 .have r:=Ri.of h1
  have r':=w.ri r
  rw [r'.ok]
  rw [cond_true] at h ⊢
  rw [cond_true]
  obtain ⟨w1,w2,w3⟩:=w
  obtain ⟨r1,r2,r3⟩:=r
  cases h2:decide (s.lo<0) <;> rw [h2] at h
  .have:=of_decide_eq_false h2
   rw [decide_eq_false (show ¬ s'.lo<0 by omega)]
   have k1:sqOk s.lo=true:=by unfold sqOk; rw [okF_iff.2 (by omega)]; simpa using (show 0<=s.lo by omega)
   have k2:sqOk s.hi=true:=by unfold sqOk; rw [okF_iff.2 (by omega)]; simpa using (show 0<=s.hi by omega)
   have k3:sqOk s'.lo=true:=by unfold sqOk; rw [okF_iff.2 (by omega)]; simpa using (show 0<=s'.lo by omega)
   have k4:sqOk s'.hi=true:=by unfold sqOk; rw [okF_iff.2 (by omega)]; simpa using (show 0<=s'.hi by omega)
   obtain ⟨a0,a1,a2⟩:=rtV_t k4
   obtain ⟨b0,b1,_,_⟩:=sqR_spec k3
   exact ⟨rfl,sqR_mono k1 k3 w1,show sqR s'.lo<=rtV s'.hi true from le_of_sq a0 (by omega),rtT_mono k4 k2 w3⟩
  .cases h
theorem scale_mo (n d:Int):Mo1 fun a b=>scaleS a b n d:=by
 intro s s' w h
 show (scaleS s'.lo s'.hi n d).e=0/\Wi (scaleS s'.lo s'.hi n d) (scaleS s.lo s.hi n d)
 have h:(scaleS s.lo s.hi n d).e=0:=h
 unfold scaleS at h ⊢
 cases h1:okSp s.lo s.hi <;> rw [h1] at h
 .cases h
 .rw [(w.ri (Ri.of h1)).ok]
  rw [cond_true] at h ⊢
  rw [cond_true]
  cases h2:okR n d <;> rw [h2] at h
  .cases h
  .rw [cond_true] at h ⊢
   rw [cond_true]
   have hd:0<d:=by
    unfold okR at h2
    simp only [Bool.and_eq_true,decide_eq_true_eq] at h2
    omega
   obtain ⟨h4,h5,h6,h7,h8⟩:=told_ok h
   have m1:=mn_le (s.lo*n) (s.hi*n)
   have m2:=mn_le (s'.lo*n) (s'.hi*n)
   have m3:=le_mx (s.lo*n) (s.hi*n)
   have m4:=le_mx (s'.lo*n) (s'.hi*n)
   obtain ⟨w1,w2,w3⟩:=w
   have c1:=mid_ge w1 (Int.le_trans w2 w3) m1.1 m1.2.1
   have c2:=mid_ge (Int.le_trans w1 w2) w3 m1.1 m1.2.1
   have c3:=mid_le w1 (Int.le_trans w2 w3) m3.1 m3.2.1
   have c4:=mid_le (Int.le_trans w1 w2) w3 m3.1 m3.2.1
   rw [h4]
   have l:=rd_lt_rd hd (show mn (s.lo*n) (s.hi*n)<=mn (s'.lo*n) (s'.hi*n) by omega) false
   have u:=rd_lt_rd hd (show mx (s'.lo*n) (s'.hi*n)<=mx (s.lo*n) (s.hi*n) by omega) true
   have m:=Int.le_trans (rd_lt_rd hd (show mn (s'.lo*n) (s'.hi*n)<=mx (s'.lo*n) (s'.hi*n) by omega) false) (rd_le (mx (s'.lo*n) (s'.hi*n)) d hd)
   generalize rd (mn (s.lo*n) (s.hi*n)) d false=lo at *
   generalize rd (mx (s.lo*n) (s.hi*n)) d true=hi at *
   generalize rd (mn (s'.lo*n) (s'.hi*n)) d false=lo' at *
   generalize rd (mx (s'.lo*n) (s'.hi*n)) d true=hi' at *
   rw [told_of (by omega) (by omega) (by omega) (by omega)]
   exact ⟨rfl,l,m,u⟩
end Go.Rd
namespace Go.Rd
open Go Go.Eng Go.Ar
def ng (s:Sp):Sp:=⟨-s.hi,-s.lo,s.e⟩
end Go.Rd
namespace Go.Rd
open Go Go.Eng Go.Ar
def gt:List Sp->Nat->Sp
 | [],_=>⟨0,0,0⟩
 | a :: _,0=>a
 | _ :: l,i+1=>gt l i
def sq1 (i:Nat) (r:List Sp):Sp:=sqrS (gt r i).lo (gt r i).hi
def rt1 (i:Nat) (r:List Sp):Sp:=sqrtS (gt r i).lo (gt r i).hi
def ad2 (i j:Nat) (r:List Sp):Sp:=addS (gt r i).lo (gt r i).hi (gt r j).lo (gt r j).hi
def sb2 (i j:Nat) (r:List Sp):Sp:=subS (gt r i).lo (gt r i).hi (gt r j).lo (gt r j).hi
def ml2 (i j:Nat) (r:List Sp):Sp:=mulS (gt r i).lo (gt r i).hi (gt r j).lo (gt r j).hi
def dv2 (i j:Nat) (r:List Sp):Sp:=divS (gt r i).lo (gt r i).hi (gt r j).lo (gt r j).hi
def sc1 (i:Nat) (n d:Int) (r:List Sp):Sp:=xScaleS (gt r i).lo (gt r i).hi n d
inductive Wis:List Sp->List Sp->Prop where
 | nil:Wis [] []
 | cons {a b:Sp} {l m:List Sp}:Wi a b->Wis l m->Wis (a :: l) (b :: m)
theorem Wis.gt {l m:List Sp} (h:Wis l m):∀ i,Wi (gt l i) (gt m i):=by
 induction h with
 | nil=>exact fun _=>⟨Int.le_refl _,Int.le_refl _,Int.le_refl _⟩
 | cons w _ ih=>
  intro i
  cases i with
  | zero=>exact w
  | succ i=>exact ih i
def Mo (f:List Sp->Sp):Prop:=∀ {l m:List Sp},Wis l m->(f m).e=0->(f l).e=0/\Wi (f l) (f m)
theorem sq1_mo (i:Nat):Mo (sq1 i):=fun h e=>sqr_mo (h.gt i) e
theorem rt1_mo (i:Nat):Mo (rt1 i):=fun h e=>sqrt_mo (h.gt i) e
theorem ad2_mo (i j:Nat):Mo (ad2 i j):=fun h e=>add_mo (h.gt i) (h.gt j) e
theorem sb2_mo (i j:Nat):Mo (sb2 i j):=fun h e=>sub_mo (h.gt i) (h.gt j) e
theorem ml2_mo (i j:Nat):Mo (ml2 i j):=fun h e=>mul_mo (h.gt i) (h.gt j) e
theorem dv2_mo (i j:Nat):Mo (dv2 i j):=fun h e=>div_mo (h.gt i) (h.gt j) e
def okSc (n d:Int):Prop:=okR n d=true->4503599627370496*sg n n<18446744073709551615*d
theorem abH_le {a b:Int} (h:okSp a b=true):0<=abH a b/\abH a b<=4503599627370496:=by
 have:=okSp_iff.1 h
 unfold abH
 have:=le_mx b (-a)
 omega
theorem sc_eq {a b n d:Int} (k:okSc n d):xScaleS a b n d=scaleS a b n d:=by
 refine xScaleS_eq a b n d fun h1 h2=>?_
 have:=k h2
 have p:=abH_le h1
 have q:0<=sg n n:=by
  unfold sg
  cases h:decide (n<0) with
  | true=>have:=of_decide_eq_true h; show 0<=-n; omega
  | false=>have:=of_decide_eq_false h; show 0<=n; omega
 have:=Int.mul_le_mul_of_nonneg_right p.2 q
 omega
theorem sc1_mo (i:Nat) {n d:Int} (k:okSc n d):Mo (sc1 i n d):=fun {l m} h e=>by
 unfold sc1 at e ⊢
 rw [sc_eq k] at e ⊢
 rw [sc_eq k]
 exact scale_mo n d (h.gt i) e
theorem bne0 {E:Int} (h:E≠0):(E != 0)=true:=by simpa using h
theorem beq0 {E:Int} (h:E≠0):(E==0)=false:=by simpa using h
def tn (b:Bool) (s:Sp):Sp:=bif b then ng s else s
inductive Tns:List Bool->List Sp->List Sp->Prop where
 | nil:Tns [] [] []
 | cons {b:Bool} {a c:Sp} {bs:List Bool} {l m:List Sp}:a=tn b c->Tns bs l m->Tns (b :: bs) (a :: l) (c :: m)
def bt:List Bool->Nat->Bool
 | [],_=>false
 | a :: _,0=>a
 | _ :: l,i+1=>bt l i
theorem Tns.gt {bs:List Bool} {l m:List Sp} (h:Tns bs l m):∀ i,gt l i=tn (bt bs i) (gt m i):=by
 induction h with
 | nil=>exact fun _=>rfl
 | cons e _ ih=>intro i; cases i with
  | zero=>exact e
  | succ i=>exact ih i
theorem Tns.e {bs:List Bool} {l m:List Sp} (h:Tns bs l m) (i:Nat):(Go.Rd.gt l i).e=(Go.Rd.gt m i).e:=by
 rw [h.gt i]; cases bt bs i <;> rfl
def evS (acc v c:Sp):Sp:=
 ⟨bif (mulS acc.lo acc.hi v.lo v.hi).e==0 then (addS (mulS acc.lo acc.hi v.lo v.hi).lo (mulS acc.lo acc.hi v.lo v.hi).hi c.lo c.hi).lo else (mulS acc.lo acc.hi v.lo v.hi).lo,
  bif (mulS acc.lo acc.hi v.lo v.hi).e==0 then (addS (mulS acc.lo acc.hi v.lo v.hi).lo (mulS acc.lo acc.hi v.lo v.hi).hi c.lo c.hi).hi else (mulS acc.lo acc.hi v.lo v.hi).hi,
  bif (mulS acc.lo acc.hi v.lo v.hi).e==0 then (addS (mulS acc.lo acc.hi v.lo v.hi).lo (mulS acc.lo acc.hi v.lo v.hi).hi c.lo c.hi).e else (mulS acc.lo acc.hi v.lo v.hi).e⟩
def ev1 (v c3:Sp):Sp:=evS ⟨0,0,0⟩ v c3
def ev2 (v c2 c3:Sp):Sp:=evS (ev1 v c3) v c2
def ev3 (v c1 c2 c3:Sp):Sp:=evS (ev2 v c2 c3) v c1
def ev4 (v c0 c1 c2 c3:Sp):Sp:=evS (ev3 v c1 c2 c3) v c0
def evB (v c0 c1 c2 c3:Sp):Bool:=
 (ev1 v c3).e != 0||!((ev1 v c3).e != 0)&&((ev2 v c2 c3).e != 0||!((ev2 v c2 c3).e != 0)&&((ev3 v c1 c2 c3).e != 0||!((ev3 v c1 c2 c3).e != 0)&&(ev4 v c0 c1 c2 c3).e != 0))
def evG (v c0 c1 c2 c3:Sp) (g:Sp->Int):Int:=
 bif evB v c0 c1 c2 c3 then bif (ev1 v c3).e != 0 then g (ev1 v c3) else bif (ev2 v c2 c3).e != 0 then g (ev2 v c2 c3) else bif (ev3 v c1 c2 c3).e != 0 then g (ev3 v c1 c2 c3) else g (ev4 v c0 c1 c2 c3) else g (ev4 v c0 c1 c2 c3)
def evalS (v c0 c1 c2 c3:Sp):Sp:=⟨evG v c0 c1 c2 c3 Sp.lo,evG v c0 c1 c2 c3 Sp.hi,evG v c0 c1 c2 c3 Sp.e⟩
def evT (a0 b0 a1 b1 a2 b2 a3 b3 x y:Int):Sp:=evalS ⟨x,y,0⟩ ⟨a0,b0,0⟩ ⟨a1,b1,0⟩ ⟨a2,b2,0⟩ ⟨a3,b3,0⟩
theorem evG_ok {v c0 c1 c2 c3:Sp} (h:(evalS v c0 c1 c2 c3).e=0):(ev1 v c3).e=0/\(ev2 v c2 c3).e=0/\(ev3 v c1 c2 c3).e=0/\(ev4 v c0 c1 c2 c3).e=0:=by
 have h:evG v c0 c1 c2 c3 Sp.e=0:=h
 unfold evG evB at h
 rcases Decidable.em ((ev1 v c3).e=0) with d1|d1
 .rcases Decidable.em ((ev2 v c2 c3).e=0) with d2|d2
  .rcases Decidable.em ((ev3 v c1 c2 c3).e=0) with d3|d3
   .refine ⟨d1,d2,d3,?_⟩
    simp only [d1,d2,d3] at h
    simpa using h
   .simp only [d1,d2,bne0 d3,Bool.true_or,Bool.or_true,Bool.and_true,bne_self_eq_false,Bool.not_false,Bool.true_and,cond_true,cond_false] at h
    exact absurd h d3
  .simp only [d1,bne0 d2,Bool.true_or,Bool.or_true,Bool.and_true,bne_self_eq_false,Bool.not_false,Bool.true_and,cond_true,cond_false] at h
   exact absurd h d2
 .simp only [bne0 d1,Bool.true_or,cond_true] at h
  exact absurd h d1
theorem evG_of {v c0 c1 c2 c3:Sp} (h1:(ev1 v c3).e=0) (h2:(ev2 v c2 c3).e=0) (h3:(ev3 v c1 c2 c3).e=0) (h4:(ev4 v c0 c1 c2 c3).e=0):evalS v c0 c1 c2 c3=ev4 v c0 c1 c2 c3:=by
 unfold evalS evG evB
 simp only [h1,h2,h3,h4,bne_self_eq_false,Bool.not_false,Bool.true_and,Bool.or_self,cond_false]
 exact Eq.trans (by rw [h4]) (show (⟨(ev4 v c0 c1 c2 c3).lo,(ev4 v c0 c1 c2 c3).hi,(ev4 v c0 c1 c2 c3).e⟩:Sp)=_ from rfl)
def Oks (l:List Sp):Prop:=∀ i,Ri (gt l i)
theorem Wis.refl:∀ {l:List Sp},Oks l->Wis l l
 | [],_=>.nil
 | _ :: _,h=>.cons ⟨Int.le_refl _,(h 0).le,Int.le_refl _⟩ (Wis.refl fun i=>h (i+1))
def Ok (f:List Sp->Sp):Prop:=∀ {l:List Sp},Oks l->(f l).e=0->Ri (f l)
theorem told_ri {lo hi:Int} (h:(toldS lo hi).e=0) (k:(toldS lo hi).lo<=(toldS lo hi).hi):Ri (toldS lo hi):=by
 obtain ⟨h1,h2,h3,h4,h5⟩:=told_ok h
 rw [h1] at k ⊢
 exact ⟨h2,k,h5⟩
theorem sq1_ok (i:Nat):Ok (sq1 i):=fun {l} h e=>by
 have w:=(sq1_mo i (Wis.refl h) e).2.le
 unfold sq1 sqrS at e w ⊢
 rw [(h i).ok] at e w ⊢
 exact told_ri e w
theorem ad2_ok (i j:Nat):Ok (ad2 i j):=fun {l} h e=>by
 have w:=(ad2_mo i j (Wis.refl h) e).2.le
 unfold ad2 addS at e w ⊢
 rw [both_of (h i).ok (h j).ok] at e w ⊢
 exact told_ri e w
theorem sb2_ok (i j:Nat):Ok (sb2 i j):=fun {l} h e=>by
 have w:=(sb2_mo i j (Wis.refl h) e).2.le
 unfold sb2 subS at e w ⊢
 rw [both_of (h i).ok (h j).ok] at e w ⊢
 exact told_ri e w
theorem ml2_ok (i j:Nat):Ok (ml2 i j):=fun {l} h e=>by
 have w:=(ml2_mo i j (Wis.refl h) e).2.le
 unfold ml2 mulS at e w ⊢
 rw [both_of (h i).ok (h j).ok] at e w ⊢
 exact told_ri e w
theorem dv2_ok (i j:Nat):Ok (dv2 i j):=fun {l} h e=>by
 have w:=(dv2_mo i j (Wis.refl h) e).2.le
 unfold dv2 at e w ⊢
 have q:=(div_ok e).2.2.2
 rw [q] at e w ⊢
 exact told_ri e w
theorem sc1_ok (i:Nat) {n d:Int} (k:okSc n d):Ok (sc1 i n d):=fun {l} h e=>by
 have w:=(sc1_mo i k (Wis.refl h) e).2.le
 unfold sc1 at e w ⊢
 rw [sc_eq k] at e w ⊢
 unfold scaleS at e w ⊢
 rw [(h i).ok] at e w ⊢
 cases q:okR n d with
 | false=>rw [q] at e; cases e
 | true=>rw [q] at e w; exact told_ri e w
theorem rt1_ok (i:Nat):Ok (rt1 i):=fun {l} h e=>by
 have w:=(rt1_mo i (Wis.refl h) e).2.le
 unfold rt1 sqrtS at e w ⊢
 have r:=h i
 have r1:=r.lo
 have r2:=r.le
 have r3:=r.hi
 rw [r.ok] at e w ⊢
 cases q:decide ((gt l i).lo<0) with
 | true=>rw [q] at e; cases e
 | false=>
  have:=of_decide_eq_false q
  rw [q] at w
  have k1:sqOk (gt l i).lo=true:=by unfold sqOk; rw [okF_iff.2 (by omega)]; simpa using (show 0<=(gt l i).lo by omega)
  have k2:sqOk (gt l i).hi=true:=by unfold sqOk; rw [okF_iff.2 (by omega)]; simpa using (show 0<=(gt l i).hi by omega)
  have a:=rtV_range k1 false
  have b:=rtV_range k2 true
  exact ⟨by show -4503599627370496<=rtV (gt l i).lo false; omega,w,by
   rcases (rtV_t k2).2.2 with c|⟨c,_⟩
   .show rtV (gt l i).hi true<=4503599627370496
    have:=(sqR_spec k2).2.1
    have:rtV (gt l i).hi true<=4398046511104:=by
     rw [c]; exact le_of_sq (by omega) (by omega)
    omega
   .show rtV (gt l i).hi true<=4503599627370496
    have:=(sqR_spec k2).2.1
    have:sqR (gt l i).hi<=4398046511104:=le_of_sq (by omega) (by omega)
    omega⟩
theorem zero_ri:Ri ⟨0,0,0⟩:=⟨by decide,by decide,by decide⟩
theorem evS_ok {a v c:Sp} (ha:Ri a) (hv:Ri v) (hc:Ri c) (e:(evS a v c).e=0):Ri (evS a v c):=by
 have e0:(mulS a.lo a.hi v.lo v.hi).e=0:=by
  rcases Decidable.em ((mulS a.lo a.hi v.lo v.hi).e=0) with d|d
  .exact d
  .unfold evS at e
   simp only [beq0 d,cond_false] at e
   exact e
 have m:Ri (mulS a.lo a.hi v.lo v.hi):=ml2_ok 0 1 (l:=[a,v]) (fun i=>match i with|0=>ha|1=>hv|i+2=>zero_ri) e0
 have s:(addS (mulS a.lo a.hi v.lo v.hi).lo (mulS a.lo a.hi v.lo v.hi).hi c.lo c.hi).e=0:=by
  unfold evS at e
  simp only [e0] at e
  exact e
 have r:Ri (addS (mulS a.lo a.hi v.lo v.hi).lo (mulS a.lo a.hi v.lo v.hi).hi c.lo c.hi):=ad2_ok 0 1 (l:=[mulS a.lo a.hi v.lo v.hi,c]) (fun i=>match i with|0=>m|1=>hc|i+2=>zero_ri) s
 unfold evS
 simp only [e0]
 exact r
def okE (s:Sp):Prop:=s.e=0\/s=⟨0,0,6⟩
theorem told_six (lo hi:Int):okE (toldS lo hi):=by
 unfold toldS
 cases okF lo&&okF hi
 .exact .inr rfl
 .exact .inl rfl
theorem e_sqr {s:Sp} (h:Ri s):okE (sqrS s.lo s.hi):=by unfold sqrS; rw [h.ok]; exact told_six _ _
theorem e_add {s t:Sp} (h:Ri s) (k:Ri t):okE (addS s.lo s.hi t.lo t.hi):=by unfold addS; rw [both_of h.ok k.ok]; exact told_six _ _
theorem e_sub {s t:Sp} (h:Ri s) (k:Ri t):okE (subS s.lo s.hi t.lo t.hi):=by unfold subS; rw [both_of h.ok k.ok]; exact told_six _ _
theorem e_mul {s t:Sp} (h:Ri s) (k:Ri t):okE (mulS s.lo s.hi t.lo t.hi):=by unfold mulS; rw [both_of h.ok k.ok]; exact told_six _ _
theorem e_div {s t:Sp} (h:Ri s) (k:Ri t) (p:0<t.lo):okE (divS s.lo s.hi t.lo t.hi):=by rw [div_of h.ok k.ok (.inl p)]; exact told_six _ _
theorem e_sc {s:Sp} {n d:Int} (h:Ri s) (k:okSc n d) (o:okR n d=true):okE (xScaleS s.lo s.hi n d):=by
 rw [sc_eq k]; unfold scaleS; rw [h.ok,o]; exact told_six _ _
theorem e_rt {s:Sp} (h:Ri s) (p:0<s.lo):okE (sqrtS s.lo s.hi):=by
 unfold sqrtS; rw [h.ok,decide_eq_false (show ¬ s.lo<0 by omega)]; exact .inl rfl
theorem fn2_ok {s t:Sp} (h:Ri s) (k:Ri t):Oks [s,t]:=fun i=>match i with|0=>h|1=>k|i+2=>zero_ri
theorem r_sqr {s:Sp} (h:Ri s) (e:(sqrS s.lo s.hi).e=0):Ri (sqrS s.lo s.hi):=sq1_ok 0 (fn2_ok h h) e
theorem r_rt {s:Sp} (h:Ri s) (e:(sqrtS s.lo s.hi).e=0):Ri (sqrtS s.lo s.hi):=rt1_ok 0 (fn2_ok h h) e
theorem r_add {s t:Sp} (h:Ri s) (k:Ri t) (e:(addS s.lo s.hi t.lo t.hi).e=0):Ri (addS s.lo s.hi t.lo t.hi):=ad2_ok 0 1 (fn2_ok h k) e
theorem r_sub {s t:Sp} (h:Ri s) (k:Ri t) (e:(subS s.lo s.hi t.lo t.hi).e=0):Ri (subS s.lo s.hi t.lo t.hi):=sb2_ok 0 1 (fn2_ok h k) e
theorem r_mul {s t:Sp} (h:Ri s) (k:Ri t) (e:(mulS s.lo s.hi t.lo t.hi).e=0):Ri (mulS s.lo s.hi t.lo t.hi):=ml2_ok 0 1 (fn2_ok h k) e
theorem r_div {s t:Sp} (h:Ri s) (k:Ri t) (e:(divS s.lo s.hi t.lo t.hi).e=0):Ri (divS s.lo s.hi t.lo t.hi):=dv2_ok 0 1 (fn2_ok h k) e
theorem r_sc {s:Sp} {n d:Int} (h:Ri s) (k:okSc n d) (e:(xScaleS s.lo s.hi n d).e=0):Ri (xScaleS s.lo s.hi n d):=sc1_ok 0 k (fn2_ok h h) e
theorem rt_pos {s:Sp} (h:Ri s) (p:0<s.lo):0<(sqrtS s.lo s.hi).lo:=by
 unfold sqrtS; rw [h.ok,decide_eq_false (show ¬ s.lo<0 by omega)]
 show 0<rtV s.lo false
 have r1:=h.lo
 have r2:=h.le
 have r3:=h.hi
 have k1:sqOk s.lo=true:=by unfold sqOk; rw [okF_iff.2 (by omega)]; simpa using (show 0<=s.lo by omega)
 obtain ⟨u0,u1,u2,_⟩:=sqR_spec k1
 show 0<sqR s.lo
 have:=lt_of_sq (a:=1) (b:=sqR s.lo+1) (by omega) (by omega)
 omega
theorem add_pos {s t:Sp} (h:Ri s) (k:Ri t) (e:(addS s.lo s.hi t.lo t.hi).e=0) (p:0<s.lo) (q:0<=t.lo):0<(addS s.lo s.hi t.lo t.hi).lo:=by
 unfold addS at e ⊢
 rw [both_of h.ok k.ok] at e ⊢
 rw [(told_ok e).1]
 show 0<s.lo+t.lo
 omega
theorem six_of {s:Sp} (h:okE s) (e:s.e≠0):s=⟨0,0,6⟩:=h.resolve_left e
theorem evS_e {a v c:Sp} (ha:Ri a) (hv:Ri v) (hc:Ri c):okE (evS a v c):=by
 rcases e_mul ha hv with e0|e0
 .have m:=r_mul ha hv e0
  unfold evS
  simp only [e0]
  exact e_add m hc
 .unfold evS
  rw [e0]
  exact .inr rfl
theorem evl_e {v c0 c1 c2 c3:Sp} (hv:Ri v) (h0:Ri c0) (h1:Ri c1) (h2:Ri c2) (h3:Ri c3):okE (evalS v c0 c1 c2 c3):=by
 have z:Ri (⟨0,0,0⟩:Sp):=zero_ri
 have k1:okE (ev1 v c3):=evS_e z hv h3
 rcases Decidable.em ((ev1 v c3).e=0) with d1|d1
 .have r1:Ri (ev1 v c3):=evS_ok z hv h3 d1
  have k2:okE (ev2 v c2 c3):=evS_e r1 hv h2
  rcases Decidable.em ((ev2 v c2 c3).e=0) with d2|d2
  .have r2:Ri (ev2 v c2 c3):=evS_ok r1 hv h2 d2
   have k3:okE (ev3 v c1 c2 c3):=evS_e r2 hv h1
   rcases Decidable.em ((ev3 v c1 c2 c3).e=0) with d3|d3
   .have r3:Ri (ev3 v c1 c2 c3):=evS_ok r2 hv h1 d3
    have k4:okE (ev4 v c0 c1 c2 c3):=evS_e r3 hv h0
    rcases Decidable.em ((ev4 v c0 c1 c2 c3).e=0) with d4|d4
    .rw [evG_of d1 d2 d3 d4]; exact .inl d4
    .right
     unfold evalS evG evB
     rw [d1,d2,d3,six_of k4 d4]; rfl
   .right
    unfold evalS evG evB
    rw [d1,d2,six_of k3 d3]; rfl
  .right
   unfold evalS evG evB
   rw [d1,six_of k2 d2]; rfl
 .right
  unfold evalS evG evB
  rw [six_of k1 d1]; rfl
theorem evl_r {v c0 c1 c2 c3:Sp} (hv:Ri v) (h0:Ri c0) (h1:Ri c1) (h2:Ri c2) (h3:Ri c3) (e:(evalS v c0 c1 c2 c3).e=0):Ri (evalS v c0 c1 c2 c3):=by
 obtain ⟨d1,d2,d3,d4⟩:=evG_ok e
 rw [evG_of d1 d2 d3 d4]
 exact evS_ok (evS_ok (evS_ok (evS_ok zero_ri hv h3 d1) hv h2 d2) hv h1 d3) hv h0 d4
end Go.Rd
namespace Go.Rd
open Go Go.Eng Go.Ar
def cb2 (c:Int) (k:Int) (l:Int) (m:Int) (th:Int) (s:ByteArray) (se:Int) (ho:Int):Bool:=bif decide (c<(-1000000000:Int)) then true else decide (c>1000000000)
def cb3 (c:Int) (k:Int) (l:Int) (m:Int) (th:Int) (s:ByteArray) (se:Int) (ho:Int):Bool:=bif decide (l<(-1000000000:Int)) then true else decide (l>1000000000)
end Go.Rd
namespace Go.Rd
open Go Go.Eng Go.Ar
def inL (x:Int):Prop:=-1000000000<=x/\x<=1000000000
def inK (x:Int):Prop:=-100000000<=x/\x<=100000000
def inA (x:Int):Prop:=-90000000<=x/\x<=90000000
def inSH (se ho:Int):Prop:=0<=se/\se<=1000000000/\0<=ho/\ho<=1000000000/\(se=0\/ho<se)
def inG (s:ByteArray):Prop:=s=⟨#[]⟩\/isG s
structure vStd (c k a0 a1 a2 a3 f0 f1 o th:Int) (s:ByteArray) (se ho:Int):Prop where
 hc:inL c
 hk:inK k
 h0:inL a0
 h1:inL a1
 h2:inL a2
 h3:inL a3
 hf:inL f0
 hg:inL f1
 ho':-3<=o/\o<=3
 ht:inL th
 hs:inG s
 sh:inSH se ho
 ph:(f0=0/\f1=0/\o=0)\/(o≠0/\s≠g3)
structure vBic (c k l m th:Int) (s:ByteArray) (se ho:Int):Prop where
 hc:inL c
 hk:inK k
 hl:inL l
 hm:inK m
 ht:inL th
 hs:inG s
 sh:inSH se ho
structure vBrk (th dx dy ax ay az:Int):Prop where
 ht:inL th
 hx:inL dx
 hy:inL dy
 ha:inA ax
 hb:inA ay
 hc:inA az
structure vIdl (c th se ho:Int):Prop where
 hc:inL c
 ht:inL th
 sh:inSH se ho
end Go.Rd
namespace Go.Rd
open Go Go.Eng Go.Ar
end Go.Rd
namespace Go.Rd
open Go Go.Eng Go.Ar
def inF (i p q:Int):Prop:=(10000000<=i/\i<=40000000)/\(0<=p/\p<=1000)/\(1<=q/\q<=1000)
end Go.Rd
namespace Go.Rd
open Go Go.Eng Go.Ar
def z0 (s:Sp):Bool:=s.e==0
def asp (a0 a1 a2 a3:Int):Bool:=!(a0==0&&(a1==0&&(a2==0&&(a3==0&&true))))
section
variable (c k a0 a1 a2 a3 a b d e:Int)
def u0:Sp:=xScaleS (s2 c k a b d e).lo (s2 c k a b d e).hi 1 100
def ca (n:Int):Sp:=xScaleS 4294967296 4294967296 n 1000000
def u1:Sp:=evalS (u0 c k a b d e) (ca a0) (ca a1) (ca a2) (ca a3)
def u2:Sp:=sqrS (u0 c k a b d e).lo (u0 c k a b d e).hi
def u3:Sp:=mulS (u2 c k a b d e).lo (u2 c k a b d e).hi (u1 c k a0 a1 a2 a3 a b d e).lo (u1 c k a0 a1 a2 a3 a b d e).hi
def u4:Sp:=addS (s10 c k a b d e).lo (s10 c k a b d e).hi (u3 c k a0 a1 a2 a3 a b d e).lo (u3 c k a0 a1 a2 a3 a b d e).hi
def sagH0:Bool:=(z0 (s0 c k a b d e)&&(z0 (s1 c k a b d e)&&(z0 (s2 c k a b d e)&&z0 (s3 c k a b d e))))&&(z0 (s4 c k a b d e)&&z0 (s5 c k a b d e))
def sagB:Bool:=sagH0 c k a b d e&&(z0 (s6 c k a b d e)&&(!decide ((s6 c k a b d e).lo<=0)&&(z0 (s7 c k a b d e)&&(z0 (s8 c k a b d e)&&(z0 (s9 c k a b d e)&&z0 (s10 c k a b d e))))))
def sagD:Bool:=sagH0 c k a b d e&&(z0 (s6 c k a b d e)&&decide ((s6 c k a b d e).lo<=0))
def sagE:Bool:=((z0 (s0 c k a b d e)&&(z0 (s1 c k a b d e)&&(z0 (s2 c k a b d e)&&z0 (u0 c k a b d e))))&&((z0 (ca a0)&&(z0 (ca a1)&&(z0 (ca a2)&&z0 (ca a3))))&&z0 (u1 c k a0 a1 a2 a3 a b d e)))&&(z0 (u2 c k a b d e)&&(z0 (u3 c k a0 a1 a2 a3 a b d e)&&z0 (u4 c k a0 a1 a2 a3 a b d e)))
def sagC:Bool:=sagB c k a b d e&&bif asp a0 a1 a2 a3 then sagE c k a0 a1 a2 a3 a b d e else true
def sagS:Sp:=⟨bif sagC c k a0 a1 a2 a3 a b d e then bif asp a0 a1 a2 a3 then (u4 c k a0 a1 a2 a3 a b d e).lo else (s10 c k a b d e).lo else 0,
 bif sagC c k a0 a1 a2 a3 a b d e then bif asp a0 a1 a2 a3 then (u4 c k a0 a1 a2 a3 a b d e).hi else (s10 c k a b d e).hi else 0,
 bif sagC c k a0 a1 a2 a3 a b d e then 0 else bif sagD c k a b d e then 9 else 6⟩
end
section
variable (c k l m a b d e:Int)
def sagX0:Bool:=(z0 (b0 c k l m a b d e)&&(z0 (b1 c k l m a b d e)&&(z0 (b2 c k l m a b d e)&&z0 (b3 c k l m a b d e))))&&((z0 (b4 c k l m a b d e)&&z0 (b6 c k l m a b d e))&&((z0 (b5 c k l m a b d e)&&z0 (b7 c k l m a b d e))&&z0 (b8 c k l m a b d e)))
def sagXC:Bool:=sagX0 c k l m a b d e&&(z0 (b9 c k l m a b d e)&&(!decide ((b9 c k l m a b d e).lo<=0)&&(z0 (b10 c k l m a b d e)&&(z0 (b11 c k l m a b d e)&&(z0 (b12 c k l m a b d e)&&z0 (b13 c k l m a b d e))))))
def sagXD:Bool:=sagX0 c k l m a b d e&&(z0 (b9 c k l m a b d e)&&decide ((b9 c k l m a b d e).lo<=0))
def sagX:Sp:=⟨bif sagXC c k l m a b d e then (b13 c k l m a b d e).lo else 0,bif sagXC c k l m a b d e then (b13 c k l m a b d e).hi else 0,bif sagXC c k l m a b d e then 0 else bif sagXD c k l m a b d e then 9 else 6⟩
end
def spV (s:Sp):AV:=.tuple [.agg [.int true .i64 s.lo,.int true .i64 s.hi],.int true .i64 s.e]
end Go.Rd
namespace Go.Rd
open Go Go.Eng Go.Ar
structure Su where
 kd:Int
 c:Int
 k:Int
 l:Int
 m:Int
 a0:Int
 a1:Int
 a2:Int
 a3:Int
 f0:Int
 f1:Int
 o:Int
 th:Int
 g:ByteArray
 se:Int
 ho:Int
 dx:Int
 dy:Int
 ax:Int
 ay:Int
 az:Int
def Su.nus (s:Su):List Nu:=[.n s.kd,.n s.c,.n s.k,.n s.l,.n s.m,.n s.a0,.n s.a1,.n s.a2,.n s.a3,.n s.f0,.n s.f1,.n s.o,.n s.th,.s s.g,.n s.se,.n s.ho,.n s.dx,.n s.dy,.n s.ax,.n s.ay,.n s.az]
def Su.cells (s:Su) (kd:AV):List AV:=[kd,.int true .i64 s.c,.int true .i64 s.k,.int true .i64 s.l,.int true .i64 s.m,.int true .i64 s.a0,.int true .i64 s.a1,.int true .i64 s.a2,.int true .i64 s.a3,.int true .i64 s.f0,.int true .i64 s.f1,.int true .i64 s.o,.int true .i64 s.th,.str true s.g,
 .int true .i64 s.se,.int true .i64 s.ho,.int true .i64 s.dx,.int true .i64 s.dy,.int true .i64 s.ax,.int true .i64 s.ay,.int true .i64 s.az]
def Su.ini (s:Su):List AV:=s.cells (.int true .i64 s.kd)
def suI:List Sh:=[.i .i64,.i .i64,.i .i64,.i .i64,.i .i64,.i .i64,.i .i64,.i .i64,.i .i64,.i .i64,.i .i64,.i .i64,.i .i64,.str,.i .i64,.i .i64,.i .i64,.i .i64,.i .i64,.i .i64,.i .i64]
def suOf:List Nu->Option Su
 | [.n kd,.n c,.n k,.n l,.n m,.n a0,.n a1,.n a2,.n a3,.n f0,.n f1,.n o,.n th,.s g,.n se,.n ho,.n dx,.n dy,.n ax,.n ay,.n az]=>some ⟨kd,c,k,l,m,a0,a1,a2,a3,f0,f1,o,th,g,se,ho,dx,dy,ax,ay,az⟩
 | _=>none
theorem suOf_eq {xs:List Nu} {s:Su} (h:suOf xs=some s):xs=s.nus:=by
 unfold suOf at h
 split at h
 .cases h; rfl
 .cases h
def spinF:Nat->Nat->(Nat->Int)->List Int
 | 0,_,_=>[]
 | n+1,i,x=>x i :: spinF n (i+1) x
theorem spinF_of:∀ (ys pre:List Int),spinF ys.length pre.length (fun i=>(pre++ys).getD i 0)=ys
 | [],_=>rfl
 | y :: ys,pre=>by
  have:=spinF_of ys (pre++[y])
  simp only [List.length_cons,spinF]
  rw [List.append_assoc,List.length_append] at this
  simp only [List.length_cons,List.length_nil,List.cons_append,List.nil_append] at this
  rw [this]
  simp
def okF3 (n:Int) (ys:List Int):Prop:=0<=n/\n<=12/\ys.length=3*n.toNat
theorem okF3_of {n:Int} {ys:List Int} (h:okF3 n ys):∃ (k:Nat) (x:Nat->Int),k<=12/\n=(k:Int)/\ys=spinF (3*k) 0 x:=by
 obtain ⟨h1,h2,h3⟩:=h
 refine ⟨n.toNat,fun i=>ys.getD i 0,by omega,by omega,?_⟩
 have:=spinF_of ys []
 simp only [List.nil_append,List.length_nil] at this
 rw [<- h3,this]
def film1 (i p q:Int):Bool:=decide (10000000<=i)&&decide (i<=40000000)&&(decide (0<=p)&&decide (p<=1000))&&(decide (1<=q)&&decide (q<=1000))
def filmsB:List Int->Bool
 | i :: p :: q :: r=>film1 i p q&&filmsB r
 | _=>true
end Go.Rd
namespace Go.Proofs.YtjmhddncomglmaaGreatDoor.K
open Go Go.Eng Go.Ar Go.Rd
noncomputable section
theorem nmV2_eq (b:ByteArray):nmV2 b=nameB b:=by
 unfold nmV2 nameB
 cases nmAll letP b b.size 0 <;> rfl
def nameS:PSpec:=fun args=>match args with
 | [.str _ b]=>some (.p (b.size<1000000000),.bool true (nameB b))
 | _=>none
theorem gname_ok:PureOk Tryz.prog 43 nameS:=by
 refine pure_runs (fun args nd v e hn=>?_) ⟨_,Tryz.func43,rfl⟩
 unfold nameS at e
 split at e
 .rename_i s b
  cases e
  have:=name_run b
  rw [nmV2_eq] at this
  exact ⟨cNa b,300,[.str true b],_,_,cNa_ok hn,rfl,fun _=>rfl,fun σ L h=>h,this,⟨rfl,rfl,rfl⟩,fun τ V h σ=>h⟩
 .cases e
theorem rname_ok:PureOk Tryz.prog 95 nameS:=by
 refine pure_runs (fun args nd v e hn=>?_) ⟨_,Tryz.func95,rfl⟩
 unfold nameS at e
 split at e
 .rename_i s b
  cases e
  have:=rname_run b
  rw [nmV2_eq] at this
  exact ⟨cRa b,300,[.str true b],_,_,cRa_ok hn,rfl,fun _=>rfl,fun σ L h=>h,this,⟨rfl,rfl,rfl⟩,fun τ V h σ=>h⟩
 .cases e
def tblNm:List (FuncId×PSpec):=[(43,nameS),(95,nameS)]
theorem tblNm_g:∀ x∈tblNm,GOk Tryz.prog glob hG x.1 x.2:=by
 intro x hx
 simp only [tblNm,List.mem_cons,List.not_mem_nil,or_false] at hx
 rcases hx with rfl|rfl
 .exact gname_ok.g glob hG
 .exact rname_ok.g glob hG
def cNm:Ctx:=mkG Tryz.prog glob hG tblNm ext
theorem cNm_ok:CtxOk cNm:=mkG_ok prog_ok ext_ok tblNm_g
def suA (s:Su) (kd:AV) (n:Nat):AV:=.agg (s.cells kd++[.pslice hG.size n false n])
def suH (n:Nat) (x:Nat->Int):Hp:=viewsH false hG [(.i64,spinF (3*n) 0 x)]
end
end Go.Proofs.YtjmhddncomglmaaGreatDoor.K
namespace Go.Rd
open Go Go.Eng Go.Ar
def inR (lo hi n:Int):Bool:=decide (lo<=n)&&decide (n<=hi)
def noG (s:Su):Bool:=eqBytes s.g ⟨#[]⟩
def isM (s:Su):Bool:=eqBytes s.g ⟨#[77,73,82,82,79,82]⟩
def numsB (s:Su):Bool:=
 (inR (-1000000000) 1000000000 s.c&&inR (-1000000000) 1000000000 s.l&&inR (-1000000000) 1000000000 s.th&&inR (-1000000000) 1000000000 s.dx&&inR (-1000000000) 1000000000 s.dy) &&
 (inR (-1000000000) 1000000000 s.a0&&inR (-1000000000) 1000000000 s.a1&&inR (-1000000000) 1000000000 s.a2&&inR (-1000000000) 1000000000 s.a3)&&(inR (-1000000000) 1000000000 s.f0&&inR (-1000000000) 1000000000 s.f1) &&
 ((inR (-100000000) 100000000 s.k&&inR (-100000000) 100000000 s.m)&&(inR (-90000000) 90000000 s.ax&&inR (-90000000) 90000000 s.ay&&inR (-90000000) 90000000 s.az)) &&
 (inR (-3) 3 s.o&&(inR 0 1000000000 s.se&&inR 0 1000000000 s.ho))&&(s.se==0||decide (s.ho<s.se))&&(noG s||nameB s.g)
def noX (s:Su):Bool:=s.l==0&&s.m==0
def noA (s:Su):Bool:=s.a0==0&&s.a1==0&&s.a2==0&&s.a3==0
def noP (s:Su):Bool:=s.f0==0&&s.f1==0
def noT (s:Su):Bool:=s.dx==0&&s.dy==0&&s.ax==0&&s.ay==0&&s.az==0
def kindB (s:Su) (e:Bool):Bool:=
 (s.kd==1&&(noX s&&noT s&&(!(s.o==0||isM s)||(s.o==0&&noP s)))) ||
 (s.kd==2&&(noA s&&noP s&&s.o==0&&noT s)) ||
 (s.kd==3&&(noX s&&noA s&&noP s&&s.o==0&&noG s&&e&&s.c==0&&s.k==0&&s.se==0&&s.ho==0)) ||
 (s.kd==4&&(noX s&&noA s&&noP s&&s.o==0&&noT s&&noG s&&e&&s.k==0))
def rightS (s:Su) (ys:List Int):Bool:=numsB s&&kindB s ys.isEmpty&&filmsB ys&&decide (ys.length<=24)
def oR (lo hi n:Int):Bool:=bif decide (n<lo) then true else decide (n>hi)
theorem oR_eq (lo hi n:Int):oR lo hi n=!inR lo hi n:=by
 unfold oR inR
 cases h1:decide (n<lo) <;> cases h2:decide (n>hi) <;> simp_all <;> omega
def ix1 (p:Bool):Int:=bif p then 0 else -1
def ix2 (p q:Bool):Int:=bif !p&&!q then -1 else bif p then 0 else 1
def ix3 (p q r:Bool):Int:=bif p||!p&&(q||!q&&r) then bif p then 0 else bif q then 1 else 2 else -1
def ix4 (p q r t:Bool):Int:=bif !p&&(!q&&(!r&&!t)) then -1 else bif p then 0 else bif q then 1 else bif r then 2 else 3
def ix5 (p q r t u:Bool):Int:=bif p||!p&&(q||!q&&(r||!r&&(t||!t&&u))) then bif p then 0 else bif q then 1 else bif r then 2 else bif t then 3 else 4 else -1
theorem ix1_eq (p:Bool):decide (ix1 p>=0)=p:=by cases p <;> rfl
theorem ix2_eq (p q:Bool):decide (ix2 p q>=0)=(p||q):=by cases p <;> cases q <;> rfl
theorem ix3_eq (p q r:Bool):decide (ix3 p q r>=0)=(p||q||r):=by cases p <;> cases q <;> cases r <;> rfl
theorem ix4_eq (p q r t:Bool):decide (ix4 p q r t>=0)=(p||q||r||t):=by cases p <;> cases q <;> cases r <;> cases t <;> rfl
theorem ix5_eq (p q r t u:Bool):decide (ix5 p q r t u>=0)=(p||q||r||t||u):=by cases p <;> cases q <;> cases r <;> cases t <;> cases u <;> rfl
section
variable (s:Su)
def cT2:Bool:=!bif !decide (ix5 (oR (-1000000000) 1000000000 s.c) (oR (-1000000000) 1000000000 s.l) (oR (-1000000000) 1000000000 s.th) (oR (-1000000000) 1000000000 s.dx) (oR (-1000000000) 1000000000 s.dy)>=0) then
 bif !decide (ix4 (oR (-1000000000) 1000000000 s.a0) (oR (-1000000000) 1000000000 s.a1) (oR (-1000000000) 1000000000 s.a2) (oR (-1000000000) 1000000000 s.a3)>=0) then !decide (ix2 (oR (-1000000000) 1000000000 s.f0) (oR (-1000000000) 1000000000 s.f1)>=0) else false else false
def cT3:Bool:=!bif !decide (ix2 (oR (-100000000) 100000000 s.k) (oR (-100000000) 100000000 s.m)>=0) then !decide (ix3 (oR (-90000000) 90000000 s.ax) (oR (-90000000) 90000000 s.ay) (oR (-90000000) 90000000 s.az)>=0) else false
def cT4:Bool:=!bif !decide (ix1 (oR (-3) 3 s.o)>=0) then !decide (ix2 (oR 0 1000000000 s.se) (oR 0 1000000000 s.ho)>=0) else false
def cT5:Bool:=!bif s.se==0 then true else decide (s.ho<s.se)
def cE0 (f:Bool):Int:=bif f then 110 else bif cT2 s then 110 else bif cT3 s then 110 else bif cT4 s then 110 else bif cT5 s then 110 else bif !bif noG s then true else nameB s.g then 110 else 0
theorem cT2_eq:cT2 s=!((inR (-1000000000) 1000000000 s.c&&inR (-1000000000) 1000000000 s.l&&inR (-1000000000) 1000000000 s.th&&inR (-1000000000) 1000000000 s.dx&&inR (-1000000000) 1000000000 s.dy) &&
 (inR (-1000000000) 1000000000 s.a0&&inR (-1000000000) 1000000000 s.a1&&inR (-1000000000) 1000000000 s.a2&&inR (-1000000000) 1000000000 s.a3)&&(inR (-1000000000) 1000000000 s.f0&&inR (-1000000000) 1000000000 s.f1)):=by
 unfold cT2
 simp only [ix2_eq,ix4_eq,ix5_eq,oR_eq,<- Bool.not_and,Bool.not_not]
 generalize (inR (-1000000000) 1000000000 s.c&&inR (-1000000000) 1000000000 s.l&&inR (-1000000000) 1000000000 s.th&&inR (-1000000000) 1000000000 s.dx&&inR (-1000000000) 1000000000 s.dy)=x
 generalize (inR (-1000000000) 1000000000 s.a0&&inR (-1000000000) 1000000000 s.a1&&inR (-1000000000) 1000000000 s.a2&&inR (-1000000000) 1000000000 s.a3)=y
 generalize (inR (-1000000000) 1000000000 s.f0&&inR (-1000000000) 1000000000 s.f1)=z
 cases x <;> cases y <;> cases z <;> rfl
theorem cT3_eq:cT3 s=!((inR (-100000000) 100000000 s.k&&inR (-100000000) 100000000 s.m)&&(inR (-90000000) 90000000 s.ax&&inR (-90000000) 90000000 s.ay&&inR (-90000000) 90000000 s.az)):=by
 unfold cT3
 simp only [ix2_eq,ix3_eq,oR_eq,<- Bool.not_and,Bool.not_not]
 generalize (inR (-100000000) 100000000 s.k&&inR (-100000000) 100000000 s.m)=x
 generalize (inR (-90000000) 90000000 s.ax&&inR (-90000000) 90000000 s.ay&&inR (-90000000) 90000000 s.az)=y
 cases x <;> cases y <;> rfl
theorem cT4_eq:cT4 s=!(inR (-3) 3 s.o&&(inR 0 1000000000 s.se&&inR 0 1000000000 s.ho)):=by
 unfold cT4
 simp only [ix1_eq,ix2_eq,oR_eq,<- Bool.not_and,Bool.not_not]
 cases inR (-3) 3 s.o <;> cases (inR 0 1000000000 s.se&&inR 0 1000000000 s.ho) <;> rfl
theorem cT5_eq:cT5 s=!(s.se==0||decide (s.ho<s.se)):=by
 unfold cT5
 cases s.se==0 <;> rfl
theorem cE0_eq (f:Bool):cE0 s f=bif !f&&numsB s then 0 else 110:=by
 unfold cE0 numsB
 rw [cT2_eq,cT3_eq,cT4_eq,cT5_eq]
 generalize ((inR (-1000000000) 1000000000 s.c&&inR (-1000000000) 1000000000 s.l&&inR (-1000000000) 1000000000 s.th&&inR (-1000000000) 1000000000 s.dx&&inR (-1000000000) 1000000000 s.dy) &&
 (inR (-1000000000) 1000000000 s.a0&&inR (-1000000000) 1000000000 s.a1&&inR (-1000000000) 1000000000 s.a2&&inR (-1000000000) 1000000000 s.a3)&&(inR (-1000000000) 1000000000 s.f0&&inR (-1000000000) 1000000000 s.f1))=x
 generalize ((inR (-100000000) 100000000 s.k&&inR (-100000000) 100000000 s.m)&&(inR (-90000000) 90000000 s.ax&&inR (-90000000) 90000000 s.ay&&inR (-90000000) 90000000 s.az))=y
 generalize (inR (-3) 3 s.o&&(inR 0 1000000000 s.se&&inR 0 1000000000 s.ho))=z
 generalize (s.se==0||decide (s.ho<s.se))=t
 generalize nameB s.g=u
 cases f <;> cases x <;> cases y <;> cases z <;> cases t <;> cases noG s <;> cases u <;> rfl
def fStep (e i p q:Int):Int:=
 bif bif e==0 then !bif !decide (ix1 (oR 10000000 40000000 i)>=0) then bif !decide (ix1 (oR 0 1000 p)>=0) then !decide (ix1 (oR 1 1000 q)>=0) else false else false else false then 110 else e
def fE (e:Int):List Int->Int
 | i :: p :: q :: r=>fE (fStep e i p q) r
 | _=>e
end
theorem fStep_0 (i p q:Int):fStep 0 i p q=bif film1 i p q then 0 else 110:=by
 unfold fStep film1
 simp only [ix1_eq,oR_eq]
 show (bif (bif true then _ else false) then _ else _)=_
 simp only [cond_true,Bool.not_not]
 rw [show (decide (10000000<=i)&&decide (i<=40000000))=inR 10000000 40000000 i from rfl,show (decide (0<=p)&&decide (p<=1000))=inR 0 1000 p from rfl,show (decide (1<=q)&&decide (q<=1000))=inR 1 1000 q from rfl]
 cases inR 10000000 40000000 i <;> cases inR 0 1000 p <;> cases inR 1 1000 q <;> rfl
theorem fStep_1 (i p q:Int):fStep 110 i p q=110:=rfl
theorem fE_1:∀ ys:List Int,fE 110 ys=110
 | []=>rfl
 | [_]=>rfl
 | [_,_]=>rfl
 | i :: p :: q :: r=>by rw [fE,fStep_1]; exact fE_1 r
theorem fE_0:∀ ys:List Int,fE 0 ys=bif filmsB ys then 0 else 110
 | []=>rfl
 | [_]=>rfl
 | [_,_]=>rfl
 | i :: p :: q :: r=>by
  rw [fE,fStep_0,filmsB]
  cases film1 i p q with
  | true=>exact fE_0 r
  | false=>exact fE_1 r
def dj:List Bool->Bool
 | []=>false
 | b :: l=>match l with
  | []=>b
  | _ :: _=>b||!b&&dj l
def cj:List Bool->Bool
 | []=>true
 | b :: l=>match l with
  | []=>!b
  | _ :: _=>!b&&cj l
def par {α:Type}:List α->Bool
 | []=>false
 | _ :: l=>match par l with
  | true=>false
  | false=>true
def sel {β:Type} (l:List Bool) (bad good:β):β:=match l with
 | []=>good
 | b :: r=>match par (b :: r) with
  | true=>bif dj (b :: r) then bad else good
  | false=>bif cj (b :: r) then good else bad
def anyB:List Bool->Bool
 | []=>false
 | b :: l=>b||anyB l
theorem dj_eq:∀ l:List Bool,dj l=anyB l
 | []=>rfl
 | [b]=>by cases b <;> rfl
 | b :: c :: l=>by
  have:=dj_eq (c :: l)
  show (b||!b&&dj (c :: l))=(b||anyB (c :: l))
  rw [this]
  cases b <;> rfl
theorem cj_eq:∀ l:List Bool,cj l=!anyB l
 | []=>rfl
 | [b]=>by cases b <;> rfl
 | b :: c :: l=>by
  have:=cj_eq (c :: l)
  show (!b&&cj (c :: l))=!(b||anyB (c :: l))
  rw [this]
  cases b <;> rfl
theorem sel_eq {β:Type} (l:List Bool) (bad good:β):sel l bad good=bif anyB l then bad else good:=by
 unfold sel
 split
 .rfl
 .split
  .rw [dj_eq]
  .rw [cj_eq]
   generalize anyB _=z
   cases z <;> rfl
def eqL:List Int->List Bool
 | i :: p :: q :: r=>(!(i==i&&(p==p&&(q==q&&true)))) :: eqL r
 | _=>[]
theorem eqL_f:∀ ys:List Int,anyB (eqL ys)=false
 | []=>rfl
 | [_]=>rfl
 | [_,_]=>rfl
 | i :: p :: q :: r=>by
  simp only [eqL,anyB,eqL_f r]
  simp
def fQ (ys:List Int):Bool:=sel (eqL ys) false true
theorem fQ_t (ys:List Int):fQ ys=true:=by
 unfold fQ
 rw [sel_eq,eqL_f]; rfl
section
variable (s:Su) (ys:List Int)
def k1P:Bool:=bif s.o != 0 then !isM s else false
def k1N:Bool:=1==1&&(s.c==s.c&&(s.k==s.k&&(s.l==0&&(s.m==0&&(s.o==(bif k1P s then s.o else 0)&&(s.th==(bif k1P s then s.th else s.th)&&(s.se==s.se&&(s.ho==s.ho&&(s.dx==0&&(s.dy==0&&(s.ax==0&&(s.ay==0&&(s.az==0&&(0==0&&(0==0 &&
 (s.a0==(bif k1P s then s.a0 else s.a0)&&(s.a1==(bif k1P s then s.a1 else s.a1)&&(s.a2==(bif k1P s then s.a2 else s.a2)&&(s.a3==(bif k1P s then s.a3 else s.a3)&&(s.f0==(bif k1P s then s.f0 else 0)&&(s.f1==(bif k1P s then s.f1 else 0)&&(eqBytes s.g s.g&&true))))))))))))))))))))))
def k2N:Bool:=2==2&&(s.c==s.c&&(s.k==s.k&&(s.l==s.l&&(s.m==s.m&&(s.o==0&&(s.th==s.th&&(s.se==s.se&&(s.ho==s.ho&&(s.dx==0&&(s.dy==0&&(s.ax==0&&(s.ay==0&&(s.az==0&&(0==0&&(0==0&&(s.a0==0&&(s.a1==0&&(s.a2==0&&(s.a3==0&&(s.f0==0&&(s.f1==0&&(eqBytes s.g s.g&&true))))))))))))))))))))))
def k3N:Bool:=3==3&&(s.c==0&&(s.k==0&&(s.l==0&&(s.m==0&&(s.o==0&&(s.th==s.th&&(s.se==0&&(s.ho==0&&(s.dx==s.dx&&(s.dy==s.dy&&(s.ax==s.ax&&(s.ay==s.ay&&(s.az==s.az&&(0==0&&(0==0&&(s.a0==0&&(s.a1==0&&(s.a2==0&&(s.a3==0&&(s.f0==0&&(s.f1==0&&(noG s&&true))))))))))))))))))))))
def k4N:Bool:=4==4&&(s.c==s.c&&(s.k==0&&(s.l==0&&(s.m==0&&(s.o==0&&(s.th==s.th&&(s.se==s.se&&(s.ho==s.ho&&(s.dx==0&&(s.dy==0&&(s.ax==0&&(s.ay==0&&(s.az==0&&(0==0&&(0==0&&(s.a0==0&&(s.a1==0&&(s.a2==0&&(s.a3==0&&(s.f0==0&&(s.f1==0&&(noG s&&true))))))))))))))))))))))
def k1F:Bool:=!bif k1N s then fQ ys else false
def k2F:Bool:=!bif k2N s then fQ ys else false
def k3F:Bool:=!bif k3N s then true else false
def k4F:Bool:=!bif k4N s then true else false
def chk1V:Int:=fE (cE0 s (k1F s ys)) ys
def chk2V:Int:=fE (cE0 s (k2F s ys)) ys
def nmC (f:Bool):Prop:=(!f)=true->(!cT2 s)=true->(!cT3 s)=true->(!cT4 s)=true->(!cT5 s)=true->noG s=false->s.g.size<1000000000
def same20:Prop:=s.c=s.c/\s.k=s.k/\s.l=s.l/\s.m=s.m/\s.a0=s.a0/\s.a1=s.a1/\s.a2=s.a2/\s.a3=s.a3/\s.f0=s.f0/\s.f1=s.f1/\s.o=s.o/\s.th=s.th/\s.g=s.g/\s.se=s.se/\s.ho=s.ho/\s.dx=s.dx/\s.dy=s.dy/\s.ax=s.ax/\s.ay=s.ay/\s.az=s.az
def w1:Prop:=(s.ho=s.ho/\s.se=s.se/\s.g=s.g/\s.k=s.k)/\(s.ho=s.ho/\s.se=s.se/\s.g=s.g)/\(s.ho=s.ho/\s.se=s.se)/\s.ho=s.ho
def chk1N:Prop:=(((k1P s=true->s.f0=s.f0/\s.f1=s.f1)/\w1 s)/\same20 s/\s.c=s.c/\s.k=s.k/\(bif k1P s then s.a0 else s.a0)=(bif k1P s then s.a0 else s.a0)/\(bif k1P s then s.a1 else s.a1)=(bif k1P s then s.a1 else s.a1)/\(bif k1P s then s.a2 else s.a2)=(bif k1P s then s.a2 else s.a2)/\(bif k1P s then s.a3 else s.a3)=(bif k1P s then s.a3 else s.a3) /\
 (bif k1P s then s.f0 else 0)=(bif k1P s then s.f0 else 0)/\(bif k1P s then s.f1 else 0)=(bif k1P s then s.f1 else 0)/\(bif k1P s then s.o else 0)=(bif k1P s then s.o else 0)/\(bif k1P s then s.th else s.th)=(bif k1P s then s.th else s.th)/\s.g=s.g/\s.se=s.se/\s.ho=s.ho)/\nmC s (k1F s ys)
def chk2N:Prop:=((s.m=s.m/\w1 s)/\same20 s/\s.c=s.c/\s.k=s.k/\s.l=s.l/\s.m=s.m/\s.th=s.th/\s.g=s.g/\s.se=s.se/\s.ho=s.ho)/\nmC s (k2F s ys)
def w3:Prop:=((s.az=s.az/\s.ay=s.ay/\s.ax=s.ax/\s.dy=s.dy)/\(s.az=s.az/\s.ay=s.ay/\s.ax=s.ax)/\(s.az=s.az/\s.ay=s.ay)/\s.az=s.az)/\same20 s/\s.th=s.th/\s.dx=s.dx/\s.dy=s.dy/\s.ax=s.ax/\s.ay=s.ay/\s.az=s.az
def w4:Prop:=((s.ho=s.ho/\s.se=s.se)/\s.ho=s.ho)/\same20 s/\s.c=s.c/\s.th=s.th/\s.se=s.se/\s.ho=s.ho
def chk3N:Prop:=w3 s/\nmC s (k3F s)
def chk4N:Prop:=w4 s/\nmC s (k4F s)
def kdO:Bool:=!decide (ix1 (oR 1 4 s.kd)>=0)
variable {s} {ys}
theorem same20_t:same20 s:=by unfold same20; simp
theorem nmC_t {f:Bool} (h:s.g.size<1000000000):nmC s f:=fun _ _ _ _ _ _=>h
theorem chk1N_t (h:s.g.size<1000000000):chk1N s ys:=⟨⟨⟨fun _=>⟨rfl,rfl⟩,by unfold w1; simp⟩,same20_t,by simp⟩,nmC_t h⟩
theorem chk2N_t (h:s.g.size<1000000000):chk2N s ys:=⟨⟨⟨rfl,by unfold w1; simp⟩,same20_t,by simp⟩,nmC_t h⟩
theorem w3_t:w3 s:=⟨by simp,same20_t,by simp⟩
theorem w4_t:w4 s:=⟨by simp,same20_t,by simp⟩
end
def rI (lo hi n:Int):Bool:=bif decide (n>=lo) then decide (n<=hi) else false
theorem rI_eq (lo hi n:Int):rI lo hi n=inR lo hi n:=by
 unfold rI inR
 cases h:decide (n>=lo) <;> cases h':decide (lo<=n) <;> simp_all <;> omega
def rFilm (i p q:Int):Bool:=bif decide (i>=10000000) then bif decide (i<=40000000) then bif decide (p>=0) then bif decide (p<=1000) then bif decide (q>=1) then decide (q<=1000) else false else false else false else false else false
theorem rFilm_eq (i p q:Int):rFilm i p q=film1 i p q:=by
 have e:film1 i p q=(inR 10000000 40000000 i&&inR 0 1000 p&&inR 1 1000 q):=rfl
 have e2:rFilm i p q=(rI 10000000 40000000 i&&(rI 0 1000 p&&rI 1 1000 q)):=by
  unfold rFilm rI
  cases decide (i>=10000000) <;> cases decide (i<=40000000) <;> cases decide (p>=0) <;> cases decide (p<=1000) <;> rfl
 rw [e,e2,rI_eq,rI_eq,rI_eq,Bool.and_assoc]
def rL:List Int->List Bool
 | i :: p :: q :: r=>(!rFilm i p q) :: rL r
 | _=>[]
theorem rL_eq:∀ ys:List Int,anyB (rL ys)=!filmsB ys
 | []=>rfl
 | [_]=>rfl
 | [_,_]=>rfl
 | i :: p :: q :: r=>by
  simp only [rL,anyB,rL_eq r,filmsB,rFilm_eq]
  cases film1 i p q <;> rfl
section
variable (s:Su) (ys:List Int)
def rT1:Bool:=(!!rI (-1000000000) 1000000000 s.a0)&&((!!rI (-1000000000) 1000000000 s.a1)&&((!!rI (-1000000000) 1000000000 s.a2)&&!!rI (-1000000000) 1000000000 s.a3))
def rT2:Bool:=bif !rI (-1000000000) 1000000000 s.c then true else bif !rI (-1000000000) 1000000000 s.l then true else bif !rI (-100000000) 100000000 s.k then true else bif !rI (-100000000) 100000000 s.m then true else bif !rI (-1000000000) 1000000000 s.f0 then true else !rI (-1000000000) 1000000000 s.f1
def rT3:Bool:=bif !rI (-1000000000) 1000000000 s.th then true else bif !rI (-1000000000) 1000000000 s.dx then true else bif !rI (-1000000000) 1000000000 s.dy then true else bif !rI (-90000000) 90000000 s.ax then true else bif !rI (-90000000) 90000000 s.ay then true else !rI (-90000000) 90000000 s.az
def rT4:Bool:=bif decide (s.se<0) then true else bif decide (s.se>1000000000) then true else bif decide (s.ho<0) then true else bif decide (s.ho>1000000000) then true else bif decide (s.se>0) then decide (s.ho>=s.se) else false
def rT5:Bool:=bif decide (s.o>=-3) then bif decide (s.o<=3) then bif noG s then true else nameB s.g else false else false
def rSm:Bool:=bif rT1 s then sel (rL ys) false (bif rT2 s then false else bif rT3 s then false else bif rT4 s then false else rT5 s) else false
def rX:Bool:=bif s.l==0 then s.m==0 else false
def rS:Bool:=bif s.dx==0 then bif s.dy==0 then bif s.ax==0 then bif s.ay==0 then s.az==0 else false else false else false else false
def rP:Bool:=s.f0==0&&(s.f1==0&&true)
def rA:Bool:=bif s.a0==0&&(s.a1==0&&(s.a2==0&&(s.a3==0&&true))) then bif rP s then s.o==0 else false else false
def rK1:Bool:=bif bif s.o==0 then true else isM s then bif rX s then bif rS s then bif s.o==0 then rP s else false else false else false else bif rX s then rS s else false
def rK2:Bool:=bif rA s then rS s else false
def rK3:Bool:=bif rX s then bif rA s then bif bif noG s then true else false then bif s.c==0 then bif s.k==0 then bif s.se==0 then s.ho==0 else false else false else false else false else false else false
def rK4:Bool:=bif rX s then bif rA s then bif rS s then bif bif noG s then true else false then s.k==0 else false else false else false else false
def rKd:Bool:=bif !(s.kd==1)&&(!(s.kd==2)&&(!(s.kd==3)&&!(s.kd==4))) then false else bif s.kd==1 then rK1 s else bif s.kd==2 then rK2 s else (match ys with|[]=>bif s.kd==3 then rK3 s else rK4 s|_ :: _=>false)
def rRight:Bool:=bif !rSm s ys then false else rKd s ys
def rTail:Prop:=(!rT2 s)=true->(!rT3 s)=true->(!rT4 s)=true->decide (s.o>=-3)=true->decide (s.o<=3)=true->noG s=false->s.g.size<1000000000
def rRightN:Prop:=rT1 s=true->(match rL ys with|[]=>rTail s|b :: r=>cj (b :: r)=true->rTail s)
theorem rRightN_t {s:Su} {ys:List Int} (h:s.g.size<1000000000):rRightN s ys:=by
 intro _
 split
 .exact fun _ _ _ _ _ _=>h
 .exact fun _ _ _ _ _ _ _=>h
end
end Go.Rd
namespace Go.Proofs.YtjmhddncomglmaaGreatDoor.K
open Go Go.Eng Go.Ar Go.Rd
noncomputable section
def cNk:Ctx:={ cNm with hintT:=fun c=>match Nat.beq c 79 with|true=>some (5,.bool false false)|false=>none }
theorem cNk_ok:CtxOk cNk:=⟨cNm_ok.prog,cNm_ok.con,cNm_ok.ext,cNm_ok.loop,cNm_ok.two⟩
def rn (C:Ctx) (f:FuncId) (s:Su) (kd:AV) (n:Nat) (x:Nat->Int):Option (Nd×AV):=oneG (hG.size+1) hG.clock ((run C 1000).call f [suA s kd n] (suH n x))
def fz (n:Nat) (x:Nat->Int):List Int:=spinF (3*n) 0 x
end
end Go.Proofs.YtjmhddncomglmaaGreatDoor.K
