/- What is proved: AperInside returns true, whatever the input (part 9). No conditions beyond those of the row. -/
import Derived.Test.YtjcicegihechmaaGreatDoorPF
import Derived.Test.YtjcicegihechmaaGreatDoorPG
import Derived.Test.YtjcicegihechmaaGreatDoorPH
import Derived.Shelf.Small.Bits
import Derived.Shelf.Strconv.Itoa0
import Derived.Shelf.Bits.Mul64
import Derived.Test.YtjcicegihechmaaGreatDoorProg
import Derived.Laws.Externs
import Derived.KernelRfl
set_option linter.unusedVariables false
set_option linter.unusedSimpArgs false
set_option linter.unusedSectionVars false
/-
 DERIVED: THE SHELF's CONTRACTS AT THIS DUMP, IN PLAIN WORDS (tools/lay-plain.mjs out of 'TryzShelf.lean', which tools/lay-shelf.mjs wrote): THE SAME DECLARATIONS UNDER THE SAME NAMES: 'import', 'namespace', 'open', 'def', 'theorem' AND NOTHING ELSE: no command of the shelf's: FOR A HAND-IN. Each laying: the table of numbers ('.._ren') and one theorem, a field a fact of the dump's own or the kernel's comparison; each contract: ONE APPLICATION.
-/
namespace Go.Proofs
open Go.Shelf
def Tryz.lays134_ren:Go.Shelf.Ren:=⟨fun|134=>150|129=>173|n=>n,fun|53=>141|3=>3|4=>4|46=>41|5=>5|9=>9|n=>n,fun|n=>n⟩
theorem Tryz.lays134:Go.Proofs.Lays.n134 Tryz.prog Tryz.lays134_ren:={
 mixed:=by kernel_rfl
 f129:=Tryz.func173.trans (congrArg some (by kernel_rfl))
 f134:=Tryz.func150.trans (congrArg some (by kernel_rfl))
 t3:=Tryz.underlying3
 a3:=Tryz.isAgg3
 z3:=Tryz.sizeOf3
 v3:=Tryz.zeroValue3
 t4:=Tryz.underlying4
 a4:=Tryz.isAgg4
 z4:=Tryz.sizeOf4
 v4:=Tryz.zeroValue4
 t5:=Tryz.underlying5
 a5:=Tryz.isAgg5
 z5:=Tryz.sizeOf5
 v5:=Tryz.zeroValue5
 t9:=Tryz.underlying9
 a9:=Tryz.isAgg9
 z9:=Tryz.sizeOf9
 v9:=Tryz.zeroValue9
 t46:=Tryz.underlying41
 a46:=Tryz.isAgg41
 z46:=Tryz.sizeOf41
 v46:=Tryz.zeroValue41
 t53:=Tryz.underlying141
 a53:=Tryz.isAgg141
 z53:=Tryz.sizeOf141
 v53:=Tryz.zeroValue141 }
theorem Tryz.bits_LeadingZeros64 (x:Int) (w:World) (h0:0<=x) (h1:x<=18446744073709551615):
  Calls Tryz.prog 150 #[.int .u64 x] w fun e w'=>e=.returned (.int .i64 (64 - (Lib.bitLen x.toNat:Int)))/\w'=w:=Any.bits_LeadingZeros64 Tryz.lays134 x w h0 h1
def Tryz.lays264_ren:Go.Shelf.Ren:=⟨fun|264=>105|n=>n,fun|53=>141|46=>41|n=>n,fun|n=>n⟩
theorem Tryz.lays264:Go.Proofs.Lays.n264 Tryz.prog Tryz.lays264_ren:={
 mixed:=by kernel_rfl
 f264:=Tryz.func105.trans (congrArg some (by kernel_rfl))
 t46:=Tryz.underlying41
 a46:=Tryz.isAgg41
 z46:=Tryz.sizeOf41
 v46:=Tryz.zeroValue41
 t53:=Tryz.underlying141
 a53:=Tryz.isAgg141
 z53:=Tryz.sizeOf141
 v53:=Tryz.zeroValue141 }
open Go.RowKit Go.Lib in
theorem Tryz.bits_Mul64 (x y:Nat) (hx:x<18446744073709551616) (hy:y<18446744073709551616) (w:World):
  Calls Tryz.prog 105 #[.int .u64 x,.int .u64 y] w fun e w'=>e=.returned (.tuple #[.int .u64 ((x*y / 18446744073709551616:Nat):Int),.int .u64 ((x*y % 18446744073709551616:Nat):Int)])/\w'=w:=Any.bits_Mul64 Tryz.lays264 x y hx hy w
end Go.Proofs
namespace Go.Proofs.YtjcicegihechmaaGreatDoor.K
open Go Go.Eng
theorem all_names:(Tryz.prog.funcs.toList.all fun fn=>!(fn.name=="runtime.NumGoroutine"))=true:=by kernel_rfl
theorem prog_ok:ProgOk Tryz.prog:=by
 refine ⟨fun f fn h _=>?_,by kernel_rfl⟩
 have h1:fn∈Tryz.prog.funcs.toList:=by
  rw [Array.mem_toList_iff]
  exact Array.mem_of_getElem? h
 have:=List.all_eq_true.1 all_names fn h1
 simpa using this
theorem mkInt_rel {σ:Sg} {s:Bool} {k:IntKind} {n:Int}:VRel σ (mkInt s k n) (.int k n):=by
 cases s with
 | true=>rfl
 | false=>
  unfold mkInt forceInt
  cases n with
  | ofNat m=>cases m <;> rfl
  | negSucc m=>cases m <;> rfl
def asked (s b:Bool) (v:AV):Option (Nd×AV):=
 match s with
 | true=>some (.p (b=true),v)
 | false=>match b with
  | true=>some (.tt,v)
  | false=>none
theorem asked_some {s b:Bool} {v w:AV} {nd:Nd} (e:asked s b v=some (nd,w)) (hn:nd.val):w=v/\b=true:=by
 unfold asked at e
 split at e
 .cases e; exact ⟨rfl,hn⟩
 .split at e
  .cases e; exact ⟨rfl,rfl⟩
  .cases e
def ext (f:FuncId) (args:List AV):Option (Nd×AV):=
 match Nat.beq f 162 with
 | true=>match args with
  | [.int s .u64 x,.int s' .u64 y,.int s'' .u64 c]=>asked (s||s'||s'') (decide (0<=x/\0<=y/\0<=c/\c<=1)) (.tuple [mkInt (s||s'||s'') .u64 ((x+y+c) % 18446744073709551616),mkInt (s||s'||s'') .u64 ((x+y+c) / 18446744073709551616)])
  | _=>none
 | false=>none
theorem add64_run (x y c:Int) (hx:0<=x) (hy:0<=y) (hc0:0<=c) (hc:c<=1) (w:World):
  (callFunc 162 #[.int .u64 x,.int .u64 y,.int .u64 c]).run Tryz.prog w=.ok (.value (.tuple #[.int .u64 ((x+y+c) % 18446744073709551616),.int .u64 ((x+y+c) / 18446744073709551616)])) w:=by
 rw [run_callFunc_extern Tryz.func162 (by kernel_rfl) (by kernel_rfl) (by kernel_rfl) (e:=add64Entry) (by kernel_rfl),run_add64 x y c hx hy hc0 hc]
 rfl
theorem ext_ok:ExtOk Tryz.prog ext:=by
 intro f args nd v e hn σ A W ha
 unfold ext at e
 split at e
 .rename_i hf
  have:=Nat.eq_of_beq_eq_true hf
  subst this
  split at e
  .rename_i s x s' y s'' c
   obtain ⟨rfl,hd⟩:=asked_some e hn
   have hd:=of_decide_eq_true hd
   obtain ⟨V,L,hL,rfl,V2,L2,hL2,rfl,V3,L3,hL3,rfl,hL4⟩:=ha
   rw [hL2,hL3,show L3=[] from hL4] at hL
   have hA:A=#[.int .u64 x,.int .u64 y,.int .u64 c]:=by
    apply Array.toList_inj.1; simpa using hL
   subst hA
   exact ⟨_,⟨_,rfl,_,_,rfl,mkInt_rel,_,_,rfl,mkInt_rel,rfl⟩,add64_run x y c hd.1 hd.2.1 hd.2.2.1 hd.2.2.2 W⟩
  .cases e
 .cases e
def lzSpec:List AV->Option (Nd×AV)
 | [.int s .u64 x]=>some (.p (0<=x/\x<=18446744073709551615),mkInt s .i64 (64 - (Lib.bitLen x.toNat:Int)))
 | _=>none
def two64:Int:=18446744073709551616
def mulSpec:List AV->Option (Nd×AV)
 | [.int s .u64 x,.int s' .u64 y]=>asked (s||s') (decide (0<=x/\x<18446744073709551616/\0<=y/\y<18446744073709551616)) (.tuple [mkInt (s||s') .u64 (x*y / two64),mkInt (s||s') .u64 (x*y % two64)])
 | _=>none
theorem lz_ok:PureOk Tryz.prog 150 lzSpec:=by
 refine pure_calls ⟨_,Tryz.func150,rfl⟩ fun args nd v e hn σ A W ha=>?_
 unfold lzSpec at e
 split at e
 .rename_i s x
  cases e
  have hd:=hn
  obtain ⟨V,L,hL,rfl,hL2⟩:=ha
  rw [show L=[] from hL2] at hL
  have hA:A=#[.int .u64 x]:=by
   apply Array.toList_inj.1; simpa using hL
  subst hA
  exact ⟨_,mkInt_rel,Tryz.bits_LeadingZeros64 x W hd.1 hd.2⟩
 .cases e
theorem mul_ok:PureOk Tryz.prog 105 mulSpec:=by
 refine pure_calls ⟨_,Tryz.func105,rfl⟩ fun args nd v e hn σ A W ha=>?_
 unfold mulSpec at e
 split at e
 .rename_i s x s' y
  obtain ⟨rfl,hd⟩:=asked_some e hn
  obtain ⟨h1,h2,h3,h4⟩:=of_decide_eq_true hd
  obtain ⟨V,L,hL,rfl,V2,L2,hL2,rfl,hL3⟩:=ha
  rw [hL2,show L2=[] from hL3] at hL
  have hA:A=#[.int .u64 x,.int .u64 y]:=by
   apply Array.toList_inj.1; simpa using hL
  subst hA
  refine ⟨.tuple #[.int .u64 (x*y / two64),.int .u64 (x*y % two64)],⟨_,rfl,_,_,rfl,mkInt_rel,_,_,rfl,mkInt_rel,rfl⟩,?_⟩
  have:=Tryz.bits_Mul64 x.toNat y.toNat (by omega) (by omega) W
  rw [Int.toNat_of_nonneg h1,Int.toNat_of_nonneg h3] at this
  have e1:((x.toNat*y.toNat / 18446744073709551616:Nat):Int)=x*y / two64:=by
   rw [Int.natCast_ediv,Int.natCast_mul,Int.toNat_of_nonneg h1,Int.toNat_of_nonneg h3]; rfl
  have e2:((x.toNat*y.toNat % 18446744073709551616:Nat):Int)=x*y % two64:=by
   rw [Int.natCast_emod,Int.natCast_mul,Int.toNat_of_nonneg h1,Int.toNat_of_nonneg h3]; rfl
  rw [e1,e2] at this
  exact this
 .cases e
noncomputable def tbl0:List (FuncId×PSpec):=[(150,lzSpec),(105,mulSpec)]
theorem tbl0_ok:TblOk Tryz.prog tbl0:=by
 intro x hx
 simp only [tbl0,List.mem_cons,List.not_mem_nil,or_false] at hx
 rcases hx with rfl|rfl
 .exact lz_ok
 .exact mul_ok
noncomputable def cD0:Ctx:=mkC Tryz.prog tbl0 noExt
theorem cD0_ok:CtxOk cD0:=mkC_ok prog_ok tbl0_ok (noExt_ok _)
noncomputable def cD:Ctx:={ cD0 with loop:=fun fr a s=>match Nat.beq fr.fn 127 with|true=>unroll (run cD0 60) fr a 3 s|false=>none }
theorem cD_ok:CtxOk cD:=by
 refine ⟨cD0_ok.prog,cD0_ok.con,cD0_ok.ext,fun fr a s q e=>?_,fun _ _ _ _ _ _ _ e=>(by cases e)⟩
 have e:(match Nat.beq fr.fn 127 with|true=>unroll (run cD0 60) fr a 3 s|false=>none)=some q:=e
 split at e
 .exact unroll_ok (run_sound cD0_ok 60) 3 s q e
 .cases e
theorem div_run (hi lo y:Int):oneV ((run cD 100).call 127 [.int true .u64 hi,.int true .u64 lo,.int true .u64 y] ⟨[],0,1⟩)=some (.p (dNeed hi lo y),.tuple [.int true .u64 (dQuo hi lo y),.int true .u64 (dRem hi lo y)]):=by kernel_rfl
def divSpec:List AV->Option (Nd×AV)
 | [.int s .u64 hi,.int s' .u64 lo,.int s'' .u64 y]=>asked (s||s'||s'') (decide (0<=hi/\hi<y/\y<18446744073709551616/\0<=lo/\lo<18446744073709551616))
   (.tuple [mkInt (s||s'||s'') .u64 ((hi*two64+lo) / y),mkInt (s||s'||s'') .u64 ((hi*two64+lo) % y)])
 | _=>none
theorem div_ok:PureOk Tryz.prog 127 divSpec:=by
 refine pure_run (C:=cD) cD_ok (fun _=>rfl) (n:=100) (fun args nd v e hn=>?_) ⟨_,Tryz.func127,rfl⟩
 unfold divSpec at e
 split at e
 .rename_i s hi s' lo s'' y
  obtain ⟨rfl,hb⟩:=asked_some e hn
  obtain ⟨h1,h2,h3,h4,h5⟩:=of_decide_eq_true hb
  refine ⟨[.int true .u64 hi,.int true .u64 lo,.int true .u64 y],_,_,fun σ L h=>h,div_run hi lo y,?_⟩
  obtain ⟨p1,p2,p3⟩:=div_spec hi.toNat lo.toNat y.toNat (by omega) (by omega) (by omega)
  rw [Int.toNat_of_nonneg h1,Int.toNat_of_nonneg h4,Int.toNat_of_nonneg (show 0<=y by omega)] at p1 p2 p3
  refine ⟨p1,fun τ V hV σ=>?_⟩
  obtain ⟨K,rfl,V1,L1,e1,rfl,V2,L2,e2,rfl,e3⟩:=hV
  rw [show L2=[] from e3] at e2
  rw [e2] at e1
  refine ⟨K,rfl,_,_,e1,?_,_,_,rfl,?_,rfl⟩
  .rw [p2]; exact mkInt_rel
  .rw [p3]; exact mkInt_rel
 .cases e
end Go.Proofs.YtjcicegihechmaaGreatDoor.K
namespace Go.Proofs.YtjcicegihechmaaGreatDoor.K
open Go Go.Eng
noncomputable section
def cL:Ctx:=mkN Tryz.prog (fun _=>none) hG0 [] [] noExt
def mdH (d:List Int):Hp:=viewsH true hG0 [(.i64,d)]
def mdArgs (neg:Bool) (d:List Int):List AV:=[.bool true neg,.lslice 0 d.length]
noncomputable def mdS (neg:Bool) (d:List Int):St:=stAt cL 300 113 (mdArgs neg d) (mdH d)
def mdFr:AFr:=⟨113,none⟩
def mdA:Code:=loopOf Tryz.prog 113 0
def mdP (i:Int):Patch:=⟨(5,.int true .i64 i) :: deadT 10 12,[],[]⟩
def tlI (d:List Int) (y:Int):Int:=(Go.Dg.tl d y.toNat:Nat)
def mdU (d:List Int):SumL Int:=
 {
  S:=fun y=>mdP y
  I:=fun y=>0<=y/\y<=d.length
  μ:=fun y=>y.toNat
  F:=fun y=>(.exit 0,mdP (tlI d y))
  next:=fun y=>IntKind.i64.wrap (y - 1)
  ids:=fun _=>[]
  X:=fun y _=>some (mdP y,[]) }
end
end Go.Proofs.YtjcicegihechmaaGreatDoor.K
namespace Go.Proofs.YtjcicegihechmaaGreatDoor.K
open Go Go.Eng Go.Dg
noncomputable section
def md_start_nd (neg:Bool) (d:List Int):Prop:=(↑d.length:Int)=(↑d.length:Int)
theorem md_start (neg:Bool) (d:List Int):fit (mdS neg d) (mdS neg d) (patch (mdS neg d) ((mdU d).S (d.length:Int))) ([])=some (.p (md_start_nd neg d)):=by kernel_rfl
def md_body_nd (neg:Bool) (d:List Int) (i:Int):Prop:=(decide (i>(0:Int))=true->((0:Int)<=IntKind.i64.wrap (i - (1:Int))/\IntKind.i64.wrap (i - (1:Int))<(↑d.length:Int))/\(IntKind.i64.wrap (i - (1:Int))).toNat<d.length)/\((!bif decide (i>(0:Int)) then d.getD (IntKind.i64.wrap (i - (1:Int))).toNat (0:Int)==(0:Int) else false)=true->i=i/\(mdU d).F i=(Ex.exit (0:Nat),mdP i))/\((bif decide (i>(0:Int)) then d.getD (IntKind.i64.wrap (i - (1:Int))).toNat (0:Int)==(0:Int) else false)=true->IntKind.i64.wrap (i - (1:Int))=(mdU d).next i/\(mdU d).I ((mdU d).next i)/\(mdU d).μ ((mdU d).next i)<(mdU d).μ i/\(mdU d).F ((mdU d).next i)=(mdU d).F i)
theorem md_body (neg:Bool) (d:List Int) (i:Int):chkR (mdS neg d) ((mdU d).way (i)) ((run cL 300).code mdFr mdA (patch (mdS neg d) ((mdU d).S i)))=some (.p (md_body_nd neg d i)):=by kernel_rfl
end
end Go.Proofs.YtjcicegihechmaaGreatDoor.K
namespace Go.Proofs.YtjcicegihechmaaGreatDoor.K
open Go Go.Eng Go.Dg
noncomputable section
theorem cL_ok:CtxOk cL:=mkN_ok prog_ok (noExt_ok _) (fun x h=>by cases h) (fun x h=>by cases h)
theorem tlI_step {d:List Int} {i:Int} (h:0<i):tlI d i=if d.getD (i - 1).toNat 0=0 then tlI d (i - 1) else i:=by
 unfold tlI
 obtain ⟨n,rfl⟩:∃ n:Nat,i=(n+1:Nat):=⟨(i - 1).toNat,by omega⟩
 have e1:((n+1:Nat):Int).toNat=n+1:=by omega
 have e2:(((n+1:Nat):Int) - 1).toNat=n:=by omega
 rw [e1,e2]
 simp only [tl]
 split <;> rfl
theorem md_loop (neg:Bool) (d:List Int) (hs:Sm d):CodeOk cL mdFr (.loop mdA) (mdS neg d) ⟨.tt,[⟨.tt,.exit 0,patch (mdS neg d) (mdP (tlI d d.length))⟩]⟩:=by
 refine sumL_one (run_sound cL_ok 300) (mdU d) (y0:=(d.length:Int)) ⟨by omega,by omega⟩ ⟨_,md_start neg d,rfl⟩ (by kernel_rfl) (fun i hi=>⟨_,md_body neg d i,?_⟩) rfl
 have hs:d.length<=500000:=hs
 have hi:0<=i/\i<=d.length:=hi
 refine ⟨fun h=>?_,fun h=>⟨rfl,?_⟩,fun h=>?_⟩
 .have h:=of_decide_eq_true h
  rw [iw (by omega) (by omega)]
  omega
 .show (Ex.exit 0,mdP (tlI d i))=(Ex.exit 0,mdP i)
  rw [iw (by omega) (by omega)] at h
  have h:=nbt.1 h
  by_cases h0:0<i
  .rw [tlI_step h0,if_neg (neb.1 (h h0))]
  .have:i=0:=by omega
   subst this; rfl
 .have e:IntKind.i64.wrap (i - 1)=i - 1:=iw (by omega) (by omega)
  rw [e] at h ⊢
  obtain ⟨h0,h⟩:=bt.1 h
  have h:=eb.1 h
  have h0:0<i:=h0
  refine ⟨e.symm,?_,?_,?_⟩
  .show 0<=IntKind.i64.wrap (i - 1)/\IntKind.i64.wrap (i - 1)<=d.length
   rw [e]; omega
  .show (IntKind.i64.wrap (i - 1)).toNat<i.toNat
   rw [e]; omega
  .show (Ex.exit 0,mdP (tlI d (IntKind.i64.wrap (i - 1))))=(Ex.exit 0,mdP (tlI d i))
   rw [e,tlI_step h0,if_pos h]
noncomputable def cMd (neg:Bool) (d:List Int):Ctx:=withLoops cL [oneLoop 113 7 mdFr mdA (mdS neg d) (.exit 0) (mdP (tlI d d.length))]
theorem cMd_ok (neg:Bool) (d:List Int) (hs:Sm d):CtxOk (cMd neg d):=withLoop_ok cL_ok (md_loop neg d hs) (withNone_ok cL_ok)
noncomputable def mfS (neg:Bool) (d:List Int):St:=stAt (cMd neg d) 300 113 (mdArgs neg d) (mdH d)
def mfA:Code:=loopOf Tryz.prog 113 1
end
end Go.Proofs.YtjcicegihechmaaGreatDoor.K
namespace Go.Proofs.YtjcicegihechmaaGreatDoor.K
open Go Go.Eng Go.Dg
noncomputable section
def mfN (neg:Bool) (n:Int):Bool:=bif neg then decide (n>0) else false
def mfP (neg:Bool) (d:List Int) (n:Int):Option Int->Patch
 | none=>⟨(7,.int true .i64 0) :: deadT 28 15,[],[]⟩
 | some i=>⟨(7,.int true .i64 i) :: deadT 28 15,[(2,.cells [.bool true (mfN neg n),.islice true 3 0 i])],[.ints .i64 (d.take i.toNat)]⟩
def mfU (pos:Bool) (neg:Bool) (d:List Int):SumL (Option Int):=
 {
  S:=mfP neg d (tlI d d.length)
  I:=fun y=>match y with
   | none=>(pos=true->0<tlI d d.length)/\(pos=false->tlI d d.length=0)
   | some i=>pos=true/\1<=i/\i<=tlI d d.length
  μ:=fun y=>match y with
   | none=>(tlI d d.length).toNat
   | some i=>(tlI d d.length - i).toNat
  F:=fun _=>(.exit 2,mfP neg d (tlI d d.length) (bif pos then some (tlI d d.length) else none))
  next:=fun y=>match y with
   | none=>some (IntKind.i64.wrap (0+1))
   | some i=>some (IntKind.i64.wrap (i+1))
  ids:=fun y=>match y with
   | none=>[4]
   | some _=>[5]
  X:=fun y _=>some (mfP neg d (tlI d d.length) y,match y with|none=>[]|some _=>[3]) }
end
end Go.Proofs.YtjcicegihechmaaGreatDoor.K
namespace Go.Proofs.YtjcicegihechmaaGreatDoor.K
open Go Go.Eng Go.Dg
noncomputable section
def mf_start_nd (pos neg:Bool) (d:List Int):Prop:=(0:Int)=(0:Int)
theorem mf_start (pos neg:Bool) (d:List Int):fit (mfS neg d) (mfS neg d) (patch (mfS neg d) ((mfU pos neg d).S none)) ([])=some (.p (mf_start_nd pos neg d)):=by kernel_rfl
def mf_b0_nd (pos neg:Bool) (d:List Int):Prop:=(decide ((0:Int)<tlI d (↑d.length:Int))=true->((0:Int)<=(0:Int)/\(0:Int)<(↑d.length:Int))/\Int.toNat (0:Int)<d.length)/\((!decide ((0:Int)<tlI d (↑d.length:Int)))=true->(0:Int)=(0:Int)/\(mfU pos neg d).F none=(Ex.exit (2:Nat),mfP neg d (tlI d (↑d.length:Int)) none))/\(decide ((0:Int)<tlI d (↑d.length:Int))=true->(IntKind.i64.wrap ((0:Int)+(1:Int))=IntKind.i64.wrap ((0:Int)+(1:Int))/\((bif neg then decide (tlI d (↑d.length:Int)>(0:Int)) else false)=mfN neg (tlI d (↑d.length:Int))/\(0:Nat)<nat_lit 0+(1:Nat)/\(↑(0:Nat):Int)=(0:Int)/\(↑(nat_lit 0+(1:Nat)):Int)=IntKind.i64.wrap ((0:Int)+(1:Int)))/\[d.getD (Int.toNat (0:Int)) (0:Int)]=List.take (IntKind.i64.wrap ((0:Int)+(1:Int))).toNat d)/\(mfU pos neg d).I ((mfU pos neg d).next none)/\(mfU pos neg d).μ ((mfU pos neg d).next none)<(mfU pos neg d).μ none/\(mfU pos neg d).F ((mfU pos neg d).next none)=(mfU pos neg d).F none)
theorem mf_b0 (pos neg:Bool) (d:List Int):chkR (mfS neg d) ((mfU pos neg d).way (none)) ((run (cMd neg d) 300).code mdFr mfA (patch (mfS neg d) ((mfU pos neg d).S none)))=some (.p (mf_b0_nd pos neg d)):=by kernel_rfl
def mf_b1_nd (pos neg:Bool) (d:List Int) (i:Int):Prop:=(decide (i<tlI d (↑d.length:Int))=true->((0:Int)<=i/\i<(↑d.length:Int))/\i.toNat<d.length/\((0:Int)=(0:Int)/\i=i)/\(0:Int)=(0:Int)/\(0:Int)<i/\i=(↑(List.take i.toNat d).length:Int)/\i+(↑(1:Nat):Int)<=(1048576:Int))/\((!decide (i<tlI d (↑d.length:Int)))=true->(i=i/\(mfN neg (tlI d (↑d.length:Int))=mfN neg (tlI d (↑d.length:Int))/\(0:Int)=(0:Int)/\i=i)/\List.take i.toNat d=List.take i.toNat d)/\(mfU pos neg d).F (some i)=(Ex.exit (2:Nat),mfP neg d (tlI d (↑d.length:Int)) (some i)))/\(decide (i<tlI d (↑d.length:Int))=true->(IntKind.i64.wrap (i+(1:Int))=IntKind.i64.wrap (i+(1:Int))/\(mfN neg (tlI d (↑d.length:Int))=mfN neg (tlI d (↑d.length:Int))/\(0:Int)=(0:Int)/\i+(↑(1:Nat):Int)=IntKind.i64.wrap (i+(1:Int)))/\List.take i.toNat d++[d.getD i.toNat (0:Int)]=List.take (IntKind.i64.wrap (i+(1:Int))).toNat d)/\(mfU pos neg d).I ((mfU pos neg d).next (some i))/\(mfU pos neg d).μ ((mfU pos neg d).next (some i))<(mfU pos neg d).μ (some i)/\(mfU pos neg d).F ((mfU pos neg d).next (some i))=(mfU pos neg d).F (some i))
theorem mf_b1 (pos neg:Bool) (d:List Int) (i:Int):chkR (mfS neg d) ((mfU pos neg d).way (some i)) ((run (cMd neg d) 300).code mdFr mfA (patch (mfS neg d) ((mfU pos neg d).S (some i))))=some (.p (mf_b1_nd pos neg d i)):=by kernel_rfl
end
end Go.Proofs.YtjcicegihechmaaGreatDoor.K
namespace Go.Proofs.YtjcicegihechmaaGreatDoor.K
open Go Go.Eng Go.Dg
noncomputable section
theorem tlI_le (d:List Int):0<=tlI d d.length/\tlI d d.length<=d.length:=by
 have:=tl_le d d.length
 unfold tlI
 rw [show ((d.length:Int)).toNat=d.length by omega]
 omega
theorem take1 {d:List Int} {i:Int} (h0:0<=i) (h:i<d.length):d.take i.toNat++[d.getD i.toNat 0]=d.take (i+1).toNat:=by
 rw [show (i+1).toNat=i.toNat+1 by omega,List.take_add_one,List.getD_eq_getElem?_getD,List.getElem?_eq_getElem (by omega)]
 rfl
theorem mf_loop (pos neg:Bool) (d:List Int) (hs:Sm d) (hp:pos=decide (0<tlI d d.length)):CodeOk (cMd neg d) mdFr (.loop mfA) (mfS neg d) ⟨.tt,[⟨.tt,.exit 2,patch (mfS neg d) (mfP neg d (tlI d d.length) (bif pos then some (tlI d d.length) else none))⟩]⟩:=by
 obtain ⟨n0,n1⟩:=tlI_le d
 have hs2:=hs.le
 refine sumL_one (run_sound (cMd_ok neg d hs) 300) (mfU pos neg d) (y0:=none) ?_ ⟨_,mf_start pos neg d,rfl⟩ (by kernel_rfl) (fun y hy=>?_) rfl
 .refine ⟨fun h=>?_,fun h=>?_⟩
  .rw [hp] at h; exact of_decide_eq_true h
  .rw [hp] at h; have:=of_decide_eq_false h; omega
 .cases y with
  | none=>
   refine ⟨_,mf_b0 pos neg d,?_⟩
   obtain ⟨p1,p2⟩:=(show (pos=true->0<tlI d d.length)/\(pos=false->tlI d d.length=0) from hy)
   refine ⟨fun h=>?_,fun h=>⟨rfl,?_⟩,fun h=>?_⟩
   .have h:=dt.1 h
    exact ⟨⟨by omega,by omega⟩,by show 0<d.length; omega⟩
   .have h:=ndt.1 h
    cases pos with
    | true=>exact absurd (p1 rfl) h
    | false=>rfl
   .have h:=dt.1 h
    have e:IntKind.i64.wrap ((0:Int)+1)=1:=by decide
    have hpos:pos=true:=by
     cases pos with
     | true=>rfl
     | false=>have:=p2 rfl; omega
    refine ⟨⟨rfl,⟨rfl,by decide,rfl,by decide⟩,?_⟩,?_,?_,rfl⟩
    .rw [e]; exact take1 (i:=0) (by omega) (by omega)
    .show pos=true/\1<=IntKind.i64.wrap ((0:Int)+1)/\IntKind.i64.wrap ((0:Int)+1)<=tlI d d.length
     rw [e]; exact ⟨hpos,by omega,by omega⟩
    .show (tlI d d.length - IntKind.i64.wrap ((0:Int)+1)).toNat<(tlI d d.length).toNat
     rw [e]; omega
  | some i=>
   refine ⟨_,mf_b1 pos neg d i,?_⟩
   obtain ⟨hpos,i1,i2⟩:=(show pos=true/\1<=i/\i<=tlI d d.length from hy)
   have e:IntKind.i64.wrap (i+1)=i+1:=iw (by omega) (by omega)
   refine ⟨fun h=>?_,fun h=>⟨⟨rfl,⟨rfl,rfl,rfl⟩,rfl⟩,?_⟩,fun h=>?_⟩
   .have h:=dt.1 h
    refine ⟨⟨by omega,by omega⟩,by omega,⟨rfl,rfl⟩,rfl,by omega,?_,by omega⟩
    rw [List.length_take]; omega
   .have h:=ndt.1 h
    have:i=tlI d d.length:=by omega
    rw [hpos]
    show (Ex.exit 2,mfP neg d (tlI d d.length) (some (tlI d d.length)))=_
    rw [<- this]
   .have h:=dt.1 h
    refine ⟨⟨rfl,⟨rfl,rfl,?_⟩,?_⟩,?_,?_,rfl⟩
    .rw [e]; rfl
    .rw [e]; exact take1 (by omega) (by omega)
    .show pos=true/\1<=IntKind.i64.wrap (i+1)/\IntKind.i64.wrap (i+1)<=tlI d d.length
     rw [e]; exact ⟨hpos,by omega,by omega⟩
    .show (tlI d d.length - IntKind.i64.wrap (i+1)).toNat<(tlI d d.length - i).toNat
     rw [e]; omega
noncomputable def cMe (pos neg:Bool) (d:List Int):Ctx:=withLoops (cMd neg d) [oneLoop 113 18 mdFr mfA (mfS neg d) (.exit 2) (mfP neg d (tlI d d.length) (bif pos then some (tlI d d.length) else none))]
theorem cMe_ok (pos neg:Bool) (d:List Int) (hs:Sm d) (hp:pos=decide (0<tlI d d.length)):CtxOk (cMe pos neg d):=withLoop_ok (cMd_ok neg d hs) (mf_loop pos neg d hs hp) (withNone_ok (cMd_ok neg d hs))
end
end Go.Proofs.YtjcicegihechmaaGreatDoor.K
namespace Go.Proofs.YtjcicegihechmaaGreatDoor.K
open Go Go.Eng Go.Dg
noncomputable section
def md_t_nd (neg:Bool) (d:List Int):Prop:=(At (mdFr) (mdFr) (mdA) (mdA) (mdS neg d) (mdS neg d)/\At (mdFr) (mdFr) (mfA) (mfA) (mfS neg d) (mfS neg d))
def md_t_v (neg:Bool) (d:List Int):AV:=(AV.agg [AV.bool true (mfN neg (tlI d (↑d.length:Int))),AV.islice true 1 (0:Int) (tlI d (↑d.length:Int))])
def md_t_h (neg:Bool) (d:List Int):Hp:=⟨[{ wr:=18,body:=ABody.ints IntKind.i64 (List.take (tlI d (↑d.length:Int)).toNat d) },{ wr:=(0:Nat),body:=ABody.rows IntKind.i64 d }],2,21⟩
theorem md_t (neg:Bool) (d:List Int):(run (cMe true neg d) 300).call 113 (mdArgs neg d) (mdH d)=some ⟨.p (md_t_nd neg d),[⟨.tt,md_t_v neg d,md_t_h neg d⟩]⟩:=by kernel_rfl
def md_f_nd (neg:Bool) (d:List Int):Prop:=(At (mdFr) (mdFr) (mdA) (mdA) (mdS neg d) (mdS neg d)/\At (mdFr) (mdFr) (mfA) (mfA) (mfS neg d) (mfS neg d))
def md_f_v (neg:Bool) (d:List Int):AV:=(AV.agg [AV.bool true (bif neg then decide (tlI d (↑d.length:Int)>(0:Int)) else false),AV.nilslice])
def md_f_h (neg:Bool) (d:List Int):Hp:=⟨[{ wr:=(0:Nat),body:=ABody.rows IntKind.i64 d }],1,21⟩
theorem md_f (neg:Bool) (d:List Int):(run (cMe false neg d) 300).call 113 (mdArgs neg d) (mdH d)=some ⟨.p (md_f_nd neg d),[⟨.tt,md_f_v neg d,md_f_h neg d⟩]⟩:=by kernel_rfl
end
end Go.Proofs.YtjcicegihechmaaGreatDoor.K
namespace Go.Proofs.YtjcicegihechmaaGreatDoor.K
open Go Go.Eng Go.Dg
noncomputable section
def mdV:List Nu->List (List Int)->Option (Prop×To)
 | [.t neg],[d]=>some (Dig d/\Sm d,.st [.bo (neg&&decide (val d≠0)),.li true (digs (val d).toNat)])
 | _,_=>none
theorem tlI_pos {d:List Int} (h:Dig d):0<tlI d d.length ↔ val d≠0:=by
 have h1:=tl_zero h
 have e:tlI d d.length=(tl d d.length:Nat):=by
  unfold tlI
  rw [show ((d.length:Int)).toNat=d.length by omega]
 rw [e]
 constructor
 .intro h h2; have:=h1.2 h2; omega
 .intro h2; have:=mt h1.1 h2; omega
theorem take_tlI {d:List Int} (h:Dig d):d.take (tlI d d.length).toNat=digs (val d).toNat:=by
 rw [<- take_tl h]
 have e:(tlI d d.length).toNat=tl d d.length:=by
  unfold tlI
  rw [show ((d.length:Int)).toNat=d.length by omega]
  omega
 rw [e]
theorem made_ok:NOk Tryz.prog (fun _=>none) hG0 113 (mSpec hG0 .i64 [.nu .b,.li] mdV):=by
 refine msp_ok (show hG0.ok from rfl) rfl (fun _ _ h=>by cases h) (fun xs ys p t e h=>?_) ⟨_,Tryz.func113,rfl⟩
 unfold mdV at e
 split at e
 .rename_i neg d
  cases e
  obtain ⟨hd,hs⟩:=h
  obtain ⟨n0,n1⟩:=tlI_le d
  have hN:mfN neg (tlI d d.length)=(neg&&decide (val d≠0)):=by
   unfold mfN
   rw [decide_eq_decide.2 (tlI_pos hd)]
   cases neg <;> rfl
  by_cases hp:0<tlI d d.length
  .refine ⟨cMe true neg d,300,mdArgs neg d,_,_,_,_,_,cMe_ok true neg d hs (by simp [hp]),rfl,rfl,⟨rfl,rfl,trivial⟩,md_t neg d,rfl,⟨⟨rfl,rfl,rfl⟩,rfl,rfl,rfl⟩,rfl,rfl,⟨hN,⟨rfl,?_⟩,take_tlI hd⟩⟩
   show tlI d d.length=((d.take (tlI d d.length).toNat).length:Int)
   rw [List.length_take]; omega
  .have hv:val d=0:=by
    have:=mt (tlI_pos hd).2 hp
    omega
   refine ⟨cMe false neg d,300,mdArgs neg d,_,_,_,_,_,cMe_ok false neg d hs (by simp [hp]),rfl,rfl,⟨rfl,rfl,trivial⟩,md_f neg d,rfl,⟨⟨rfl,rfl,rfl⟩,rfl,rfl,rfl⟩,rfl,rfl,⟨hN,?_⟩⟩
   rw [hv]; exact digs_zero.symm
 .cases e
end
end Go.Proofs.YtjcicegihechmaaGreatDoor.K
namespace Go.Dg
def fndB (a b:List Int):Nat->Bool
 | 0=>false
 | n+1=>if a.getD n 0=b.getD n 0 then fndB a b n else true
def fndI (a b:List Int) (i:Int):Bool:=fndB a b (i+1).toNat
def lesI (a b:List Int) (i:Int):Bool:=lessB a b (i+1).toNat
def difB (a b:List Int):Nat->Nat->Bool
 | 0,_=>false
 | n+1,i=>if a.getD i 0=b.getD i 0 then difB a b n (i+1) else true
def difI (a b:List Int) (i:Int):Bool:=difB a b (a.length - i).toNat i.toNat
theorem fnd_step {a b:List Int} {i:Int} (h:0<=i):fndI a b i=if a.getD i.toNat 0=b.getD i.toNat 0 then fndI a b (i - 1) else true:=by
 unfold fndI
 rw [show (i+1).toNat=i.toNat+1 by omega,show (i - 1+1).toNat=i.toNat by omega,fndB]
theorem les_step {a b:List Int} {i:Int} (h:0<=i):lesI a b i=if a.getD i.toNat 0=b.getD i.toNat 0 then lesI a b (i - 1) else decide (a.getD i.toNat 0<b.getD i.toNat 0):=by
 unfold lesI
 rw [show (i+1).toNat=i.toNat+1 by omega,show (i - 1+1).toNat=i.toNat by omega,lessB]
theorem fnd_lt {a b:List Int}:∀ n,fndB a b n=false->lessB a b n=false
 | 0,_=>rfl
 | n+1,h=>by
  simp only [fndB] at h
  simp only [lessB]
  split at h
  .rename_i e; rw [if_pos e]; exact fnd_lt n h
  .cases h
theorem dif_step {a b:List Int} {i:Int} (h:0<=i) (h2:i<a.length):difI a b i=if a.getD i.toNat 0=b.getD i.toNat 0 then difI a b (i+1) else true:=by
 unfold difI
 rw [show (a.length - i).toNat=(a.length - (i+1)).toNat+1 by omega,show (i+1).toNat=i.toNat+1 by omega,difB]
theorem difB_false {a b:List Int}:∀ (n i:Nat),difB a b n i=false->∀ j,i<=j->j<i+n->a.getD j 0=b.getD j 0
 | 0,i,_,j,h1,h2=>by omega
 | n+1,i,h,j,h1,h2=>by
  simp only [difB] at h
  split at h
  .rename_i e
   rcases Nat.lt_or_ge i j with h3|h3
   .exact difB_false n (i+1) h j (by omega) (by omega)
   .rw [show j=i by omega]; exact e
  .cases h
theorem difB_same {a:List Int}:∀ (n i:Nat),difB a a n i=false
 | 0,i=>rfl
 | n+1,i=>by rw [difB,if_pos rfl]; exact difB_same n (i+1)
theorem dif_iff {a b:List Int} (h:a.length=b.length):difI a b 0=false ↔ a=b:=by
 unfold difI
 rw [show ((a.length:Int) - 0).toNat=a.length by omega]
 constructor
 .intro e
  apply List.ext_getElem h
  intro j h1 h2
  have:=difB_false _ _ e j (by omega) (by show j<0+a.length; omega)
  rw [List.getD_eq_getElem?_getD,List.getD_eq_getElem?_getD,List.getElem?_eq_getElem h1,List.getElem?_eq_getElem h2] at this
  exact this
 .rintro rfl; exact difB_same _ _
theorem bne_t {x y:Int}:(x != y)=true ↔ x≠y:=by simp
theorem bne_f {x y:Int}:(x != y)=false ↔ x=y:=by simp
theorem nbne {x y:Int}:(!x != y)=true ↔ x=y:=by
 have:(!x != y)=(x==y):=by simp [bne]
 rw [this]; exact eb
theorem and_t {p:Prop} [Decidable p] {b:Bool}:(decide p&&b)=true ↔ p/\b=true:=by
 by_cases h:p <;> simp [h]
end Go.Dg
namespace Go.Proofs.YtjcicegihechmaaGreatDoor.K
open Go Go.Eng Go.Dg
noncomputable section
def hintsT (l:List (Nat×AV)):Nat->Nat->Option AV:=fun _ t=>match l with
 | []=>none
 | x :: l=>match Nat.beq t x.1 with
  | true=>some x.2
  | false=>hintsT l 0 t
termination_by structural l
def leH (a b:List Int):Hp:=viewsH true hG0 [(.i64,a),(.i64,b)]
def leArgs (a b:List Int):List AV:=[.lslice 0 a.length,.lslice 1 b.length]
def cLe (d:Bool):Ctx:=hinting cL (hintsT [(10,.bool false d)])
theorem cLe_ok (d:Bool):CtxOk (cLe d):=hinting_ok cL_ok _
noncomputable def leS (a b:List Int):St:=stAt (cLe false) 300 143 (leArgs a b) (leH a b)
def leFr:AFr:=⟨143,none⟩
def leA:Code:=loopOf Tryz.prog 143 0
def leP (i:Int):Patch:=⟨(5,.int true .i64 i) :: deadT 19 22,[],[]⟩
def leR (r:Bool):Patch:=⟨(4,.bool true r) :: (5,.any false) :: deadT 19 22,[],[]⟩
def leX:Patch:=⟨(5,.any false) :: deadT 19 22,[],[]⟩
def leU (a b:List Int):SumL Int:=
 {
  S:=leP
  I:=fun i=>-1<=i/\i<a.length
  μ:=fun i=>(i+1).toNat
  F:=fun i=>bif fndI a b i then (.ret,leR (lesI a b i)) else (.exit 0,leX)
  next:=fun i=>IntKind.i64.wrap (i - 1)
  ids:=fun _=>[]
  X:=fun i x=>match x with
   | .ret=>some (leR (decide (a.getD i.toNat 0<b.getD i.toNat 0)),[])
   | .exit _=>some (leX,[])
   | _=>none }
def saArgs (p q:Bool) (a b:List Int):List AV:=[.agg [.bool true p,.lslice 0 a.length],.agg [.bool true q,.lslice 1 b.length]]
def cSa (d:Bool):Ctx:=hinting cL (hintsT [(19,.bool false d)])
theorem cSa_ok (d:Bool):CtxOk (cSa d):=hinting_ok cL_ok _
noncomputable def saS (p q:Bool) (a b:List Int):St:=stAt (cSa false) 300 114 (saArgs p q a b) (leH a b)
def saFr:AFr:=⟨114,none⟩
def saA:Code:=loopOf Tryz.prog 114 0
def saP (i:Int):Patch:=⟨(5,.int true .i64 i) :: deadT 20 18,[],[]⟩
def saR:Patch:=⟨(4,.bool true false) :: (5,.any false) :: deadT 20 18,[],[]⟩
def saX:Patch:=⟨(5,.any false) :: deadT 20 18,[],[]⟩
def saU (a b:List Int):SumL Int:=
 {
  S:=saP
  I:=fun i=>0<=i/\i<=a.length
  μ:=fun i=>(a.length - i).toNat
  F:=fun i=>bif difI a b i then (.ret,saR) else (.exit 0,saX)
  next:=fun i=>IntKind.i64.wrap (i+1)
  ids:=fun _=>[]
  X:=fun i x=>match x with
   | .ret=>some (saR,[])
   | .exit _=>some (saX,[])
   | _=>none }
def riArgs (p:Bool) (a:List Int):List AV:=[.agg [.bool true p,.lslice 0 a.length]]
def riH (a:List Int):Hp:=viewsH true hG0 [(.i64,a)]
def cRi (z:Bool):Ctx:=hinting cL (hintsT [(7,.bool false z),(10,.bool false true),(46,.bool false true)])
theorem cRi_ok (z:Bool):CtxOk (cRi z):=hinting_ok cL_ok _
noncomputable def riS (p:Bool) (a:List Int):St:=stAt (cRi false) 300 111 (riArgs p a) (riH a)
def riFr:AFr:=⟨111,none⟩
def riA:Code:=loopOf Tryz.prog 111 0
def riP (i:Int):Patch:=⟨(3,.int true .i64 i) :: deadT 11 21,[],[]⟩
def riU (a:List Int):SumL Int:=
 {
  S:=riP
  I:=fun i=>0<=i/\i<=a.length
  μ:=fun i=>(a.length - i).toNat
  F:=fun _=>(.exit 0,riP a.length)
  next:=fun i=>IntKind.i64.wrap (i+1)
  ids:=fun _=>[]
  X:=fun i x=>match x with
   | .exit _=>some (riP i,[])
   | .ret=>some (⟨(2,.any false) :: (3,.any false) :: deadT 11 21,[],[]⟩,[])
   | _=>none }
end
end Go.Proofs.YtjcicegihechmaaGreatDoor.K
namespace Go.Proofs.YtjcicegihechmaaGreatDoor.K
open Go Go.Eng Go.Dg
noncomputable section
def le_start_nd (a b:List Int):Prop:=IntKind.i64.wrap ((↑a.length:Int) - (1:Int))=IntKind.i64.wrap ((↑a.length:Int) - (1:Int))
theorem le_start (a b:List Int):fit (leS a b) (leS a b) (patch (leS a b) ((leU a b).S (IntKind.i64.wrap ((a.length:Int) - 1)))) ([])=some (.p (le_start_nd a b)):=by kernel_rfl
def le_body_nd (a b:List Int) (i:Int):Prop:=(decide (i>=(0:Int))=true->(((0:Int)<=i/\i<(↑a.length:Int))/\i.toNat<a.length/\((0:Int)<=i/\i<(↑b.length:Int))/\i.toNat<b.length)/\((a.getD i.toNat (0:Int) != b.getD i.toNat (0:Int))=true->((0:Int)<=i/\i<(↑a.length:Int))/\i.toNat<a.length/\((0:Int)<=i/\i<(↑b.length:Int))/\i.toNat<b.length))/\((!decide (i>=(0:Int)))=true->(leU a b).F i=(Ex.exit (0:Nat),leX))/\((decide (i>=(0:Int))&&!a.getD i.toNat (0:Int) != b.getD i.toNat (0:Int))=true->IntKind.i64.wrap (i - (1:Int))=(leU a b).next i/\(leU a b).I ((leU a b).next i)/\(leU a b).μ ((leU a b).next i)<(leU a b).μ i/\(leU a b).F ((leU a b).next i)=(leU a b).F i)/\((decide (i>=(0:Int))&&a.getD i.toNat (0:Int) != b.getD i.toNat (0:Int))=true->decide (a.getD i.toNat (0:Int)<b.getD i.toNat (0:Int))=decide (a.getD i.toNat (0:Int)<b.getD i.toNat (0:Int))/\(leU a b).F i=(Ex.ret,leR (decide (a.getD i.toNat (0:Int)<b.getD i.toNat (0:Int)))))
theorem le_body (a b:List Int) (i:Int):chkR (leS a b) ((leU a b).way (i)) ((run (cLe false) 300).code leFr leA (patch (leS a b) ((leU a b).S i)))=some (.p (le_body_nd a b i)):=by kernel_rfl
def sa_start_nd (p q:Bool) (a b:List Int):Prop:=(0:Int)=(0:Int)
theorem sa_start (p q:Bool) (a b:List Int):fit (saS p q a b) (saS p q a b) (patch (saS p q a b) ((saU a b).S 0)) ([])=some (.p (sa_start_nd p q a b)):=by kernel_rfl
def sa_body_nd (p q:Bool) (a b:List Int) (i:Int):Prop:=(decide (i<(↑a.length:Int))=true->((0:Int)<=i/\i<(↑a.length:Int))/\i.toNat<a.length/\((0:Int)<=i/\i<(↑b.length:Int))/\i.toNat<b.length)/\((!decide (i<(↑a.length:Int)))=true->(saU a b).F i=(Ex.exit (0:Nat),saX))/\((decide (i<(↑a.length:Int))&&!a.getD i.toNat (0:Int) != b.getD i.toNat (0:Int))=true->IntKind.i64.wrap (i+(1:Int))=(saU a b).next i/\(saU a b).I ((saU a b).next i)/\(saU a b).μ ((saU a b).next i)<(saU a b).μ i/\(saU a b).F ((saU a b).next i)=(saU a b).F i)/\((decide (i<(↑a.length:Int))&&a.getD i.toNat (0:Int) != b.getD i.toNat (0:Int))=true->false=false/\(saU a b).F i=(Ex.ret,saR))
theorem sa_body (p q:Bool) (a b:List Int) (i:Int):chkR (saS p q a b) ((saU a b).way (i)) ((run (cSa false) 300).code saFr saA (patch (saS p q a b) ((saU a b).S i)))=some (.p (sa_body_nd p q a b i)):=by kernel_rfl
def ri_start_nd (p:Bool) (a:List Int):Prop:=(0:Int)=(0:Int)
theorem ri_start (p:Bool) (a:List Int):fit (riS p a) (riS p a) (patch (riS p a) ((riU a).S 0)) ([])=some (.p (ri_start_nd p a)):=by kernel_rfl
def ri_body_nd (p:Bool) (a:List Int) (i:Int):Prop:=(decide (i<(↑a.length:Int))=true->((0:Int)<=i/\i<(↑a.length:Int))/\i.toNat<a.length/\(decide (a.getD i.toNat (0:Int)<(0:Int))=false->((0:Int)<=i/\i<(↑a.length:Int))/\i.toNat<a.length))/\((!decide (i<(↑a.length:Int)))=true->i=i/\(riU a).F i=(Ex.exit (0:Nat),riP i))/\((decide (i<(↑a.length:Int))&&!bif decide (a.getD i.toNat (0:Int)<(0:Int)) then true else decide (a.getD i.toNat (0:Int)>=(1000000000:Int)))=true->IntKind.i64.wrap (i+(1:Int))=(riU a).next i/\(riU a).I ((riU a).next i)/\(riU a).μ ((riU a).next i)<(riU a).μ i/\(riU a).F ((riU a).next i)=(riU a).F i)/\((decide (i<(↑a.length:Int))&&bif decide (a.getD i.toNat (0:Int)<(0:Int)) then true else decide (a.getD i.toNat (0:Int)>=(1000000000:Int)))=true->(riU a).F i=(Ex.ret,{ tm:=((2:Nat),AV.any false) :: ((3:Nat),AV.any false) :: deadT (11:Nat) (21:Nat),old:=[],new:=[] }))
theorem ri_body (p:Bool) (a:List Int) (i:Int):chkR (riS p a) ((riU a).way (i)) ((run (cRi false) 300).code riFr riA (patch (riS p a) ((riU a).S i)))=some (.p (ri_body_nd p a i)):=by kernel_rfl
end
end Go.Proofs.YtjcicegihechmaaGreatDoor.K
namespace Go.Proofs.YtjcicegihechmaaGreatDoor.K
open Go Go.Eng Go.Dg
noncomputable section
theorem le_loop (a b:List Int) (hs:Sm a) (hl:a.length=b.length):CodeOk (cLe false) leFr (.loop leA) (leS a b) ⟨.tt,[⟨.b (fndI a b (a.length - 1)),.ret,patch (leS a b) (leR (lesI a b (a.length - 1)))⟩,⟨.b (!fndI a b (a.length - 1)),.exit 0,patch (leS a b) leX⟩]⟩:=by
 have hs:=hs.le
 have e0:IntKind.i64.wrap ((a.length:Int) - 1)=a.length - 1:=iw (by omega) (by omega)
 refine sumL_two (run_sound (cLe_ok false) 300) (leU a b) (y0:=IntKind.i64.wrap ((a.length:Int) - 1)) (by rw [e0]; exact ⟨by omega,by omega⟩) ⟨_,le_start a b,rfl⟩ (by kernel_rfl) (fun i hi=>⟨_,le_body a b i,?_⟩) (by rw [e0]; rfl)
 obtain ⟨i0,i1⟩:=(show -1<=i/\i<a.length from hi)
 refine ⟨fun h=>?_,fun h=>?_,fun h=>?_,fun h=>?_⟩
 .have h:=dt.1 h; exact ⟨by omega,fun _=>by omega⟩
 .have h:=ndt.1 h
  have:i=-1:=by omega
  subst this; rfl
 .obtain ⟨h0,h⟩:=and_t.1 h
  have h:=nbne.1 h
  have e:IntKind.i64.wrap (i - 1)=i - 1:=iw (by omega) (by omega)
  refine ⟨rfl,?_,?_,?_⟩
  .show -1<=IntKind.i64.wrap (i - 1)/\IntKind.i64.wrap (i - 1)<a.length
   rw [e]; omega
  .show (IntKind.i64.wrap (i - 1)+1).toNat<(i+1).toNat
   rw [e]; omega
  .show (bif fndI a b (IntKind.i64.wrap (i - 1)) then (Ex.ret,leR (lesI a b (IntKind.i64.wrap (i - 1)))) else (.exit 0,leX))=bif fndI a b i then (Ex.ret,leR (lesI a b i)) else (.exit 0,leX)
   rw [e,fnd_step h0,les_step h0,if_pos h,if_pos h]
 .obtain ⟨h0,h⟩:=and_t.1 h
  have h:=bne_t.1 h
  refine ⟨rfl,?_⟩
  show (bif fndI a b i then (Ex.ret,leR (lesI a b i)) else (.exit 0,leX))=_
  rw [fnd_step h0,les_step h0,if_neg h,if_neg h]; rfl
theorem sa_loop (p q:Bool) (a b:List Int) (hs:Sm a) (hl:a.length=b.length):CodeOk (cSa false) saFr (.loop saA) (saS p q a b) ⟨.tt,[⟨.b (difI a b 0),.ret,patch (saS p q a b) saR⟩,⟨.b (!difI a b 0),.exit 0,patch (saS p q a b) saX⟩]⟩:=by
 have hs:=hs.le
 refine sumL_two (run_sound (cSa_ok false) 300) (saU a b) (y0:=0) ⟨by omega,by omega⟩ ⟨_,sa_start p q a b,rfl⟩ (by kernel_rfl) (fun i hi=>⟨_,sa_body p q a b i,?_⟩) rfl
 obtain ⟨i0,i1⟩:=(show 0<=i/\i<=a.length from hi)
 refine ⟨fun h=>?_,fun h=>?_,fun h=>?_,fun h=>?_⟩
 .have h:=dt.1 h; omega
 .have h:=ndt.1 h
  have:i=a.length:=by omega
  show (bif difI a b i then (Ex.ret,saR) else (.exit 0,saX))=_
  unfold difI
  rw [show (a.length - i).toNat=0 by omega]; rfl
 .obtain ⟨h0,h⟩:=and_t.1 h
  have h:=nbne.1 h
  have e:IntKind.i64.wrap (i+1)=i+1:=iw (by omega) (by omega)
  refine ⟨rfl,?_,?_,?_⟩
  .show 0<=IntKind.i64.wrap (i+1)/\IntKind.i64.wrap (i+1)<=a.length
   rw [e]; omega
  .show (a.length - IntKind.i64.wrap (i+1)).toNat<(a.length - i).toNat
   rw [e]; omega
  .show (bif difI a b (IntKind.i64.wrap (i+1)) then (Ex.ret,saR) else (.exit 0,saX))=bif difI a b i then (Ex.ret,saR) else (.exit 0,saX)
   rw [e,dif_step i0 h0,if_pos h]
 .obtain ⟨h0,h⟩:=and_t.1 h
  have h:=bne_t.1 h
  refine ⟨rfl,?_⟩
  show (bif difI a b i then (Ex.ret,saR) else (.exit 0,saX))=_
  rw [dif_step i0 h0,if_neg h]; rfl
theorem ri_loop (p:Bool) (a:List Int) (hs:Sm a) (hd:Dig a):CodeOk (cRi false) riFr (.loop riA) (riS p a) ⟨.tt,[⟨.tt,.exit 0,patch (riS p a) (riP a.length)⟩]⟩:=by
 have hs:=hs.le
 refine sumL_one (run_sound (cRi_ok false) 300) (riU a) (y0:=0) ⟨by omega,by omega⟩ ⟨_,ri_start p a,rfl⟩ (by kernel_rfl) (fun i hi=>⟨_,ri_body p a i,?_⟩) rfl
 obtain ⟨i0,i1⟩:=(show 0<=i/\i<=a.length from hi)
 have hg:=hd.get i.toNat
 refine ⟨fun h=>?_,fun h=>?_,fun h=>?_,fun h=>?_⟩
 .have h:=dt.1 h; refine ⟨by omega,by omega,fun _=>by omega⟩
 .have h:=ndt.1 h
  have:i=a.length:=by omega
  subst this; exact ⟨rfl,rfl⟩
 .obtain ⟨h0,h⟩:=and_t.1 h
  have e:IntKind.i64.wrap (i+1)=i+1:=iw (by omega) (by omega)
  refine ⟨rfl,?_,?_,rfl⟩
  .show 0<=IntKind.i64.wrap (i+1)/\IntKind.i64.wrap (i+1)<=a.length
   rw [e]; omega
  .show (a.length - IntKind.i64.wrap (i+1)).toNat<(a.length - i).toNat
   rw [e]; omega
 .obtain ⟨h0,h⟩:=and_t.1 h
  have h:=bo.1 h
  rcases h with h|h
  .omega
  .have:=dt.1 h; omega
noncomputable def cLeL (a b:List Int):Ctx:=withLoops (cLe false) [twoLoop 143 (leS a b).hp.clock leFr leA (leS a b) (fndI a b (a.length - 1)) .ret (leR (lesI a b (a.length - 1))) (.exit 0) leX]
theorem cLeL_ok (a b:List Int) (hs:Sm a) (hl:a.length=b.length):CtxOk (cLeL a b):=withTwo_ok (cLe_ok false) (le_loop a b hs hl) (withNone_ok (cLe_ok false))
noncomputable def cSaL (p q:Bool) (a b:List Int):Ctx:=withLoops (cSa false) [twoLoop 114 (saS p q a b).hp.clock saFr saA (saS p q a b) (difI a b 0) .ret saR (.exit 0) saX]
theorem cSaL_ok (p q:Bool) (a b:List Int) (hs:Sm a) (hl:a.length=b.length):CtxOk (cSaL p q a b):=withTwo_ok (cSa_ok false) (sa_loop p q a b hs hl) (withNone_ok (cSa_ok false))
noncomputable def cRiL (p:Bool) (a:List Int):Ctx:=withLoops (cRi false) [oneLoop 111 (riS p a).hp.clock riFr riA (riS p a) (.exit 0) (riP a.length)]
theorem cRiL_ok (p:Bool) (a:List Int) (hs:Sm a) (hd:Dig a):CtxOk (cRiL p a):=withLoop_ok (cRi_ok false) (ri_loop p a hs hd) (withNone_ok (cRi_ok false))
end
end Go.Proofs.YtjcicegihechmaaGreatDoor.K
namespace Go.Proofs.YtjcicegihechmaaGreatDoor.K
open Go Go.Eng Go.Dg
noncomputable section
def le_eq_nd (a b:List Int):Prop:=(((↑a.length:Int) != (↑b.length:Int))=false/\At (leFr) (leFr) (leA) (leA) (leS a b) (leS a b))
def le_eq_v (a b:List Int):AV:=(AV.bool true (bif !fndI a b ((↑a.length:Int) - (1:Int)) then false else lesI a b ((↑a.length:Int) - (1:Int))))
def le_eq_h (a b:List Int):Hp:=⟨[{ wr:=(0:Nat),body:=ABody.rows IntKind.i64 b },{ wr:=(0:Nat),body:=ABody.rows IntKind.i64 a }],2,15⟩
theorem le_eq (a b:List Int):(run (cLeL a b) 300).call 143 (leArgs a b) (leH a b)=some ⟨.p (le_eq_nd a b),[⟨.tt,le_eq_v a b,le_eq_h a b⟩]⟩:=by kernel_rfl
def le_ne_nd (a b:List Int):Prop:=(((↑a.length:Int) != (↑b.length:Int))=true)
def le_ne_v (a b:List Int):AV:=(AV.bool true (decide ((↑a.length:Int)<(↑b.length:Int))))
def le_ne_h (a b:List Int):Hp:=⟨[{ wr:=(0:Nat),body:=ABody.rows IntKind.i64 b },{ wr:=(0:Nat),body:=ABody.rows IntKind.i64 a }],2,14⟩
theorem le_ne (a b:List Int):(run (cLe true) 300).call 143 (leArgs a b) (leH a b)=some ⟨.p (le_ne_nd a b),[⟨.tt,le_ne_v a b,le_ne_h a b⟩]⟩:=by kernel_rfl
def sa_eq_nd (p q:Bool) (a b:List Int):Prop:=((((!p==q)=true->true=false)/\((!p==q)=false->((↑a.length:Int) != (↑b.length:Int))=false))/\At (saFr) (saFr) (saA) (saA) (saS p q a b) (saS p q a b))
def sa_eq_v (p q:Bool) (a b:List Int):AV:=(AV.bool true (bif !difI a b (0:Int) then true else false))
def sa_eq_h (p q:Bool) (a b:List Int):Hp:=⟨[{ wr:=(0:Nat),body:=ABody.rows IntKind.i64 b },{ wr:=(0:Nat),body:=ABody.rows IntKind.i64 a }],2,23⟩
theorem sa_eq (p q:Bool) (a b:List Int):(run (cSaL p q a b) 300).call 114 (saArgs p q a b) (leH a b)=some ⟨.p (sa_eq_nd p q a b),[⟨.tt,sa_eq_v p q a b,sa_eq_h p q a b⟩]⟩:=by kernel_rfl
def sa_ne_nd (p q:Bool) (a b:List Int):Prop:=(((!p==q)=true->true=true)/\((!p==q)=false->((↑a.length:Int) != (↑b.length:Int))=true))
def sa_ne_v (p q:Bool) (a b:List Int):AV:=(AV.bool false false)
def sa_ne_h (p q:Bool) (a b:List Int):Hp:=⟨[{ wr:=(0:Nat),body:=ABody.rows IntKind.i64 b },{ wr:=(0:Nat),body:=ABody.rows IntKind.i64 a }],2,20⟩
theorem sa_ne (p q:Bool) (a b:List Int):(run (cSa true) 300).call 114 (saArgs p q a b) (leH a b)=some ⟨.p (sa_ne_nd p q a b),[⟨.tt,sa_ne_v p q a b,sa_ne_h p q a b⟩]⟩:=by kernel_rfl
def ri_t_nd (p:Bool) (a:List Int):Prop:=(((↑a.length:Int)==(0:Int))=false/\At (riFr) (riFr) (riA) (riA) (riS p a) (riS p a)/\(decide ((↑a.length:Int)<=(600:Int))=true->((0:Int)<=IntKind.i64.wrap ((↑a.length:Int) - (1:Int))/\IntKind.i64.wrap ((↑a.length:Int) - (1:Int))<(↑a.length:Int))/\(IntKind.i64.wrap ((↑a.length:Int) - (1:Int))).toNat<a.length/\(a.getD (IntKind.i64.wrap ((↑a.length:Int) - (1:Int))).toNat (0:Int) != (0:Int))=true)/\(decide ((↑a.length:Int)<=(600:Int))=false->false=true))
def ri_t_v (p:Bool) (a:List Int):AV:=(AV.bool false true)
def ri_t_h (p:Bool) (a:List Int):Hp:=⟨[{ wr:=(0:Nat),body:=ABody.rows IntKind.i64 a }],1,27⟩
theorem ri_t (p:Bool) (a:List Int):(run (cRiL p a) 300).call 111 (riArgs p a) (riH a)=some ⟨.p (ri_t_nd p a),[⟨.tt,ri_t_v p a,ri_t_h p a⟩]⟩:=by kernel_rfl
def ri_z_nd (p:Bool) (a:List Int):Prop:=(((↑a.length:Int)==(0:Int))=true/\(!p)=true)
def ri_z_v (p:Bool) (a:List Int):AV:=(AV.bool false true)
def ri_z_h (p:Bool) (a:List Int):Hp:=⟨[{ wr:=(0:Nat),body:=ABody.rows IntKind.i64 a }],1,12⟩
theorem ri_z (p:Bool) (a:List Int):(run (cRi true) 300).call 111 (riArgs p a) (riH a)=some ⟨.p (ri_z_nd p a),[⟨.tt,ri_z_v p a,ri_z_h p a⟩]⟩:=by kernel_rfl
end
end Go.Proofs.YtjcicegihechmaaGreatDoor.K
namespace Go.Dg
open Go.Eng
def okL (neg:Bool) (d:List Int):Prop:=Dig d/\Top d/\(neg=true->d≠[])/\Sm d
def zv (neg:Bool) (d:List Int):Int:=bif neg then -val d else val d
def lgT (own:Bool) (z:Int):To:=.st [.bo (decide (z<0)),.li own (digs z.natAbs)]
theorem okL.val_pos {neg:Bool} {d:List Int} (h:okL neg d) (hn:neg=true):0<val d:=by
 have h1:=val_nonneg h.1
 have h2:=val_ne h.1 h.2.1 (h.2.2.1 hn)
 omega
theorem okL.neg_eq {neg:Bool} {d:List Int} (h:okL neg d):neg=decide (zv neg d<0):=by
 cases neg with
 | true=>have:=h.val_pos rfl; exact (decide_eq_true (show -val d<0 by omega)).symm
 | false=>have:=val_nonneg h.1; exact (decide_eq_false (show ¬ val d<0 by omega)).symm
theorem okL.digs_eq {neg:Bool} {d:List Int} (h:okL neg d):digs (zv neg d).natAbs=d:=by
 have h0:=val_nonneg h.1
 have e:(zv neg d).natAbs=(val d).toNat:=by
  cases neg <;> simp [zv] <;> omega
 rw [e,digs_val h.1 h.2.1]
theorem okL.nil {neg:Bool} {d:List Int} (h:okL neg d):d=[] ↔ zv neg d=0:=by
 constructor
 .rintro rfl; cases neg <;> rfl
 .intro e
  rw [<- h.digs_eq,e]; exact digs_zero
theorem sm_digs {n:Nat} (h:(n:Int)<pw 500000):Sm (digs n):=by
 rcases Nat.lt_or_ge 500000 (digs n).length with h1|h1
 .have:=val_ge (dig_digs n) (top_digs n) (by intro e; rw [e] at h1; simp at h1)
  rw [val_digs] at this
  have:=pw_mono (show 500000<=(digs n).length - 1 by omega)
  omega
 .exact h1
theorem okL_digs {z:Int} (h:(z.natAbs:Int)<pw 500000):okL (decide (z<0)) (digs z.natAbs):=by
 refine ⟨dig_digs _,top_digs _,fun hn=>?_,sm_digs h⟩
 intro e
 have:=digs_nil.1 e
 have:=of_decide_eq_true hn
 omega
theorem zv_digs (z:Int):zv (decide (z<0)) (digs z.natAbs)=z:=by
 unfold zv
 rw [val_digs]
 by_cases h:z<0
 .rw [decide_eq_true h]; simp only [cond_true]; omega
 .rw [decide_eq_false h]; simp only [cond_false]; omega
theorem len_digs {n k:Nat} (h:(n:Int)<pw k):(digs n).length<=k:=by
 rcases Nat.lt_or_ge k (digs n).length with h1|h1
 .have:=val_ge (dig_digs n) (top_digs n) (by intro e; rw [e] at h1; simp at h1)
  rw [val_digs] at this
  have:=pw_mono (show k<=(digs n).length - 1 by omega)
  omega
 .exact h1
end Go.Dg
namespace Go.Proofs.YtjcicegihechmaaGreatDoor.K
open Go Go.Eng Go.Dg
noncomputable section
def leV:List Nu->List (List Int)->Option (Prop×To)
 | [],[a,b]=>some (Sm a/\Sm b,.bo (lessL a b))
 | _,_=>none
theorem less_ok:NOk Tryz.prog (fun _=>none) hG0 143 (mSpec hG0 .i64 [.li,.li] leV):=by
 refine msp_ok (show hG0.ok from rfl) rfl (fun _ _ h=>by cases h) (fun xs ys p t e h=>?_) ⟨_,Tryz.func143,rfl⟩
 unfold leV at e
 split at e
 .rename_i a b
  cases e
  obtain ⟨ha,hb⟩:=h
  by_cases hl:a.length=b.length
  .refine ⟨cLeL a b,300,leArgs a b,_,_,_,_,_,cLeL_ok a b ha hl,rfl,rfl,⟨rfl,rfl,trivial⟩,le_eq a b,rfl,⟨?_,rfl,rfl,rfl⟩,rfl,rfl,?_⟩
   .rw [hl]; exact bne_f.2 rfl
   .show (bif !fndI a b ((a.length:Int) - 1) then false else lesI a b ((a.length:Int) - 1))=lessL a b
    unfold lessL fndI lesI
    rw [if_pos hl,show ((a.length:Int) - 1+1).toNat=a.length by omega]
    cases e:fndB a b a.length with
    | true=>rfl
    | false=>rw [fnd_lt _ e]; rfl
  .refine ⟨cLe true,300,leArgs a b,_,_,_,_,_,cLe_ok true,rfl,rfl,⟨rfl,rfl,trivial⟩,le_ne a b,rfl,?_,rfl,rfl,?_⟩
   .exact bne_t.2 (by omega)
   .show decide ((a.length:Int)<b.length)=lessL a b
    unfold lessL
    rw [if_neg hl]
    simp
 .cases e
def saV:List Nu->List (List Int)->Option (Prop×To)
 | [.t p,.t q],[a,b]=>some (Sm a/\Sm b,.bo (decide (p=q/\a=b)))
 | _,_=>none
theorem same_ok:NOk Tryz.prog (fun _=>none) hG0 114 (mSpec hG0 .i64 [.st [.nu .b,.li],.st [.nu .b,.li]] saV):=by
 refine msp_ok (show hG0.ok from rfl) rfl (fun _ _ h=>by cases h) (fun xs ys p t e h=>?_) ⟨_,Tryz.func114,rfl⟩
 unfold saV at e
 split at e
 .rename_i p q a b
  cases e
  obtain ⟨ha,hb⟩:=h
  by_cases hl:p=q/\a.length=b.length
  .obtain ⟨rfl,hl⟩:=hl
   refine ⟨cSaL p p a b,300,saArgs p p a b,_,_,_,_,_,cSaL_ok p p a b ha hl,rfl,rfl,⟨⟨rfl,rfl,trivial⟩,⟨rfl,rfl,trivial⟩,trivial⟩,sa_eq p p a b,rfl,⟨⟨fun h=>?_,fun _=>?_⟩,rfl,rfl,rfl⟩,rfl,rfl,?_⟩
   .simp at h
   .rw [hl]; exact bne_f.2 rfl
   .show (bif !difI a b 0 then true else false)=decide (p=p/\a=b)
    have:=dif_iff (a:=a) (b:=b) hl
    cases e:difI a b 0 with
    | true=>
     rw [e] at this
     have hne:a≠b:=fun h=>by have:=this.2 h; cases this
     simp [hne]
    | false=>simp [this.1 e]
  .refine ⟨cSa true,300,saArgs p q a b,_,_,_,_,_,cSa_ok true,rfl,rfl,⟨⟨rfl,rfl,trivial⟩,⟨rfl,rfl,trivial⟩,trivial⟩,sa_ne p q a b,rfl,⟨fun _=>rfl,fun h=>?_⟩,rfl,rfl,?_⟩
   .have h:p=q:=by simpa using h
    exact bne_t.2 (fun e=>hl ⟨h,by omega⟩)
   .show false=decide (p=q/\a=b)
    symm
    rw [decide_eq_false_iff_not]
    rintro ⟨h1,rfl⟩
    exact hl ⟨h1,rfl⟩
 .cases e
def riV:List Nu->List (List Int)->Option (Prop×To)
 | [.t p],[a]=>some (okL p a/\a.length<=600,.pb true)
 | _,_=>none
theorem right_ok:NOk Tryz.prog (fun _=>none) hG0 111 (mSpec hG0 .i64 [.st [.nu .b,.li]] riV):=by
 refine msp_ok (show hG0.ok from rfl) rfl (fun _ _ h=>by cases h) (fun xs ys p t e h=>?_) ⟨_,Tryz.func111,rfl⟩
 unfold riV at e
 split at e
 .rename_i p a
  cases e
  obtain ⟨⟨hd,ht,hn,hs⟩,hl⟩:=h
  by_cases h0:a=[]
  .subst h0
   refine ⟨cRi true,300,riArgs p [],_,_,_,_,_,cRi_ok true,rfl,rfl,⟨⟨rfl,rfl,trivial⟩,trivial⟩,ri_z p [],rfl,⟨eb.2 rfl,?_⟩,rfl,rfl,rfl⟩
   cases p with
   | true=>exact absurd rfl (hn rfl)
   | false=>rfl
  .have hpos:0<a.length:=List.length_pos_iff.2 h0
   refine ⟨cRiL p a,300,riArgs p a,_,_,_,_,_,cRiL_ok p a hs hd,rfl,rfl,⟨⟨rfl,rfl,trivial⟩,trivial⟩,ri_t p a,rfl,⟨neb.2 (by omega),⟨rfl,rfl,rfl⟩,fun _=>?_,fun h=>?_⟩,rfl,rfl,rfl⟩
   .rw [iw (by omega) (by omega)]
    refine ⟨by omega,by omega,bne_t.2 ?_⟩
    rw [show ((a.length:Int) - 1).toNat=a.length - 1 by omega]
    rcases ht with h|h
    .exact absurd h h0
    .exact h
   .have:=of_decide_eq_false h; omega
 .cases e
end
end Go.Proofs.YtjcicegihechmaaGreatDoor.K
namespace Go.Dg
open Go Go.Eng
def ofD (m:Int):Int:=bif decide (m.tmod 1000000000<0) then IntKind.i64.wrap (0 - m.tmod 1000000000) else m.tmod 1000000000
theorem ofD_eq (m:Int):ofD m=(m.natAbs % 1000000000:Nat):=by
 have h:=Int.natAbs_tmod m 1000000000
 have h3:m.natAbs % 1000000000<1000000000:=Nat.mod_lt _ (by decide)
 have e:(1000000000:Int).natAbs=1000000000:=rfl
 rw [e] at h
 unfold ofD
 by_cases h0:m.tmod 1000000000<0
 .rw [decide_eq_true h0,cond_true,iw (by omega) (by omega)]; omega
 .rw [decide_eq_false h0,cond_false]; omega
theorem of_q (m:Int) (h:m.natAbs<=9223372036854775808):IntKind.i64.wrap (m.tdiv 1000000000)=m.tdiv 1000000000/\(m.tdiv 1000000000).natAbs=m.natAbs / 1000000000:=by
 have h2:(m.tdiv 1000000000).natAbs=m.natAbs / 1000000000:=Int.natAbs_tdiv m 1000000000
 exact ⟨iw (by omega) (by omega),h2⟩
def ofI (n:Int) (m:Int) (ds:List Int):Prop:=ds≠[]/\Dig ds/\val ds+pw ds.length*m.natAbs=n.natAbs/\(m=0->Top ds)/\m.natAbs<=9223372036854775808
theorem top_app {l:List Int} {x:Int} (h:x≠0):Top (l++[x]):=by
 right
 simpa [List.getD_eq_getElem?_getD] using h
theorem of_first {n:Int} (h:n≠0) (hb:n.natAbs<=9223372036854775808):ofI n (n.tdiv 1000000000) [ofD n]:=by
 obtain ⟨_,h2⟩:=of_q n hb
 have h1:=ofD_eq n
 refine ⟨by simp,dig_cons.2 ⟨by rw [h1]; omega,dig_nil⟩,?_,fun h0=>?_,by omega⟩
 .rw [h2,h1]; simp only [val,pw,List.length_cons,List.length_nil]; omega
 .rw [h0] at h2
  refine top_app (l:=[]) ?_
  rw [h1]
  have:(0:Int).natAbs=0:=rfl
  omega
theorem of_step {n m:Int} {ds:List Int} (h:m≠0) (hI:ofI n m ds):ofI n (m.tdiv 1000000000) (ds++[ofD m]):=by
 obtain ⟨i1,i2,i3,i4,i5⟩:=hI
 obtain ⟨_,h2⟩:=of_q m i5
 have h1:=ofD_eq m
 refine ⟨by simp,dig_app.2 ⟨i2,dig_cons.2 ⟨by rw [h1]; omega,dig_nil⟩⟩,?_,fun h0=>?_,by omega⟩
 .rw [val_app,h2,h1,List.length_append,<- i3]
  simp only [val,List.length_cons,List.length_nil,Nat.zero_add]
  have e:(m.natAbs:Int)=((m.natAbs % 1000000000:Nat):Int)+(1000000000:Int)*((m.natAbs / 1000000000:Nat):Int):=by omega
  have e2:pw ds.length*(m.natAbs:Int)=pw ds.length*((m.natAbs % 1000000000:Nat):Int)+(1000000000:Int)*pw ds.length*((m.natAbs / 1000000000:Nat):Int):=by
   conv=>lhs; rw [e]
   rw [Int.mul_add,<- Int.mul_assoc,Int.mul_comm (pw ds.length) (1000000000:Int)]
  rw [show pw (ds.length+1)=(1000000000:Int)*pw ds.length from rfl,e2]
  simp only [Int.mul_zero,Int.add_zero]
  omega
 .rw [h0] at h2
  refine top_app ?_
  rw [h1]
  have:(0:Int).natAbs=0:=rfl
  omega
theorem of_end {n:Int} {ds:List Int} (hI:ofI n 0 ds):ds=digs n.natAbs:=by
 obtain ⟨i1,i2,i3,i4,_⟩:=hI
 have:val ds=n.natAbs:=by rw [<- i3]; simp
 rw [<- digs_val i2 (i4 rfl),this]
 congr 1
theorem of_len {n m:Int} {ds:List Int} (h:m≠0) (hI:ofI n m ds) (hn:n.natAbs<=9223372036854775808):ds.length<8:=by
 obtain ⟨i1,i2,i3,i4,_⟩:=hI
 have h1:=val_nonneg i2
 have h2:pw ds.length*1<=pw ds.length*m.natAbs:=Int.mul_le_mul_of_nonneg_left (by omega) (Int.le_of_lt (pw_pos _))
 have h3:pw 8=1000000000000000000000000000000000000000000000000000000000000000000000000:=by decide
 exact pw_lt (by omega)
theorem at_eq {a:List Int} {i:Int} (h:0<=i):(bif decide (i<a.length) then a.getD i.toNat 0 else 0)=a.getD i.toNat 0:=by
 by_cases h0:i<a.length
 .rw [decide_eq_true h0]; rfl
 .rw [decide_eq_false h0,getD_ge (by omega)]; rfl
end Go.Dg
namespace Go.Dg
open Go Go.Eng
theorem td (l:List Int):List.take (l.length:Int).toNat (List.drop (Int.toNat (0:Int)) l)=l:=by
 rw [show ((l.length:Int)).toNat=l.length by omega,show (Int.toNat (0:Int))=0 from rfl,List.drop_zero,List.take_length]
theorem lenp {l:List Int}:(0:Int)<=0/\(0:Int)<=(l.length:Int)/\(0:Int)+(l.length:Int)<=(l.length:Int):=by omega
end Go.Dg
namespace Go.Dg
theorem sgn_eq {p:Bool} {v z:Int} (h0:0<=v) (hz:z=bif p then -v else v):(p&&decide (v≠0))=decide (z<0):=by
 subst hz
 cases p with
 | false=>rw [Bool.false_and,cond_false]; exact (decide_eq_false (by omega)).symm
 | true=>rw [Bool.true_and,cond_true]; exact decide_eq_decide.2 (by omega)
theorem abs_eq {p:Bool} {v z:Int} (h0:0<=v) (hz:z=bif p then -v else v):v.toNat=z.natAbs:=by
 subst hz
 cases p with
 | false=>rw [cond_false]; omega
 | true=>rw [cond_true]; omega
end Go.Dg
namespace Go.Proofs.YtjcicegihechmaaGreatDoor.K
open Go Go.Eng Go.Dg
noncomputable section
def tL1:List (FuncId×NSpec):=[(113,mSpec hG0 .i64 [.nu .b,.li] mdV),(143,mSpec hG0 .i64 [.li,.li] leV),(114,mSpec hG0 .i64 [.st [.nu .b,.li],.st [.nu .b,.li]] saV),(111,mSpec hG0 .i64 [.st [.nu .b,.li]] riV)]
def cL1:Ctx:=mkN Tryz.prog (fun _=>none) hG0 tL1 [] noExt
theorem tL1_ok:∀ x∈tL1,NOk Tryz.prog (fun _=>none) hG0 x.1 x.2:=by
 intro x hx
 simp only [tL1,List.mem_cons,List.not_mem_nil,or_false] at hx
 rcases hx with rfl|rfl|rfl|rfl
 .exact made_ok
 .exact less_ok
 .exact same_ok
 .exact right_ok
theorem cL1_ok:CtxOk cL1:=mkN_ok prog_ok (noExt_ok _) tL1_ok (fun x h=>by cases h)
def ofArgs (n:Int):List AV:=[.int true .i64 n]
noncomputable def ofS (n:Int):St:=stAt cL1 300 86 (ofArgs n) hG0
def ofFr:AFr:=⟨86,none⟩
def ofA:Code:=loopOf Tryz.prog 86 0
def ofP (n:Int):Option (Int×List Int)->Patch
 | none=>⟨(0,.int true .i64 n) :: (5,.any false) :: deadT 8 14,[],[]⟩
 | some (m,ds)=>⟨(0,.int true .i64 m) :: (3,.islice true 1 0 ds.length) :: (5,.any false) :: deadT 8 14,[],[.ints .i64 ds]⟩
def ofX (ds:List Int):Patch:=⟨(0,.any false) :: (3,.islice true 1 0 ds.length) :: (5,.any false) :: deadT 8 14,[],[.ints .i64 ds]⟩
def ofU (n:Int):SumL (Option (Int×List Int)):=
 {
  S:=ofP n
  I:=fun y=>match y with
   | none=>n≠0
   | some (m,ds)=>ofI n m ds
  μ:=fun y=>match y with
   | none=>n.natAbs+1
   | some (m,_)=>m.natAbs
  F:=fun _=>(.exit 0,ofX (digs n.natAbs))
  next:=fun y=>match y with
   | none=>some (IntKind.i64.wrap (n.tdiv 1000000000),[ofD n])
   | some (m,ds)=>some (IntKind.i64.wrap (m.tdiv 1000000000),ds++[ofD m])
  ids:=fun y=>match y with
   | none=>[2]
   | some _=>[3]
  X:=fun y _=>match y with
   | none=>some (⟨(0,.any false) :: (5,.any false) :: deadT 8 14,[],[]⟩,[])
   | some (_,ds)=>some (ofX ds,[1]) }
def suArgs (p q:Bool) (a b:List Int):List AV:=saArgs p q a b
end
end Go.Proofs.YtjcicegihechmaaGreatDoor.K
namespace Go.Proofs.YtjcicegihechmaaGreatDoor.K
open Go Go.Eng Go.Dg
noncomputable section
def of_start_nd (n:Int):Prop:=n=n
theorem of_start (n:Int):fit (ofS n) (ofS n) (patch (ofS n) ((ofU n).S none)) ([])=some (.p (of_start_nd n)):=by kernel_rfl
def of_b0_nd (n:Int):Prop:=((!n != (0:Int))=true->(ofU n).F none=(Ex.exit (0:Nat),{ tm:=((0:Nat),AV.any false) :: ((5:Nat),AV.any false) :: deadT (8:Nat) (14:Nat),old:=[],new:=[] }))/\((n != (0:Int))=true->((IntKind.i64.wrap (n.tdiv (1000000000:Int))=IntKind.i64.wrap (n.tdiv (1000000000:Int))/\(0:Nat)<1/\(↑(0:Nat):Int)=(0:Int)/\(↑1:Int)=(↑[ofD n].length:Int))/\[bif decide (n.tmod (1000000000:Int)<(0:Int)) then IntKind.i64.wrap ((0:Int) - n.tmod (1000000000:Int)) else n.tmod (1000000000:Int)]=[ofD n])/\(ofU n).I ((ofU n).next none)/\(ofU n).μ ((ofU n).next none)<(ofU n).μ none/\(ofU n).F ((ofU n).next none)=(ofU n).F none)
theorem of_b0 (n:Int):chkR (ofS n) ((ofU n).way (none)) ((run cL1 300).code ofFr ofA (patch (ofS n) ((ofU n).S none)))=some (.p (of_b0_nd n)):=by kernel_rfl
def of_b1_nd (n m:Int) (ds:List Int):Prop:=((m != (0:Int))=true->(0:Int)=(0:Int)/\(0:Int)<(↑ds.length:Int)/\(↑ds.length:Int)=(↑ds.length:Int)/\(↑ds.length:Int)+(↑(1:Nat):Int)<=(1048576:Int))/\((!m != (0:Int))=true->(((0:Int)=(0:Int)/\(↑ds.length:Int)=(↑ds.length:Int))/\ds=ds)/\(ofU n).F (some (m,ds))=(Ex.exit (0:Nat),ofX ds))/\((m != (0:Int))=true->((IntKind.i64.wrap (m.tdiv (1000000000:Int))=IntKind.i64.wrap (m.tdiv (1000000000:Int))/\(0:Int)=(0:Int)/\(↑ds.length:Int)+(↑(1:Nat):Int)=(↑(ds++[ofD m]).length:Int))/\ds++[bif decide (m.tmod (1000000000:Int)<(0:Int)) then IntKind.i64.wrap ((0:Int) - m.tmod (1000000000:Int)) else m.tmod (1000000000:Int)]=ds++[ofD m])/\(ofU n).I ((ofU n).next (some (m,ds)))/\(ofU n).μ ((ofU n).next (some (m,ds)))<(ofU n).μ (some (m,ds))/\(ofU n).F ((ofU n).next (some (m,ds)))=(ofU n).F (some (m,ds)))
theorem of_b1 (n m:Int) (ds:List Int):chkR (ofS n) ((ofU n).way (some (m,ds))) ((run cL1 300).code ofFr ofA (patch (ofS n) ((ofU n).S (some (m,ds)))))=some (.p (of_b1_nd n m ds)):=by kernel_rfl
end
end Go.Proofs.YtjcicegihechmaaGreatDoor.K
namespace Go.Proofs.YtjcicegihechmaaGreatDoor.K
open Go Go.Eng Go.Dg
noncomputable section
theorem of_loop (n:Int) (h0:n≠0) (hb:n.natAbs<=9223372036854775808):CodeOk cL1 ofFr (.loop ofA) (ofS n) ⟨.tt,[⟨.tt,.exit 0,patch (ofS n) (ofX (digs n.natAbs))⟩]⟩:=by
 refine sumL_one (run_sound cL1_ok 300) (ofU n) (y0:=none) h0 ⟨_,of_start n,rfl⟩ (by kernel_rfl) (fun y hy=>?_) rfl
 cases y with
 | none=>
  refine ⟨_,of_b0 n,fun h=>absurd (nbne.1 h) h0,fun h=>⟨⟨⟨rfl,by decide,rfl,rfl⟩,rfl⟩,?_,?_,rfl⟩⟩
  .show ofI n (IntKind.i64.wrap (n.tdiv 1000000000)) [ofD n]
   rw [(of_q n hb).1]; exact of_first h0 hb
  .show (IntKind.i64.wrap (n.tdiv 1000000000)).natAbs<n.natAbs+1
   rw [(of_q n hb).1,(of_q n hb).2]; omega
 | some y=>
  obtain ⟨m,ds⟩:=y
  have hI:ofI n m ds:=hy
  refine ⟨_,of_b1 n m ds,fun h=>?_,fun h=>?_,fun h=>⟨⟨⟨rfl,rfl,?_⟩,rfl⟩,?_,?_,rfl⟩⟩
  .have:=of_len (bne_t.1 h) hI hb
   have:=List.length_pos_iff.2 hI.1
   exact ⟨rfl,by omega,rfl,by omega⟩
  .have h:=nbne.1 h
   subst h
   refine ⟨⟨⟨rfl,rfl⟩,rfl⟩,?_⟩
   show (Ex.exit 0,ofX (digs n.natAbs))=_
   rw [of_end hI]
  .rw [List.length_append]; rfl
  .show ofI n (IntKind.i64.wrap (m.tdiv 1000000000)) (ds++[ofD m])
   rw [(of_q m hI.2.2.2.2).1]; exact of_step (bne_t.1 h) hI
  .show (IntKind.i64.wrap (m.tdiv 1000000000)).natAbs<m.natAbs
   have:=bne_t.1 h
   rw [(of_q m hI.2.2.2.2).1,(of_q m hI.2.2.2.2).2]; omega
end
end Go.Proofs.YtjcicegihechmaaGreatDoor.K
namespace Go.Proofs.YtjcicegihechmaaGreatDoor.K
open Go Go.Eng Go.Dg
noncomputable section
noncomputable def cOfL (n:Int):Ctx:=withLoops cL1 [oneLoop 86 (ofS n).hp.clock ofFr ofA (ofS n) (.exit 0) (ofX (digs n.natAbs))]
theorem cOfL_ok (n:Int) (h0:n≠0) (hb:n.natAbs<=9223372036854775808):CtxOk (cOfL n):=withLoop_ok cL1_ok (of_loop n h0 hb) (withNone_ok cL1_ok)
def cOf0:Ctx:=hinting cL1 (hintsT [(9,.bool false false)])
theorem cOf0_ok:CtxOk cOf0:=hinting_ok cL1_ok _
end
end Go.Proofs.YtjcicegihechmaaGreatDoor.K
namespace Go.Proofs.YtjcicegihechmaaGreatDoor.K
open Go Go.Eng Go.Dg
noncomputable section
def of_t_nd (n:Int):Prop:=(At (ofFr) (ofFr) (ofA) (ofA) (ofS n) (ofS n)/\((0:Int)<=(0:Int)/\(0:Int)<=(↑(digs n.natAbs).length:Int)/\(0:Int)+(↑(digs n.natAbs).length:Int)<=(↑(digs n.natAbs).length:Int))/\Dig (List.take (↑(digs n.natAbs).length:Int).toNat (List.drop (Int.toNat (0:Int)) (digs n.natAbs)))/\Sm (List.take (↑(digs n.natAbs).length:Int).toNat (List.drop (Int.toNat (0:Int)) (digs n.natAbs))))
def of_t_v (n:Int):AV:=(AV.agg [AV.bool true (decide (n<(0:Int))&&decide (val (List.take (↑(digs n.natAbs).length:Int).toNat (List.drop (Int.toNat (0:Int)) (digs n.natAbs)))≠(0:Int))),AV.islice true (0:Nat) (0:Int) (↑(digs (val (List.take (↑(digs n.natAbs).length:Int).toNat (List.drop (Int.toNat (0:Int)) (digs n.natAbs)))).toNat).length:Int)])
def of_t_h (n:Int):Hp:=⟨[{ wr:=12,body:=ABody.ints IntKind.i64 (digs (val (List.take (↑(digs n.natAbs).length:Int).toNat (List.drop (Int.toNat (0:Int)) (digs n.natAbs)))).toNat) }],1,13⟩
theorem of_t (n:Int):(run (cOfL n) 300).call 86 (ofArgs n) hG0=some ⟨.p (of_t_nd n),[⟨.tt,of_t_v n,of_t_h n⟩]⟩:=by kernel_rfl
def of_z_nd (n:Int):Prop:=((n != (0:Int))=false/\Dig []/\Sm [])
def of_z_v (n:Int):AV:=(AV.agg [AV.bool true (decide (n<(0:Int))&&decide (val []≠(0:Int))),AV.islice true (0:Nat) (0:Int) (↑(digs (val []).toNat).length:Int)])
def of_z_h (n:Int):Hp:=⟨[{ wr:=13,body:=ABody.ints IntKind.i64 (digs (val []).toNat) }],1,14⟩
theorem of_z (n:Int):(run cOf0 300).call 86 (ofArgs n) hG0=some ⟨.p (of_z_nd n),[⟨.tt,of_z_v n,of_z_h n⟩]⟩:=by kernel_rfl
def mi_t_nd (p:Bool) (a:List Int):Prop:=((↑a.length:Int)=(↑a.length:Int)/\Dig a/\Sm a)
def mi_t_v (p:Bool) (a:List Int):AV:=(AV.agg [AV.bool true (!p&&decide (val a≠(0:Int))),AV.islice true 1 (0:Int) (↑(digs (val a).toNat).length:Int)])
def mi_t_h (p:Bool) (a:List Int):Hp:=⟨[{ wr:=10,body:=ABody.ints IntKind.i64 (digs (val a).toNat) },{ wr:=(0:Nat),body:=ABody.rows IntKind.i64 a }],2,11⟩
theorem mi_t (p:Bool) (a:List Int):(run cL1 300).call 141 (riArgs p a) (riH a)=some ⟨.p (mi_t_nd p a),[⟨.tt,mi_t_v p a,mi_t_h p a⟩]⟩:=by kernel_rfl
end
end Go.Proofs.YtjcicegihechmaaGreatDoor.K
namespace Go.Proofs.YtjcicegihechmaaGreatDoor.K
open Go Go.Eng Go.Dg
noncomputable section
def ofV:List Nu->List (List Int)->Option (Prop×To)
 | [.n n],[]=>some (n.natAbs<=9223372036854775808,lgT false n)
 | _,_=>none
theorem of_ok:NOk Tryz.prog (fun _=>none) hG0 86 (mSpec hG0 .i64 [.nu (.i .i64)] ofV):=by
 refine msp_ok (show hG0.ok from rfl) rfl (fun _ _ h=>by cases h) (fun xs ys p t e h=>?_) ⟨_,Tryz.func86,rfl⟩
 unfold ofV at e
 split at e
 .rename_i n
  cases e
  by_cases h0:n=0
  .subst h0
   refine ⟨cOf0,300,ofArgs 0,_,_,_,_,_,cOf0_ok,rfl,rfl,⟨⟨rfl,rfl⟩,trivial⟩,of_z 0,rfl,⟨rfl,dig_nil,by show 0<=500000; omega⟩,rfl,rfl,⟨by decide,?_,?_⟩⟩
   .exact lenp
   .show List.take _ (List.drop _ (digs (val []).toNat))=digs (0:Int).natAbs
    rw [td]; rfl
  .have hd:=dig_digs n.natAbs
   have hv:=val_digs n.natAbs
   refine ⟨cOfL n,300,ofArgs n,_,_,_,_,_,cOfL_ok n h0 h,rfl,rfl,⟨⟨rfl,rfl⟩,trivial⟩,of_t n,rfl,⟨⟨rfl,rfl,rfl⟩,lenp,by rw [td]; exact hd,?_⟩,rfl,rfl,⟨?_,?_,?_⟩⟩
   .rw [td]
    have:(digs n.natAbs).length<=3:=len_digs (by
     have:pw 3=1000000000000000000000000000:=by decide
     omega)
    show _<=500000
    omega
   .show (decide (n<0)&&decide (val (List.take _ (List.drop _ (digs n.natAbs)))≠0))=decide (n<0)
    rw [td,hv]
    exact sgn_eq (by omega) (by by_cases h:n<0 <;> simp [h] <;> omega)
   .exact lenp
   .show List.take _ (List.drop _ (digs (val (List.take _ (List.drop _ (digs n.natAbs)))).toNat))=digs n.natAbs
    rw [td,td,hv]; rfl
 .cases e
def miV:List Nu->List (List Int)->Option (Prop×To)
 | [.t p],[a]=>some (okL p a,lgT false (-zv p a))
 | _,_=>none
theorem minus_ok:NOk Tryz.prog (fun _=>none) hG0 141 (mSpec hG0 .i64 [.st [.nu .b,.li]] miV):=by
 refine msp_ok (show hG0.ok from rfl) rfl (fun _ _ h=>by cases h) (fun xs ys p t e h=>?_) ⟨_,Tryz.func141,rfl⟩
 unfold miV at e
 split at e
 .rename_i p a
  cases e
  have h0:=val_nonneg h.1
  have hp:=h.val_pos
  refine ⟨cL1,300,riArgs p a,_,_,_,_,_,cL1_ok,rfl,rfl,⟨⟨rfl,rfl,trivial⟩,trivial⟩,mi_t p a,rfl,⟨rfl,h.1,h.2.2.2⟩,rfl,rfl,⟨?_,?_,?_⟩⟩
  .show (!p&&decide (val a≠0))=decide (-zv p a<0)
   exact sgn_eq h0 (by cases p <;> simp [zv])
  .exact lenp
  .show List.take _ (List.drop _ (digs (val a).toNat))=digs (-zv p a).natAbs
   rw [td,abs_eq (p:=!p) h0 (z:=-zv p a) (by cases p <;> simp [zv])]
 .cases e
end
end Go.Proofs.YtjcicegihechmaaGreatDoor.K
namespace Go.Proofs.YtjcicegihechmaaGreatDoor.K
open Go Go.Eng Go.Dg
noncomputable section
def tL2:List (FuncId×NSpec):=
 (86,mSpec hG0 .i64 [.nu (.i .i64)] ofV) ::
 (141,mSpec hG0 .i64 [.st [.nu .b,.li]] miV) ::
 tL1
theorem tL2_ok:∀ x∈tL2,NOk Tryz.prog (fun _=>none) hG0 x.1 x.2:=by
 intro x hx
 rcases List.mem_cons.1 hx with rfl|hx
 .exact of_ok
 rcases List.mem_cons.1 hx with rfl|hx
 .exact minus_ok
 exact tL1_ok x hx
def cL2:Ctx:=mkN Tryz.prog (fun _=>none) hG0 tL2 [] noExt
theorem cL2_ok:CtxOk cL2:=mkN_ok prog_ok (noExt_ok _) tL2_ok (fun x h=>by cases h)
end
end Go.Proofs.YtjcicegihechmaaGreatDoor.K
namespace Go.Proofs.YtjcicegihechmaaGreatDoor.K
open Go Go.Eng Go.Dg
noncomputable section
def or_t_nd (p q:Bool) (a b:List Int):Prop:=((((↑a.length:Int)=(↑a.length:Int)/\(↑b.length:Int)=(↑b.length:Int))/\Sm a/\Sm b)/\((!decide (p=q/\a=b))=true->(p==q)=true->(((↑a.length:Int)=(↑a.length:Int)/\(↑b.length:Int)=(↑b.length:Int))/\Sm a/\Sm b)/\p=p))
def or_t_v (p q:Bool) (a b:List Int):AV:=(AV.int true IntKind.i64 (bif decide (p=q/\a=b) then (0:Int) else bif bif p==q then !lessL a b==p else p then (-1:Int) else (1:Int)))
def or_t_h (p q:Bool) (a b:List Int):Hp:=⟨[{ wr:=(0:Nat),body:=ABody.rows IntKind.i64 b },{ wr:=(0:Nat),body:=ABody.rows IntKind.i64 a }],2,30⟩
theorem or_t (p q:Bool) (a b:List Int):(run cL2 300).call 116 (suArgs p q a b) (leH a b)=some ⟨.p (or_t_nd p q a b),[⟨.tt,or_t_v p q a b,or_t_h p q a b⟩]⟩:=by kernel_rfl
end
end Go.Proofs.YtjcicegihechmaaGreatDoor.K
namespace Go.Proofs.YtjcicegihechmaaGreatDoor.K
open Go Go.Eng Go.Dg
noncomputable section
def ordZ (x y:Int):Int:=if x=y then 0 else if x<y then -1 else 1
def orV:List Nu->List (List Int)->Option (Prop×To)
 | [.t p,.t q],[a,b]=>some (okL p a/\okL q b,.nu .i64 (ordZ (zv p a) (zv q b)))
 | _,_=>none
theorem or_eq {p q:Bool} {a b:List Int} (ha:okL p a) (hb:okL q b):(bif decide (p=q/\a=b) then (0:Int) else bif bif p==q then !lessL a b==p else p then (-1:Int) else (1:Int))=ordZ (zv p a) (zv q b):=by
 have hl:=lessL_iff ha.1 hb.1 ha.2.1 hb.2.1
 have h0:=val_nonneg ha.1
 have h1:=val_nonneg hb.1
 unfold ordZ
 by_cases h:p=q/\a=b
 .obtain ⟨rfl,rfl⟩:=h
  rw [decide_eq_true ⟨rfl,rfl⟩,if_pos rfl]; rfl
 .rw [decide_eq_false h,cond_false]
  have hne:zv p a≠zv q b:=by
   intro e
   have e1:p=q:=by rw [ha.neg_eq,hb.neg_eq,e]
   exact h ⟨e1,by rw [<- ha.digs_eq,<- hb.digs_eq,e]⟩
  rw [if_neg hne]
  have et:∀ d,zv true d=-val d:=fun d=>rfl
  have ef:∀ d,zv false d=val d:=fun d=>rfl
  have hn:lessL a b=false->¬ val a<val b:=fun e h=>by rw [hl.2 h] at e; cases e
  cases p <;> cases q
  .have q1:=ef a
   have q2:=ef b
   cases e:lessL a b with
   | true=>have:=hl.1 e; rw [if_pos (by omega)]; rfl
   | false=>have:=hn e; rw [if_neg (by omega)]; rfl
  .have:=hb.val_pos rfl
   have q1:=ef a
   have q2:=et b
   rw [if_neg (by omega)]; rfl
  .have:=ha.val_pos rfl
   have q1:=et a
   have q2:=ef b
   rw [if_pos (by omega)]; rfl
  .have q1:=et a
   have q2:=et b
   cases e:lessL a b with
   | true=>have:=hl.1 e; rw [if_neg (by omega)]; rfl
   | false=>have:=hn e; rw [if_pos (by omega)]; rfl
theorem order_ok:NOk Tryz.prog (fun _=>none) hG0 116 (mSpec hG0 .i64 [.st [.nu .b,.li],.st [.nu .b,.li]] orV):=by
 refine msp_runs (fun xs ys p t e h=>?_) ⟨_,Tryz.func116,rfl⟩
 unfold orV at e
 split at e
 .rename_i p q a b
  cases e
  obtain ⟨ha,hb⟩:=h
  exact ⟨cL2,300,suArgs p q a b,_,_,_,_,_,cL2_ok,rfl,rfl,⟨⟨rfl,rfl,trivial⟩,⟨rfl,rfl,trivial⟩,trivial⟩,or_t p q a b,rfl,⟨⟨⟨rfl,rfl⟩,ha.2.2.2,hb.2.2.2⟩,fun _ _=>⟨⟨⟨rfl,rfl⟩,ha.2.2.2,hb.2.2.2⟩,rfl⟩⟩,rfl,rfl,or_eq ha hb⟩
 .cases e
def tL3:List (FuncId×NSpec):=
 (116,mSpec hG0 .i64 [.st [.nu .b,.li],.st [.nu .b,.li]] orV) ::
 tL2
theorem tL3_ok:∀ x∈tL3,NOk Tryz.prog (fun _=>none) hG0 x.1 x.2:=by
 intro x hx
 rcases List.mem_cons.1 hx with rfl|hx
 .exact order_ok
 exact tL2_ok x hx
end
end Go.Proofs.YtjcicegihechmaaGreatDoor.K
namespace Go.Proofs.YtjcicegihechmaaGreatDoor.K
open Go Go.Eng Go.Dg
noncomputable section
end
end Go.Proofs.YtjcicegihechmaaGreatDoor.K
namespace Go.Proofs.YtjcicegihechmaaGreatDoor.K
open Go Go.Eng Go.Dg
noncomputable section
end
end Go.Proofs.YtjcicegihechmaaGreatDoor.K
namespace Go.Dg
open Go Go.Eng
def padL:Nat->Int->List Int
 | 0,_=>[]
 | n+1,v=>v % 1000000000 :: padL n (v / 1000000000)
theorem padL_len:∀ (n:Nat) (v:Int),(padL n v).length=n
 | 0,_=>rfl
 | n+1,v=>by simp [padL,padL_len n]
theorem padL_dig:∀ (n:Nat) (v:Int),Dig (padL n v)
 | 0,_=>dig_nil
 | n+1,v=>dig_cons.2 ⟨by omega,padL_dig n _⟩
theorem padL_val:∀ {n:Nat} {v:Int},0<=v->v<pw n->val (padL n v)=v
 | 0,v,h0,h1=>by
  have:pw 0=1:=rfl
  simp only [padL,val]; omega
 | n+1,v,h0,h1=>by
  simp only [padL,val]
  have h2:pw (n+1)=(1000000000:Int)*pw n:=rfl
  rw [padL_val (by omega) (by omega)]
  omega
theorem padL_eq:∀ {d:List Int},Dig d->d=padL d.length (val d)
 | [],_=>rfl
 | x :: l,h=>by
  have h:=dig_cons.1 h
  simp only [List.length_cons,padL,val]
  rw [show (x+(1000000000:Int)*val l) % (1000000000:Int)=x by omega,show (x+(1000000000:Int)*val l) / (1000000000:Int)=val l by omega,<- padL_eq h.2]
theorem padL_rep:∀ n,List.replicate n (0:Int)=padL n 0
 | 0=>rfl
 | n+1=>by simp [List.replicate_succ,padL,<- padL_rep n]
theorem padL_uni {d:List Int} (h:Dig d) {n:Nat} {v:Int} (hl:d.length=n) (hv:val d=v):d=padL n v:=by
 subst hl hv; exact padL_eq h
theorem ndf {p:Prop} [Decidable p] (h:¬p):decide p=false:=decide_eq_false h
def prV (a b:List Int) (i k:Int):Int:=val (a.take i.toNat)*val b+pw i.toNat*(a.getD i.toNat 0*val (b.take k.toNat))
def prL (a b:List Int) (i k:Int):List Int:=padL (a.length+b.length) (prV a b i k)
theorem take_le {b:List Int} (hb:Dig b) (k:Nat):val (b.take k)<=val b:=by
 have e:val b=val (b.take k)+pw (b.take k).length*val (b.drop k):=by rw [<- val_app,List.take_append_drop]
 have:=Int.mul_nonneg (Int.le_of_lt (pw_pos (b.take k).length)) (val_nonneg (hb.drop k))
 omega
theorem prV_bd {a b:List Int} (ha:Dig a) (hb:Dig b) (i k:Int):0<=prV a b i k/\prV a b i k<pw (a.length+b.length):=by
 have h1:=ha.get i.toNat
 have h2:=val_nonneg hb
 have h3:=val_nonneg (ha.take i.toNat)
 have h4:=val_nonneg (hb.take k.toNat)
 have h5:=Int.mul_nonneg h3 h2
 have h6:=Int.mul_nonneg (Int.le_of_lt (pw_pos i.toNat)) (Int.mul_nonneg h1.1 h4)
 refine ⟨by unfold prV; omega,?_⟩
 have q1:pw i.toNat*(a.getD i.toNat 0*val (b.take k.toNat))<=pw i.toNat*(a.getD i.toNat 0*val b):=Int.mul_le_mul_of_nonneg_left (Int.mul_le_mul_of_nonneg_left (take_le hb _) h1.1) (Int.le_of_lt (pw_pos _))
 have q2:=mul_row a b i.toNat
 have q3:val (a.take (i.toNat+1))*val b<=val a*val b:=Int.mul_le_mul_of_nonneg_right (take_le ha _) h2
 have q4:val a*val b<pw (a.length+b.length):=by
  rcases mul_lt ha hb with h|⟨h,h'⟩
  .exact h
  .rw [h',h]; decide
 unfold prV
 omega
theorem prV_next {a b:List Int} {i k:Int} (hk:0<=k):prV a b i (k+1)=prV a b i k+pw (i.toNat+k.toNat)*(a.getD i.toNat 0*b.getD k.toNat 0):=by
 unfold prV
 rw [show (k+1).toNat=k.toNat+1 by omega,mul_take_succ]
 omega
theorem prV_row {a b:List Int} {i:Int} (hi:0<=i):prV a b i b.length=prV a b (i+1) 0:=by
 unfold prV
 rw [show (i+1).toNat=i.toNat+1 by omega,mul_row,show ((b.length:Int)).toNat=b.length by omega,List.take_length,show (0:Int).toNat=0 from rfl]
 simp [val]
def prI (a b:List Int) (i k:Int) (j n:Int) (d:List Int):Prop:=
 Dig d/\d.length=a.length+b.length/\0<=j/\0<=n/\n<=1000000000000000000/\val d+pw j.toNat*n=prV a b i (k+1)
theorem prI_end {a b:List Int} {i k j n:Int} {d:List Int} (h:prI a b i k j n d) (h0:¬ n>0):d=prL a b i (k+1):=by
 obtain ⟨h1,h2,h3,h4,h5,h6⟩:=h
 have:n=0:=by omega
 subst this
 exact padL_uni h1 h2 (by rw [<- h6]; simp)
theorem prI_in {a b:List Int} {i k j n:Int} {d:List Int} (ha:Dig a) (hb:Dig b) (h:prI a b i k j n d) (h0:n>0):j.toNat<d.length:=by
 obtain ⟨h1,h2,h3,h4,h5,h6⟩:=h
 have:=prV_bd ha hb i (k+1)
 exact carry_in h1 h0 (by rw [h6,h2]; exact this.2)
theorem prI_step {a b:List Int} {i k j n:Int} {d:List Int} (ha:Dig a) (hb:Dig b) (h:prI a b i k j n d) (h0:n>0):prI a b i k (j+1) ((n+d.getD j.toNat 0).tdiv 1000000000) (d.set j.toNat ((n+d.getD j.toNat 0).tmod 1000000000)):=by
 have hj:=prI_in ha hb h h0
 obtain ⟨h1,h2,h3,h4,h5,h6⟩:=h
 obtain ⟨s1,s2,s3,_⟩:=carry_step h1 h4 hj
 have hg:=h1.get j.toNat
 refine ⟨s1,by rw [List.length_set,h2],by omega,s2,?_,?_⟩
 .rw [Int.tdiv_eq_ediv_of_nonneg (by omega)]; omega
 .rw [show (j+1).toNat=j.toNat+1 by omega,s3,h6]
theorem prI_start {a b:List Int} (ha:Dig a) (hb:Dig b) {i k:Int} (hi:0<=i) (hk:0<=k):prI a b i k (i+k) (a.getD i.toNat 0*b.getD k.toNat 0) (prL a b i k):=by
 have h1:=ha.get i.toNat
 have h2:=hb.get k.toNat
 have h3:=prV_bd ha hb i k
 have hm:=Int.mul_nonneg h1.1 h2.1
 have hu:a.getD i.toNat 0*b.getD k.toNat 0<=1000000000*1000000000:=Int.mul_le_mul (by omega) (by omega) h2.1 (by decide)
 refine ⟨padL_dig _ _,padL_len _ _,by omega,hm,by omega,?_⟩
 unfold prL
 rw [padL_val h3.1 h3.2,prV_next hk,show (i+k).toNat=i.toNat+k.toNat by omega]
end Go.Dg
namespace Go.Proofs.YtjcicegihechmaaGreatDoor.K
open Go Go.Eng Go.Dg
noncomputable section
def prFr:AFr:=⟨117,none⟩
def prAo:Code:=loopOf Tryz.prog 117 0
def prAm:Code:=loopOf Tryz.prog 117 1
def prAi:Code:=loopOf Tryz.prog 117 2
noncomputable def poS (p q:Bool) (a b:List Int):St:=stAt cL2 300 117 (suArgs p q a b) (leH a b)
def poP (a b:List Int) (i:Int):Patch:=⟨(6,.int true .i64 i) :: (7,.any false) :: (8,.any false) :: (9,.any false) :: deadT 18 45,[(5,.ints .i64 (prL a b i 0))],[]⟩
def poU (a b:List Int):SumL Int:=
 {
  S:=poP a b
  I:=fun i=>0<=i/\i<=a.length
  μ:=fun i=>(a.length - i).toNat
  F:=fun _=>(.exit 0,poP a b a.length)
  next:=fun i=>IntKind.i64.wrap (i+1)
  ids:=fun _=>[]
  X:=fun i _=>some (poP a b i,[]) }
noncomputable def pmS (p q:Bool) (a b:List Int) (i:Int):St:=stIn cL2 300 prFr prAo (patch (poS p q a b) (poP a b i))
def pmP (a b:List Int) (i k:Int):Patch:=⟨(7,.int true .i64 k) :: (8,.any false) :: (9,.any false) :: deadT 25 38,[(5,.ints .i64 (prL a b i k))],[]⟩
def pmU (a b:List Int) (i:Int):SumL Int:=
 {
  S:=pmP a b i
  I:=fun k=>0<=k/\k<=b.length
  μ:=fun k=>(b.length - k).toNat
  F:=fun _=>(.exit 2,pmP a b i b.length)
  next:=fun k=>IntKind.i64.wrap (k+1)
  ids:=fun _=>[]
  X:=fun k _=>some (pmP a b i k,[]) }
noncomputable def piS (p q:Bool) (a b:List Int) (i k:Int):St:=stIn cL2 300 prFr prAm (patch (pmS p q a b i) (pmP a b i k))
def piP (j n:Int) (d:List Int):Patch:=⟨(8,.int true .i64 n) :: (9,.int true .i64 j) :: deadT 46 17,[(5,.ints .i64 d)],[]⟩
def piX (d:List Int):Patch:=⟨(8,.any false) :: (9,.any false) :: deadT 46 17,[(5,.ints .i64 d)],[]⟩
def piU (a b:List Int) (i k:Int):SumL (Int×Int×List Int):=
 {
  S:=fun (j,n,d)=>piP j n d
  I:=fun (j,n,d)=>prI a b i k j n d
  μ:=fun (j,_,_)=>(a.length+b.length - j).toNat
  F:=fun _=>(.exit 4,piX (prL a b i (k+1)))
  next:=fun (j,n,d)=>(IntKind.i64.wrap (j+1),IntKind.i64.wrap ((IntKind.i64.wrap (n+d.getD j.toNat 0)).tdiv 1000000000),d.set j.toNat ((IntKind.i64.wrap (n+d.getD j.toNat 0)).tmod 1000000000))
  ids:=fun _=>[]
  X:=fun (_,_,d) _=>some (piX d,[]) }
noncomputable def cPi (p q:Bool) (a b:List Int) (i k:Int):Ctx:=withLoops cL2 [oneLoop 117 (piS p q a b i k).hp.clock prFr prAi (piS p q a b i k) (.exit 4) (piX (prL a b i (k+1)))]
noncomputable def cPm (p q:Bool) (a b:List Int) (i:Int):Ctx:=withLoops cL2 [oneLoop 117 (pmS p q a b i).hp.clock prFr prAm (pmS p q a b i) (.exit 2) (pmP a b i b.length)]
noncomputable def cPo (p q:Bool) (a b:List Int):Ctx:=withLoops cL2 [oneLoop 117 (poS p q a b).hp.clock prFr prAo (poS p q a b) (.exit 0) (poP a b a.length)]
end
end Go.Proofs.YtjcicegihechmaaGreatDoor.K
namespace Go.Proofs.YtjcicegihechmaaGreatDoor.K
open Go Go.Eng Go.Dg
noncomputable section
def po_start_nd (p q:Bool) (a b:List Int):Prop:=(0:Int)=(0:Int)/\List.replicate (IntKind.i64.wrap ((↑a.length:Int)+(↑b.length:Int))).toNat (0:Int)=prL a b (0:Int) (0:Int)
theorem po_start (p q:Bool) (a b:List Int):fit (poS p q a b) (poS p q a b) (patch (poS p q a b) ((poU a b).S 0)) ([])=some (.p (po_start_nd p q a b)):=by kernel_rfl
def pm_start_nd (p q:Bool) (a b:List Int) (i:Int):Prop:=(0:Int)=(0:Int)/\prL a b i (0:Int)=prL a b i (0:Int)
theorem pm_start (p q:Bool) (a b:List Int) (i:Int):fit (pmS p q a b i) (pmS p q a b i) (patch (pmS p q a b i) ((pmU a b i).S 0)) ([])=some (.p (pm_start_nd p q a b i)):=by kernel_rfl
def pi_start_nd (p q:Bool) (a b:List Int) (i k:Int):Prop:=(IntKind.i64.wrap (a.getD i.toNat (0:Int)*b.getD k.toNat (0:Int))=IntKind.i64.wrap (a.getD i.toNat (0:Int)*b.getD k.toNat (0:Int))/\IntKind.i64.wrap (i+k)=IntKind.i64.wrap (i+k))/\prL a b i k=prL a b i k
theorem pi_start (p q:Bool) (a b:List Int) (i k:Int):fit (piS p q a b i k) (piS p q a b i k) (patch (piS p q a b i k) ((piU a b i k).S (IntKind.i64.wrap (i+k),IntKind.i64.wrap (a.getD i.toNat 0*b.getD k.toNat 0),prL a b i k))) ([])=some (.p (pi_start_nd p q a b i k)):=by kernel_rfl
def pi_body_nd (p q:Bool) (a b:List Int) (i k j n:Int) (d:List Int):Prop:=(decide (n>(0:Int))=true->(((0:Int)<=j/\j<IntKind.i64.wrap ((↑a.length:Int)+(↑b.length:Int)))/\((0:Int)+j).toNat<d.length)/\((0:Int)<=j/\j<IntKind.i64.wrap ((↑a.length:Int)+(↑b.length:Int)))/\((0:Int)+j).toNat<d.length)/\((!decide (n>(0:Int)))=true->d=d/\(piU a b i k).F (j,n,d)=(Ex.exit (4:Nat),piX d))/\(decide (n>(0:Int))=true->((IntKind.i64.wrap ((IntKind.i64.wrap (n+d.getD ((0:Int)+j).toNat (0:Int))).tdiv (1000000000:Int))=IntKind.i64.wrap ((IntKind.i64.wrap (n+d.getD j.toNat (0:Int))).tdiv (1000000000:Int))/\IntKind.i64.wrap (j+(1:Int))=IntKind.i64.wrap (j+(1:Int)))/\d.set ((0:Int)+j).toNat ((IntKind.i64.wrap (n+d.getD ((0:Int)+j).toNat (0:Int))).tmod (1000000000:Int))=d.set j.toNat ((IntKind.i64.wrap (n+d.getD j.toNat (0:Int))).tmod (1000000000:Int)))/\(piU a b i k).I ((piU a b i k).next (j,n,d))/\(piU a b i k).μ ((piU a b i k).next (j,n,d))<(piU a b i k).μ (j,n,d)/\(piU a b i k).F ((piU a b i k).next (j,n,d))=(piU a b i k).F (j,n,d))
theorem pi_body (p q:Bool) (a b:List Int) (i k j n:Int) (d:List Int):chkR (piS p q a b i k) ((piU a b i k).way ((j,n,d))) ((run cL2 300).code prFr prAi (patch (piS p q a b i k) ((piU a b i k).S (j,n,d))))=some (.p (pi_body_nd p q a b i k j n d)):=by kernel_rfl
def pm_body_nd (p q:Bool) (a b:List Int) (i k:Int):Prop:=(decide (k<(↑b.length:Int))=true->(((0:Int)<=i/\i<(↑a.length:Int))/\i.toNat<a.length/\((0:Int)<=k/\k<(↑b.length:Int))/\k.toNat<b.length)/\At (prFr) (prFr) (prAi) (prAi) (piS p q a b i k) (piS p q a b i k))/\((!decide (k<(↑b.length:Int)))=true->(k=k/\prL a b i k=prL a b i k)/\(pmU a b i).F k=(Ex.exit (2:Nat),pmP a b i k))/\(decide (k<(↑b.length:Int))=true->(IntKind.i64.wrap (k+(1:Int))=(pmU a b i).next k/\prL a b i (k+(1:Int))=prL a b i ((pmU a b i).next k))/\(pmU a b i).I ((pmU a b i).next k)/\(pmU a b i).μ ((pmU a b i).next k)<(pmU a b i).μ k/\(pmU a b i).F ((pmU a b i).next k)=(pmU a b i).F k)
theorem pm_body (p q:Bool) (a b:List Int) (i k:Int):chkR (pmS p q a b i) ((pmU a b i).way (k)) ((run (cPi p q a b i k) 300).code prFr prAm (patch (pmS p q a b i) ((pmU a b i).S k)))=some (.p (pm_body_nd p q a b i k)):=by kernel_rfl
def po_body_nd (p q:Bool) (a b:List Int) (i:Int):Prop:=(decide (i<(↑a.length:Int))=true->At (prFr) (prFr) (prAm) (prAm) (pmS p q a b i) (pmS p q a b i))/\((!decide (i<(↑a.length:Int)))=true->(i=i/\prL a b i (0:Int)=prL a b i (0:Int))/\(poU a b).F i=(Ex.exit (0:Nat),poP a b i))/\(decide (i<(↑a.length:Int))=true->(IntKind.i64.wrap (i+(1:Int))=(poU a b).next i/\prL a b i (↑b.length:Int)=prL a b ((poU a b).next i) (0:Int))/\(poU a b).I ((poU a b).next i)/\(poU a b).μ ((poU a b).next i)<(poU a b).μ i/\(poU a b).F ((poU a b).next i)=(poU a b).F i)
theorem po_body (p q:Bool) (a b:List Int) (i:Int):chkR (poS p q a b) ((poU a b).way (i)) ((run (cPm p q a b i) 300).code prFr prAo (patch (poS p q a b) ((poU a b).S i)))=some (.p (po_body_nd p q a b i)):=by kernel_rfl
def pr_t_nd (p q:Bool) (a b:List Int):Prop:=((IntKind.i64.wrap ((↑a.length:Int)+(↑b.length:Int))=IntKind.i64.wrap ((↑a.length:Int)+(↑b.length:Int))/\(0:Int)<=IntKind.i64.wrap ((↑a.length:Int)+(↑b.length:Int))/\IntKind.i64.wrap ((↑a.length:Int)+(↑b.length:Int))<=(1048576:Int))/\At (prFr) (prFr) (prAo) (prAo) (poS p q a b) (poS p q a b)/\((0:Int)<=(0:Int)/\(0:Int)<=IntKind.i64.wrap ((↑a.length:Int)+(↑b.length:Int))/\(0:Int)+IntKind.i64.wrap ((↑a.length:Int)+(↑b.length:Int))<=(↑(prL a b (↑a.length:Int) (0:Int)).length:Int))/\Dig (List.take (IntKind.i64.wrap ((↑a.length:Int)+(↑b.length:Int))).toNat (List.drop (Int.toNat (0:Int)) (prL a b (↑a.length:Int) (0:Int))))/\Sm (List.take (IntKind.i64.wrap ((↑a.length:Int)+(↑b.length:Int))).toNat (List.drop (Int.toNat (0:Int)) (prL a b (↑a.length:Int) (0:Int)))))
def pr_t_v (p q:Bool) (a b:List Int):AV:=(AV.agg [AV.bool true (!p==q&&decide (val (List.take (IntKind.i64.wrap ((↑a.length:Int)+(↑b.length:Int))).toNat (List.drop (Int.toNat (0:Int)) (prL a b (↑a.length:Int) (0:Int))))≠(0:Int))),AV.islice true 2 (0:Int) (↑(digs (val (List.take (IntKind.i64.wrap ((↑a.length:Int)+(↑b.length:Int))).toNat (List.drop (Int.toNat (0:Int)) (prL a b (↑a.length:Int) (0:Int))))).toNat).length:Int)])
def pr_t_h (p q:Bool) (a b:List Int):Hp:=⟨[{ wr:=24,body:=ABody.ints IntKind.i64 (digs (val (List.take (IntKind.i64.wrap ((↑a.length:Int)+(↑b.length:Int))).toNat (List.drop (Int.toNat (0:Int)) (prL a b (↑a.length:Int) (0:Int))))).toNat) },{ wr:=(0:Nat),body:=ABody.rows IntKind.i64 b },{ wr:=(0:Nat),body:=ABody.rows IntKind.i64 a }],3,25⟩
theorem pr_t (p q:Bool) (a b:List Int):(run (cPo p q a b) 300).call 117 (suArgs p q a b) (leH a b)=some ⟨.p (pr_t_nd p q a b),[⟨.tt,pr_t_v p q a b,pr_t_h p q a b⟩]⟩:=by kernel_rfl
def cHf (t:Nat):Ctx:=hinting cL2 (hintsT [(t,.bool false false)])
theorem cHf_ok (t:Nat):CtxOk (cHf t):=hinting_ok cL2_ok _
def pm_end_nd (p q:Bool) (a b:List Int) (i k:Int):Prop:=decide (k<(↑b.length:Int))=false/\(true=true->(k=k/\prL a b i k=prL a b i k)/\(pmU a b i).F k=(Ex.exit (2:Nat),pmP a b i k))
theorem pm_end (p q:Bool) (a b:List Int) (i k:Int):chkR (pmS p q a b i) ((pmU a b i).way (k)) ((run (cHf 29) 300).code prFr prAm (patch (pmS p q a b i) ((pmU a b i).S k)))=some (.p (pm_end_nd p q a b i k)):=by kernel_rfl
def po_end_nd (p q:Bool) (a b:List Int) (i:Int):Prop:=decide (i<(↑a.length:Int))=false/\(true=true->(i=i/\prL a b i (0:Int)=prL a b i (0:Int))/\(poU a b).F i=(Ex.exit (0:Nat),poP a b i))
theorem po_end (p q:Bool) (a b:List Int) (i:Int):chkR (poS p q a b) ((poU a b).way (i)) ((run (cHf 22) 300).code prFr prAo (patch (poS p q a b) ((poU a b).S i)))=some (.p (po_end_nd p q a b i)):=by kernel_rfl
end
end Go.Proofs.YtjcicegihechmaaGreatDoor.K
namespace Go.Proofs.YtjcicegihechmaaGreatDoor.K
open Go Go.Eng Go.Dg
noncomputable section
theorem pi_loop (p q:Bool) {a b:List Int} (ha:Dig a) (hb:Dig b) (sa:Sm a) (sb:Sm b) {i k:Int} (hi:0<=i/\i<a.length) (hk:0<=k/\k<b.length):
  CodeOk cL2 prFr (.loop prAi) (piS p q a b i k) ⟨.tt,[⟨.tt,.exit 4,patch (piS p q a b i k) (piX (prL a b i (k+1)))⟩]⟩:=by
 have sa:=sa.le
 have sb:=sb.le
 have g1:=ha.get i.toNat
 have g2:=hb.get k.toNat
 have g3:=Int.mul_nonneg g1.1 g2.1
 have g4:a.getD i.toNat 0*b.getD k.toNat 0<=1000000000*1000000000:=Int.mul_le_mul (by omega) (by omega) g2.1 (by decide)
 have e1:IntKind.i64.wrap (i+k)=i+k:=iw (by omega) (by omega)
 have e2:IntKind.i64.wrap (a.getD i.toNat 0*b.getD k.toNat 0)=a.getD i.toNat 0*b.getD k.toNat 0:=iw (by omega) (by omega)
 refine sumL_one (run_sound cL2_ok 300) (piU a b i k) (y0:=(IntKind.i64.wrap (i+k),IntKind.i64.wrap (a.getD i.toNat 0*b.getD k.toNat 0),prL a b i k)) ?_ ⟨_,pi_start p q a b i k,⟨⟨rfl,rfl⟩,rfl⟩⟩ (by kernel_rfl) (fun y hy=>?_) rfl
 .show prI a b i k _ _ _
  rw [e1,e2]; exact prI_start ha hb hi.1 hk.1
 .obtain ⟨j,n,d⟩:=y
  have hI:prI a b i k j n d:=hy
  obtain ⟨h1,h2,h3,h4,h5,h6⟩:=id hI
  have hg:=h1.get j.toNat
  have e3:IntKind.i64.wrap ((a.length:Int)+b.length)=a.length+b.length:=iw (by omega) (by omega)
  have e4:(0+j).toNat=j.toNat:=by omega
  have e5:IntKind.i64.wrap (n+d.getD j.toNat 0)=n+d.getD j.toNat 0:=iw (by omega) (by omega)
  refine ⟨_,pi_body p q a b i k j n d,fun h=>?_,fun h=>⟨rfl,?_⟩,fun h=>?_⟩
  .have h:=dt.1 h
   have:=prI_in ha hb hI h
   rw [e3,e4]
   exact ⟨⟨⟨h3,by omega⟩,this⟩,⟨h3,by omega⟩,this⟩
  .have h:=ndt.1 h
   show (Ex.exit 4,piX (prL a b i (k+1)))=_
   rw [<- prI_end hI h]
  .have h:=dt.1 h
   have hj:=prI_in ha hb hI h
   have st:=prI_step ha hb hI h
   have e6:IntKind.i64.wrap (j+1)=j+1:=iw (by omega) (by omega)
   have e7:IntKind.i64.wrap ((n+d.getD j.toNat 0).tdiv 1000000000)=(n+d.getD j.toNat 0).tdiv 1000000000:=by
    have:=st.2.2.2.2.1
    have:=st.2.2.2.1
    exact iw (by omega) (by omega)
   rw [e4]
   refine ⟨⟨⟨rfl,rfl⟩,rfl⟩,?_,?_,rfl⟩
   .show prI a b i k (IntKind.i64.wrap (j+1)) (IntKind.i64.wrap ((IntKind.i64.wrap (n+d.getD j.toNat 0)).tdiv 1000000000)) (d.set j.toNat ((IntKind.i64.wrap (n+d.getD j.toNat 0)).tmod 1000000000))
    rw [e5,e6,e7]; exact st
   .show (a.length+b.length - IntKind.i64.wrap (j+1)).toNat<(a.length+b.length - j).toNat
    rw [e6]; omega
theorem cPi_ok (p q:Bool) {a b:List Int} (ha:Dig a) (hb:Dig b) (sa:Sm a) (sb:Sm b) {i k:Int} (hi:0<=i/\i<a.length) (hk:0<=k/\k<b.length):CtxOk (cPi p q a b i k):=withLoop_ok cL2_ok (pi_loop p q ha hb sa sb hi hk) (withNone_ok cL2_ok)
theorem pm_loop (p q:Bool) {a b:List Int} (ha:Dig a) (hb:Dig b) (sa:Sm a) (sb:Sm b) {i:Int} (hi:0<=i/\i<a.length):
  CodeOk cL2 prFr (.loop prAm) (pmS p q a b i) ⟨.tt,[⟨.tt,.exit 2,patch (pmS p q a b i) (pmP a b i b.length)⟩]⟩:=by
 have sb2:=sb.le
 refine sumL_oneC (pmU a b i) (y0:=0) ⟨by omega,by omega⟩ ⟨_,pm_start p q a b i,⟨rfl,rfl⟩⟩ (by kernel_rfl) (fun k hk=>?_) rfl
 obtain ⟨k0,k1⟩:=(show 0<=k/\k<=b.length from hk)
 by_cases hlt:k<b.length
 .refine ⟨cPi p q a b i k,300,cPi_ok p q ha hb sa sb hi ⟨k0,hlt⟩,rfl,rfl,_,pm_body p q a b i k,fun h=>⟨⟨hi,by omega,⟨k0,hlt⟩,by omega⟩,rfl,rfl,rfl⟩,fun h=>absurd hlt (ndt.1 h),fun h=>?_⟩
  have e:IntKind.i64.wrap (k+1)=k+1:=iw (by omega) (by omega)
  refine ⟨⟨rfl,?_⟩,?_,?_,rfl⟩
  .show prL a b i (k+1)=prL a b i (IntKind.i64.wrap (k+1))
   rw [e]
  .show 0<=IntKind.i64.wrap (k+1)/\IntKind.i64.wrap (k+1)<=b.length
   rw [e]; omega
  .show (b.length - IntKind.i64.wrap (k+1)).toNat<(b.length - k).toNat
   rw [e]; omega
 .obtain rfl:k=b.length:=by omega
  exact ⟨cHf 29,300,cHf_ok 29,rfl,rfl,_,pm_end p q a b i b.length,ndf hlt,fun _=>⟨⟨rfl,rfl⟩,rfl⟩⟩
theorem cPm_ok (p q:Bool) {a b:List Int} (ha:Dig a) (hb:Dig b) (sa:Sm a) (sb:Sm b) {i:Int} (hi:0<=i/\i<a.length):CtxOk (cPm p q a b i):=withLoop_ok cL2_ok (pm_loop p q ha hb sa sb hi) (withNone_ok cL2_ok)
theorem po_loop (p q:Bool) {a b:List Int} (ha:Dig a) (hb:Dig b) (sa:Sm a) (sb:Sm b):
  CodeOk cL2 prFr (.loop prAo) (poS p q a b) ⟨.tt,[⟨.tt,.exit 0,patch (poS p q a b) (poP a b a.length)⟩]⟩:=by
 have sa2:=sa.le
 have sb2:=sb.le
 refine sumL_oneC (poU a b) (y0:=0) ⟨by omega,by omega⟩ ⟨_,po_start p q a b,⟨rfl,?_⟩⟩ (by kernel_rfl) (fun i hi=>?_) rfl
 .rw [iw (by omega) (by omega),show ((a.length:Int)+b.length).toNat=a.length+b.length by omega,padL_rep]
  unfold prL prV
  simp [val]
 obtain ⟨i0,i1⟩:=(show 0<=i/\i<=a.length from hi)
 by_cases hlt:i<a.length
 .refine ⟨cPm p q a b i,300,cPm_ok p q ha hb sa sb ⟨i0,hlt⟩,rfl,rfl,_,po_body p q a b i,fun h=>⟨rfl,rfl,rfl⟩,fun h=>absurd hlt (ndt.1 h),fun h=>?_⟩
  have e:IntKind.i64.wrap (i+1)=i+1:=iw (by omega) (by omega)
  refine ⟨⟨rfl,?_⟩,?_,?_,rfl⟩
  .show prL a b i b.length=prL a b (IntKind.i64.wrap (i+1)) 0
   rw [e]
   unfold prL
   rw [prV_row i0]
  .show 0<=IntKind.i64.wrap (i+1)/\IntKind.i64.wrap (i+1)<=a.length
   rw [e]; omega
  .show (a.length - IntKind.i64.wrap (i+1)).toNat<(a.length - i).toNat
   rw [e]; omega
 .obtain rfl:i=a.length:=by omega
  exact ⟨cHf 22,300,cHf_ok 22,rfl,rfl,_,po_end p q a b a.length,ndf hlt,fun _=>⟨⟨rfl,rfl⟩,rfl⟩⟩
theorem cPo_ok (p q:Bool) {a b:List Int} (ha:Dig a) (hb:Dig b) (sa:Sm a) (sb:Sm b):CtxOk (cPo p q a b):=withLoop_ok cL2_ok (po_loop p q ha hb sa sb) (withNone_ok cL2_ok)
def prdV:List Nu->List (List Int)->Option (Prop×To)
 | [.t p,.t q],[a,b]=>some (okL p a/\okL q b/\a.length+b.length<=500000,lgT false (zv p a*zv q b))
 | _,_=>none
theorem prL_end {a b:List Int} (ha:Dig a) (hb:Dig b):(prL a b a.length 0).length=a.length+b.length/\Dig (prL a b a.length 0)/\val (prL a b a.length 0)=val a*val b:=by
 have h:=prV_bd ha hb a.length 0
 refine ⟨padL_len _ _,padL_dig _ _,?_⟩
 unfold prL
 rw [padL_val h.1 h.2]
 unfold prV
 rw [show ((a.length:Int)).toNat=a.length by omega,List.take_length,show (0:Int).toNat=0 from rfl]
 simp [val]
theorem prod_ok:NOk Tryz.prog (fun _=>none) hG0 117 (mSpec hG0 .i64 [.st [.nu .b,.li],.st [.nu .b,.li]] prdV):=by
 refine msp_runs (fun xs ys p t e h=>?_) ⟨_,Tryz.func117,rfl⟩
 unfold prdV at e
 split at e
 .rename_i p q a b
  cases e
  obtain ⟨ha,hb,hl⟩:=h
  obtain ⟨l1,l2,l3⟩:=prL_end ha.1 hb.1
  have e1:IntKind.i64.wrap ((a.length:Int)+b.length)=a.length+b.length:=iw (by omega) (by omega)
  have e2:List.take (IntKind.i64.wrap ((a.length:Int)+b.length)).toNat (List.drop (Int.toNat 0) (prL a b a.length 0))=prL a b a.length 0:=by
   rw [e1,show ((a.length:Int)+b.length).toNat=(prL a b a.length 0).length by omega,show (Int.toNat 0)=0 from rfl,List.drop_zero,List.take_length]
  have v0:=Int.mul_nonneg (val_nonneg ha.1) (val_nonneg hb.1)
  have hz:zv p a*zv q b=bif (!p==q) then -(val a*val b) else val a*val b:=by
   cases p <;> cases q <;> simp [zv,Int.neg_mul,Int.mul_neg]
  refine ⟨cPo p q a b,300,suArgs p q a b,_,_,_,_,_,cPo_ok p q ha.1 hb.1 ha.2.2.2 hb.2.2.2,rfl,rfl,⟨⟨rfl,rfl,trivial⟩,⟨rfl,rfl,trivial⟩,trivial⟩,pr_t p q a b,rfl,⟨⟨rfl,by omega,by omega⟩,⟨rfl,rfl,rfl⟩,by omega,by rw [e2]; exact l2,?_⟩,rfl,rfl,⟨?_,?_,?_⟩⟩
  .rw [e2]; show _<=500000; omega
  .show (!p==q&&decide (val (List.take (IntKind.i64.wrap ((a.length:Int)+b.length)).toNat (List.drop (Int.toNat 0) (prL a b a.length 0)))≠0))=decide (zv p a*zv q b<0)
   rw [e2,l3]
   exact sgn_eq v0 hz
  .exact lenp
  .show List.take _ (List.drop _ (digs (val (List.take (IntKind.i64.wrap ((a.length:Int)+b.length)).toNat (List.drop (Int.toNat 0) (prL a b a.length 0)))).toNat))=digs (zv p a*zv q b).natAbs
   rw [e2,td,l3,abs_eq v0 hz]
 .cases e
end
end Go.Proofs.YtjcicegihechmaaGreatDoor.K
namespace Go.Dg
open Go Go.Eng
def tkQ (D b:List Int):Int:=IntKind.i64.wrap ((IntKind.i64.wrap (IntKind.i64.wrap ((bif decide (IntKind.i64.wrap (IntKind.i64.wrap ((b.length:Int) - 1)+1)<(D.length:Int)) then D.getD (0+IntKind.i64.wrap (IntKind.i64.wrap ((b.length:Int) - 1)+1)).toNat 0 else 0)*1000000000)+D.getD (0+IntKind.i64.wrap ((b.length:Int) - 1)).toNat 0)).tdiv (IntKind.i64.wrap (b.getD (IntKind.i64.wrap ((b.length:Int) - 1)).toNat 0+1)))
def tkK (D b:List Int):Int:=bif tkQ D b==0 then 1 else tkQ D b
theorem tkQ_eq {D b:List Int} (hD:Dig D) (hb:Dig b) (sb:b.length<=500000) (hne:b≠[]):tkQ D b=estK D b:=by
 have hpos:=List.length_pos_iff.2 hne
 have e1:IntKind.i64.wrap ((b.length:Int) - 1)=b.length - 1:=iw (by omega) (by omega)
 have e2:IntKind.i64.wrap ((b.length:Int) - 1+1)=b.length:=by rw [iw (by omega) (by omega)]; omega
 have g1:=hD.get b.length
 have g2:=hD.get (b.length - 1)
 have g3:=hb.get (b.length - 1)
 have e3:(bif decide ((b.length:Int)<(D.length:Int)) then D.getD (0+(b.length:Int)).toNat 0 else 0)=D.getD b.length 0:=by
  have:=at_eq (a:=D) (i:=(b.length:Int)) (by omega)
  rw [show (0+(b.length:Int))=b.length by omega,this]
  congr 1
 unfold tkQ estK
 rw [e1,e2,e3,show (0+((b.length:Int) - 1)).toNat=b.length - 1 by omega,show ((b.length:Int) - 1).toNat=b.length - 1 by omega]
 have e4:IntKind.i64.wrap (D.getD b.length 0*1000000000)=D.getD b.length 0*1000000000:=iw (by omega) (by omega)
 have e5:IntKind.i64.wrap (D.getD b.length 0*1000000000+D.getD (b.length - 1) 0)=D.getD b.length 0*1000000000+D.getD (b.length - 1) 0:=iw (by omega) (by omega)
 have e6:IntKind.i64.wrap (b.getD (b.length - 1) 0+1)=b.getD (b.length - 1) 0+1:=iw (by omega) (by omega)
 rw [e4,e5,e6]
 have h0:0<=D.getD b.length 0*1000000000+D.getD (b.length - 1) 0:=by omega
 rw [Int.tdiv_eq_ediv_of_nonneg h0]
 have h1:0<=(D.getD b.length 0*1000000000+D.getD (b.length - 1) 0) / (b.getD (b.length - 1) 0+1):=Int.ediv_nonneg h0 (by omega)
 have h2:(D.getD b.length 0*1000000000+D.getD (b.length - 1) 0) / (b.getD (b.length - 1) 0+1)<=D.getD b.length 0*1000000000+D.getD (b.length - 1) 0:=Int.ediv_le_self _ h0
 exact iw (by omega) (by omega)
theorem tkK_spec {D b:List Int} (hD:Dig D) (tD:Top D) (hb:Dig b) (tb:Top b) (sb:b.length<=500000) (hne:b≠[]) (hge:val b<=val D) (hlt:val D<(1000000000:Int)*val b):
  1<=tkK D b/\tkK D b<(1000000000:Int)/\tkK D b*val b<=val D/\b.length<=D.length:=by
 obtain ⟨h1,h2,h3,h4,h5⟩:=est_spec hD hb tD tb hne hge hlt
 unfold tkK
 rw [tkQ_eq hD hb sb hne]
 by_cases h0:estK D b=0
 .rw [h0]
  exact ⟨by decide,by decide,by show 1*val b<=val D; omega,h1⟩
 .have:(estK D b==0)=false:=neb.2 h0
  rw [this,cond_false]
  exact ⟨by omega,h4,h5,h1⟩
def tjI (D b:List Int) (k j c:Int) (d:List Int):Prop:=
 Dig d/\d.length=D.length/\0<=j/\j<=D.length/\-1000000000<=c/\c<=1/\val d+pw j.toNat*c=val D - k*val (b.take j.toNat)
def tjX (b:List Int) (k j c:Int) (d:List Int):Int:=IntKind.i64.wrap (IntKind.i64.wrap (d.getD j.toNat 0 - IntKind.i64.wrap ((bif decide (j<b.length) then b.getD j.toNat 0 else 0)*k))+c)
theorem tjX_eq {D b:List Int} {k j c:Int} {d:List Int} (hb:Dig b) (hk:0<=k/\k<(1000000000:Int)) (h:tjI D b k j c d):tjX b k j c d=d.getD j.toNat 0 - b.getD j.toNat 0*k+c/\-1000000000000000000+999999999<=d.getD j.toNat 0 - b.getD j.toNat 0*k+c/\d.getD j.toNat 0 - b.getD j.toNat 0*k+c<=(1000000000:Int):=by
 obtain ⟨h1,h2,h3,h4,h5,h6,h7⟩:=h
 have g1:=h1.get j.toNat
 have g2:=hb.get j.toNat
 have m0:=Int.mul_nonneg g2.1 hk.1
 have m1:b.getD j.toNat 0*k<=999999999*999999999:=Int.mul_le_mul (by omega) (by omega) hk.1 (by decide)
 unfold tjX
 rw [at_eq h3]
 have e1:IntKind.i64.wrap (b.getD j.toNat 0*k)=b.getD j.toNat 0*k:=iw (by omega) (by omega)
 have e2:IntKind.i64.wrap (d.getD j.toNat 0 - b.getD j.toNat 0*k)=d.getD j.toNat 0 - b.getD j.toNat 0*k:=iw (by omega) (by omega)
 rw [e1,e2]
 exact ⟨iw (by omega) (by omega),by omega,by omega⟩
def tjR (x:Int):Int:=bif decide (x.tmod 1000000000<0) then IntKind.i64.wrap (x.tmod 1000000000+1000000000) else x.tmod 1000000000
def tjC (x:Int):Int:=bif decide (x.tmod 1000000000<0) then IntKind.i64.wrap (IntKind.i64.wrap (x.tdiv 1000000000) - 1) else IntKind.i64.wrap (x.tdiv 1000000000)
theorem tmod_bd (x:Int):-(1000000000:Int)<x.tmod (1000000000:Int)/\x.tmod (1000000000:Int)<(1000000000:Int):=by
 have:=Int.natAbs_tmod x (1000000000:Int)
 have h3:x.natAbs % 1000000000<1000000000:=Nat.mod_lt _ (by decide)
 have h4:(x.tmod (1000000000:Int)).natAbs<1000000000:=by rw [this]; exact h3
 omega
theorem tj_eq {x:Int} (h:-4000000000000000000<=x/\x<=4000000000000000000):tjR x=fr x/\tjC x=fq x:=by
 have h1:=tmod_bd x
 have h2:=Int.mul_tdiv_add_tmod x (1000000000:Int)
 have e:IntKind.i64.wrap (x.tdiv 1000000000)=x.tdiv 1000000000:=iw (by omega) (by omega)
 unfold tjR tjC fr fq
 rw [e]
 by_cases h0:x.tmod 1000000000<0
 .rw [decide_eq_true h0,if_pos h0,if_pos h0,cond_true,cond_true,iw (by omega) (by omega),iw (by omega) (by omega)]
  exact ⟨rfl,rfl⟩
 .rw [decide_eq_false h0,if_neg h0,if_neg h0]
  exact ⟨rfl,rfl⟩
theorem tjI_step {D b:List Int} {k j c:Int} {d:List Int} (hb:Dig b) (hk:0<=k/\k<(1000000000:Int)) (h:tjI D b k j c d) (hj:j<D.length):tjI D b k (j+1) (tjC (tjX b k j c d)) (d.set j.toNat (tjR (tjX b k j c d))):=by
 obtain ⟨x1,x2,x3⟩:=tjX_eq hb hk h
 obtain ⟨h1,h2,h3,h4,h5,h6,h7⟩:=h
 rw [x1]
 obtain ⟨t1,t2⟩:=tj_eq (x:=d.getD j.toNat 0 - b.getD j.toNat 0*k+c) (by omega)
 rw [t1,t2]
 obtain ⟨s1,s2,s3⟩:=f_spec (d.getD j.toNat 0 - b.getD j.toNat 0*k+c)
 refine ⟨h1.set _ ⟨s1,s2⟩,by rw [List.length_set,h2],by omega,by omega,by omega,by omega,?_⟩
 rw [val_set d _ _ (by omega),show (j+1).toNat=j.toNat+1 by omega,val_take_succ' b]
 have e:pw j.toNat*(fr (d.getD j.toNat 0 - b.getD j.toNat 0*k+c)+(1000000000:Int)*fq (d.getD j.toNat 0 - b.getD j.toNat 0*k+c))=pw j.toNat*(d.getD j.toNat 0 - b.getD j.toNat 0*k+c):=by rw [s3]
 generalize fr (d.getD j.toNat 0 - b.getD j.toNat 0*k+c)=R at *
 generalize fq (d.getD j.toNat 0 - b.getD j.toNat 0*k+c)=Q at *
 have e3:pw (j.toNat+1)=(1000000000:Int)*pw j.toNat:=rfl
 rw [e3]
 grind
theorem tjI_end {D b:List Int} {k c:Int} {d:List Int} (hD:Dig D) (hl:b.length<=D.length) (hle:k*val b<=val D) (hk:0<=k*val b) (h:tjI D b k D.length c d):d=padL D.length (val D - k*val b):=by
 obtain ⟨h1,h2,h3,h4,h5,h6,h7⟩:=h
 rw [show ((D.length:Int)).toNat=D.length by omega,List.take_of_length_le hl] at h7
 have q1:=val_nonneg h1
 have q2:=val_lt h1
 rw [h2] at q2
 have q3:=val_lt hD
 have q5:=pw_pos D.length
 have hc:c=0:=by
  rcases (show c=0\/1<=c\/c<=-1 by omega) with h|h|h
  .exact h
  .have:pw D.length*1<=pw D.length*c:=Int.mul_le_mul_of_nonneg_left h (Int.le_of_lt q5)
   omega
  .have:pw D.length*c<=pw D.length*(-1):=Int.mul_le_mul_of_nonneg_left h (Int.le_of_lt q5)
   omega
 subst hc
 exact padL_uni h1 h2 (by rw [<- h7]; simp)
theorem tjI_start {D b:List Int} {k:Int} (hD:Dig D):tjI D b k 0 0 D:=by
 refine ⟨hD,rfl,by omega,by omega,by omega,by omega,?_⟩
 simp [val]
end Go.Dg
namespace Go.Dg
open Go Go.Eng
def paQ (a b:List Int) (i:Int):List Int:=padL a.length (pw (i+1).toNat*(val (a.drop (i+1).toNat) / val b))
def paR (a b:List Int) (i:Int):List Int:=digs (val (a.drop (i+1).toNat) % val b).toNat
def dA (a:List Int) (i:Int):Int:=val (a.drop (i+1).toNat)
theorem dA_step {a:List Int} {i:Int} (h0:0<=i) (h1:i<a.length):dA a (i - 1)=a.getD i.toNat 0+(1000000000:Int)*dA a i:=by
 unfold dA
 rw [show (i - 1+1).toNat=i.toNat by omega,show (i+1).toNat=i.toNat+1 by omega,List.drop_eq_getElem_cons (by omega)]
 rw [List.getD_eq_getElem?_getD,List.getElem?_eq_getElem (by omega)]
 rfl
theorem dA_top (a:List Int):dA a (a.length - 1)=0:=by
 unfold dA
 rw [List.drop_of_length_le (by omega)]; rfl
theorem dA_nn {a:List Int} (h:Dig a) (i:Int):0<=dA a i:=val_nonneg (h.drop _)
theorem dA_le {a:List Int} (h:Dig a) {i:Int} (h0:-1<=i) (h1:i<a.length):pw (i+1).toNat*dA a i<=val a:=by
 have e:val a=val (a.take (i+1).toNat)+pw (a.take (i+1).toNat).length*val (a.drop (i+1).toNat):=by rw [<- val_app,List.take_append_drop]
 rw [List.length_take,Nat.min_eq_left (by omega)] at e
 have:=val_nonneg (h.take (i+1).toNat)
 unfold dA
 omega
theorem padL_get:∀ (n:Nat) (v:Int) (i:Nat),i<n->(padL n v).getD i 0=v / pw i % (1000000000:Int)
 | 0,_,_,h=>by omega
 | n+1,v,0,_=>by simp [padL,pw]
 | n+1,v,i+1,h=>by
  simp only [padL,List.getD_cons_succ]
  rw [padL_get n _ i (by omega),Int.ediv_ediv_of_nonneg (by decide)]
  rfl
def paV (a b:List Int) (i:Int):Int:=a.getD i.toNat 0+(1000000000:Int)*(dA a i % val b)
theorem paV_bd {a b:List Int} (ha:Dig a) (hv:0<val b) (i:Int):0<=paV a b i/\paV a b i<(1000000000:Int)*val b:=by
 have h1:=ha.get i.toNat
 have h2:=Int.emod_nonneg (dA a i) (show val b≠0 by omega)
 have h3:=Int.emod_lt_of_pos (dA a i) hv
 unfold paV
 omega
theorem paV_next {a b:List Int} (hv:0<val b) {i:Int} (h0:0<=i) (h1:i<a.length):dA a (i - 1) % val b=paV a b i % val b/\dA a (i - 1) / val b=(1000000000:Int)*(dA a i / val b)+paV a b i / val b:=by
 have e:dA a (i - 1)=paV a b i+(1000000000:Int)*(dA a i / val b)*val b:=by
  rw [dA_step h0 h1]
  unfold paV
  have:=Int.mul_ediv_add_emod (dA a i) (val b)
  grind
 rw [e]
 constructor
 .rw [Int.add_mul_emod_self_right]
 .rw [Int.add_mul_ediv_right _ _ (by omega)]; omega
theorem paR_next {a b:List Int} (hv:0<val b) {i:Int} (h0:0<=i) (h1:i<a.length):paR a b (i - 1)=digs (paV a b i % val b).toNat:=by
 show digs (dA a (i - 1) % val b).toNat=_
 rw [(paV_next hv h0 h1).1]
theorem paQ_next {a b:List Int} (ha:Dig a) (hv:0<val b) {i:Int} (h0:0<=i) (h1:i<a.length):(paQ a b i).set i.toNat (paV a b i / val b)=paQ a b (i - 1):=by
 have hb:=paV_bd ha hv i
 have hq0:0<=paV a b i / val b:=Int.ediv_nonneg hb.1 (by omega)
 have hq1:paV a b i / val b<(1000000000:Int):=Int.ediv_lt_of_lt_mul hv hb.2
 have hn:=dA_nn ha i
 have hn1:=dA_nn ha (i - 1)
 have hQ:0<=dA a i / val b:=Int.ediv_nonneg hn (by omega)
 have hQ1:0<=dA a (i - 1) / val b:=Int.ediv_nonneg hn1 (by omega)
 have hp:=pw_pos (i+1).toNat
 have hp1:=pw_pos i.toNat
 have b1:pw (i+1).toNat*(dA a i / val b)<pw a.length:=by
  have h2:=dA_le ha (i:=i) (by omega) h1
  have h3:pw (i+1).toNat*(dA a i / val b)<=pw (i+1).toNat*dA a i:=Int.mul_le_mul_of_nonneg_left (Int.ediv_le_self _ hn) (by omega)
  have:=val_lt ha
  omega
 have e2:(i - 1+1).toNat=i.toNat:=by omega
 have b2:pw i.toNat*(dA a (i - 1) / val b)<pw a.length:=by
  have h2:=dA_le ha (i:=i - 1) (by omega) (by omega)
  rw [e2] at h2
  have h3:pw i.toNat*(dA a (i - 1) / val b)<=pw i.toNat*dA a (i - 1):=Int.mul_le_mul_of_nonneg_left (Int.ediv_le_self _ hn1) (by omega)
  have:=val_lt ha
  omega
 show (padL a.length (pw (i+1).toNat*(dA a i / val b))).set i.toNat (paV a b i / val b)=padL a.length (pw (i - 1+1).toNat*(dA a (i - 1) / val b))
 rw [e2]
 refine padL_uni ((padL_dig _ _).set _ ⟨hq0,hq1⟩) (by rw [List.length_set,padL_len]) ?_
 rw [val_set _ _ _ (by rw [padL_len]; omega),padL_val (Int.mul_nonneg (by omega) hQ) b1,padL_get _ _ _ (by omega),(paV_next hv h0 h1).2]
 have e3:pw (i+1).toNat=(1000000000:Int)*pw i.toNat:=by rw [show (i+1).toNat=i.toNat+1 by omega]; rfl
 have e4:pw (i+1).toNat*(dA a i / val b) / pw i.toNat % (1000000000:Int)=0:=by
  rw [e3,show (1000000000:Int)*pw i.toNat*(dA a i / val b)=pw i.toNat*((1000000000:Int)*(dA a i / val b)) by rw [Int.mul_comm (1000000000:Int),Int.mul_assoc],Int.mul_ediv_cancel_left _ (by omega)]
  omega
 rw [e4,e3]
 grind
theorem paQ_top (a b:List Int):List.replicate a.length (0:Int)=paQ a b (a.length - 1):=by
 show _=padL a.length (pw ((a.length:Int) - 1+1).toNat*(dA a (a.length - 1) / val b))
 rw [dA_top,padL_rep]; simp
theorem paQ_end {a b:List Int} (ha:Dig a) (hv:0<val b):(paQ a b (-1)).length=a.length/\Dig (paQ a b (-1))/\val (paQ a b (-1))=val a / val b:=by
 refine ⟨padL_len _ _,padL_dig _ _,?_⟩
 have h:=val_nonneg ha
 have h1:=val_lt ha
 have h2:val a / val b<=val a:=Int.ediv_le_self _ h
 have h3:0<=val a / val b:=Int.ediv_nonneg h (by omega)
 have e:pw ((-1:Int)+1).toNat*(val (a.drop ((-1:Int)+1).toNat) / val b)=val a / val b:=by
  rw [show ((-1:Int)+1).toNat=0 from rfl,List.drop_zero]; simp [pw]
 unfold paQ
 rw [e,padL_val h3 (by omega)]
theorem paR_end (a b:List Int):paR a b (-1)=digs (val a % val b).toNat:=by
 unfold paR
 rw [show ((-1:Int)+1).toNat=0 from rfl,List.drop_zero]
end Go.Dg
namespace Go.Proofs.YtjcicegihechmaaGreatDoor.K
open Go Go.Eng Go.Dg
noncomputable section
def paFr:AFr:=⟨142,none⟩
def paA:Code:=loopOf Tryz.prog 142 0
noncomputable def paS (p q:Bool) (a b:List Int):St:=stAt cL2 300 142 (suArgs p q a b) (leH a b)
def paP (a b:List Int):Option Int->Patch
 | none=>⟨(8,.int true .i64 (a.length - 1)) :: (9,.any false) :: deadT 18 24,[(6,.ints .i64 (paQ a b (a.length - 1)))],[]⟩
 | some i=>⟨(7,.islice true 7 0 (paR a b i).length) :: (8,.int true .i64 i) :: (9,.any false) :: deadT 18 24,[(6,.ints .i64 (paQ a b i))],[.ints .i64 (paR a b i)]⟩
end
end Go.Proofs.YtjcicegihechmaaGreatDoor.K
namespace Go.Proofs.YtjcicegihechmaaGreatDoor.K
open Go Go.Eng Go.Dg
noncomputable section
def tkFr:AFr:=⟨166,none⟩
def tkA:Code:=loopOf Tryz.prog 166 0
def tkB:Code:=loopOf Tryz.prog 166 1
def tkR (x:Int):Option (List Int)->List Int
 | none=>digs (val [x]).toNat
 | some r=>digs (val (List.take ((↑(1:Nat):Int)+(↑r.length:Int)).toNat (List.drop (Int.toNat 0) ([x]++List.take (↑r.length:Int).toNat (List.drop (Int.toNat 0) r))))).toNat
def tkT (id:Nat) (R b:List Int):List AT:=
 [⟨0,.islice true id 0 R.length⟩,⟨0,.lslice 1 b.length⟩,⟨0,.tuple []⟩,⟨0,.tuple []⟩,⟨41,.nilslice⟩,⟨42,.int false .i64 0⟩,⟨43,.int false .i64 0⟩]++blankT 70
def tkS (p q:Bool) (a b:List Int) (i x:Int) (R:List Int):Option (List Int)->St
 | none=>⟨tkT 8 R b,[],⟨[⟨37,.ints .i64 R⟩,⟨30,.cells [.int true .i64 x]⟩,⟨18,.ints .i64 (paQ a b i)⟩,⟨6,.cells [.bool false false,.nilslice]⟩,⟨5,.cells [.bool false false,.nilslice]⟩,⟨4,.cells [.bool true q,.lslice 1 b.length]⟩,⟨3,.cells [.bool true p,.lslice 0 a.length]⟩,⟨0,.rows .i64 b⟩,⟨0,.rows .i64 a⟩],9,44⟩⟩
 | some r=>⟨tkT 10 R b,[],⟨[⟨37,.ints .i64 R⟩,⟨30,.ints .i64 ([x]++List.take (↑r.length:Int).toNat (List.drop (Int.toNat 0) r))⟩,⟨30,.dead⟩,⟨18,.ints .i64 r⟩,⟨18,.ints .i64 (paQ a b i)⟩,⟨6,.cells [.bool false false,.nilslice]⟩,⟨5,.cells [.bool false false,.nilslice]⟩,⟨4,.cells [.bool true q,.lslice 1 b.length]⟩,⟨3,.cells [.bool true p,.lslice 0 a.length]⟩,⟨0,.rows .i64 b⟩,⟨0,.rows .i64 a⟩],11,44⟩⟩
def tkP (w:Bool):Option (Int×Int)->Patch
 | none=>⟨(6,.int true .i64 0) :: deadT 7 68,[],[]⟩
 | some (r,n)=>match w with
  | false=>⟨(0,.islice true 9 0 (digs r.toNat).length) :: (6,.int true .i64 n) :: deadT 7 68,[(8,.dead)],[.ints .i64 (digs r.toNat)]⟩
  | true=>⟨(0,.islice true 11 0 (digs r.toNat).length) :: (6,.int true .i64 n) :: deadT 7 68,[(10,.dead)],[.ints .i64 (digs r.toNat)]⟩
def cTh:Ctx:=hinting cL2 (hintsT [(15,.bool false true)])
theorem cTh_ok:CtxOk cTh:=hinting_ok cL2_ok _
noncomputable def tiS (p q:Bool) (a b:List Int) (i x:Int) (R:List Int) (o:Option (List Int)) (y:Option (Int×Int)):St:=stIn cTh 300 tkFr tkA (patch (tkS p q a b i x R o) (tkP o.isSome y))
def tkId (w:Bool) (y:Option (Int×Int)):Nat:=match w with
 | false=>(match y with|none=>8|some _=>9)
 | true=>(match y with|none=>10|some _=>11)
def tkD (R:List Int):Option (Int×Int)->List Int
 | none=>R
 | some (r,_)=>digs r.toNat
def tjP (id:Nat) (j c:Int) (d:List Int):Patch:=⟨(9,.int true .i64 c) :: (10,.int true .i64 j) :: (11,.any false) :: deadT 40 32,[(id,.ints .i64 d)],[]⟩
def tjF (id:Nat) (d:List Int):Patch:=⟨(9,.any false) :: (10,.any false) :: (11,.any false) :: deadT 40 32,[(id,.ints .i64 d)],[]⟩
def tjX2 (b:List Int) (k j c:Int) (d:List Int):Int:=IntKind.i64.wrap (IntKind.i64.wrap (d.getD (0+j).toNat 0 - IntKind.i64.wrap ((bif decide (j<b.length) then b.getD j.toNat 0 else 0)*k))+c)
def tjU (id:Nat) (D b:List Int):SumL (Int×Int×List Int):=
 {
  S:=fun (j,c,d)=>tjP id j c d
  I:=fun (j,c,d)=>tjI D b (tkK D b) j c d
  μ:=fun (j,_,_)=>(D.length - j).toNat
  F:=fun _=>(.exit 2,tjF id (padL D.length (val D - tkK D b*val b)))
  next:=fun (j,c,d)=>(IntKind.i64.wrap (j+1),tjC (tjX2 b (tkK D b) j c d),d.set (0+j).toNat (tjR (tjX2 b (tkK D b) j c d)))
  ids:=fun _=>[]
  X:=fun (_,_,d) _=>some (tjF id d,[]) }
noncomputable def cTi (p q:Bool) (a b:List Int) (i x:Int) (R:List Int) (o:Option (List Int)) (y:Option (Int×Int)):Ctx:=
 withLoops cTh [oneLoop 166 (tiS p q a b i x R o y).hp.clock tkFr tkB (tiS p q a b i x R o y) (.exit 2) (tjF (tkId o.isSome y) (padL (tkD R y).length (val (tkD R y) - tkK (tkD R y) b*val b)))]
def cTe:Ctx:=hinting cL2 (hintsT [(15,.bool false false)])
theorem cTe_ok:CtxOk cTe:=hinting_ok cL2_ok _
def tkE (R b:List Int) (lt:Bool):Option (Int×Int):=match lt with
 | true=>none
 | false=>some (val R % val b,val R / val b)
def tkU (w lt:Bool) (R b:List Int):SumL (Option (Int×Int)):=
 {
  S:=tkP w
  I:=fun y=>match y with
   | none=>True
   | some (r,n)=>0<=r/\0<=n/\r+n*val b=val R/\lt=false
  μ:=fun y=>match y with
   | none=>(val R).toNat+1
   | some (r,_)=>r.toNat
  F:=fun _=>(.exit 0,tkP w (tkE R b lt))
  next:=fun y=>match y with
   | none=>some (val R - tkK R b*val b,IntKind.i64.wrap (0+tkK R b))
   | some (r,n)=>some (r - tkK (digs r.toNat) b*val b,IntKind.i64.wrap (n+tkK (digs r.toNat) b))
  ids:=fun y=>match w with
   | false=>(match y with|none=>[9]|some _=>[10])
   | true=>(match y with|none=>[11]|some _=>[12])
  X:=fun y _=>some (tkP w y,match w with
   | false=>(match y with|none=>[]|some _=>[9])
   | true=>(match y with|none=>[]|some _=>[11])) }
end
end Go.Proofs.YtjcicegihechmaaGreatDoor.K
