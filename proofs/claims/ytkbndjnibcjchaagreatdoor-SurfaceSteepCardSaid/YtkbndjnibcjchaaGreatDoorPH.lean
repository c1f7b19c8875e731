/- What is proved: a law of conics returns true, whatever the input (part 8). No conditions beyond those of the row. -/
import Derived.Test.YtkbndjnibcjchaaGreatDoorPE
import Derived.Test.YtkbndjnibcjchaaGreatDoorPF
import Derived.Test.YtkbndjnibcjchaaGreatDoorPG
import Derived.Shelf.Small.Bits
import Derived.Shelf.Strconv.Itoa0
import Derived.Shelf.Bits.Mul64
import Derived.Test.YtkbndjnibcjchaaGreatDoorProg
import Derived.Laws.Externs
import Derived.KernelRfl
import Derived.Laws.BitsLemmas
set_option linter.unusedVariables false
set_option linter.unusedSimpArgs false
set_option linter.unusedSectionVars false
/-
 DERIVED: THE SHELF's CONTRACTS AT THIS DUMP, IN PLAIN WORDS (tools/lay-plain.mjs out of 'TryzShelf.lean', which tools/lay-shelf.mjs wrote): THE SAME DECLARATIONS UNDER THE SAME NAMES: 'import', 'namespace', 'open', 'def', 'theorem' AND NOTHING ELSE: no command of the shelf's: FOR A HAND-IN. Each laying: the table of numbers ('.._ren') and one theorem, a field a fact of the dump's own or the kernel's comparison; each contract: ONE APPLICATION.
-/
namespace Go.Proofs
open Go.Shelf
def Tryz.lays134_ren:Go.Shelf.Ren:=⟨fun|134=>136|129=>140|n=>n,fun|53=>158|3=>3|4=>4|46=>185|5=>5|9=>9|n=>n,fun|n=>n⟩
theorem Tryz.lays134:Go.Proofs.Lays.n134 Tryz.prog Tryz.lays134_ren:={
 mixed:=by kernel_rfl
 f129:=Tryz.func140.trans (congrArg some (by kernel_rfl))
 f134:=Tryz.func136.trans (congrArg some (by kernel_rfl))
 t3:=Tryz.underlying3
 a3:=Tryz.isAgg3
 z3:=Tryz.sizeOf3
 v3:=Tryz.zeroValue3
 t4:=Tryz.underlying4
 a4:=Tryz.isAgg4
 z4:=Tryz.sizeOf4
 v4:=Tryz.zeroValue4
 t5:=Tryz.underlying5
 a5:=Tryz.isAgg5
 z5:=Tryz.sizeOf5
 v5:=Tryz.zeroValue5
 t9:=Tryz.underlying9
 a9:=Tryz.isAgg9
 z9:=Tryz.sizeOf9
 v9:=Tryz.zeroValue9
 t46:=Tryz.underlying185
 a46:=Tryz.isAgg185
 z46:=Tryz.sizeOf185
 v46:=Tryz.zeroValue185
 t53:=Tryz.underlying158
 a53:=Tryz.isAgg158
 z53:=Tryz.sizeOf158
 v53:=Tryz.zeroValue158 }
theorem Tryz.bits_LeadingZeros64 (x:Int) (w:World) (h0:0<=x) (h1:x<=18446744073709551615):
  Calls Tryz.prog 136 #[.int .u64 x] w fun e w'=>e=.returned (.int .i64 (64 - (Lib.bitLen x.toNat:Int)))/\w'=w:=Any.bits_LeadingZeros64 Tryz.lays134 x w h0 h1
def Tryz.lays264_ren:Go.Shelf.Ren:=⟨fun|264=>131|n=>n,fun|53=>158|46=>185|n=>n,fun|n=>n⟩
theorem Tryz.lays264:Go.Proofs.Lays.n264 Tryz.prog Tryz.lays264_ren:={
 mixed:=by kernel_rfl
 f264:=Tryz.func131.trans (congrArg some (by kernel_rfl))
 t46:=Tryz.underlying185
 a46:=Tryz.isAgg185
 z46:=Tryz.sizeOf185
 v46:=Tryz.zeroValue185
 t53:=Tryz.underlying158
 a53:=Tryz.isAgg158
 z53:=Tryz.sizeOf158
 v53:=Tryz.zeroValue158 }
open Go.RowKit Go.Lib in
theorem Tryz.bits_Mul64 (x y:Nat) (hx:x<18446744073709551616) (hy:y<18446744073709551616) (w:World):
  Calls Tryz.prog 131 #[.int .u64 x,.int .u64 y] w fun e w'=>e=.returned (.tuple #[.int .u64 ((x*y / 18446744073709551616:Nat):Int),.int .u64 ((x*y % 18446744073709551616:Nat):Int)])/\w'=w:=Any.bits_Mul64 Tryz.lays264 x y hx hy w
end Go.Proofs
namespace Go.Proofs.YtkbndjnibcjchaaGreatDoor.K
open Go Go.Eng
theorem all_names:(Tryz.prog.funcs.toList.all fun fn=>!(fn.name=="runtime.NumGoroutine"))=true:=by kernel_rfl
theorem prog_ok:ProgOk Tryz.prog:=by
 refine ⟨fun f fn h _=>?_,by kernel_rfl⟩
 have h1:fn∈Tryz.prog.funcs.toList:=by
  rw [Array.mem_toList_iff]
  exact Array.mem_of_getElem? h
 have:=List.all_eq_true.1 all_names fn h1
 simpa using this
theorem mkInt_rel {σ:Sg} {s:Bool} {k:IntKind} {n:Int}:VRel σ (mkInt s k n) (.int k n):=by
 cases s with
 | true=>rfl
 | false=>
  unfold mkInt forceInt
  cases n with
  | ofNat m=>cases m <;> rfl
  | negSucc m=>cases m <;> rfl
def asked (s b:Bool) (v:AV):Option (Nd×AV):=
 match s with
 | true=>some (.p (b=true),v)
 | false=>match b with
  | true=>some (.tt,v)
  | false=>none
theorem asked_some {s b:Bool} {v w:AV} {nd:Nd} (e:asked s b v=some (nd,w)) (hn:nd.val):w=v/\b=true:=by
 unfold asked at e
 split at e
 .cases e; exact ⟨rfl,hn⟩
 .split at e
  .cases e; exact ⟨rfl,rfl⟩
  .cases e
def ext (f:FuncId) (args:List AV):Option (Nd×AV):=
 match Nat.beq f 138 with
 | true=>match args with
  | [.int s .u64 x,.int s' .u64 y,.int s'' .u64 c]=>asked (s||s'||s'') (decide (0<=x/\0<=y/\0<=c/\c<=1)) (.tuple [mkInt (s||s'||s'') .u64 ((x+y+c) % 18446744073709551616),mkInt (s||s'||s'') .u64 ((x+y+c) / 18446744073709551616)])
  | _=>none
 | false=>none
theorem add64_run (x y c:Int) (hx:0<=x) (hy:0<=y) (hc0:0<=c) (hc:c<=1) (w:World):
  (callFunc 138 #[.int .u64 x,.int .u64 y,.int .u64 c]).run Tryz.prog w=.ok (.value (.tuple #[.int .u64 ((x+y+c) % 18446744073709551616),.int .u64 ((x+y+c) / 18446744073709551616)])) w:=by
 rw [run_callFunc_extern Tryz.func138 (by kernel_rfl) (by kernel_rfl) (by kernel_rfl) (e:=add64Entry) (by kernel_rfl),run_add64 x y c hx hy hc0 hc]
 rfl
theorem ext_ok:ExtOk Tryz.prog ext:=by
 intro f args nd v e hn σ A W ha
 unfold ext at e
 split at e
 .rename_i hf
  have:=Nat.eq_of_beq_eq_true hf
  subst this
  split at e
  .rename_i s x s' y s'' c
   obtain ⟨rfl,hd⟩:=asked_some e hn
   have hd:=of_decide_eq_true hd
   obtain ⟨V,L,hL,rfl,V2,L2,hL2,rfl,V3,L3,hL3,rfl,hL4⟩:=ha
   rw [hL2,hL3,show L3=[] from hL4] at hL
   have hA:A=#[.int .u64 x,.int .u64 y,.int .u64 c]:=by
    apply Array.toList_inj.1; simpa using hL
   subst hA
   exact ⟨_,⟨_,rfl,_,_,rfl,mkInt_rel,_,_,rfl,mkInt_rel,rfl⟩,add64_run x y c hd.1 hd.2.1 hd.2.2.1 hd.2.2.2 W⟩
  .cases e
 .cases e
def lzSpec:List AV->Option (Nd×AV)
 | [.int s .u64 x]=>some (.p (0<=x/\x<=18446744073709551615),mkInt s .i64 (64 - (Lib.bitLen x.toNat:Int)))
 | _=>none
def two64:Int:=18446744073709551616
def mulSpec:List AV->Option (Nd×AV)
 | [.int s .u64 x,.int s' .u64 y]=>asked (s||s') (decide (0<=x/\x<18446744073709551616/\0<=y/\y<18446744073709551616)) (.tuple [mkInt (s||s') .u64 (x*y / two64),mkInt (s||s') .u64 (x*y % two64)])
 | _=>none
theorem lz_ok:PureOk Tryz.prog 136 lzSpec:=by
 refine pure_calls ⟨_,Tryz.func136,rfl⟩ fun args nd v e hn σ A W ha=>?_
 unfold lzSpec at e
 split at e
 .rename_i s x
  cases e
  have hd:=hn
  obtain ⟨V,L,hL,rfl,hL2⟩:=ha
  rw [show L=[] from hL2] at hL
  have hA:A=#[.int .u64 x]:=by
   apply Array.toList_inj.1; simpa using hL
  subst hA
  exact ⟨_,mkInt_rel,Tryz.bits_LeadingZeros64 x W hd.1 hd.2⟩
 .cases e
theorem mul_ok:PureOk Tryz.prog 131 mulSpec:=by
 refine pure_calls ⟨_,Tryz.func131,rfl⟩ fun args nd v e hn σ A W ha=>?_
 unfold mulSpec at e
 split at e
 .rename_i s x s' y
  obtain ⟨rfl,hd⟩:=asked_some e hn
  obtain ⟨h1,h2,h3,h4⟩:=of_decide_eq_true hd
  obtain ⟨V,L,hL,rfl,V2,L2,hL2,rfl,hL3⟩:=ha
  rw [hL2,show L2=[] from hL3] at hL
  have hA:A=#[.int .u64 x,.int .u64 y]:=by
   apply Array.toList_inj.1; simpa using hL
  subst hA
  refine ⟨.tuple #[.int .u64 (x*y / two64),.int .u64 (x*y % two64)],⟨_,rfl,_,_,rfl,mkInt_rel,_,_,rfl,mkInt_rel,rfl⟩,?_⟩
  have:=Tryz.bits_Mul64 x.toNat y.toNat (by omega) (by omega) W
  rw [Int.toNat_of_nonneg h1,Int.toNat_of_nonneg h3] at this
  have e1:((x.toNat*y.toNat / 18446744073709551616:Nat):Int)=x*y / two64:=by
   rw [Int.natCast_ediv,Int.natCast_mul,Int.toNat_of_nonneg h1,Int.toNat_of_nonneg h3]; rfl
  have e2:((x.toNat*y.toNat % 18446744073709551616:Nat):Int)=x*y % two64:=by
   rw [Int.natCast_emod,Int.natCast_mul,Int.toNat_of_nonneg h1,Int.toNat_of_nonneg h3]; rfl
  rw [e1,e2] at this
  exact this
 .cases e
noncomputable def tbl0:List (FuncId×PSpec):=[(136,lzSpec),(131,mulSpec)]
theorem tbl0_ok:TblOk Tryz.prog tbl0:=by
 intro x hx
 simp only [tbl0,List.mem_cons,List.not_mem_nil,or_false] at hx
 rcases hx with rfl|rfl
 .exact lz_ok
 .exact mul_ok
noncomputable def cD0:Ctx:=mkC Tryz.prog tbl0 noExt
theorem cD0_ok:CtxOk cD0:=mkC_ok prog_ok tbl0_ok (noExt_ok _)
noncomputable def cD:Ctx:={ cD0 with loop:=fun fr a s=>match Nat.beq fr.fn 130 with|true=>unroll (run cD0 60) fr a 3 s|false=>none }
theorem cD_ok:CtxOk cD:=by
 refine ⟨cD0_ok.prog,cD0_ok.con,cD0_ok.ext,fun fr a s q e=>?_,fun _ _ _ _ _ _ _ e=>(by cases e)⟩
 have e:(match Nat.beq fr.fn 130 with|true=>unroll (run cD0 60) fr a 3 s|false=>none)=some q:=e
 split at e
 .exact unroll_ok (run_sound cD0_ok 60) 3 s q e
 .cases e
theorem div_run (hi lo y:Int):oneV ((run cD 100).call 130 [.int true .u64 hi,.int true .u64 lo,.int true .u64 y] ⟨[],0,1⟩)=some (.p (dNeed hi lo y),.tuple [.int true .u64 (dQuo hi lo y),.int true .u64 (dRem hi lo y)]):=by kernel_rfl
def divSpec:List AV->Option (Nd×AV)
 | [.int s .u64 hi,.int s' .u64 lo,.int s'' .u64 y]=>asked (s||s'||s'') (decide (0<=hi/\hi<y/\y<18446744073709551616/\0<=lo/\lo<18446744073709551616))
   (.tuple [mkInt (s||s'||s'') .u64 ((hi*two64+lo) / y),mkInt (s||s'||s'') .u64 ((hi*two64+lo) % y)])
 | _=>none
theorem div_ok:PureOk Tryz.prog 130 divSpec:=by
 refine pure_run (C:=cD) cD_ok (fun _=>rfl) (n:=100) (fun args nd v e hn=>?_) ⟨_,Tryz.func130,rfl⟩
 unfold divSpec at e
 split at e
 .rename_i s hi s' lo s'' y
  obtain ⟨rfl,hb⟩:=asked_some e hn
  obtain ⟨h1,h2,h3,h4,h5⟩:=of_decide_eq_true hb
  refine ⟨[.int true .u64 hi,.int true .u64 lo,.int true .u64 y],_,_,fun σ L h=>h,div_run hi lo y,?_⟩
  obtain ⟨p1,p2,p3⟩:=div_spec hi.toNat lo.toNat y.toNat (by omega) (by omega) (by omega)
  rw [Int.toNat_of_nonneg h1,Int.toNat_of_nonneg h4,Int.toNat_of_nonneg (show 0<=y by omega)] at p1 p2 p3
  refine ⟨p1,fun τ V hV σ=>?_⟩
  obtain ⟨K,rfl,V1,L1,e1,rfl,V2,L2,e2,rfl,e3⟩:=hV
  rw [show L2=[] from e3] at e2
  rw [e2] at e1
  refine ⟨K,rfl,_,_,e1,?_,_,_,rfl,?_,rfl⟩
  .rw [p2]; exact mkInt_rel
  .rw [p3]; exact mkInt_rel
 .cases e
end Go.Proofs.YtkbndjnibcjchaaGreatDoor.K
namespace Go.Ar
open Go
def two64:Int:=18446744073709551616
def okF (a:Int):Bool:=decide (-4503599627370496<=a)&&decide (a<=4503599627370496)
def rd (n d:Int) (up:Bool):Int:=bif up then -(-n / d) else n / d
def fitV (v:Int):Int:=bif okF v then v else 0
def fitE (v:Int):Int:=bif okF v then 0 else 6
def sg (a b:Int):Int:=bif decide (b<0) then -a else a
def okS (a n d:Int):Bool:=okF a&&(decide (-4611686018427387904<=n)&&decide (n<=4611686018427387904)&&decide (1<=d)&&decide (d<=4611686018427387904))
def xC (a:Int):Int:=bif bif decide (a < -4503599627370496) then true else decide (a>4503599627370496) then 2 else 0
def xAll (a b:Int):Int:=bif !(xC a != 0)&&!(xC b != 0) then 0 else bif xC a != 0 then xC a else xC b
def xSz (a:Int):Int:=bif decide (a<0) then IntKind.u64.wrap (IntKind.u64.wrap (IntKind.i64.wrap (0 - IntKind.i64.wrap (a+1)))+1) else IntKind.u64.wrap a
def xHi (p:Int):Int:=p / two64
def xLo (p:Int):Int:=p % two64
def xNo (p d:Int):Bool:=decide (xHi p>=d)
def xN (p d:Int) (up neg:Bool):Int:=bif xNo p d then 0 else
 bif bif !(up==neg) then decide ((xHi p*two64+xLo p) % d>0) else false then IntKind.u64.wrap ((xHi p*two64+xLo p) / d+1) else (xHi p*two64+xLo p) / d
def xBig (p d:Int) (up neg:Bool):Bool:=bif !(bif xNo p d then false else true) then true else decide (xN p d up neg>4503599627370496)
def xV (p d:Int) (up neg:Bool):Int:=bif xBig p d up neg then 0 else bif neg then IntKind.i64.wrap (0 - IntKind.i64.wrap (xN p d up neg)) else IntKind.i64.wrap (xN p d up neg)
def xE (p d:Int) (up neg:Bool):Int:=bif xBig p d up neg then 6 else 0
def xNeg (a b:Int):Bool:=!(decide (a<0)==decide (b<0))
def xIn (a b:Int):Prop:=decide (0<=a/\a<18446744073709551616/\0<=b/\b<18446744073709551616)=true
def xDiv (p d:Int):Prop:=decide (0<=xHi p/\xHi p<d/\d<18446744073709551616/\0<=xLo p/\xLo p<18446744073709551616)=true
theorem i64w {n:Int} (h0:-9223372036854775808<=n) (h1:n<9223372036854775808):IntKind.i64.wrap n=n:=by rw [IntKind.wrap_i64]; omega
theorem u64w {n:Int} (h0:0<=n) (h1:n<18446744073709551616):IntKind.u64.wrap n=n:=by rw [IntKind.wrap_u64]; omega
theorem xSz_eq {a:Int} (h0:-9223372036854775808<=a) (h1:a<9223372036854775808):xSz a=sg a a:=by
 unfold xSz sg
 by_cases h:a<0
 .simp only [h,decide_true,cond_true]
  rw [i64w (n:=a+1) (by omega) (by omega),i64w (n:=0 - (a+1)) (by omega) (by omega),u64w (n:=0 - (a+1)) (by omega) (by omega),u64w (by omega) (by omega)]
  omega
 .simp only [h,decide_false,cond_false]
  rw [u64w (by omega) (by omega)]
theorem sg_nonneg (a:Int):0<=sg a a:=by
 unfold sg
 by_cases h:a<0
 .simp only [h,decide_true,cond_true]; omega
 .simp only [h,decide_false,cond_false]; omega
theorem okF_iff {a:Int}:okF a=true ↔ -4503599627370496<=a/\a<=4503599627370496:=by simp [okF]
theorem okF_false {a:Int}:okF a=false ↔ a < -4503599627370496\/4503599627370496<a:=by
 rw [<- Bool.not_eq_true,okF_iff]; omega
theorem xC_eq (a:Int):xC a=bif okF a then 0 else 2:=by
 unfold xC
 cases h:okF a with
 | true=>
  have:=okF_iff.1 h
  simp [show ¬ a < -4503599627370496 by omega,show ¬ a>4503599627370496 by omega]
 | false=>
  rcases okF_false.1 h with h|h
  .simp [h]
  .simp [show ¬ a < -4503599627370496 by omega,h]
theorem xAll_eq (a b:Int):xAll a b=bif okF a&&okF b then 0 else 2:=by
 unfold xAll
 rw [xC_eq,xC_eq]
 cases okF a <;> cases okF b <;> rfl
theorem neg_div {p d:Int} (hd:0<d):-p / d=-(p / d) - (if 0<p % d then 1 else 0):=by
 have h1:=Int.mul_ediv_add_emod p d
 have h2:=Int.emod_nonneg p (show d≠0 by omega)
 have h3:=Int.emod_lt_of_pos p hd
 split
 .have h4:(-p) / d=-(p / d) - 1/\(-p) % d=d - p % d:=by
   rw [Int.ediv_emod_unique hd]
   refine ⟨?_,by omega,by omega⟩
   rw [Int.mul_sub,Int.mul_neg]
   omega
  exact h4.1
 .have:p % d=0:=by omega
  have h4:(-p) / d=-(p / d)/\(-p) % d=0:=by
   rw [Int.ediv_emod_unique hd]
   refine ⟨?_,by omega,by omega⟩
   rw [Int.mul_neg]
   omega
  omega
theorem xN_eq {p d:Int} (hp:0<=p) (hp':p<340282366920938463463374607431768211456) (hd:0<d) (hd':d<18446744073709551616) (up neg:Bool) (n:Int) (hn:n=bif neg then -p else p) (hx:p<18446744073709551615*d\/(!(up==neg))=false):
  xV p d up neg=fitV (rd n d up)/\xE p d up neg=fitE (rd n d up)/\(xNo p d=false->xDiv p d):=by
 have e1:xHi p*two64+xLo p=p:=by unfold xHi xLo; have:=Int.mul_ediv_add_emod p two64; rw [Int.mul_comm] at this; exact this
 have l0:0<=xLo p:=Int.emod_nonneg p (by decide)
 have l1:xLo p<18446744073709551616:=Int.emod_lt_of_pos p (by decide)
 have h0:0<=xHi p:=Int.ediv_nonneg hp (by decide)
 have q0:0<=p / d:=Int.ediv_nonneg hp (by omega)
 have r0:=Int.emod_nonneg p (show d≠0 by omega)
 have rv:rd n d up=bif neg then -(p / d+(if (!(up==neg))=true/\0<p % d then 1 else 0)) else p / d+(if (!(up==neg))=true/\0<p % d then 1 else 0):=by
  subst hn
  unfold rd
  cases neg <;> cases up <;> simp [neg_div hd] <;> split <;> omega
 by_cases hno:xHi p>=d
 .-- the quotient does not fit
  have e2:xNo p d=true:=by simp [xNo,hno]
  have big:18446744073709551616<=p / d:=by
   rw [Int.le_ediv_iff_mul_le hd]
   have h2:d*two64<=xHi p*two64:=Int.mul_le_mul_of_nonneg_right hno (by decide)
   have h3:(18446744073709551616:Int)*d=d*two64:=by rw [Int.mul_comm]; rfl
   omega
  have hb:xBig p d up neg=true:=by simp [xBig,e2]
  have hf:okF (rd n d up)=false:=by
   rw [okF_false,rv]
   cases neg <;> simp <;> split <;> omega
  refine ⟨by simp [xV,hb,fitV,hf],by simp [xE,hb,fitE,hf],fun h=>by rw [e2] at h; cases h⟩
 .have e2:xNo p d=false:=by simp [xNo]; omega
  have hlt:p<d*18446744073709551616:=by
   have h2:(xHi p+1)*two64<=d*two64:=Int.mul_le_mul_of_nonneg_right (by omega) (by decide)
   rw [Int.add_mul] at h2
   unfold two64 at *
   omega
  have q1:p / d<18446744073709551616:=by
   rw [Int.ediv_lt_iff_lt_mul hd]
   rw [Int.mul_comm]; exact hlt
  have ex:xV p d up neg=fitV (rd n d up)/\xE p d up neg=fitE (rd n d up):=by
   have hN:xN p d up neg=p / d+(if (!(up==neg))=true/\0<p % d then 1 else 0):=by
    unfold xN
    rw [e2,e1]
    cases hu:!(up==neg) with
    | false=>simp
    | true=>
     by_cases hr:0<p % d
     .simp only [cond_true,cond_false,hr,decide_true,gt_iff_lt,and_self,if_true]
      rw [u64w (by omega)]
      have:p / d≠18446744073709551615:=by
       intro hq
       have h5:p / d*d<=p:=Int.ediv_mul_le p (by omega)
       rw [hq] at h5
       rcases hx with hx|hx
       .omega
       .rw [hu] at hx; cases hx
      omega
     .simp [hr]
   generalize hk:p / d+(if (!(up==neg))=true/\0<p % d then 1 else 0)=k at hN rv
   have k0:0<=k:=by rw [<- hk]; split <;> omega
   unfold xV xE xBig
   rw [e2,hN,rv]
   by_cases hb:k>4503599627370496
   .have hf:okF (bif neg then -k else k)=false:=by
     rw [okF_false]
     cases neg <;> simp <;> omega
    simp [hb,fitV,fitE,hf]
   .have hf:okF (bif neg then -k else k)=true:=by
     rw [okF_iff]
     cases neg <;> simp <;> omega
    simp only [hb,decide_false,cond_true,cond_false,Bool.not_true,fitV,fitE,hf]
    refine ⟨?_,trivial⟩
    rw [i64w (n:=k) (by omega) (by omega),i64w (n:=0 - k) (by omega) (by omega)]
    cases neg <;> simp
  refine ⟨ex.1,ex.2,fun _=>?_⟩
  unfold xDiv
  rw [decide_eq_true_eq]
  exact ⟨h0,by omega,hd',l0,l1⟩
theorem xE_far {p d:Int} (hp:0<=p) (hd:0<d) (hd':d<18446744073709551616) (neg:Bool) (n:Int) (hn:n=bif neg then -p else p) (hx:18446744073709551615*d<=p):
  xE p d neg neg=6/\(∀ up,fitE (rd n d up)=6)/\(xNo p d=false->xDiv p d):=by
 have e1:xHi p*two64+xLo p=p:=by unfold xHi xLo; have:=Int.mul_ediv_add_emod p two64; rw [Int.mul_comm] at this; exact this
 have l0:0<=xLo p:=Int.emod_nonneg p (by decide)
 have l1:xLo p<18446744073709551616:=Int.emod_lt_of_pos p (by decide)
 have h0:0<=xHi p:=Int.ediv_nonneg hp (by decide)
 have q0:18446744073709551615<=p / d:=by rw [Int.le_ediv_iff_mul_le hd]; exact hx
 refine ⟨?_,fun up=>?_,fun h=>?_⟩
 .unfold xE xBig xN
  cases h:xNo p d with
  | true=>simp
  | false=>
   rw [e1]
   simp only [beq_self_eq_true,Bool.not_true,Bool.not_false,cond_true,cond_false]
   rw [decide_eq_true (by omega)]; rfl
 .have hf:okF (rd n d up)=false:=by
   rw [okF_false]
   subst hn
   unfold rd
   cases neg <;> cases up <;> simp [neg_div hd] <;> (try split) <;> omega
  simp [fitE,hf]
 .unfold xDiv
  rw [decide_eq_true_eq]
  refine ⟨h0,?_,hd',l0,l1⟩
  simp [xNo] at h
  omega
def xMulV (a b:Int) (up:Bool):Int:=bif xAll a b != 0 then 0 else xV (xSz a*xSz b) 4294967296 up (xNeg a b)
def xMulE (a b:Int) (up:Bool):Int:=bif xAll a b != 0 then xAll a b else xE (xSz a*xSz b) 4294967296 up (xNeg a b)
def xMulN (a b:Int):Prop:=(!(xAll a b != 0))=true->b=b/\xIn (xSz a) (xSz b)/\((!xNo (xSz a*xSz b) 4294967296)=true->xDiv (xSz a*xSz b) 4294967296)
def xDivV (a b:Int) (up:Bool):Int:=bif xAll a b != 0 then 0 else bif b==0 then 0 else xV (xSz a*4294967296) (xSz b) up (xNeg a b)
def xDivE (a b:Int) (up:Bool):Int:=bif xAll a b != 0 then xAll a b else bif b==0 then 7 else xE (xSz a*4294967296) (xSz b) up (xNeg a b)
def xDivN (a b:Int):Prop:=(!(xAll a b != 0))=true->(!(b==0))=true->b=b/\xIn (xSz a) 4294967296/\b=b/\((!xNo (xSz a*4294967296) (xSz b))=true->xDiv (xSz a*4294967296) (xSz b))
def xOkS (a n d:Int):Bool:=bif xC a != 0 then true else bif decide (n < -4611686018427387904) then true else bif decide (n>4611686018427387904) then true else bif decide (d<1) then true else decide (d>4611686018427387904)
def xScV (a n d:Int) (up:Bool):Int:=bif xOkS a n d then 0 else xV (xSz a*xSz n) (IntKind.u64.wrap d) up (xNeg a n)
def xScE (a n d:Int) (up:Bool):Int:=bif xOkS a n d then 2 else xE (xSz a*xSz n) (IntKind.u64.wrap d) up (xNeg a n)
def xScN (a n d:Int):Prop:=(!xOkS a n d)=true->(d=d/\n=n)/\d=d/\xIn (xSz a) (xSz n)/\d=d/\((!xNo (xSz a*xSz n) (IntKind.u64.wrap d))=true->xDiv (xSz a*xSz n) (IntKind.u64.wrap d))
theorem sg_cases (a:Int):(a<0/\sg a a=-a)\/(0<=a/\sg a a=a):=by
 unfold sg
 by_cases h:a<0
 .left; simp [h]
 .right; simp [h]; omega
theorem xNeg_mul (a b:Int):a*b=bif xNeg a b then -(sg a a*sg b b) else sg a a*sg b b:=by
 unfold xNeg sg
 by_cases h:a<0 <;> by_cases k:b<0 <;> simp [h,k,Int.neg_mul,Int.mul_neg]
theorem xDiv_all {p d:Int} (hp:0<=p) (hd':d<18446744073709551616) (h:xNo p d=false):xDiv p d:=by
 unfold xDiv
 rw [decide_eq_true_eq]
 simp [xNo] at h
 exact ⟨Int.ediv_nonneg hp (by decide),by omega,hd',Int.emod_nonneg p (by decide),Int.emod_lt_of_pos p (by decide)⟩
theorem xAll_ok {a b:Int} (h:(!(xAll a b != 0))=true):okF a=true/\okF b=true:=by
 rw [xAll_eq] at h
 cases ha:okF a <;> cases hb:okF b <;> simp [ha,hb] at h ⊢
theorem xIn_of {a b:Int} (ha:0<=a) (ha':a<18446744073709551616) (hb:0<=b) (hb':b<18446744073709551616):xIn a b:=by
 unfold xIn; rw [decide_eq_true_eq]; exact ⟨ha,ha',hb,hb'⟩
theorem sz_of {a:Int} (h:okF a=true):xSz a=sg a a/\0<=sg a a/\sg a a<=4503599627370496:=by
 have h:=okF_iff.1 h
 refine ⟨xSz_eq (by omega) (by omega),sg_nonneg a,?_⟩
 rcases sg_cases a with ⟨_,e⟩|⟨_,e⟩ <;> omega
theorem xMul_need (a b:Int):xMulN a b:=by
 intro h
 obtain ⟨ha,hb⟩:=xAll_ok h
 obtain ⟨a1,a2,a3⟩:=sz_of ha
 obtain ⟨b1,b2,b3⟩:=sz_of hb
 rw [a1,b1]
 refine ⟨rfl,xIn_of a2 (by omega) b2 (by omega),fun hn=>?_⟩
 exact xDiv_all (Int.mul_nonneg a2 b2) (by decide) (by simpa using hn)
theorem xDiv_need (a b:Int):xDivN a b:=by
 intro h h0
 obtain ⟨ha,hb⟩:=xAll_ok h
 obtain ⟨a1,a2,a3⟩:=sz_of ha
 obtain ⟨b1,b2,b3⟩:=sz_of hb
 rw [a1,b1]
 refine ⟨rfl,xIn_of a2 (by omega) (by omega) (by omega),rfl,fun hn=>?_⟩
 exact xDiv_all (by omega) (by omega) (by simpa using hn)
theorem xOkS_eq (a n d:Int):xOkS a n d=!okS a n d:=by
 unfold xOkS okS
 rw [xC_eq]
 rw [Bool.eq_iff_iff]
 cases okF a with
 | false=>simp
 | true=>
  simp only [cond_true,bne_self_eq_false,cond_false,Bool.true_and,Bool.not_eq_true',Bool.and_eq_false_iff,decide_eq_false_iff_not]
  by_cases h1:n < -4611686018427387904
  .simp [h1]
  .by_cases h2:n>4611686018427387904
   .simp [h1,h2]
   .by_cases h3:d<1
    .simp [h1,h2,h3]
    .simp [h1,h2,h3] <;> omega
theorem xSc_need (a n d:Int):xScN a n d:=by
 intro h
 rw [xOkS_eq,Bool.not_not] at h
 simp only [okS,Bool.and_eq_true,decide_eq_true_eq] at h
 obtain ⟨ha,⟨⟨n1,n2⟩,d1⟩,d2⟩:=h
 obtain ⟨a1,a2,a3⟩:=sz_of ha
 have e1:xSz n=sg n n:=xSz_eq (by omega) (by omega)
 have e2:=sg_cases n
 rw [a1,e1,u64w (n:=d) (by omega) (by omega)]
 refine ⟨⟨rfl,rfl⟩,rfl,xIn_of a2 (by omega) (by omega) (by omega),rfl,fun hn=>?_⟩
 exact xDiv_all (Int.mul_nonneg a2 (by omega)) (by omega) (by simpa using hn)
theorem pair_law {p d:Int} (hp:0<=p) (hp':p<340282366920938463463374607431768211456) (hd:0<d) (hd':d<18446744073709551616) (neg:Bool) (n:Int) (hn:n=bif neg then -p else p):
  ((xE p d false neg=0/\xE p d true neg=0) ↔ (fitE (rd n d false)=0/\fitE (rd n d true)=0)) /\
  (fitE (rd n d false)=0->fitE (rd n d true)=0->xV p d false neg=rd n d false/\xV p d true neg=rd n d true):=by
 by_cases hx:p<18446744073709551615*d
 .obtain ⟨f1,f2,_⟩:=xN_eq hp hp' hd hd' false neg n hn (.inl hx)
  obtain ⟨t1,t2,_⟩:=xN_eq hp hp' hd hd' true neg n hn (.inl hx)
  rw [f2,t2,f1,t1]
  refine ⟨Iff.rfl,fun h1 h2=>?_⟩
  unfold fitE at h1 h2
  unfold fitV
  cases e1:okF (rd n d false) <;> cases e2:okF (rd n d true) <;> simp_all
 .obtain ⟨h1,h2,_⟩:=xE_far hp hd hd' neg n hn (by omega)
  refine ⟨⟨fun ⟨h3,h4⟩=>?_,fun ⟨h3,_⟩=>?_⟩,fun h3=>?_⟩
  .cases neg <;> omega
  .rw [h2] at h3; omega
  .rw [h2] at h3; omega
theorem fitE_cases (v:Int):(fitE v=0/\okF v=true/\fitV v=v)\/(fitE v=6/\okF v=false/\fitV v=0):=by
 unfold fitE fitV
 cases okF v <;> simp
def sqQ (i r:Int):Int:=IntKind.u64.wrap ↑(BitVec.ofInt IntKind.u64.bits r ||| BitVec.ofInt IntKind.u64.bits (IntKind.u64.wrap (1*2 ^ min (IntKind.i64.wrap (42 - i)).toNat IntKind.u64.bits))).toNat
def sqLe (H L t:Int):Bool:=bif decide (xHi (t*t)<H) then true else bif xHi (t*t)==H then decide (xLo (t*t)<=L) else false
def sqStep (H L i r:Int):Int:=bif sqLe H L (sqQ i r) then sqQ i r else r
def sqFin (H L:Int):Nat->Int->Int->Int
 | 0,_,r=>r
 | n+1,i,r=>sqFin H L n (IntKind.i64.wrap (i+1)) (sqStep H L i r)
theorem u64_range (n:Int):0<=IntKind.u64.wrap n/\IntKind.u64.wrap n<18446744073709551616:=by
 rw [IntKind.wrap_u64]; omega
end Go.Ar
namespace Go.Proofs.YtkbndjnibcjchaaGreatDoor.K
open Go Go.Eng Go.Ar
noncomputable def tbl1:List (FuncId×PSpec):=[(131,mulSpec),(130,divSpec)]
theorem tbl1_ok:TblOk Tryz.prog tbl1:=by
 intro x hx
 simp only [tbl1,List.mem_cons,List.not_mem_nil,or_false] at hx
 rcases hx with rfl|rfl
 .exact mul_ok
 .exact div_ok
noncomputable def c1:Ctx:=mkC Tryz.prog tbl1 ext
theorem c1_ok:CtxOk c1:=mkC_ok prog_ok tbl1_ok ext_ok
theorem mulDown_run (a b:Int):oneV ((run c1 300).call 78 [.int true .i64 a,.int true .i64 b] ⟨[],0,1⟩)=some (.p (xMulN a b),.tuple [.int true .i64 (xMulV a b false),.int true .i64 (xMulE a b false)]):=by kernel_rfl
theorem mulUp_run (a b:Int):oneV ((run c1 300).call 79 [.int true .i64 a,.int true .i64 b] ⟨[],0,1⟩)=some (.p (xMulN a b),.tuple [.int true .i64 (xMulV a b true),.int true .i64 (xMulE a b true)]):=by kernel_rfl
theorem divDown_run (a b:Int):oneV ((run c1 300).call 91 [.int true .i64 a,.int true .i64 b] ⟨[],0,1⟩)=some (.p (xDivN a b),.tuple [.int true .i64 (xDivV a b false),.int true .i64 (xDivE a b false)]):=by kernel_rfl
theorem divUp_run (a b:Int):oneV ((run c1 300).call 92 [.int true .i64 a,.int true .i64 b] ⟨[],0,1⟩)=some (.p (xDivN a b),.tuple [.int true .i64 (xDivV a b true),.int true .i64 (xDivE a b true)]):=by kernel_rfl
theorem scaleDown_run (a n d:Int):oneV ((run c1 300).call 106 [.int true .i64 a,.int true .i64 n,.int true .i64 d] ⟨[],0,1⟩)=some (.p (xScN a n d),.tuple [.int true .i64 (xScV a n d false),.int true .i64 (xScE a n d false)]):=by kernel_rfl
theorem scaleUp_run (a n d:Int):oneV ((run c1 300).call 107 [.int true .i64 a,.int true .i64 n,.int true .i64 d] ⟨[],0,1⟩)=some (.p (xScN a n d),.tuple [.int true .i64 (xScV a n d true),.int true .i64 (xScE a n d true)]):=by kernel_rfl
end Go.Proofs.YtkbndjnibcjchaaGreatDoor.K
namespace Go.Proofs.YtkbndjnibcjchaaGreatDoor.K
open Go Go.Eng Go.Ar
noncomputable section
def sqS (up:Bool) (H L:Int):St:=⟨[⟨0,.bool false up⟩,⟨0,.ptr 0 0⟩,⟨0,.tuple []⟩,⟨61,.int false .u64 0⟩,⟨62,.bool false false⟩,⟨63,.int false .u64 0⟩,⟨0,.tuple []⟩,⟨0,.tuple []⟩,⟨64,.int false .i64 0⟩,
 ⟨0,.tuple []⟩,⟨0,.tuple []⟩,⟨0,.tuple []⟩,⟨0,.tuple []⟩,⟨0,.tuple []⟩,⟨0,.tuple []⟩,⟨0,.tuple []⟩,⟨0,.tuple []⟩,⟨0,.tuple []⟩,⟨0,.tuple []⟩,⟨0,.tuple []⟩,⟨0,.tuple []⟩,⟨0,.tuple []⟩,⟨0,.tuple []⟩,⟨0,.tuple []⟩,⟨0,.tuple []⟩,⟨0,.tuple []⟩,⟨0,.tuple []⟩,⟨0,.tuple []⟩,⟨0,.tuple []⟩,⟨0,.tuple []⟩,⟨0,.tuple []⟩,⟨0,.tuple []⟩,⟨0,.tuple []⟩,⟨0,.tuple []⟩],[],
 ⟨[⟨48,.cells [.int true .u64 H,.int true .u64 L]⟩],1,65⟩⟩
def sqP (i r:Int):Patch:=⟨[(5,.int true .u64 r),(8,.int true .i64 i),(6,.any false),(7,.any false),(9,.any false),(10,.any false),(11,.any false),(12,.any false),(13,.any false),(14,.any false),(15,.any false),(16,.any false),(17,.any false),(18,.any false),(19,.any false),(20,.any false),(21,.any false),(22,.any false)],[],[]⟩
def sqO (r:Int):Patch:=⟨[(5,.int true .u64 r),(8,.any false),(6,.any false),(7,.any false),(9,.any false),(10,.any false),(11,.any false),(12,.any false),(13,.any false),(14,.any false),(15,.any false),(16,.any false),(17,.any false),(18,.any false),(19,.any false),(20,.any false),(21,.any false),(22,.any false)],[],[]⟩
def sqFr:AFr:=⟨127,none⟩
noncomputable def sqA:Code:=loopOf Tryz.prog 127 0
def sqU (H L:Int):Sum (Int×Int):=
 {
  S:=fun y=>sqP y.1 y.2
  I:=fun y=>0<=y.1/\y.1<=43
  μ:=fun y=>(43 - y.1).toNat
  F:=fun y=>(.exit 0,sqO (sqFin H L (43 - y.1).toNat y.1 y.2))
  next:=fun y=>(IntKind.i64.wrap (y.1+1),sqStep H L y.1 y.2)
  ids:=[]
  X:=fun y _=>some (sqO y.2,[]) }
def sqNd (H L i r:Int):Prop:=
 (decide (i<43)=true->0<=IntKind.i64.wrap (42 - i)/\xIn (sqQ i r) (sqQ i r)/\H=H/\L=L) /\
 ((!decide (i<43))=true->r=r/\(sqU H L).F (i,r)=(.exit 0,sqO r)) /\
 (decide (i<43)=true->(sqStep H L i r=sqStep H L i r/\IntKind.i64.wrap (i+1)=IntKind.i64.wrap (i+1)) /\
  (sqU H L).I ((sqU H L).next (i,r))/\(sqU H L).μ ((sqU H L).next (i,r))<(sqU H L).μ (i,r)/\(sqU H L).F ((sqU H L).next (i,r))=(sqU H L).F (i,r))
theorem sq_run (up:Bool) (H L i r:Int):chkR (sqS up H L) ((sqU H L).way (i,r)) ((run c1 300).code sqFr sqA (patch (sqS up H L) ((sqU H L).S (i,r))))=some (.p (sqNd H L i r)):=by kernel_rfl
end
end Go.Proofs.YtkbndjnibcjchaaGreatDoor.K
namespace Go.Ar
open Go
theorem sqQ_eq (i k:Nat) (hi:i<=42) (hr:2 ^ (43 - i)*k<2 ^ 43):sqQ (i:Int) ((2 ^ (43 - i)*k:Nat):Int)=((2 ^ (43 - i)*k+2 ^ (42 - i):Nat):Int):=by
 have e1:IntKind.i64.wrap (42 - (i:Int))=((42 - i:Nat):Int):=by rw [i64w (by omega) (by omega)]; omega
 have e2:min (((42 - i:Nat):Int)).toNat IntKind.u64.bits=42 - i:=by
  rw [Int.toNat_natCast]; exact Nat.min_eq_left (Nat.le_trans (Nat.sub_le _ _) (by decide))
 have p1:2 ^ (42 - i)<=2 ^ 42:=Nat.pow_le_pow_right (by decide) (by omega)
 have e3:IntKind.u64.wrap (1*2 ^ (42 - i))=((2 ^ (42 - i):Nat):Int):=by
  rw [Int.one_mul,show (2:Int) ^ (42 - i)=((2 ^ (42 - i):Nat):Int) from (Int.natCast_pow 2 _).symm]
  generalize 2 ^ (42 - i)=P at p1
  exact u64w (by omega) (by omega)
 unfold sqQ
 rw [e1,e2,e3]
 rw [Go.Eng.dOr_eq _ _ (by omega) (by omega)]
 congr 1
 rw [<- Nat.two_pow_add_eq_or_of_lt (Nat.pow_lt_pow_right (by decide) (by omega)) k]
theorem lex_iff (t n:Nat) (ht:t<18446744073709551616):sqLe (xHi (n:Int)) (xLo (n:Int)) (t:Int)=decide (t*t<=n):=by
 unfold sqLe xHi xLo two64
 have e1:((t:Int)*t) / 18446744073709551616=((t*t / 18446744073709551616:Nat):Int):=by rw [Int.natCast_ediv,Int.natCast_mul]; rfl
 have e2:((t:Int)*t) % 18446744073709551616=((t*t % 18446744073709551616:Nat):Int):=by rw [Int.natCast_emod,Int.natCast_mul]; rfl
 have e3:(n:Int) / 18446744073709551616=((n / 18446744073709551616:Nat):Int):=by rw [Int.natCast_ediv]; rfl
 have e4:(n:Int) % 18446744073709551616=((n % 18446744073709551616:Nat):Int):=by rw [Int.natCast_emod]; rfl
 rw [e1,e2,e3,e4]
 generalize t*t=m
 rw [Bool.eq_iff_iff]
 by_cases h1:m / 18446744073709551616<n / 18446744073709551616
 .have:((m / 18446744073709551616:Nat):Int)<((n / 18446744073709551616:Nat):Int):=by omega
  simp only [this,decide_true,cond_true,true_iff,decide_eq_true_eq]
  omega
 .have:¬ ((m / 18446744073709551616:Nat):Int)<((n / 18446744073709551616:Nat):Int):=by omega
  simp only [this,decide_false,cond_false,decide_eq_true_eq]
  by_cases h2:m / 18446744073709551616=n / 18446744073709551616
  .rw [h2]
   simp only [beq_self_eq_true,cond_true,decide_eq_true_eq]
   omega
  .have:(((m / 18446744073709551616:Nat):Int)==((n / 18446744073709551616:Nat):Int))=false:=by
    rw [beq_eq_false_iff_ne]; omega
   rw [this]
   simp only [cond_false,Bool.false_eq_true,false_iff]
   omega
theorem sqFin_spec (n:Nat):∀ (m i k:Nat),i+m=43->2 ^ (43 - i)*k<2 ^ 43->(2 ^ (43 - i)*k)*(2 ^ (43 - i)*k)<=n->n<(2 ^ (43 - i)*k+2 ^ (43 - i))*(2 ^ (43 - i)*k+2 ^ (43 - i)) ->
  ∃ r:Nat,sqFin (xHi (n:Int)) (xLo (n:Int)) m (i:Int) ((2 ^ (43 - i)*k:Nat):Int)=(r:Int)/\r*r<=n/\n<(r+1)*(r+1)/\r<2 ^ 43
 | 0,i,k,hi,h1,h2,h3=>by
  have:i=43:=by omega
  subst this
  exact ⟨2 ^ (43 - 43)*k,rfl,h2,h3,h1⟩
 | m+1,i,k,hi,h1,h2,h3=>by
  have p:2 ^ (43 - i)=2*2 ^ (43 - (i+1)):=by
   rw [show 43 - i=(43 - (i+1))+1 by omega,Nat.pow_succ]; omega
  have e1:IntKind.i64.wrap ((i:Int)+1)=((i+1:Nat):Int):=by rw [i64w (by omega) (by omega)]; omega
  have e2:=sqQ_eq i k (by omega) h1
  rw [show 42 - i=43 - (i+1) by omega] at e2
  simp only [sqFin]
  rw [e1]
  unfold sqStep
  rw [e2]
  generalize hq:2 ^ (43 - (i+1))=q at *
  have hq1:1<=q:=by rw [<- hq]; exact Nat.one_le_two_pow
  have hb:2 ^ (43 - i)*k+q<2 ^ 43:=by
   rw [p]
   have h4:2 ^ (43 - i)*(2 ^ i)=2 ^ 43:=by rw [<- Nat.pow_add]; congr 1; omega
   rw [p] at h4
   have:k<2 ^ i:=by
    rw [p,<- h4] at h1
    exact Nat.lt_of_mul_lt_mul_left h1
   have h5:2*q*(k+1)<=2*q*2 ^ i:=Nat.mul_le_mul_left _ this
   rw [h4,Nat.mul_add] at h5
   omega
  rw [lex_iff _ n (by omega)]
  by_cases h:(2 ^ (43 - i)*k+q)*(2 ^ (43 - i)*k+q)<=n
  .rw [decide_eq_true h,cond_true]
   have hk:2 ^ (43 - i)*k+q=q*(2*k+1):=by rw [p,Nat.mul_add,Nat.mul_one,<- Nat.mul_assoc,Nat.mul_comm q 2]
   have hs:q*(2*k+1)+q=2 ^ (43 - i)*k+2 ^ (43 - i):=by rw [<- hk,p]; omega
   rw [hk] at h hb ⊢
   have:=sqFin_spec n m (i+1) (2*k+1) (by omega) (by rw [hq]; exact hb) (by rw [hq]; exact h) (by rw [hq,hs]; exact h3)
   rw [hq] at this
   exact this
  .rw [decide_eq_false h,cond_false]
   have hk:2 ^ (43 - i)*k=q*(2*k):=by rw [p,<- Nat.mul_assoc,Nat.mul_comm q 2]
   rw [hk] at h h1 h2 ⊢
   have:=sqFin_spec n m (i+1) (2*k) (by omega) (by rw [hq]; exact h1) (by rw [hq]; exact h2) (by rw [hq]; omega)
   rw [hq] at this
   exact this
theorem sq_spec (a:Nat) (ha:a<=4503599627370496):∃ r:Nat,sqFin (xHi (IntKind.u64.wrap a*4294967296)) (xLo (IntKind.u64.wrap a*4294967296)) 43 0 0=(r:Int)/\r*r<=a*4294967296/\a*4294967296<(r+1)*(r+1)/\r<2 ^ 43:=by
 rw [u64w (n:=(a:Int)) (by omega) (by omega)]
 have:=sqFin_spec (a*4294967296) 43 0 0 rfl (by decide) (by omega) (by simp; omega)
 simpa using this
def sqP2 (a:Int):Int:=IntKind.u64.wrap a*4294967296
def sqR (a:Int):Int:=sqFin (xHi (sqP2 a)) (xLo (sqP2 a)) 43 0 0
def sqBad (a:Int):Bool:=bif xC a != 0 then true else decide (a<0)
def sqUp (a:Int):Int:=bif !(sqR a*sqR a / two64==xHi (sqP2 a)&&(sqR a*sqR a % two64==xLo (sqP2 a)&&true)) then IntKind.u64.wrap (sqR a+1) else sqR a
def xSqV (a:Int) (up:Bool):Int:=bif sqBad a then 0 else bif decide ((bif up then sqUp a else sqR a)>4503599627370496) then 0 else IntKind.i64.wrap (bif up then sqUp a else sqR a)
def xSqE (a:Int) (up:Bool):Int:=bif sqBad a then 2 else bif decide ((bif up then sqUp a else sqR a)>4503599627370496) then 6 else 0
def rtV (a:Int) (up:Bool):Int:=bif up&&!(sqR a*sqR a==a*4294967296) then sqR a+1 else sqR a
def sqOk (a:Int):Bool:=okF a&&decide (0<=a)
def sqrtV (a:Int) (up:Bool):Int:=bif sqOk a then rtV a up else 0
def sqrtE (a:Int):Int:=bif sqOk a then 0 else 2
theorem sqBad_eq (a:Int):sqBad a=!sqOk a:=by
 unfold sqBad sqOk
 rw [xC_eq]
 cases okF a with
 | false=>simp
 | true=>by_cases h:a<0 <;> simp [h] <;> omega
theorem sqR_spec {a:Int} (h:sqOk a=true):0<=sqR a/\sqR a*sqR a<=a*4294967296/\a*4294967296<(sqR a+1)*(sqR a+1)/\sqR a<8796093022208:=by
 simp only [sqOk,Bool.and_eq_true,decide_eq_true_eq] at h
 obtain ⟨h1,h2⟩:=h
 have h1:=okF_iff.1 h1
 obtain ⟨r,e,r1,r2,r3⟩:=sq_spec a.toNat (by omega)
 rw [Int.toNat_of_nonneg h2] at e
 have e:sqR a=r:=e
 rw [e]
 have c1:((r*r:Nat):Int)=(r:Int)*r:=Int.natCast_mul r r
 have c2:(((r+1)*(r+1):Nat):Int)=((r:Int)+1)*(r+1):=by rw [Int.natCast_mul]; rfl
 refine ⟨by omega,by omega,by omega,by omega⟩
theorem xSq_law (a:Int) (up:Bool):xSqV a up=sqrtV a up/\xSqE a up=sqrtE a:=by
 unfold xSqV xSqE sqrtV sqrtE
 rw [sqBad_eq]
 cases h:sqOk a with
 | false=>simp
 | true=>
  obtain ⟨r0,r1,r2,r3⟩:=sqR_spec h
  simp only [sqOk,Bool.and_eq_true,decide_eq_true_eq] at h
  obtain ⟨h1,h2⟩:=h
  have h1:=okF_iff.1 h1
  have key:(bif up then sqUp a else sqR a)=rtV a up:=by
   cases up with
   | false=>rfl
   | true=>
    have e0:sqP2 a=a*4294967296:=by unfold sqP2; rw [u64w (by omega) (by omega)]
    have:(sqR a*sqR a / two64==xHi (sqP2 a)&&(sqR a*sqR a % two64==xLo (sqP2 a)&&true))=(sqR a*sqR a==a*4294967296):=by
     rw [e0]
     unfold xHi xLo two64
     rw [Bool.eq_iff_iff]
     simp only [Bool.and_true,Bool.and_eq_true,beq_iff_eq]
     omega
    unfold sqUp rtV
    rw [this,u64w (by omega) (by omega)]
    rfl
  rw [key]
  have hb:0<=rtV a up/\rtV a up<=8796093022208:=by
   unfold rtV
   cases up&&!(sqR a*sqR a==a*4294967296) <;> simp <;> omega
  simp only [Bool.not_true,cond_false,cond_true]
  rw [decide_eq_false (by omega),i64w (by omega) (by omega)]
  exact ⟨rfl,rfl⟩
end Go.Ar
namespace Go.Ar
open Go Go.Eng
noncomputable section
def two (a b:Int):Tm:=.u [.n .i64 a,.n .i64 b]
def sMul (up:Bool):PSpec:=numSpec [.i .i64,.i .i64] none fun
 | [.n a,.n b]=>two (xMulV a b up) (xMulE a b up)
 | _=>.u []
def sDiv (up:Bool):PSpec:=numSpec [.i .i64,.i .i64] none fun
 | [.n a,.n b]=>two (xDivV a b up) (xDivE a b up)
 | _=>.u []
def sScale (up:Bool):PSpec:=numSpec [.i .i64,.i .i64,.i .i64] none fun
 | [.n a,.n n,.n d]=>two (xScV a n d up) (xScE a n d up)
 | _=>.u []
def sSqrt (up:Bool):PSpec:=numSpec [.i .i64] none fun
 | [.n a]=>two (xSqV a up) (xSqE a up)
 | _=>.u []
end
end Go.Ar
namespace Go.Proofs.YtkbndjnibcjchaaGreatDoor.K
open Go Go.Eng Go.Ar
noncomputable section
theorem sq_start (up:Bool) (H L:Int):fit (sqS up H L) (sqS up H L) (patch (sqS up H L) ((sqU H L).S (0,0))) []=some (.p ((0:Int)=0/\(0:Int)=0)):=by kernel_rfl
theorem sq_nd (H L i r:Int) (h:0<=i/\i<=43):sqNd H L i r:=by
 refine ⟨fun hi=>?_,fun hi=>⟨rfl,?_⟩,fun hi=>⟨⟨rfl,rfl⟩,?_⟩⟩
 .have hi:=of_decide_eq_true hi
  refine ⟨by rw [i64w (by omega) (by omega)]; omega,?_,rfl,rfl⟩
  have:=u64_range (↑(BitVec.ofInt IntKind.u64.bits r ||| BitVec.ofInt IntKind.u64.bits (IntKind.u64.wrap (1*2 ^ min (IntKind.i64.wrap (42 - i)).toNat IntKind.u64.bits))).toNat)
  exact xIn_of this.1 this.2 this.1 this.2
 .have:i=43:=by simp at hi; omega
  subst this
  rfl
 .have hi:=of_decide_eq_true hi
  have e:IntKind.i64.wrap (i+1)=i+1:=i64w (by omega) (by omega)
  have e2:(43 - i).toNat=(43 - (i+1)).toNat+1:=by omega
  refine ⟨?_,?_,?_⟩
  .show 0<=IntKind.i64.wrap (i+1)/\IntKind.i64.wrap (i+1)<=43
   rw [e]; omega
  .show (43 - IntKind.i64.wrap (i+1)).toNat<(43 - i).toNat
   rw [e]; omega
  .show (Ex.exit 0,sqO (sqFin H L (43 - IntKind.i64.wrap (i+1)).toNat (IntKind.i64.wrap (i+1)) (sqStep H L i r)))=(Ex.exit 0,sqO (sqFin H L (43 - i).toNat i r))
   rw [e2,sqFin,e]
theorem sq_loop (up:Bool) (H L:Int):CodeOk c1 sqFr (.loop sqA) (sqS up H L) ⟨.tt,[⟨.tt,.exit 0,patch (sqS up H L) (sqO (sqFin H L 43 0 0))⟩]⟩:=by
 have hF:(sqU H L).F (0,0)=(.exit 0,sqO (sqFin H L 43 0 0)):=by
  show (Ex.exit 0,sqO (sqFin H L (43 - (0:Int)).toNat 0 0))=_
  rw [show (43 - (0:Int)).toNat=43 from by decide]
 have h0:oldsOk (sqS up H L).hp ((sqU H L).S (0,0)).old=true:=by kernel_rfl
 have h1:(sqU H L).I (0,0):=⟨by decide,by decide⟩
 exact sum_one (run_sound c1_ok 300) (sqU H L) h1 ⟨_,sq_start up H L,rfl,rfl⟩ h0 (fun y hy=>⟨_,sq_run up H L y.1 y.2,sq_nd H L y.1 y.2 hy⟩) hF
noncomputable def c1s (up:Bool) (a:Int):Ctx:=withLoops c1 [oneLoop 127 65 sqFr sqA (sqS up (xHi (sqP2 a)) (xLo (sqP2 a))) (.exit 0) (sqO (sqFin (xHi (sqP2 a)) (xLo (sqP2 a)) 43 0 0))]
theorem c1s_ok (up:Bool) (a:Int):CtxOk (c1s up a):=withLoop_ok c1_ok (sq_loop up _ _) (withNone_ok c1_ok)
def sqAt (up:Bool) (a:Int):Prop:=At sqFr sqFr sqA sqA (sqS up (xHi (sqP2 a)) (xLo (sqP2 a))) (sqS up (xHi (sqP2 a)) (xLo (sqP2 a)))
def sqNd2 (a:Int):Prop:=(!sqBad a)=true->xIn (IntKind.u64.wrap a) 4294967296/\sqAt false a
def sqNd3 (a:Int):Prop:=(!sqBad a)=true->xIn (IntKind.u64.wrap a) 4294967296/\sqAt true a/\xIn (sqR a) (sqR a)/\xHi (sqP2 a)=xHi (sqP2 a)/\xLo (sqP2 a)=xLo (sqP2 a)
theorem sqDown_run (a:Int):oneV ((run (c1s false a) 300).call 95 [.int true .i64 a] ⟨[],0,1⟩)=some (.p (sqNd2 a),.tuple [.int true .i64 (xSqV a false),.int true .i64 (xSqE a false)]):=by kernel_rfl
theorem sqUp_run (a:Int):oneV ((run (c1s true a) 300).call 96 [.int true .i64 a] ⟨[],0,1⟩)=some (.p (sqNd3 a),.tuple [.int true .i64 (xSqV a true),.int true .i64 (xSqE a true)]):=by kernel_rfl
theorem sqNd3_all (a:Int):sqNd3 a:=by
 intro h
 rw [sqBad_eq,Bool.not_not] at h
 obtain ⟨r0,r1,r2,r3⟩:=sqR_spec h
 simp only [sqOk,Bool.and_eq_true,decide_eq_true_eq] at h
 have h1:=okF_iff.1 h.1
 rw [u64w (n:=a) (by omega) (by omega)]
 exact ⟨xIn_of (by omega) (by omega) (by decide) (by decide),⟨rfl,rfl,rfl⟩,xIn_of (by omega) (by omega) (by omega) (by omega),rfl,rfl⟩
theorem sqNd2_all (a:Int):sqNd2 a:=fun h=>⟨(sqNd3_all a h).1,rfl,rfl,rfl⟩
theorem mulDown_ok:PureOk Tryz.prog 78 (sMul false):=by
 refine num_ok (fun xs hk _=>?_) ⟨_,Tryz.func78,rfl⟩
 obtain ⟨a,_,rfl,h1⟩:=kn hk; obtain ⟨b,_,rfl,h2⟩:=kn h1; obtain rfl:=k0 h2
 exact ⟨c1,300,_,c1_ok,rfl,fun _=>rfl,rfl,mulDown_run a b,xMul_need a b⟩
theorem mulUp_ok:PureOk Tryz.prog 79 (sMul true):=by
 refine num_ok (fun xs hk _=>?_) ⟨_,Tryz.func79,rfl⟩
 obtain ⟨a,_,rfl,h1⟩:=kn hk; obtain ⟨b,_,rfl,h2⟩:=kn h1; obtain rfl:=k0 h2
 exact ⟨c1,300,_,c1_ok,rfl,fun _=>rfl,rfl,mulUp_run a b,xMul_need a b⟩
theorem divDown_ok:PureOk Tryz.prog 91 (sDiv false):=by
 refine num_ok (fun xs hk _=>?_) ⟨_,Tryz.func91,rfl⟩
 obtain ⟨a,_,rfl,h1⟩:=kn hk; obtain ⟨b,_,rfl,h2⟩:=kn h1; obtain rfl:=k0 h2
 exact ⟨c1,300,_,c1_ok,rfl,fun _=>rfl,rfl,divDown_run a b,xDiv_need a b⟩
theorem divUp_ok:PureOk Tryz.prog 92 (sDiv true):=by
 refine num_ok (fun xs hk _=>?_) ⟨_,Tryz.func92,rfl⟩
 obtain ⟨a,_,rfl,h1⟩:=kn hk; obtain ⟨b,_,rfl,h2⟩:=kn h1; obtain rfl:=k0 h2
 exact ⟨c1,300,_,c1_ok,rfl,fun _=>rfl,rfl,divUp_run a b,xDiv_need a b⟩
theorem scaleDown_ok:PureOk Tryz.prog 106 (sScale false):=by
 refine num_ok (fun xs hk _=>?_) ⟨_,Tryz.func106,rfl⟩
 obtain ⟨a,_,rfl,h1⟩:=kn hk; obtain ⟨n,_,rfl,h2⟩:=kn h1; obtain ⟨d,_,rfl,h3⟩:=kn h2; obtain rfl:=k0 h3
 exact ⟨c1,300,_,c1_ok,rfl,fun _=>rfl,rfl,scaleDown_run a n d,xSc_need a n d⟩
theorem scaleUp_ok:PureOk Tryz.prog 107 (sScale true):=by
 refine num_ok (fun xs hk _=>?_) ⟨_,Tryz.func107,rfl⟩
 obtain ⟨a,_,rfl,h1⟩:=kn hk; obtain ⟨n,_,rfl,h2⟩:=kn h1; obtain ⟨d,_,rfl,h3⟩:=kn h2; obtain rfl:=k0 h3
 exact ⟨c1,300,_,c1_ok,rfl,fun _=>rfl,rfl,scaleUp_run a n d,xSc_need a n d⟩
theorem sqrtDown_ok:PureOk Tryz.prog 95 (sSqrt false):=by
 refine num_ok (fun xs hk _=>?_) ⟨_,Tryz.func95,rfl⟩
 obtain ⟨a,_,rfl,h1⟩:=kn hk; obtain rfl:=k0 h1
 exact ⟨c1s false a,300,_,c1s_ok false a,rfl,fun _=>rfl,rfl,sqDown_run a,sqNd2_all a⟩
theorem sqrtUp_ok:PureOk Tryz.prog 96 (sSqrt true):=by
 refine num_ok (fun xs hk _=>?_) ⟨_,Tryz.func96,rfl⟩
 obtain ⟨a,_,rfl,h1⟩:=kn hk; obtain rfl:=k0 h1
 exact ⟨c1s true a,300,_,c1s_ok true a,rfl,fun _=>rfl,rfl,sqUp_run a,sqNd3_all a⟩
end
end Go.Proofs.YtkbndjnibcjchaaGreatDoor.K
namespace Go.Proofs.YtkbndjnibcjchaaGreatDoor.K
open Go Go.Eng Go.Ar
noncomputable section
noncomputable def tbl2:List (FuncId×PSpec):=[(78,sMul false),(79,sMul true),(91,sDiv false),(92,sDiv true),(106,sScale false),(107,sScale true),(95,sSqrt false),(96,sSqrt true),(131,mulSpec)]
theorem tbl2_ok:TblOk Tryz.prog tbl2:=by
 intro x hx
 simp only [tbl2,List.mem_cons,List.not_mem_nil,or_false] at hx
 rcases hx with rfl|rfl|rfl|rfl|rfl|rfl|rfl|rfl|rfl
 .exact mulDown_ok
 .exact mulUp_ok
 .exact divDown_ok
 .exact divUp_ok
 .exact scaleDown_ok
 .exact scaleUp_ok
 .exact sqrtDown_ok
 .exact sqrtUp_ok
 .exact mul_ok
noncomputable def c2:Ctx:=mkC Tryz.prog tbl2 ext
theorem c2_ok:CtxOk c2:=mkC_ok prog_ok tbl2_ok ext_ok
end
end Go.Proofs.YtkbndjnibcjchaaGreatDoor.K
namespace Go.Ar
open Go
structure Sp where
 lo:Int
 hi:Int
 e:Int
def err (e:Int):Sp:=⟨0,0,e⟩
def okSp (a b:Int):Bool:=decide (-4503599627370496<=a)&&(decide (a<=b)&&decide (b<=4503599627370496))
def toldS (lo hi:Int):Sp:=bif okF lo&&okF hi then ⟨lo,hi,0⟩ else err 6
def mn (a b:Int):Int:=bif decide (b<a) then b else a
def mx (a b:Int):Int:=bif decide (a<b) then b else a
def both (a b c d:Int) (r:Sp):Sp:=bif okSp a b&&okSp c d then r else err 20
def addS (a b c d:Int):Sp:=both a b c d (toldS (a+c) (b+d))
def subS (a b c d:Int):Sp:=both a b c d (toldS (a - d) (b - c))
def hull4 (F:Int->Int->Bool->Int) (a b c d:Int):Sp:=
 toldS (mn (mn (mn (F a c false) (F a d false)) (F b c false)) (F b d false)) (mx (mx (mx (F a c true) (F a d true)) (F b c true)) (F b d true))
def mF (x y:Int) (up:Bool):Int:=rd (x*y) 4294967296 up
def dF (x y:Int) (up:Bool):Int:=rd (sg (x*4294967296) y) (sg y y) up
def mulS (a b c d:Int):Sp:=both a b c d (hull4 mF a b c d)
def divS (a b c d:Int):Sp:=both a b c d (bif decide (c<=0)&&decide (0<=d) then err 7 else hull4 dF a b c d)
def abL (a b:Int):Int:=mx (mx a (-b)) 0
def abH (a b:Int):Int:=mx b (-a)
def sqrS (a b:Int):Sp:=bif okSp a b then toldS (rd (abL a b*abL a b) 4294967296 false) (rd (abH a b*abH a b) 4294967296 true) else err 20
def sqrtS (a b:Int):Sp:=bif okSp a b then (bif decide (a<0) then err 2 else ⟨rtV a false,rtV b true,0⟩) else err 20
def okR (n d:Int):Bool:=decide (-4611686018427387904<=n)&&decide (n<=4611686018427387904)&&decide (1<=d)&&decide (d<=4611686018427387904)
def scaleS (a b n d:Int):Sp:=bif okSp a b then (bif okR n d then toldS (rd (mn (a*n) (b*n)) d false) (rd (mx (a*n) (b*n)) d true) else err 2) else err 20
def xCS (a b:Int):Int:=bif bif decide (a < -4503599627370496) then true else bif decide (a>b) then true else decide (b>4503599627370496) then 20 else 0
def xAll2 (a b c d:Int):Int:=bif !(xCS a b != 0)&&!(xCS c d != 0) then 0 else bif xCS a b != 0 then xCS a b else xCS c d
def xTb (l h:Int):Bool:=bif decide (l < -4503599627370496) then true else decide (h>4503599627370496)
def xTold (g l h:Int):Sp:=⟨bif g != 0 then 0 else bif xTb l h then 0 else l,bif g != 0 then 0 else bif xTb l h then 0 else h,bif g != 0 then g else bif xTb l h then 6 else 0⟩
def xAddS (a b c d:Int):Sp:=xTold (xAll2 a b c d) (IntKind.i64.wrap (a+c)) (IntKind.i64.wrap (b+d))
def xSubS (a b c d:Int):Sp:=xTold (xAll2 a b c d) (IntKind.i64.wrap (a - d)) (IntKind.i64.wrap (b - c))
def xSqrtS (a b:Int):Sp:=
 ⟨bif xCS a b != 0 then 0 else bif decide (a<0) then 0 else bif xTb (xSqV a false) (xSqV b true) then 0 else xSqV a false,
  bif xCS a b != 0 then 0 else bif decide (a<0) then 0 else bif xTb (xSqV a false) (xSqV b true) then 0 else xSqV b true,
  bif xCS a b != 0 then xCS a b else bif decide (a<0) then 2 else bif xTb (xSqV a false) (xSqV b true) then 6 else 0⟩
def tL (low lo:Int):Int:=bif decide (low<lo) then low else lo
def tH (low lo hi:Int):Int:=bif decide (low<lo) then hi else hi
def nL (low high lo hi:Int):Int:=bif decide (high>tH low lo hi) then tL low lo else tL low lo
def nH (low high lo hi:Int):Int:=bif decide (high>tH low lo hi) then high else tH low lo hi
def l1 (V:Int->Int->Bool->Int) (a c d:Int):Int:=nL (V a d false) (V a d true) (V a c false) (V a c true)
def h1 (V:Int->Int->Bool->Int) (a c d:Int):Int:=nH (V a d false) (V a d true) (V a c false) (V a c true)
def l2 (V:Int->Int->Bool->Int) (a b c d:Int):Int:=nL (V b c false) (V b c true) (l1 V a c d) (h1 V a c d)
def h2 (V:Int->Int->Bool->Int) (a b c d:Int):Int:=nH (V b c false) (V b c true) (l1 V a c d) (h1 V a c d)
def l3 (V:Int->Int->Bool->Int) (a b c d:Int):Int:=nL (V b d false) (V b d true) (l2 V a b c d) (h2 V a b c d)
def h3 (V:Int->Int->Bool->Int) (a b c d:Int):Int:=nH (V b d false) (V b d true) (l2 V a b c d) (h2 V a b c d)
def bad2 (E:Int->Int->Bool->Int) (x y:Int):Bool:=bif E x y false != 0 then true else E x y true != 0
def ok4 (E:Int->Int->Bool->Int) (a b c d:Int):Bool:=(!bad2 E a c&&!bad2 E a d)&&(!bad2 E b c&&!bad2 E b d)
def bL (V E:Int->Int->Bool->Int) (a b c d:Int):Int:=bif ok4 E a b c d then (bif xTb (l3 V a b c d) (h3 V a b c d) then 0 else l3 V a b c d) else 0
def bH (V E:Int->Int->Bool->Int) (a b c d:Int):Int:=bif ok4 E a b c d then (bif xTb (l3 V a b c d) (h3 V a b c d) then 0 else h3 V a b c d) else 0
def bE (V E:Int->Int->Bool->Int) (a b c d:Int):Int:=bif ok4 E a b c d then (bif xTb (l3 V a b c d) (h3 V a b c d) then 6 else 0) else 6
def xMulS (a b c d:Int):Sp:=⟨bif xAll2 a b c d != 0 then 0 else bL xMulV xMulE a b c d,bif xAll2 a b c d != 0 then 0 else bH xMulV xMulE a b c d,bif xAll2 a b c d != 0 then xAll2 a b c d else bE xMulV xMulE a b c d⟩
def xZ (c d:Int):Bool:=bif decide (c<=0) then decide (d>=0) else false
def xDivS (a b c d:Int):Sp:=⟨bif xAll2 a b c d != 0 then 0 else bif xZ c d then 0 else bL xDivV xDivE a b c d,bif xAll2 a b c d != 0 then 0 else bif xZ c d then 0 else bH xDivV xDivE a b c d,
 bif xAll2 a b c d != 0 then xAll2 a b c d else bif xZ c d then 7 else bE xDivV xDivE a b c d⟩
def xsA (a b n:Int):Int:=bif decide (n<0) then IntKind.i64.wrap (0 - b) else a
def xsB (a b n:Int):Int:=bif decide (n<0) then IntKind.i64.wrap (0 - a) else b
def xsN (n:Int):Int:=bif decide (n<0) then IntKind.i64.wrap (0 - n) else n
def xsOk (n:Int):Bool:=bif decide (n<0) then !decide (n < -4611686018427387904) else true
def xsBad (a b n d:Int):Bool:=bif xScE (xsA a b n) (xsN n) d false != 0 then true else xScE (xsB a b n) (xsN n) d true != 0
def xScaleS (a b n d:Int):Sp:=
 ⟨bif xCS a b != 0 then 0 else bif xsOk n then (bif xsBad a b n d then 0 else xScV (xsA a b n) (xsN n) d false) else 0,
  bif xCS a b != 0 then 0 else bif xsOk n then (bif xsBad a b n d then 0 else xScV (xsB a b n) (xsN n) d true) else 0,
  bif xCS a b != 0 then xCS a b else bif xsOk n then (bif xsBad a b n d then (if xScE (xsB a b n) (xsN n) d true>xScE (xsA a b n) (xsN n) d false then xScE (xsB a b n) (xsN n) d true else xScE (xsA a b n) (xsN n) d false) else 0) else 2⟩
theorem okSp_iff {a b:Int}:okSp a b=true ↔ -4503599627370496<=a/\a<=b/\b<=4503599627370496:=by simp [okSp]
theorem xCS_eq (a b:Int):xCS a b=bif okSp a b then 0 else 20:=by
 unfold xCS
 cases h:okSp a b with
 | true=>
  have:=okSp_iff.1 h
  simp [show ¬ a < -4503599627370496 by omega,show ¬ a>b by omega,show ¬ b>4503599627370496 by omega]
 | false=>
  have:¬ (-4503599627370496<=a/\a<=b/\b<=4503599627370496):=fun k=>by rw [okSp_iff.2 k] at h; cases h
  by_cases h1:a < -4503599627370496
  .simp [h1]
  .by_cases h2:a>b
   .simp [h1,h2]
   .simp [h1,h2,show b>4503599627370496 by omega]
theorem xAll2_eq (a b c d:Int):xAll2 a b c d=bif okSp a b&&okSp c d then 0 else 20:=by
 unfold xAll2
 rw [xCS_eq,xCS_eq]
 cases okSp a b <;> cases okSp c d <;> rfl
theorem xTb_eq {l h:Int} (k:l<=h):xTb l h=!(okF l&&okF h):=by
 unfold xTb okF
 rw [Bool.eq_iff_iff]
 by_cases h1:l < -4503599627370496
 .simp [h1] <;> omega
 .simp [h1] <;> omega
theorem xTold_eq (a b c d l h:Int) (k:okSp a b=true->okSp c d=true->l<=h):xTold (xAll2 a b c d) l h=both a b c d (toldS l h):=by
 unfold xTold both
 rw [xAll2_eq]
 cases h1:okSp a b with
 | false=>simp [err]
 | true=>
  cases h2:okSp c d with
  | false=>simp [err]
  | true=>
   rw [xTb_eq (k h1 h2)]
   unfold toldS
   cases okF l&&okF h <;> simp [err]
theorem xAddS_eq (a b c d:Int):xAddS a b c d=addS a b c d:=by
 unfold xAddS addS
 rw [xTold_eq]
 .unfold both
  cases h1:okSp a b <;> cases h2:okSp c d <;> try rfl
  have:=okSp_iff.1 h1; have:=okSp_iff.1 h2
  rw [i64w (by omega) (by omega),i64w (by omega) (by omega)]
 .intro h1 h2
  have:=okSp_iff.1 h1; have:=okSp_iff.1 h2
  rw [i64w (by omega) (by omega),i64w (by omega) (by omega)]; omega
theorem xSubS_eq (a b c d:Int):xSubS a b c d=subS a b c d:=by
 unfold xSubS subS
 rw [xTold_eq]
 .unfold both
  cases h1:okSp a b <;> cases h2:okSp c d <;> try rfl
  have:=okSp_iff.1 h1; have:=okSp_iff.1 h2
  rw [i64w (by omega) (by omega),i64w (by omega) (by omega)]
 .intro h1 h2
  have:=okSp_iff.1 h1; have:=okSp_iff.1 h2
  rw [i64w (by omega) (by omega),i64w (by omega) (by omega)]; omega
theorem rtV_range {a:Int} (h:sqOk a=true) (up:Bool):0<=rtV a up/\rtV a up<=8796093022208:=by
 obtain ⟨r0,r1,r2,r3⟩:=sqR_spec h
 unfold rtV
 cases up&&!(sqR a*sqR a==a*4294967296) <;> simp <;> omega
theorem xSqrtS_eq (a b:Int):xSqrtS a b=sqrtS a b:=by
 unfold xSqrtS sqrtS
 rw [xCS_eq]
 cases h1:okSp a b with
 | false=>simp [err]
 | true=>
  have h:=okSp_iff.1 h1
  by_cases h2:a<0
  .simp [h2,err]
  .have ha:sqOk a=true:=by simp [sqOk,okF]; omega
   have hb:sqOk b=true:=by simp [sqOk,okF]; omega
   have ra:=rtV_range ha false
   have rb:=rtV_range hb true
   rw [(xSq_law a false).1,(xSq_law b true).1]
   unfold sqrtV
   rw [ha,hb]
   have ht:xTb (rtV a false) (rtV b true)=false:=by
    unfold xTb
    rw [decide_eq_false (by omega),decide_eq_false (by omega)]; rfl
   simp [h2,ht]
theorem nL_eq (low high lo hi:Int):nL low high lo hi=mn lo low:=by
 unfold nL tL mn
 cases decide (high>tH low lo hi) <;> rfl
theorem nH_eq (low high lo hi:Int):nH low high lo hi=mx hi high:=by
 unfold nH tH mx
 cases decide (low<lo) <;> rfl
theorem mn_le (a b:Int):mn a b<=a/\mn a b<=b/\(mn a b=a\/mn a b=b):=by
 unfold mn
 by_cases h:b<a <;> simp [h] <;> omega
theorem le_mx (a b:Int):a<=mx a b/\b<=mx a b/\(mx a b=a\/mx a b=b):=by
 unfold mx
 by_cases h:a<b <;> simp [h] <;> omega
theorem rd_le (n d:Int) (hd:0<d):rd n d false<=rd n d true:=by
 unfold rd
 simp only [cond_true,cond_false]
 have h1:=Int.mul_ediv_add_emod n d
 have h2:=Int.emod_nonneg n (show d≠0 by omega)
 have h3:=Int.emod_lt_of_pos n hd
 have:=neg_div (p:=n) hd
 rw [this]; split <;> omega
theorem hull_law (V E F:Int->Int->Bool->Int) (a b c d:Int) (hF:∀ x y,(x=a\/x=b)->(y=c\/y=d)->F x y false<=F x y true)
  (hE:∀ x y,(x=a\/x=b)->(y=c\/y=d)->(bad2 E x y=!(okF (F x y false)&&okF (F x y true))/\(bad2 E x y=false->V x y false=F x y false/\V x y true=F x y true))):
  (⟨bL V E a b c d,bH V E a b c d,bE V E a b c d⟩:Sp)=hull4 F a b c d:=by
 obtain ⟨e1,v1⟩:=hE a c (.inl rfl) (.inl rfl)
 obtain ⟨e2,v2⟩:=hE a d (.inl rfl) (.inr rfl)
 obtain ⟨e3,v3⟩:=hE b c (.inr rfl) (.inl rfl)
 obtain ⟨e4,v4⟩:=hE b d (.inr rfl) (.inr rfl)
 have f1:=hF a c (.inl rfl) (.inl rfl)
 have f2:=hF a d (.inl rfl) (.inr rfl)
 have f3:=hF b c (.inr rfl) (.inl rfl)
 have f4:=hF b d (.inr rfl) (.inr rfl)
 unfold bL bH bE
 cases hk:ok4 E a b c d with
 | false=>
  have:(okF (mn (mn (mn (F a c false) (F a d false)) (F b c false)) (F b d false))&&okF (mx (mx (mx (F a c true) (F a d true)) (F b c true)) (F b d true)))=false:=by
   cases hh:okF (mn (mn (mn (F a c false) (F a d false)) (F b c false)) (F b d false))&&okF (mx (mx (mx (F a c true) (F a d true)) (F b c true)) (F b d true)) with
   | false=>rfl
   | true=>
    simp only [Bool.and_eq_true,okF_iff] at hh
    have m1:=mn_le (F a c false) (F a d false); have m2:=mn_le (mn (F a c false) (F a d false)) (F b c false); have m3:=mn_le (mn (mn (F a c false) (F a d false)) (F b c false)) (F b d false)
    have n1:=le_mx (F a c true) (F a d true); have n2:=le_mx (mx (F a c true) (F a d true)) (F b c true); have n3:=le_mx (mx (mx (F a c true) (F a d true)) (F b c true)) (F b d true)
    have g:∀ x y,F x y false<=F x y true->-4503599627370496<=F x y false->F x y true<=4503599627370496->(okF (F x y false)&&okF (F x y true))=true:=by
     intro x y k1 k2 k3
     rw [Bool.and_eq_true,okF_iff,okF_iff]; omega
    unfold ok4 at hk
    rw [e1,e2,e3,e4,g a c f1 (by omega) (by omega),g a d f2 (by omega) (by omega),g b c f3 (by omega) (by omega),g b d f4 (by omega) (by omega)] at hk
    cases hk
  unfold hull4 toldS
  rw [this]; rfl
 | true=>
  unfold ok4 at hk
  simp only [Bool.and_eq_true,Bool.not_eq_true'] at hk
  obtain ⟨⟨k1,k2⟩,k3,k4⟩:=hk
  obtain ⟨a1,a2⟩:=v1 k1; obtain ⟨b1,b2⟩:=v2 k2; obtain ⟨c1,c2⟩:=v3 k3; obtain ⟨d1,d2⟩:=v4 k4
  have el:l3 V a b c d=mn (mn (mn (F a c false) (F a d false)) (F b c false)) (F b d false):=by
   unfold l3 l2 l1; rw [nL_eq,nL_eq,nL_eq,a1,b1,c1,d1]
  have eh:h3 V a b c d=mx (mx (mx (F a c true) (F a d true)) (F b c true)) (F b d true):=by
   unfold h3 h2 h1; rw [nH_eq,nH_eq,nH_eq,a2,b2,c2,d2]
  rw [el,eh]
  have m1:=mn_le (F a c false) (F a d false); have m2:=mn_le (mn (F a c false) (F a d false)) (F b c false); have m3:=mn_le (mn (mn (F a c false) (F a d false)) (F b c false)) (F b d false)
  have n1:=le_mx (F a c true) (F a d true); have n2:=le_mx (mx (F a c true) (F a d true)) (F b c true); have n3:=le_mx (mx (mx (F a c true) (F a d true)) (F b c true)) (F b d true)
  rw [xTb_eq (by omega)]
  unfold hull4 toldS
  simp only [cond_true]
  cases okF (mn (mn (mn (F a c false) (F a d false)) (F b c false)) (F b d false))&&okF (mx (mx (mx (F a c true) (F a d true)) (F b c true)) (F b d true)) <;> rfl
theorem bad2_of {e f:Int->Int->Bool->Int} {F:Int->Int->Bool->Int} {x y:Int} (h:(e x y false=0/\e x y true=0) ↔ (fitE (F x y false)=0/\fitE (F x y true)=0)):bad2 e x y=!(okF (F x y false)&&okF (F x y true)):=by
 unfold bad2
 rcases fitE_cases (F x y false) with ⟨p1,p2,_⟩|⟨p1,p2,_⟩ <;> rcases fitE_cases (F x y true) with ⟨q1,q2,_⟩|⟨q1,q2,_⟩ <;> rw [p1,q1] at h <;> rw [p2,q2]
 .have:=h.2 ⟨rfl,rfl⟩; simp [this.1,this.2]
 all_goals
  simp only [Bool.and_true,Bool.and_false,Bool.not_false,Bool.false_and]
  by_cases h0:e x y false=0
  .by_cases h1:e x y true=0
   .have:=h.1 ⟨h0,h1⟩; omega
   .simp [h0,h1]
  .simp [h0]
theorem mul_corner {x y:Int} (hx:okF x=true) (hy:okF y=true):bad2 xMulE x y=!(okF (mF x y false)&&okF (mF x y true))/\(bad2 xMulE x y=false->xMulV x y false=mF x y false/\xMulV x y true=mF x y true):=by
 obtain ⟨a1,a2,a3⟩:=sz_of hx
 obtain ⟨b1,b2,b3⟩:=sz_of hy
 have hb:sg x x*sg y y<=4503599627370496*4503599627370496:=Int.mul_le_mul a3 b3 b2 (by decide)
 obtain ⟨p1,p2⟩:=pair_law (p:=sg x x*sg y y) (d:=4294967296) (Int.mul_nonneg a2 b2) (by omega) (by decide) (by decide) (xNeg x y) (x*y) (xNeg_mul x y)
 have e0:xAll x y=0:=by rw [xAll_eq,hx,hy]; rfl
 have eE:∀ up,xMulE x y up=xE (sg x x*sg y y) 4294967296 up (xNeg x y):=fun up=>by unfold xMulE; rw [e0,a1,b1]; rfl
 have eV:∀ up,xMulV x y up=xV (sg x x*sg y y) 4294967296 up (xNeg x y):=fun up=>by unfold xMulV; rw [e0,a1,b1]; rfl
 have key:=bad2_of (e:=xMulE) (f:=xMulE) (F:=mF) (x:=x) (y:=y) (by rw [eE,eE]; exact p1)
 refine ⟨key,fun h=>?_⟩
 rw [key] at h
 simp only [Bool.not_eq_false',Bool.and_eq_true] at h
 rw [eV,eV]
 refine p2 ?_ ?_
 .unfold fitE; rw [show rd (x*y) 4294967296 false=mF x y false from rfl,h.1]; rfl
 .unfold fitE; rw [show rd (x*y) 4294967296 true=mF x y true from rfl,h.2]; rfl
theorem okF_of_sp {a b:Int} (h:okSp a b=true):okF a=true/\okF b=true:=by
 have:=okSp_iff.1 h
 exact ⟨okF_iff.2 (by omega),okF_iff.2 (by omega)⟩
theorem xMulS_eq (a b c d:Int):xMulS a b c d=mulS a b c d:=by
 unfold xMulS mulS both
 rw [xAll2_eq]
 cases h1:okSp a b with
 | false=>simp [err]
 | true=>
  cases h2:okSp c d with
  | false=>simp [err]
  | true=>
   obtain ⟨ha,hb⟩:=okF_of_sp h1
   obtain ⟨hc,hd⟩:=okF_of_sp h2
   rw [<- hull_law xMulV xMulE mF a b c d (fun x y _ _=>rd_le _ _ (by decide)) fun x y hx hy=>mul_corner (by rcases hx with rfl|rfl <;> assumption) (by rcases hy with rfl|rfl <;> assumption)]
   rfl
theorem xNeg_div (a b:Int):sg (a*4294967296) b=bif xNeg a b then -(sg a a*4294967296) else sg a a*4294967296:=by
 unfold xNeg sg
 by_cases h:a<0 <;> by_cases k:b<0 <;> simp [h,k,Int.neg_mul]
theorem div_corner {x y:Int} (hx:okF x=true) (hy:okF y=true) (h0:y≠0):bad2 xDivE x y=!(okF (dF x y false)&&okF (dF x y true))/\(bad2 xDivE x y=false->xDivV x y false=dF x y false/\xDivV x y true=dF x y true):=by
 obtain ⟨a1,a2,a3⟩:=sz_of hx
 obtain ⟨b1,b2,b3⟩:=sz_of hy
 have hpos:0<sg y y:=by rcases sg_cases y with ⟨_,e⟩|⟨_,e⟩ <;> omega
 obtain ⟨p1,p2⟩:=pair_law (p:=sg x x*4294967296) (d:=sg y y) (by omega) (by omega) hpos (by omega) (xNeg x y) (sg (x*4294967296) y) (xNeg_div x y)
 have e0:xAll x y=0:=by rw [xAll_eq,hx,hy]; rfl
 have e00:(y==0)=false:=by simp [h0]
 have eE:∀ up,xDivE x y up=xE (sg x x*4294967296) (sg y y) up (xNeg x y):=fun up=>by unfold xDivE; rw [e0,a1,b1,e00]; rfl
 have eV:∀ up,xDivV x y up=xV (sg x x*4294967296) (sg y y) up (xNeg x y):=fun up=>by unfold xDivV; rw [e0,a1,b1,e00]; rfl
 have key:=bad2_of (e:=xDivE) (f:=xDivE) (F:=dF) (x:=x) (y:=y) (by rw [eE,eE]; exact p1)
 refine ⟨key,fun h=>?_⟩
 rw [key] at h
 simp only [Bool.not_eq_false',Bool.and_eq_true] at h
 rw [eV,eV]
 refine p2 ?_ ?_
 .unfold fitE; rw [show rd (sg (x*4294967296) y) (sg y y) false=dF x y false from rfl,h.1]; rfl
 .unfold fitE; rw [show rd (sg (x*4294967296) y) (sg y y) true=dF x y true from rfl,h.2]; rfl
theorem xZ_eq (c d:Int):xZ c d=(decide (c<=0)&&decide (0<=d)):=by
 unfold xZ
 by_cases h:c<=0 <;> simp [h]
theorem xDivS_eq (a b c d:Int):xDivS a b c d=divS a b c d:=by
 unfold xDivS divS both
 rw [xAll2_eq,xZ_eq]
 cases h1:okSp a b with
 | false=>simp [err]
 | true=>
  cases h2:okSp c d with
  | false=>simp [err]
  | true=>
   cases h3:(decide (c<=0)&&decide (0<=d)) with
   | true=>simp [err]
   | false=>
    obtain ⟨ha,hb⟩:=okF_of_sp h1
    obtain ⟨hc,hd⟩:=okF_of_sp h2
    have h2:=okSp_iff.1 h2
    have nz:∀ y,(y=c\/y=d)->y≠0:=by
     intro y hy h0
     simp only [Bool.and_eq_false_iff,decide_eq_false_iff_not] at h3
     rcases hy with rfl|rfl <;> omega
    rw [<- hull_law xDivV xDivE dF a b c d (fun x y _ hy=>rd_le _ _ (by have:=nz y hy; rcases sg_cases y with ⟨_,e⟩|⟨_,e⟩ <;> omega))
     fun x y hx hy=>div_corner (by rcases hx with rfl|rfl <;> assumption) (by rcases hy with rfl|rfl <;> assumption) (nz y hy)]
    rfl
end Go.Ar
namespace Go.Ar
open Go
def pwS (v:Int):Int:=IntKind.u64.wrap (if IntKind.i64.wrap (0 - v)>v then IntKind.i64.wrap (0 - v) else v)
def pw2 (v:Int):Int:=1*pwS v
def pw3 (v:Int):Int:=pw2 v % two64
def pw4 (v:Int):Int:=pw3 v+0+0
def pw5 (v:Int):Int:=pw4 v % 18446744073709551616
def pw6 (v:Int):Int:=pw5 v*pwS v
def pw7 (v:Int):Int:=pw6 v % two64
def pw8 (v:Int):Int:=IntKind.u64.wrap (pw2 v / two64+pw4 v / 18446744073709551616)
def pw9 (v:Int):Int:=pw8 v*pwS v
def pw10 (v:Int):Int:=pw9 v % two64
def pw11 (v:Int):Int:=pw7 v+0+0
def pw12 (v:Int):Int:=IntKind.u64.wrap (pw6 v / two64+pw11 v / 18446744073709551616)
def pw13 (v:Int):Int:=pw10 v+pw12 v+0
def pw14 (v:Int):Int:=pw13 v % 18446744073709551616
def pw15:Int:=2 ^ min (Int.ofNat 32).toNat IntKind.u64.bits
def pw16 (v:Int):Bool:=decide ((pw14 v).fdiv pw15>0)
def pw17 (v:Int):Int:=IntKind.u64.wrap (pw9 v / two64+pw13 v / 18446744073709551616)
def pw18 (v:Int):Bool:=decide (pw17 v>0)
def pw19 (v:Int):Int:=pw11 v % 18446744073709551616
def pw20 (v:Int):Int:=bif pw16 v then 0 else bif pw18 v then 0 else
 IntKind.u64.wrap ↑(BitVec.ofInt IntKind.u64.bits ((pw19 v).fdiv pw15) ||| BitVec.ofInt IntKind.u64.bits (IntKind.u64.wrap (pw14 v*pw15))).toNat
def pw21 (v:Int):Int:=IntKind.u64.wrap ↑(BitVec.ofInt IntKind.u64.bits (pw19 v) &&& BitVec.ofInt IntKind.u64.bits 4294967295).toNat
def pwBig (v:Int):Bool:=bif !(bif pw16 v then false else bif pw18 v then false else true) then true else decide (pw20 v>4503599627370496)
def pwD (v:Int):Int:=bif pwBig v then 0 else IntKind.i64.wrap (pw20 v)
def pwU (v:Int):Int:=bif pwBig v then 0 else bif bif pw16 v then false else bif pw18 v then false else decide (pw21 v>0) then IntKind.i64.wrap (IntKind.i64.wrap (pw20 v)+1) else IntKind.i64.wrap (pw20 v)
def pwE (v:Int):Int:=bif pwBig v then 6 else 0
def xAdd (x y:Int):Prop:=decide (0<=x/\0<=y/\(0:Int)<=0/\(0:Int)<=1)=true
def pwN (v:Int):Prop:=(xIn 1 (pwS v)/\xAdd (pw3 v) 0)/\(xIn (pw5 v) (pwS v)/\xAdd (pw7 v) 0)/\xIn (pw8 v) (pwS v)/\xAdd (pw10 v) (pw12 v)
def sqD (v:Int):Int:=bif decide (v*v / 4294967296>4503599627370496) then 0 else rd (v*v) 4294967296 false
def sqU (v:Int):Int:=bif decide (v*v / 4294967296>4503599627370496) then 0 else rd (v*v) 4294967296 true
def sqE (v:Int):Int:=bif decide (v*v / 4294967296>4503599627370496) then 6 else 0
theorem pwS_eq {v:Int} (h:okF v=true):pwS v=sg v v:=by
 have h:=okF_iff.1 h
 unfold pwS
 rw [i64w (n:=0 - v) (by omega) (by omega)]
 rcases sg_cases v with ⟨h1,e⟩|⟨h1,e⟩ <;> rw [e] <;> split <;> rw [u64w (by omega) (by omega)] <;> omega
theorem and32 (n:Nat) (h:n<18446744073709551616):IntKind.u64.wrap ↑(BitVec.ofInt IntKind.u64.bits (n:Int) &&& BitVec.ofInt IntKind.u64.bits 4294967295).toNat=((n % 4294967296:Nat):Int):=Go.Eng.dLow_eq n h
theorem pw_law {v:Int} (h:okF v=true):pwD v=sqD v/\pwU v=sqU v/\pwE v=sqE v/\pwN v:=by
 obtain ⟨_,s1,s2⟩:=sz_of h
 have e1:=pwS_eq h
 have es:v*v=sg v v*sg v v:=by
  rcases sg_cases v with ⟨_,e⟩|⟨_,e⟩ <;> rw [e]
  rw [Int.neg_mul,Int.mul_neg,Int.neg_neg]
 have hq:sg v v*sg v v<=4503599627370496*4503599627370496:=Int.mul_le_mul s2 s2 s1 (by decide)
 have hq0:0<=sg v v*sg v v:=Int.mul_nonneg s1 s1
 have q2:pw2 v=sg v v:=by unfold pw2; rw [e1]; omega
 have q3:pw3 v=sg v v:=by unfold pw3 two64; rw [q2]; omega
 have q4:pw4 v=sg v v:=by unfold pw4; rw [q3]; omega
 have q5:pw5 v=sg v v:=by unfold pw5; rw [q4]; omega
 have q6:pw6 v=sg v v*sg v v:=by unfold pw6; rw [q5,e1]
 have q8:pw8 v=0:=by unfold pw8 two64; rw [q2,q4,u64w] <;> omega
 have q9:pw9 v=0:=by unfold pw9; rw [q8]; omega
 have q10:pw10 v=0:=by unfold pw10 two64; rw [q9]; rfl
 generalize hP:sg v v*sg v v=P at *
 have q7:pw7 v=P % 18446744073709551616:=by unfold pw7 two64; rw [q6]
 have q11:pw11 v=P % 18446744073709551616:=by unfold pw11; rw [q7]; omega
 have q12:pw12 v=P / 18446744073709551616:=by unfold pw12 two64; rw [q6,q11,u64w] <;> omega
 have q13:pw13 v=P / 18446744073709551616:=by unfold pw13; rw [q10,q12]; omega
 have q14:pw14 v=P / 18446744073709551616:=by unfold pw14; rw [q13]; omega
 have q15:pw15=4294967296:=by decide
 have q16:pw16 v=decide (4294967296<=P / 18446744073709551616):=by
  unfold pw16
  rw [q14,q15,Int.fdiv_eq_ediv_of_nonneg _ (by decide)]
  rw [Bool.eq_iff_iff]; simp only [decide_eq_true_eq]; omega
 have q17:pw17 v=0:=by unfold pw17 two64; rw [q9,q13,u64w] <;> omega
 have q18:pw18 v=false:=by unfold pw18; rw [q17]; rfl
 have q19:pw19 v=P % 18446744073709551616:=by unfold pw19; rw [q11]; omega
 have nd:pwN v:=by
  unfold pwN
  rw [e1,q3,q5,q7,q8,q10,q12]
  refine ⟨⟨xIn_of (by omega) (by omega) (by omega) (by omega),?_⟩,⟨xIn_of (by omega) (by omega) (by omega) (by omega),?_⟩,xIn_of (by omega) (by omega) (by omega) (by omega),?_⟩ <;> unfold xAdd <;> rw [decide_eq_true_eq] <;> omega
 have e21:pw21 v=P % 4294967296:=by
  unfold pw21
  rw [q19]
  obtain ⟨n,hn⟩:=Int.eq_ofNat_of_zero_le (show 0<=P % 18446744073709551616 by omega)
  rw [hn,and32 n (by omega)]
  omega
 have big:pwBig v=decide (v*v / 4294967296>4503599627370496)/\(pwBig v=false->pw20 v=P / 4294967296/\pw16 v=false):=by
  unfold pwBig
  rw [q18,q16]
  by_cases hb:4294967296<=P / 18446744073709551616
  .refine ⟨?_,fun h=>by simp [hb] at h⟩
   rw [es]
   simp [hb]; omega
  .have hor:pw20 v=P / 4294967296:=by
    unfold pw20
    rw [q16,q18,q19,q14,q15,decide_eq_false hb]
    simp only [cond_false]
    rw [Int.fdiv_eq_ediv_of_nonneg _ (by decide),u64w (n:=P / 18446744073709551616*4294967296) (by omega) (by omega)]
    obtain ⟨n,hn⟩:=Int.eq_ofNat_of_zero_le (show 0<=P % 18446744073709551616 / 4294967296 by omega)
    obtain ⟨m,hm⟩:=Int.eq_ofNat_of_zero_le (show 0<=P / 18446744073709551616 by omega)
    rw [hn,hm,show (m:Int)*4294967296=((m*4294967296:Nat):Int) by omega,Go.Eng.dOr_eq _ _ (by omega) (by omega)]
    have:n ||| m*4294967296=m*4294967296+n:=by
     rw [Nat.or_comm,Nat.mul_comm]
     exact (Nat.two_pow_add_eq_or_of_lt (i:=32) (show n<2 ^ 32 by omega) m).symm
    rw [this]
    omega
   rw [hor,decide_eq_false hb,es]
   exact ⟨rfl,fun _=>⟨rfl,rfl⟩⟩
 obtain ⟨b1,b2⟩:=big
 refine ⟨?_,?_,?_,nd⟩
 .unfold pwD sqD
  cases hb:pwBig v with
  | true=>rw [<- b1,hb]; rfl
  | false=>
   rw [<- b1,hb,(b2 hb).1,es]
   rw [hb] at b1
   have b1:=of_decide_eq_false b1.symm
   rw [es] at b1
   simp only [cond_false]
   rw [i64w (by omega) (by omega)]; rfl
 .unfold pwU sqU
  cases hb:pwBig v with
  | true=>rw [<- b1,hb]; rfl
  | false=>
   obtain ⟨b3,b4⟩:=b2 hb
   rw [<- b1,hb,b3,b4,q18,e21,es]
   rw [hb] at b1
   have b1:=of_decide_eq_false b1.symm
   rw [es] at b1
   simp only [cond_false]
   rw [i64w (n:=P / 4294967296) (by omega) (by omega),i64w (n:=P / 4294967296+1) (by omega) (by omega)]
   unfold rd
   simp only [cond_true]
   by_cases hr:P % 4294967296>0
   .rw [decide_eq_true hr]; simp only [cond_true]; omega
   .rw [decide_eq_false hr]; simp only [cond_false]; omega
 .unfold pwE sqE; rw [b1]
end Go.Ar
namespace Go.Ar
open Go
def xaM (a b:Int):Int:=if IntKind.i64.wrap (0 - b)>a then IntKind.i64.wrap (0 - b) else a
def xaL0 (a b:Int):Int:=if 0>xaM a b then 0 else xaM a b
def xaH0 (a b:Int):Int:=if IntKind.i64.wrap (0 - a)>b then IntKind.i64.wrap (0 - a) else b
def xaL (a b:Int):Int:=bif xCS a b != 0 then 0 else bif xTb (xaL0 a b) (xaH0 a b) then 0 else xaL0 a b
def xaH (a b:Int):Int:=bif xCS a b != 0 then 0 else bif xTb (xaL0 a b) (xaH0 a b) then 0 else xaH0 a b
def xsqBad (a b:Int):Bool:=bif sqE (xaL a b) != 0 then true else sqE (xaH a b) != 0
def xSqrS (a b:Int):Sp:=
 ⟨bif xCS a b != 0 then 0 else bif xsqBad a b then 0 else bif xTb (sqD (xaL a b)) (sqU (xaH a b)) then 0 else sqD (xaL a b),
  bif xCS a b != 0 then 0 else bif xsqBad a b then 0 else bif xTb (sqD (xaL a b)) (sqU (xaH a b)) then 0 else sqU (xaH a b),
  bif xCS a b != 0 then xCS a b else bif xsqBad a b then 6 else bif xTb (sqD (xaL a b)) (sqU (xaH a b)) then 6 else 0⟩
def xSqrN (a b:Int):Prop:=(!(xCS a b != 0))=true->okF (xaL a b)=true/\okF (xaH a b)=true
theorem xa_eq {a b:Int} (h:okSp a b=true):xaL a b=abL a b/\xaH a b=abH a b/\0<=abL a b/\abL a b<=abH a b/\abH a b<=4503599627370496:=by
 have k:=okSp_iff.1 h
 have l0:xaL0 a b=abL a b:=by
  unfold xaL0 xaM abL mx
  rw [i64w (by omega) (by omega)]
  by_cases h1:a < -b
  .rw [if_pos (show 0 - b>a by omega),decide_eq_true h1]
   simp only [cond_true]
   by_cases h2:-b<0
   .rw [if_pos (by omega),decide_eq_true h2]; rfl
   .rw [if_neg (by omega),decide_eq_false h2]; simp only [cond_false]; omega
  .rw [if_neg (show ¬ 0 - b>a by omega),decide_eq_false h1]
   simp only [cond_false]
   by_cases h2:a<0
   .rw [if_pos (by omega),decide_eq_true h2]; rfl
   .rw [if_neg (by omega),decide_eq_false h2]; rfl
 have h0:xaH0 a b=abH a b:=by
  unfold xaH0 abH mx
  rw [i64w (by omega) (by omega)]
  by_cases h1:b < -a
  .rw [if_pos (show 0 - a>b by omega),decide_eq_true h1]; simp only [cond_true]; omega
  .rw [if_neg (show ¬ 0 - a>b by omega),decide_eq_false h1]; rfl
 have bl:0<=abL a b/\abL a b<=abH a b/\abH a b<=4503599627370496:=by
  unfold abL abH
  have m1:=le_mx a (-b); have m2:=le_mx (mx a (-b)) 0; have m3:=le_mx b (-a)
  omega
 have ht:xTb (abL a b) (abH a b)=false:=by
  unfold xTb; rw [decide_eq_false (by omega),decide_eq_false (by omega)]; rfl
 unfold xaL xaH
 rw [l0,h0,ht,xCS_eq,h]
 exact ⟨rfl,rfl,bl⟩
theorem xSqrN_all (a b:Int):xSqrN a b:=by
 intro h
 rw [xCS_eq] at h
 cases k:okSp a b with
 | false=>rw [k] at h; cases h
 | true=>
  obtain ⟨e1,e2,b1,b2,b3⟩:=xa_eq k
  rw [e1,e2,okF_iff,okF_iff]; omega
theorem xSqrS_eq (a b:Int):xSqrS a b=sqrS a b:=by
 unfold xSqrS sqrS
 rw [xCS_eq]
 cases h:okSp a b with
 | false=>simp [err]
 | true=>
  obtain ⟨e1,e2,b1,b2,b3⟩:=xa_eq h
  unfold xsqBad
  rw [e1,e2]
  have q:abL a b*abL a b<=abH a b*abH a b:=Int.mul_le_mul b2 b2 b1 (by omega)
  have q0:0<=abL a b*abL a b:=Int.mul_nonneg b1 b1
  unfold sqE sqD sqU toldS
  generalize hP:abL a b*abL a b=P at *
  generalize hQ:abH a b*abH a b=Q at *
  have u1:rd P 4294967296 false=P / 4294967296:=rfl
  have u2:rd Q 4294967296 true=Q / 4294967296+(if 0<Q % 4294967296 then 1 else 0):=by
   unfold rd; simp only [cond_true]; rw [neg_div (by decide)]; omega
  have okl:okF (rd P 4294967296 false)=!decide (P / 4294967296>4503599627370496):=by
   rw [u1]; unfold okF
   rw [decide_eq_true (show (-4503599627370496:Int)<=P / 4294967296 by omega),Bool.true_and,Bool.eq_iff_iff]
   simp only [decide_eq_true_eq,Bool.not_eq_true',decide_eq_false_iff_not]; omega
  cases hp:decide (P / 4294967296>4503599627370496) with
  | true=>rw [okl,hp]; simp [err]
  | false=>
   have hp':=of_decide_eq_false hp
   cases hq:decide (Q / 4294967296>4503599627370496) with
   | true=>
    have hq':=of_decide_eq_true hq
    have:okF (rd Q 4294967296 true)=false:=by rw [okF_false,u2]; split <;> omega
    rw [this]; simp [err]
   | false=>
    have hq':=of_decide_eq_false hq
    simp only [cond_false,cond_true,bne_self_eq_false]
    rw [xTb_eq (by rw [u1,u2]; split <;> omega)]
    cases okF (rd P 4294967296 false)&&okF (rd Q 4294967296 true) <;> simp [err]
theorem rd_lt_rd {n m d:Int} (hd:0<d) (h:n<=m) (up:Bool):rd n d up<=rd m d up:=by
 unfold rd
 cases up with
 | false=>exact Int.ediv_le_ediv hd h
 | true=>
  have:=Int.ediv_le_ediv hd (show -m<=-n by omega)
  simp only [cond_true]; omega
theorem sc_law {x n d:Int} (hx:okF x=true) (hn:0<=n) (hr:okR n d=true) (hb:sg x x*n<18446744073709551615*d) (up:Bool):xScV x n d up=fitV (rd (x*n) d up)/\xScE x n d up=fitE (rd (x*n) d up):=by
 obtain ⟨a1,a2,a3⟩:=sz_of hx
 simp only [okR,Bool.and_eq_true,decide_eq_true_eq] at hr
 obtain ⟨⟨⟨n1,n2⟩,d1⟩,d2⟩:=hr
 have en:xSz n=n:=by rw [xSz_eq (by omega) (by omega)]; rcases sg_cases n with ⟨_,e⟩|⟨_,e⟩ <;> omega
 have esn:sg n n=n:=by rcases sg_cases n with ⟨_,e⟩|⟨_,e⟩ <;> omega
 have ed:IntKind.u64.wrap d=d:=u64w (by omega) (by omega)
 have ok:xOkS x n d=false:=by
  rw [xOkS_eq]; unfold okS; rw [hx,decide_eq_true n1,decide_eq_true n2,decide_eq_true d1,decide_eq_true d2]; rfl
 have hm:sg x x*n<=4503599627370496*4611686018427387904:=Int.mul_le_mul a3 n2 hn (by decide)
 obtain ⟨v,e,_⟩:=xN_eq (p:=sg x x*n) (d:=d) (Int.mul_nonneg a2 hn) (by omega) (by omega) (by omega) up (xNeg x n) (x*n) (by have:=xNeg_mul x n; rw [esn] at this; exact this) (.inl hb)
 unfold xScV xScE
 rw [ok,a1,en,ed]
 exact ⟨v,e⟩
theorem sc_bad {x n d:Int} (h:okR n d=false) (up:Bool):xScE x n d up=2:=by
 unfold xScE
 have:xOkS x n d=true:=by
  rw [xOkS_eq]; unfold okS okR at *; rw [h,Bool.and_false]; rfl
 rw [this]; rfl
theorem xScaleS_eq (a b n d:Int) (hb:okSp a b=true->okR n d=true->abH a b*sg n n<18446744073709551615*d):xScaleS a b n d=scaleS a b n d:=by
 unfold xScaleS scaleS
 rw [xCS_eq]
 cases h:okSp a b with
 | false=>simp [err]
 | true=>
  have k:=okSp_iff.1 h
  cases hr:okR n d with
  | false=>
   have hx:xsOk n=true->xsBad a b n d=true/\xScE (xsA a b n) (xsN n) d false=2/\xScE (xsB a b n) (xsN n) d true=2:=by
    intro ho
    have hr2:okR (xsN n) d=false:=by
     unfold xsN
     by_cases hn:n<0
     .simp only [xsOk,hn,decide_true,cond_true,Bool.not_eq_true',decide_eq_false_iff_not] at ho
      rw [decide_eq_true hn,cond_true,i64w (by omega) (by omega)]
      simp only [okR,Bool.and_eq_false_iff,decide_eq_false_iff_not] at hr ⊢
      omega
     .rw [decide_eq_false hn]; exact hr
    have e1:=sc_bad (x:=xsA a b n) hr2 false
    have e2:=sc_bad (x:=xsB a b n) hr2 true
    exact ⟨by unfold xsBad; rw [e1]; rfl,e1,e2⟩
   cases ho:xsOk n with
   | false=>simp [err]
   | true=>
    obtain ⟨h1,h2,h3⟩:=hx ho
    simp [h1,h2,h3,err]
  | true=>
   have hb:=hb h hr
   have hr':=hr
   simp only [okR,Bool.and_eq_true,decide_eq_true_eq] at hr'
   obtain ⟨⟨⟨n1,n2⟩,d1⟩,d2⟩:=hr'
   have ho:xsOk n=true:=by
    unfold xsOk
    by_cases hn:n<0
    .rw [decide_eq_true hn,decide_eq_false (by omega)]; rfl
    .rw [decide_eq_false hn]; rfl
   have m3:=le_mx b (-a)
   have core:∀ (x y m:Int),0<=m->m<=4611686018427387904->okF x=true->okF y=true->x<=y->sg x x<=abH a b->sg y y<=abH a b->abH a b*m<18446744073709551615*d ->
     (⟨bif (bif xScE x m d false != 0 then true else xScE y m d true != 0) then 0 else xScV x m d false,bif (bif xScE x m d false != 0 then true else xScE y m d true != 0) then 0 else xScV y m d true,
      bif (bif xScE x m d false != 0 then true else xScE y m d true != 0) then (if xScE y m d true>xScE x m d false then xScE y m d true else xScE x m d false) else 0⟩:Sp)=toldS (rd (x*m) d false) (rd (y*m) d true):=by
    intro x y m m0 m1 hx hy hxy sx sy hbm
    have hr2:okR m d=true:=by simp [okR]; omega
    have bx:sg x x*m<18446744073709551615*d:=Int.lt_of_le_of_lt (Int.mul_le_mul_of_nonneg_right sx m0) hbm
    have by':sg y y*m<18446744073709551615*d:=Int.lt_of_le_of_lt (Int.mul_le_mul_of_nonneg_right sy m0) hbm
    obtain ⟨v1,e1⟩:=sc_law hx m0 hr2 bx false
    obtain ⟨v2,e2⟩:=sc_law hy m0 hr2 by' true
    rw [v1,e1,v2,e2]
    unfold toldS
    rcases fitE_cases (rd (x*m) d false) with ⟨p1,p2,p3⟩|⟨p1,p2,p3⟩ <;> rcases fitE_cases (rd (y*m) d true) with ⟨q1,q2,q3⟩|⟨q1,q2,q3⟩ <;> rw [p1,p2,p3,q1,q2,q3] <;> rfl
   unfold xsBad
   rw [ho]
   simp only [bne_self_eq_false,cond_false,cond_true]
   by_cases hn:n<0
   .have ea:xsA a b n=-b:=by unfold xsA; rw [decide_eq_true hn,cond_true,i64w (by omega) (by omega)]; omega
    have eb:xsB a b n=-a:=by unfold xsB; rw [decide_eq_true hn,cond_true,i64w (by omega) (by omega)]; omega
    have en:xsN n=-n:=by unfold xsN; rw [decide_eq_true hn,cond_true,i64w (by omega) (by omega)]; omega
    have esn:sg n n=-n:=by rcases sg_cases n with ⟨_,e⟩|⟨_,e⟩ <;> omega
    rw [esn] at hb
    rw [ea,eb,en]
    rw [core (-b) (-a) (-n) (by omega) (by omega) (okF_iff.2 (by omega)) (okF_iff.2 (by omega)) (by omega)
     (by unfold abH; rcases sg_cases (-b) with ⟨_,e⟩|⟨_,e⟩ <;> omega) (by unfold abH; rcases sg_cases (-a) with ⟨_,e⟩|⟨_,e⟩ <;> omega) hb]
    have hmul:b*n<=a*n:=Int.mul_le_mul_of_nonpos_right k.2.1 (by omega)
    have e1:mn (a*n) (b*n)=b*n:=by
     unfold mn; by_cases h2:b*n<a*n
     .rw [decide_eq_true h2]; rfl
     .rw [decide_eq_false h2]; simp only [cond_false]; omega
    have e2:mx (a*n) (b*n)=a*n:=by
     unfold mx; rw [decide_eq_false (by omega)]; rfl
    rw [e1,e2,Int.neg_mul_neg,Int.neg_mul_neg]
   .have ea:xsA a b n=a:=by unfold xsA; rw [decide_eq_false hn]; rfl
    have eb:xsB a b n=b:=by unfold xsB; rw [decide_eq_false hn]; rfl
    have en:xsN n=n:=by unfold xsN; rw [decide_eq_false hn]; rfl
    have esn:sg n n=n:=by rcases sg_cases n with ⟨_,e⟩|⟨_,e⟩ <;> omega
    rw [esn] at hb
    rw [ea,eb,en]
    rw [core a b n (by omega) n2 (okF_iff.2 (by omega)) (okF_iff.2 (by omega)) k.2.1
     (by unfold abH; rcases sg_cases a with ⟨_,e⟩|⟨_,e⟩ <;> omega) (by unfold abH; rcases sg_cases b with ⟨_,e⟩|⟨_,e⟩ <;> omega) hb]
    have hmul:a*n<=b*n:=Int.mul_le_mul_of_nonneg_right k.2.1 (by omega)
    have e1:mn (a*n) (b*n)=a*n:=by
     unfold mn; rw [decide_eq_false (by omega)]; rfl
    have e2:mx (a*n) (b*n)=b*n:=by
     unfold mx; by_cases h2:a*n<b*n
     .rw [decide_eq_true h2]; rfl
     .rw [decide_eq_false h2]; simp only [cond_false]; omega
    rw [e1,e2]
end Go.Ar
namespace Go.Ar
open Go Go.Eng
end Go.Ar
namespace Go.Ar
open Go Go.Eng
end Go.Ar
namespace Go.Ar
open Go Go.Eng
end Go.Ar
namespace Go.Ar
open Go Go.Eng
noncomputable section
def shS:Sh:=.a [.i .i64,.i .i64]
def outS (s:Sp):Tm:=.u [.a [.n .i64 s.lo,.n .i64 s.hi],.n .i64 s.e]
def sBin (F:Int->Int->Int->Int->Sp):PSpec:=numSpec [shS,shS] none fun
 | [.n a,.n b,.n c,.n d]=>outS (F a b c d)
 | _=>.u []
def sUn (F:Int->Int->Sp):PSpec:=numSpec [shS] none fun
 | [.n a,.n b]=>outS (F a b)
 | _=>.u []
def sSc (F:Int->Int->Int->Int->Sp):PSpec:=numSpec [shS,.i .i64,.i .i64] none fun
 | [.n a,.n b,.n n,.n d]=>outS (F a b n d)
 | _=>.u []
def chkS (a b:Int):Int:=bif okSp a b then 0 else 20
def sChk:PSpec:=numSpec [shS] none fun
 | [.n a,.n b]=>.n .i64 (chkS a b)
 | _=>.u []
def sPow:PSpec:=numSpec [.i .i64,.c (.int false .i64 2)] (some fun
 | [.n v]=>okF v
 | _=>false) fun
 | [.n v]=>.u [.n .i64 (sqD v),.n .i64 (sqU v),.n .i64 (sqE v)]
 | _=>.u []
end
end Go.Ar
namespace Go.Proofs.YtkbndjnibcjchaaGreatDoor.K
open Go Go.Eng Go.Ar
noncomputable section
theorem chk_run (a b:Int):oneV ((run c2 300).call 47 [.agg [.int true .i64 a,.int true .i64 b]] ⟨[],0,1⟩)=some (.tt,.int true .i64 (xCS a b)):=by kernel_rfl
theorem add_run (a b c d:Int):oneV ((run c2 300).call 51 [.agg [.int true .i64 a,.int true .i64 b],.agg [.int true .i64 c,.int true .i64 d]] ⟨[],0,1⟩)=some (.tt,(outS (xAddS a b c d)).av true):=by kernel_rfl
theorem sub_run (a b c d:Int):oneV ((run c2 300).call 71 [.agg [.int true .i64 a,.int true .i64 b],.agg [.int true .i64 c,.int true .i64 d]] ⟨[],0,1⟩)=some (.tt,(outS (xSubS a b c d)).av true):=by kernel_rfl
theorem mul_run (a b c d:Int):oneV ((run c2 300).call 52 [.agg [.int true .i64 a,.int true .i64 b],.agg [.int true .i64 c,.int true .i64 d]] ⟨[],0,1⟩)=some (.tt,(outS (xMulS a b c d)).av true):=by kernel_rfl
theorem sdiv_run (a b c d:Int):oneV ((run c2 300).call 63 [.agg [.int true .i64 a,.int true .i64 b],.agg [.int true .i64 c,.int true .i64 d]] ⟨[],0,1⟩)=some (.tt,(outS (xDivS a b c d)).av true):=by kernel_rfl
theorem sqrt_run (a b:Int):oneV ((run c2 300).call 73 [.agg [.int true .i64 a,.int true .i64 b]] ⟨[],0,1⟩)=some (.tt,(outS (xSqrtS a b)).av true):=by kernel_rfl
theorem scale_run (a b n d:Int):oneV ((run c2 300).call 90 [.agg [.int true .i64 a,.int true .i64 b],.int true .i64 n,.int true .i64 d] ⟨[],0,1⟩)=some (.tt,(outS (xScaleS a b n d)).av true):=by kernel_rfl
theorem pow_run (v:Int):oneV ((run c2 300).call 122 [.int true .i64 v,.int false .i64 2] ⟨[],0,1⟩)=some (.p (pwN v),.tuple [.int true .i64 (pwD v),.int true .i64 (pwU v),.int true .i64 (pwE v)]):=by kernel_rfl
theorem pow_ok:PureOk Tryz.prog 122 sPow:=by
 refine num_ok (fun xs hk hN=>?_) ⟨_,Tryz.func122,rfl⟩
 obtain ⟨v,_,rfl,h1⟩:=kn hk; obtain rfl:=k0 h1
 obtain ⟨e1,e2,e3,hn⟩:=pw_law hN
 have:=pow_run v
 rw [e1,e2,e3] at this
 exact ⟨c2,300,_,c2_ok,rfl,fun _=>rfl,rfl,this,hn⟩
noncomputable def tbl3:List (FuncId×PSpec):=(122,sPow) :: tbl2
theorem tbl3_ok:TblOk Tryz.prog tbl3:=fun x hx=>by
 rcases List.mem_cons.1 hx with rfl|hx
 .exact pow_ok
 .exact tbl2_ok x hx
noncomputable def c3:Ctx:=mkC Tryz.prog tbl3 ext
theorem c3_ok:CtxOk c3:=mkC_ok prog_ok tbl3_ok ext_ok
theorem sqr_run (a b:Int):oneV ((run c3 300).call 80 [.agg [.int true .i64 a,.int true .i64 b]] ⟨[],0,1⟩)=some (.p (xSqrN a b),(outS (xSqrS a b)).av true):=by kernel_rfl
theorem schk_ok:PureOk Tryz.prog 47 sChk:=by
 refine num_ok (fun xs hk _=>?_) ⟨_,Tryz.func47,rfl⟩
 obtain ⟨a,_,rfl,h1⟩:=kn hk; obtain ⟨b,_,rfl,h2⟩:=kn h1; obtain rfl:=k0 h2
 have:=chk_run a b
 rw [xCS_eq] at this
 exact ⟨c2,300,_,c2_ok,rfl,fun _=>rfl,rfl,this,trivial⟩
theorem sadd_ok:PureOk Tryz.prog 51 (sBin addS):=by
 refine num_ok (fun xs hk _=>?_) ⟨_,Tryz.func51,rfl⟩
 obtain ⟨a,_,rfl,h1⟩:=kn hk; obtain ⟨b,_,rfl,h2⟩:=kn h1; obtain ⟨c,_,rfl,h3⟩:=kn h2; obtain ⟨d,_,rfl,h4⟩:=kn h3; obtain rfl:=k0 h4
 exact ⟨c2,300,_,c2_ok,rfl,fun _=>rfl,rfl,(add_run a b c d).trans (by rw [xAddS_eq]),trivial⟩
theorem ssub_ok:PureOk Tryz.prog 71 (sBin subS):=by
 refine num_ok (fun xs hk _=>?_) ⟨_,Tryz.func71,rfl⟩
 obtain ⟨a,_,rfl,h1⟩:=kn hk; obtain ⟨b,_,rfl,h2⟩:=kn h1; obtain ⟨c,_,rfl,h3⟩:=kn h2; obtain ⟨d,_,rfl,h4⟩:=kn h3; obtain rfl:=k0 h4
 exact ⟨c2,300,_,c2_ok,rfl,fun _=>rfl,rfl,(sub_run a b c d).trans (by rw [xSubS_eq]),trivial⟩
theorem smul_ok:PureOk Tryz.prog 52 (sBin mulS):=by
 refine num_ok (fun xs hk _=>?_) ⟨_,Tryz.func52,rfl⟩
 obtain ⟨a,_,rfl,h1⟩:=kn hk; obtain ⟨b,_,rfl,h2⟩:=kn h1; obtain ⟨c,_,rfl,h3⟩:=kn h2; obtain ⟨d,_,rfl,h4⟩:=kn h3; obtain rfl:=k0 h4
 exact ⟨c2,300,_,c2_ok,rfl,fun _=>rfl,rfl,(mul_run a b c d).trans (by rw [xMulS_eq]),trivial⟩
theorem sdiv_ok:PureOk Tryz.prog 63 (sBin divS):=by
 refine num_ok (fun xs hk _=>?_) ⟨_,Tryz.func63,rfl⟩
 obtain ⟨a,_,rfl,h1⟩:=kn hk; obtain ⟨b,_,rfl,h2⟩:=kn h1; obtain ⟨c,_,rfl,h3⟩:=kn h2; obtain ⟨d,_,rfl,h4⟩:=kn h3; obtain rfl:=k0 h4
 exact ⟨c2,300,_,c2_ok,rfl,fun _=>rfl,rfl,(sdiv_run a b c d).trans (by rw [xDivS_eq]),trivial⟩
theorem ssqrt_ok:PureOk Tryz.prog 73 (sUn sqrtS):=by
 refine num_ok (fun xs hk _=>?_) ⟨_,Tryz.func73,rfl⟩
 obtain ⟨a,_,rfl,h1⟩:=kn hk; obtain ⟨b,_,rfl,h2⟩:=kn h1; obtain rfl:=k0 h2
 exact ⟨c2,300,_,c2_ok,rfl,fun _=>rfl,rfl,(sqrt_run a b).trans (by rw [xSqrtS_eq]),trivial⟩
theorem ssqr_ok:PureOk Tryz.prog 80 (sUn sqrS):=by
 refine num_ok (fun xs hk _=>?_) ⟨_,Tryz.func80,rfl⟩
 obtain ⟨a,_,rfl,h1⟩:=kn hk; obtain ⟨b,_,rfl,h2⟩:=kn h1; obtain rfl:=k0 h2
 exact ⟨c3,300,_,c3_ok,rfl,fun _=>rfl,rfl,(sqr_run a b).trans (by rw [xSqrS_eq]),xSqrN_all a b⟩
theorem sscale_ok:PureOk Tryz.prog 90 (sSc xScaleS):=by
 refine num_ok (fun xs hk _=>?_) ⟨_,Tryz.func90,rfl⟩
 obtain ⟨a,_,rfl,h1⟩:=kn hk; obtain ⟨b,_,rfl,h2⟩:=kn h1; obtain ⟨n,_,rfl,h3⟩:=kn h2; obtain ⟨d,_,rfl,h4⟩:=kn h3; obtain rfl:=k0 h4
 exact ⟨c2,300,_,c2_ok,rfl,fun _=>rfl,rfl,scale_run a b n d,trivial⟩
end
end Go.Proofs.YtkbndjnibcjchaaGreatDoor.K
namespace Go.Proofs.YtkbndjnibcjchaaGreatDoor
open Go Go.Eng
theorem all_names:(Tryz.prog.funcs.toList.all fun fn=>!(fn.name=="runtime.NumGoroutine"))=true:=by kernel_rfl
theorem prog_ok:ProgOk Tryz.prog:=by
 refine ⟨fun f fn h _=>?_,by kernel_rfl⟩
 have h1:fn∈Tryz.prog.funcs.toList:=by
  rw [Array.mem_toList_iff]
  exact Array.mem_of_getElem? h
 have:=List.all_eq_true.1 all_names fn h1
 simpa using this
def ext (f:FuncId) (args:List AV):Option (Nd×AV):=
 match Nat.beq f 138 with
 | true=>match args with
  | [.int false .u64 x,.int false .u64 y,.int false .u64 c]=>match decide (0<=x/\0<=y/\0<=c/\c<=1) with
   | true=>some (.tt,.tuple [mkInt false .u64 ((x+y+c) % 18446744073709551616),mkInt false .u64 ((x+y+c) / 18446744073709551616)])
   | false=>none
  | _=>none
 | false=>none
theorem mkInt_rel {σ:Sg} {s:Bool} {k:IntKind} {n:Int}:VRel σ (mkInt s k n) (.int k n):=by
 cases s with
 | true=>rfl
 | false=>
  unfold mkInt forceInt
  cases n with
  | ofNat m=>cases m <;> rfl
  | negSucc m=>cases m <;> rfl
theorem add64_run (x y c:Int) (hx:0<=x) (hy:0<=y) (hc0:0<=c) (hc:c<=1) (w:World):
  (callFunc 138 #[.int .u64 x,.int .u64 y,.int .u64 c]).run Tryz.prog w=.ok (.value (.tuple #[.int .u64 ((x+y+c) % 18446744073709551616),.int .u64 ((x+y+c) / 18446744073709551616)])) w:=by
 rw [run_callFunc_extern Tryz.func138 (by kernel_rfl) (by kernel_rfl) (by kernel_rfl) (e:=add64Entry) (by kernel_rfl),run_add64 x y c hx hy hc0 hc]
 rfl
theorem ext_ok:ExtOk Tryz.prog ext:=by
 intro f args nd v e hn σ A W ha
 unfold ext at e
 split at e
 .rename_i hf
  have:=Nat.eq_of_beq_eq_true hf
  subst this
  split at e
  .rename_i x y c
   split at e
   .rename_i hd
    have hd:=of_decide_eq_true hd
    cases e
    obtain ⟨V,L,hL,rfl,V2,L2,hL2,rfl,V3,L3,hL3,rfl,hL4⟩:=ha
    rw [hL2,hL3,show L3=[] from hL4] at hL
    have hA:A=#[.int .u64 x,.int .u64 y,.int .u64 c]:=by
     apply Array.toList_inj.1; simpa using hL
    subst hA
    exact ⟨_,⟨_,rfl,_,_,rfl,mkInt_rel,_,_,rfl,mkInt_rel,rfl⟩,add64_run x y c hd.1 hd.2.1 hd.2.2.1 hd.2.2.2 W⟩
   .cases e
  .cases e
 .cases e
def glob (g:Nat):Option Nat:=
 match Nat.beq g 0 with
 | true=>some 0
 | false=>match Nat.beq g 1 with
  | true=>some 1
  | false=>none
def hG:Hp:=⟨[⟨0,.view [.int false .i64 1,.int false .i64 10]⟩,⟨0,.view [.int false .i64 11,.int false .i64 12,.int false .i64 13,.int false .i64 14,.int false .i64 15]⟩,⟨0,.view [.int false .i64 1,.int false .i64 2,.int false .i64 3,.int false .i64 4,.int false .i64 10]⟩,
 ⟨0,.view [.int false .i64 1,.int false .i64 2,.int false .i64 5,.int false .i64 6,.int false .i64 7,.int false .i64 8,.int false .i64 10]⟩,
 ⟨0,.map [(.int false .i64 1,.vslice 3 7),(.int false .i64 2,.vslice 4 5),(.int false .i64 3,.vslice 5 5),(.int false .i64 4,.vslice 6 2)]⟩,⟨0,.cells [.map 2]⟩,⟨0,.cells [.int false .i64 4294967296,.int false .i64 4294967296]⟩],7,1⟩
theorem glob_lt:∀ g i,glob g=some i->i<hG.size:=by
 intro g i h
 unfold glob at h
 split at h
 .cases h; decide
 .split at h
  .cases h; decide
  .cases h
theorem known {tbl:List (FuncId×List AV×AV)} (ht:∀ x∈tbl,MemoOk Tryz.prog glob hG x) {f:FuncId} {args:List AV} {v:AV} (ha:AV.underL 7 args=true) (hv:v.under 7=true)
  (e:memoV 7 1 ((run (mkM Tryz.prog glob hG tbl ext) 3000).call f args hG)=some v):MemoOk Tryz.prog glob hG (f,args,v):=
 memo_ok prog_ok ext_ok ht rfl (by kernel_rfl) glob_lt ha hv e
theorem none_known:∀ x∈([]:List (FuncId×List AV×AV)),MemoOk Tryz.prog glob hG x:=fun _ h=>by cases h
theorem more {x:FuncId×List AV×AV} {l:List (FuncId×List AV×AV)} (h:MemoOk Tryz.prog glob hG x) (k:∀ y∈l,MemoOk Tryz.prog glob hG y):∀ y∈x :: l,MemoOk Tryz.prog glob hG y:=fun y hy=>by
 rcases List.mem_cons.1 hy with rfl|hy
 .exact h
 .exact k y hy
end Go.Proofs.YtkbndjnibcjchaaGreatDoor
namespace Go.Proofs.YtkbndjnibcjchaaGreatDoor.K
open Go Go.Eng Go.Ar
noncomputable section
noncomputable def tblP:List (FuncId×PSpec):=[(47,sChk),(51,sBin addS),(71,sBin subS),(52,sBin mulS),(63,sBin divS),(80,sUn sqrS),(73,sUn sqrtS),(90,sSc xScaleS)]
theorem tblP_ok:TblOk Tryz.prog tblP:=by
 intro x hx
 simp only [tblP,List.mem_cons,List.not_mem_nil,or_false] at hx
 rcases hx with rfl|rfl|rfl|rfl|rfl|rfl|rfl|rfl
 .exact schk_ok
 .exact sadd_ok
 .exact ssub_ok
 .exact smul_ok
 .exact sdiv_ok
 .exact ssqr_ok
 .exact ssqrt_ok
 .exact sscale_ok
theorem tblP_g:∀ x∈tblP,GOk Tryz.prog glob hG x.1 x.2:=fun x hx=>(tblP_ok x hx).g glob hG
noncomputable def cS:Ctx:=mkG Tryz.prog glob hG tblP ext
theorem cS_ok:CtxOk cS:=mkG_ok prog_ok ext_ok tblP_g
theorem hG_plain:blksPlain hG.size hG.blks=true:=by kernel_rfl
def z64:Sh:=.c (.int false .i64 0)
def stdSh:Sh:=.a [.c (.int false .i64 1),.i .i64,.i .i64,z64,z64,z64,z64,z64,z64,z64,z64,z64,z64,.c (.str false ⟨#[]⟩),z64,z64,z64,z64,z64,z64,z64,.c .nilslice]
def bicSh:Sh:=.a [.c (.int false .i64 2),.i .i64,.i .i64,.i .i64,.i .i64,z64,z64,z64,z64,z64,z64,z64,z64,.c (.str false ⟨#[]⟩),z64,z64,z64,z64,z64,z64,z64,.c .nilslice]
end
end Go.Proofs.YtkbndjnibcjchaaGreatDoor.K
namespace Go.Proofs.YtkbndjnibcjchaaGreatDoor.K
open Go Go.Eng Go.Ar
noncomputable section
def goodV (s:Sp):AV:=.tuple [.agg [.int true .i64 s.lo,.int true .i64 s.hi],.int false .i64 0]
def good4 (ss:List Sh) (F:Int->Int->Int->Int->Sp):PSpec:=fun args=>match Sh.readL ss args with
 | some (_,[.n a,.n b,.n c,.n d])=>some (.p ((F a b c d).e=0),goodV (F a b c d))
 | _=>none
def good2 (ss:List Sh) (F:Int->Int->Sp):PSpec:=fun args=>match Sh.readL ss args with
 | some (_,[.n a,.n b])=>some (.p ((F a b).e=0),goodV (F a b))
 | _=>none
theorem outS_good {σ:Sg} {s:Bool} {x:Sp} {W:Value} (h:VRel σ ((outS x).av s) W) (he:x.e=0):VRel σ (goodV x) W:=by
 obtain ⟨K,rfl,h1⟩:=h
 obtain ⟨V1,L1,e1,h2,h3⟩:=h1
 obtain ⟨V2,L2,e2,h4,h5⟩:=h3
 obtain ⟨K1,rfl,h6⟩:=h2
 obtain ⟨V3,L3,e3,h7,h8⟩:=h6
 obtain ⟨V4,L4,e4,h9,h10⟩:=h8
 have h4:=(Go.Eng.mkInt_rel _ _ _ _).1 h4
 have h7:=(Go.Eng.mkInt_rel _ _ _ _).1 h7
 have h9:=(Go.Eng.mkInt_rel _ _ _ _).1 h9
 rw [he] at h4
 exact ⟨K,rfl,_,L1,e1,⟨K1,rfl,V3,L3,e3,h7,V4,L4,e4,h9,h10⟩,V2,L2,e2,h4,h5⟩
theorem good_bin {f:FuncId} {F:Int->Int->Int->Int->Sp} (g:PureOk Tryz.prog f (sBin F)):GOk Tryz.prog glob hG f (good4 [shS,shS] F):=by
 refine (g.g glob hG).weaken fun args nd v e=>?_
 unfold good4 at e
 split at e
 .rename_i s a b c d hr
  cases e
  refine ⟨.tt,(outS (F a b c d)).av s,?_,fun hn=>⟨trivial,fun σ W hW=>outS_good hW hn⟩⟩
  unfold sBin numSpec
  rw [hr]
 .cases e
theorem good_sc {f:FuncId} {F:Int->Int->Int->Int->Sp} (g:PureOk Tryz.prog f (sSc F)):GOk Tryz.prog glob hG f (good4 [shS,.i .i64,.i .i64] F):=by
 refine (g.g glob hG).weaken fun args nd v e=>?_
 unfold good4 at e
 split at e
 .rename_i s a b c d hr
  cases e
  refine ⟨.tt,(outS (F a b c d)).av s,?_,fun hn=>⟨trivial,fun σ W hW=>outS_good hW hn⟩⟩
  unfold sSc numSpec
  rw [hr]
 .cases e
theorem good_un {f:FuncId} {F:Int->Int->Sp} (g:PureOk Tryz.prog f (sUn F)):GOk Tryz.prog glob hG f (good2 [shS] F):=by
 refine (g.g glob hG).weaken fun args nd v e=>?_
 unfold good2 at e
 split at e
 .rename_i s a b hr
  cases e
  refine ⟨.tt,(outS (F a b)).av s,?_,fun hn=>⟨trivial,fun σ W hW=>outS_good hW hn⟩⟩
  unfold sUn numSpec
  rw [hr]
 .cases e
def nOkSp:List Nu->Bool
 | [.n a,.n b]=>okSp a b
 | _=>false
def chkSpec:PSpec:=fun args=>match Sh.readL [shS] args with
 | some (_,[.n a,.n b])=>some (.p (okSp a b=true),.int false .i64 0)
 | _=>none
theorem chk_of {f:FuncId} (g:GOk Tryz.prog glob hG f (constSpec [shS] nOkSp (.int false .i64 0))):GOk Tryz.prog glob hG f chkSpec:=by
 refine g.weaken fun args nd v e=>?_
 unfold chkSpec at e
 split at e
 .rename_i s a b hr
  cases e
  refine ⟨.p (nOkSp [.n a,.n b]=true),.int false .i64 0,?_,fun hn=>⟨hn,fun σ W hW=>hW⟩⟩
  unfold constSpec
  rw [hr]
 .cases e
theorem chk0:GOk Tryz.prog glob hG 47 chkSpec:=chk_of <|
 const_of (schk_ok.g glob hG) fun xs hk hn=>by
  obtain ⟨a,_,rfl,h1⟩:=kn hk; obtain ⟨b,_,rfl,h2⟩:=kn h1; obtain rfl:=k0 h2
  show Tm.n IntKind.i64 (chkS a b)=_
  unfold chkS
  rw [show okSp a b=true from hn]; rfl
def tblGood:List (FuncId×PSpec):=[(47,chkSpec),(51,good4 [shS,shS] addS),(71,good4 [shS,shS] subS),(52,good4 [shS,shS] mulS),(63,good4 [shS,shS] divS),(80,good2 [shS] sqrS),(73,good2 [shS] sqrtS),(90,good4 [shS,.i .i64,.i .i64] xScaleS)]
theorem tblGood_g:∀ x∈tblGood,GOk Tryz.prog glob hG x.1 x.2:=by
 intro x hx
 simp only [tblGood,List.mem_cons,List.not_mem_nil,or_false] at hx
 rcases hx with rfl|rfl|rfl|rfl|rfl|rfl|rfl|rfl
 .exact chk0
 .exact good_bin sadd_ok
 .exact good_bin ssub_ok
 .exact good_bin smul_ok
 .exact good_bin sdiv_ok
 .exact good_un ssqr_ok
 .exact good_un ssqrt_ok
 .exact good_sc sscale_ok
end
end Go.Proofs.YtkbndjnibcjchaaGreatDoor.K
namespace Go.Proofs.YtkbndjnibcjchaaGreatDoor.K
open Go Go.Eng Go.Ar
noncomputable section
def r9 (c:Int):Bool:=bif decide (c < -1000000000) then true else decide (c>1000000000)
def r8 (k:Int):Bool:=bif decide (k < -100000000) then true else decide (k>100000000)
def chkStdE (c k:Int):Int:=bif !bif (c==c&&(k==k&&true)) then true else false then 110 else bif !bif !decide ((bif r9 c then 0 else -1:Int)>=0) then true else false then 110 else bif !bif !decide ((bif r8 k then 0 else -1:Int)>=0) then true else false then 110 else 0
def chkBicE (c k e l:Int):Int:=bif !bif (c==c&&(k==k&&(e==e&&(l==l&&true)))) then true else false then 110 else
 bif !bif !decide ((bif !r9 c&&!r9 e then -1 else bif r9 c then 0 else 1:Int)>=0) then true else false then 110 else bif !bif !decide ((bif !r8 k&&!r8 l then -1 else bif r8 k then 0 else 1:Int)>=0) then true else false then 110 else 0
theorem chkStd_run (c k:Int):oneG hG.size hG.clock ((run cS 1000).call 21 (Sh.mkL [stdSh] [.n c,.n k]).1 hG)=some (.p (k=k/\(c=c/\k=k)/\c=c/\k=k),.int true .i64 (chkStdE c k)):=by kernel_rfl
theorem chkBic_run (c k e l:Int):oneG hG.size hG.clock ((run cS 1000).call 21 (Sh.mkL [bicSh] [.n c,.n k,.n e,.n l]).1 hG)=some (.p ((l=l/\k=k)/\(c=c/\k=k/\e=e/\l=l)/\c=c/\k=k/\e=e/\l=l),.int true .i64 (chkBicE c k e l)):=by kernel_rfl
theorem hG_ok:hG.ok:=rfl
theorem r9_f {c:Int} (h:-1000000000<=c/\c<=1000000000):r9 c=false:=by
 unfold r9; rw [decide_eq_false (by omega),decide_eq_false (by omega)]; rfl
theorem r8_f {c:Int} (h:-100000000<=c/\c<=100000000):r8 c=false:=by
 unfold r8; rw [decide_eq_false (by omega),decide_eq_false (by omega)]; rfl
def inC (c k:Int):Prop:=(-1000000000<=c/\c<=1000000000)/\(-100000000<=k/\k<=100000000)
theorem chkStdE_0 {c k:Int} (h:inC c k):chkStdE c k=0:=by
 unfold chkStdE; rw [r9_f h.1,r8_f h.2,beq_self_eq_true,beq_self_eq_true]; rfl
theorem chkBicE_0 {c k e l:Int} (h:inC c k) (h':inC e l):chkBicE c k e l=0:=by
 unfold chkBicE; rw [r9_f h.1,r8_f h.2,r9_f h'.1,r8_f h'.2,beq_self_eq_true,beq_self_eq_true,beq_self_eq_true,beq_self_eq_true]; rfl
def numStd:PSpec:=numSpec [stdSh] none fun
 | [.n c,.n k]=>.n .i64 (chkStdE c k)
 | _=>.u []
def numBic:PSpec:=numSpec [bicSh] none fun
 | [.n c,.n k,.n e,.n l]=>.n .i64 (chkBicE c k e l)
 | _=>.u []
theorem numStd_ok:GOk Tryz.prog glob hG 21 numStd:=by
 refine gnum_ok hG_ok hG_plain glob_lt (fun xs hk _=>?_) ⟨_,Tryz.func21,rfl⟩
 obtain ⟨c,_,rfl,h1⟩:=kn hk; obtain ⟨k,_,rfl,h2⟩:=kn h1; obtain rfl:=k0 h2
 exact ⟨cS,1000,_,cS_ok,rfl,rfl,rfl,chkStd_run c k,rfl,⟨rfl,rfl⟩,rfl,rfl⟩
theorem numBic_ok:GOk Tryz.prog glob hG 21 numBic:=by
 refine gnum_ok hG_ok hG_plain glob_lt (fun xs hk _=>?_) ⟨_,Tryz.func21,rfl⟩
 obtain ⟨c,_,rfl,h1⟩:=kn hk; obtain ⟨k,_,rfl,h2⟩:=kn h1; obtain ⟨e,_,rfl,h3⟩:=kn h2; obtain ⟨l,_,rfl,h4⟩:=kn h3; obtain rfl:=k0 h4
 exact ⟨cS,1000,_,cS_ok,rfl,rfl,rfl,chkBic_run c k e l,⟨rfl,rfl⟩,⟨rfl,rfl,rfl,rfl⟩,rfl,rfl,rfl,rfl⟩
def cStd:PSpec:=fun args=>match Sh.readL [stdSh] args with
 | some (_,[.n c,.n k])=>some (.p (inC c k),.int false .i64 0)
 | _=>none
def cBic:PSpec:=fun args=>match Sh.readL [bicSh] args with
 | some (_,[.n c,.n k,.n e,.n l])=>some (.p (inC c k/\inC e l),.int false .i64 0)
 | _=>none
theorem cStd_ok:GOk Tryz.prog glob hG 21 cStd:=by
 refine numStd_ok.weaken fun args nd v h=>?_
 unfold cStd at h
 split at h
 .rename_i s c k hr
  cases h
  refine ⟨.tt,mkInt s .i64 (chkStdE c k),?_,fun hn=>⟨trivial,fun σ W hW=>?_⟩⟩
  .unfold numStd numSpec
   rw [hr]; rfl
  .have:=(Go.Eng.mkInt_rel _ _ _ _).1 hW
   rw [chkStdE_0 hn] at this
   exact this
 .cases h
theorem cBic_ok:GOk Tryz.prog glob hG 21 cBic:=by
 refine numBic_ok.weaken fun args nd v h=>?_
 unfold cBic at h
 split at h
 .rename_i s c k e l hr
  cases h
  refine ⟨.tt,mkInt s .i64 (chkBicE c k e l),?_,fun hn=>⟨trivial,fun σ W hW=>?_⟩⟩
  .unfold numBic numSpec
   rw [hr]; rfl
  .have:=(Go.Eng.mkInt_rel _ _ _ _).1 hW
   rw [chkBicE_0 hn.1 hn.2] at this
   exact this
 .cases h
def tblA:List (FuncId×PSpec):=(21,orG cStd cBic) :: tblGood
theorem tblA_g:∀ x∈tblA,GOk Tryz.prog glob hG x.1 x.2:=by
 intro x hx
 rcases List.mem_cons.1 hx with rfl|hx
 .exact orG_ok cStd_ok cBic_ok
 .exact tblGood_g x hx
def h102 (b:Bool) (_ d:Nat):Option AV:=match Nat.beq d 102 with
 | true=>(match b with|true=>some (.bool false true)|false=>some (.bool false false))
 | false=>none
def cA (b:Bool):Ctx:=hinting (mkG Tryz.prog glob hG tblA ext) (h102 b)
theorem cA_ok (b:Bool):CtxOk (cA b):=hinting_ok (mkG_ok prog_ok ext_ok tblA_g) _
end
end Go.Proofs.YtkbndjnibcjchaaGreatDoor.K
namespace Go.Rd
open Go Go.Eng Go.Ar
def okCK (c k:Int):Prop:=(-1000000000<=c/\c<=1000000000)/\(-100000000<=k/\k<=100000000)
def s0 (c k a b d e:Int):Sp:=(sqrS a b)
def s1 (c k a b d e:Int):Sp:=(sqrS d e)
def s2 (c k a b d e:Int):Sp:=(addS (s0 c k a b d e).lo (s0 c k a b d e).hi (s1 c k a b d e).lo (s1 c k a b d e).hi)
def s3 (c k a b d e:Int):Sp:=(xScaleS (s2 c k a b d e).lo (s2 c k a b d e).hi c 1000000000)
def s4 (c k a b d e:Int):Sp:=(xScaleS (s3 c k a b d e).lo (s3 c k a b d e).hi c 1000000000)
def s5 (c k a b d e:Int):Sp:=(xScaleS (s4 c k a b d e).lo (s4 c k a b d e).hi (IntKind.i64.wrap (1000000+k)) 1000000)
def s6 (c k a b d e:Int):Sp:=(subS 4294967296 4294967296 (s5 c k a b d e).lo (s5 c k a b d e).hi)
def s7 (c k a b d e:Int):Sp:=(sqrtS (s6 c k a b d e).lo (s6 c k a b d e).hi)
def s8 (c k a b d e:Int):Sp:=(addS (s3 c k a b d e).lo (s3 c k a b d e).hi 0 0)
def s9 (c k a b d e:Int):Sp:=(addS 4294967296 4294967296 (s7 c k a b d e).lo (s7 c k a b d e).hi)
def s10 (c k a b d e:Int):Sp:=(divS (s8 c k a b d e).lo (s8 c k a b d e).hi (s9 c k a b d e).lo (s9 c k a b d e).hi)
def s11 (c k a b d e:Int):Sp:=(xScaleS d e c 1000000000)
def s12 (c k a b d e:Int):Sp:=(divS (s11 c k a b d e).lo (s11 c k a b d e).hi (s7 c k a b d e).lo (s7 c k a b d e).hi)
def s13 (c k a b d e:Int):Sp:=(xScaleS a b c 1000000000)
def s14 (c k a b d e:Int):Sp:=(divS (s13 c k a b d e).lo (s13 c k a b d e).hi (s7 c k a b d e).lo (s7 c k a b d e).hi)
def b0 (c k l m a b d e:Int):Sp:=(sqrS a b)
def b1 (c k l m a b d e:Int):Sp:=(xScaleS (b0 c k l m a b d e).lo (b0 c k l m a b d e).hi l 1000000000)
def b2 (c k l m a b d e:Int):Sp:=(sqrS d e)
def b3 (c k l m a b d e:Int):Sp:=(xScaleS (b2 c k l m a b d e).lo (b2 c k l m a b d e).hi c 1000000000)
def b4 (c k l m a b d e:Int):Sp:=(xScaleS (b1 c k l m a b d e).lo (b1 c k l m a b d e).hi l 1000000000)
def b5 (c k l m a b d e:Int):Sp:=(xScaleS (b3 c k l m a b d e).lo (b3 c k l m a b d e).hi c 1000000000)
def b6 (c k l m a b d e:Int):Sp:=(xScaleS (b4 c k l m a b d e).lo (b4 c k l m a b d e).hi (IntKind.i64.wrap (1000000+m)) 1000000)
def b7 (c k l m a b d e:Int):Sp:=(xScaleS (b5 c k l m a b d e).lo (b5 c k l m a b d e).hi (IntKind.i64.wrap (1000000+k)) 1000000)
def b8 (c k l m a b d e:Int):Sp:=(addS (b6 c k l m a b d e).lo (b6 c k l m a b d e).hi (b7 c k l m a b d e).lo (b7 c k l m a b d e).hi)
def b9 (c k l m a b d e:Int):Sp:=(subS 4294967296 4294967296 (b8 c k l m a b d e).lo (b8 c k l m a b d e).hi)
def b10 (c k l m a b d e:Int):Sp:=(sqrtS (b9 c k l m a b d e).lo (b9 c k l m a b d e).hi)
def b11 (c k l m a b d e:Int):Sp:=(addS (b1 c k l m a b d e).lo (b1 c k l m a b d e).hi (b3 c k l m a b d e).lo (b3 c k l m a b d e).hi)
def b12 (c k l m a b d e:Int):Sp:=(addS 4294967296 4294967296 (b10 c k l m a b d e).lo (b10 c k l m a b d e).hi)
def b13 (c k l m a b d e:Int):Sp:=(divS (b11 c k l m a b d e).lo (b11 c k l m a b d e).hi (b12 c k l m a b d e).lo (b12 c k l m a b d e).hi)
def b14 (c k l m a b d e:Int):Sp:=(xScaleS a b l 1000000000)
def b15 (c k l m a b d e:Int):Sp:=(xScaleS (b14 c k l m a b d e).lo (b14 c k l m a b d e).hi l 1000000000)
def b16 (c k l m a b d e:Int):Sp:=(xScaleS (b15 c k l m a b d e).lo (b15 c k l m a b d e).hi (IntKind.i64.wrap (1000000+m)) 1000000)
def b17 (c k l m a b d e:Int):Sp:=(divS (b16 c k l m a b d e).lo (b16 c k l m a b d e).hi (b10 c k l m a b d e).lo (b10 c k l m a b d e).hi)
def b18 (c k l m a b d e:Int):Sp:=(xScaleS d e c 1000000000)
def b19 (c k l m a b d e:Int):Sp:=(xScaleS (b18 c k l m a b d e).lo (b18 c k l m a b d e).hi c 1000000000)
def b20 (c k l m a b d e:Int):Sp:=(xScaleS (b19 c k l m a b d e).lo (b19 c k l m a b d e).hi (IntKind.i64.wrap (1000000+k)) 1000000)
def b21 (c k l m a b d e:Int):Sp:=(divS (b20 c k l m a b d e).lo (b20 c k l m a b d e).hi (b10 c k l m a b d e).lo (b10 c k l m a b d e).hi)
def b22 (c k l m a b d e:Int):Sp:=(mulS (b13 c k l m a b d e).lo (b13 c k l m a b d e).hi (b21 c k l m a b d e).lo (b21 c k l m a b d e).hi)
def b23 (c k l m a b d e:Int):Sp:=(xScaleS (b18 c k l m a b d e).lo (b18 c k l m a b d e).hi 2 1)
def b24 (c k l m a b d e:Int):Sp:=(addS (b23 c k l m a b d e).lo (b23 c k l m a b d e).hi (b22 c k l m a b d e).lo (b22 c k l m a b d e).hi)
def b25 (c k l m a b d e:Int):Sp:=(divS (b24 c k l m a b d e).lo (b24 c k l m a b d e).hi (b12 c k l m a b d e).lo (b12 c k l m a b d e).hi)
def b26 (c k l m a b d e:Int):Sp:=(mulS (b13 c k l m a b d e).lo (b13 c k l m a b d e).hi (b17 c k l m a b d e).lo (b17 c k l m a b d e).hi)
def b27 (c k l m a b d e:Int):Sp:=(xScaleS (b14 c k l m a b d e).lo (b14 c k l m a b d e).hi 2 1)
def b28 (c k l m a b d e:Int):Sp:=(addS (b27 c k l m a b d e).lo (b27 c k l m a b d e).hi (b26 c k l m a b d e).lo (b26 c k l m a b d e).hi)
def b29 (c k l m a b d e:Int):Sp:=(divS (b28 c k l m a b d e).lo (b28 c k l m a b d e).hi (b12 c k l m a b d e).lo (b12 c k l m a b d e).hi)
structure PsagSF (c k a b d e:Int):Prop where
 h0:okCK c k
 h1:okSp a b=true
 h2:okSp d e=true
 h3:(s0 c k a b d e).e=0
 h4:(s1 c k a b d e).e=0
 h5:(s2 c k a b d e).e=0
 h6:(s3 c k a b d e).e=0
 h7:(s4 c k a b d e).e=0
 h8:(s5 c k a b d e).e=0
 h9:(s6 c k a b d e).e=0
 h10:decide ((s6 c k a b d e).lo<=0)=true
structure PsagSG (c k a b d e:Int):Prop where
 h0:okCK c k
 h1:okSp a b=true
 h2:okSp d e=true
 h3:(s0 c k a b d e).e=0
 h4:(s1 c k a b d e).e=0
 h5:(s2 c k a b d e).e=0
 h6:(s3 c k a b d e).e=0
 h7:(s4 c k a b d e).e=0
 h8:(s5 c k a b d e).e=0
 h9:(s6 c k a b d e).e=0
 h10:decide ((s6 c k a b d e).lo<=0)=false
 h11:(s7 c k a b d e).e=0
 h12:(s8 c k a b d e).e=0
 h13:(s9 c k a b d e).e=0
 h14:(s10 c k a b d e).e=0
structure PsagBF (c k l m a b d e:Int):Prop where
 h0:okCK c k
 h1:okCK l m
 h2:okSp a b=true
 h3:okSp d e=true
 h4:(b0 c k l m a b d e).e=0
 h5:(b1 c k l m a b d e).e=0
 h6:(b2 c k l m a b d e).e=0
 h7:(b3 c k l m a b d e).e=0
 h8:(b4 c k l m a b d e).e=0
 h9:(b6 c k l m a b d e).e=0
 h10:(b5 c k l m a b d e).e=0
 h11:(b7 c k l m a b d e).e=0
 h12:(b8 c k l m a b d e).e=0
 h13:(b9 c k l m a b d e).e=0
 h14:decide ((b9 c k l m a b d e).lo<=0)=true
structure PsagBG (c k l m a b d e:Int):Prop where
 h0:okCK c k
 h1:okCK l m
 h2:okSp a b=true
 h3:okSp d e=true
 h4:(b0 c k l m a b d e).e=0
 h5:(b1 c k l m a b d e).e=0
 h6:(b2 c k l m a b d e).e=0
 h7:(b3 c k l m a b d e).e=0
 h8:(b4 c k l m a b d e).e=0
 h9:(b6 c k l m a b d e).e=0
 h10:(b5 c k l m a b d e).e=0
 h11:(b7 c k l m a b d e).e=0
 h12:(b8 c k l m a b d e).e=0
 h13:(b9 c k l m a b d e).e=0
 h14:decide ((b9 c k l m a b d e).lo<=0)=false
 h15:(b10 c k l m a b d e).e=0
 h16:(b11 c k l m a b d e).e=0
 h17:(b12 c k l m a b d e).e=0
 h18:(b13 c k l m a b d e).e=0
structure PslopeS (c k a b d e:Int):Prop where
 h0:okCK c k
 h1:okSp a b=true
 h2:okSp d e=true
 h3:(s0 c k a b d e).e=0
 h4:(s1 c k a b d e).e=0
 h5:(s2 c k a b d e).e=0
 h6:(s3 c k a b d e).e=0
 h7:(s4 c k a b d e).e=0
 h8:(s5 c k a b d e).e=0
 h9:(s6 c k a b d e).e=0
 h10:decide ((s6 c k a b d e).lo<=0)=false
 h11:(s7 c k a b d e).e=0
 h12:(s8 c k a b d e).e=0
 h13:(s9 c k a b d e).e=0
 h14:(s10 c k a b d e).e=0
 h15:(s13 c k a b d e).e=0
 h16:(s14 c k a b d e).e=0
 h17:(s11 c k a b d e).e=0
 h18:(s12 c k a b d e).e=0
structure PslopeB (c k l m a b d e:Int):Prop where
 h0:okCK c k
 h1:okCK l m
 h2:okSp a b=true
 h3:okSp d e=true
 h4:(b0 c k l m a b d e).e=0
 h5:(b1 c k l m a b d e).e=0
 h6:(b2 c k l m a b d e).e=0
 h7:(b3 c k l m a b d e).e=0
 h8:(b4 c k l m a b d e).e=0
 h9:(b6 c k l m a b d e).e=0
 h10:(b5 c k l m a b d e).e=0
 h11:(b7 c k l m a b d e).e=0
 h12:(b8 c k l m a b d e).e=0
 h13:(b9 c k l m a b d e).e=0
 h14:decide ((b9 c k l m a b d e).lo<=0)=false
 h15:(b10 c k l m a b d e).e=0
 h16:(b11 c k l m a b d e).e=0
 h17:(b12 c k l m a b d e).e=0
 h18:(b13 c k l m a b d e).e=0
 h19:(b14 c k l m a b d e).e=0
 h20:(b15 c k l m a b d e).e=0
 h21:(b16 c k l m a b d e).e=0
 h22:(b17 c k l m a b d e).e=0
 h23:(b27 c k l m a b d e).e=0
 h24:(b26 c k l m a b d e).e=0
 h25:(b28 c k l m a b d e).e=0
 h26:(b29 c k l m a b d e).e=0
 h27:(b18 c k l m a b d e).e=0
 h28:(b19 c k l m a b d e).e=0
 h29:(b20 c k l m a b d e).e=0
 h30:(b21 c k l m a b d e).e=0
 h31:(b23 c k l m a b d e).e=0
 h32:(b22 c k l m a b d e).e=0
 h33:(b24 c k l m a b d e).e=0
 h34:(b25 c k l m a b d e).e=0
end Go.Rd
namespace Go.Rd
open Go Go.Eng Go.Ar
def cc (n:Int):Int:=IntKind.i64.wrap (1000*IntKind.i64.wrap n)
def kk (n:Int):Int:=IntKind.i64.wrap (1000*IntKind.i64.wrap (n.tmod 3000))
def pp (n:Int):Int:=IntKind.i64.wrap (IntKind.i64.wrap n*16777216)
end Go.Rd
namespace Go.Proofs.YtkbndjnibcjchaaGreatDoor.K
open Go Go.Eng Go.Ar Go.Rd
noncomputable section
def slopeV (u v:Sp):AV:=.tuple [.agg [.int true .i64 u.lo,.int true .i64 u.hi],.agg [.int true .i64 v.lo,.int true .i64 v.hi],.int false .i64 0]
def failV:AV:=.tuple [.agg [.int false .i64 0,.int false .i64 0],.int false .i64 9]
def failV2:AV:=.tuple [.agg [.int false .i64 0,.int false .i64 0],.agg [.int false .i64 0,.int false .i64 0],.int false .i64 9]
theorem sagSF_run (c k a b d e:Int):oneG hG.size hG.clock ((run (cA true) 1000).call 7 (Sh.mkL [stdSh,shS,shS] [.n c,.n k,.n a,.n b,.n d,.n e]).1 hG)=some (.p (((okCK c k/\okSp a b=true/\okSp d e=true)/\(((s0 c k a b d e).e=0/\(c=c/\d=d/\e=e)/\(s1 c k a b d e).e=0/\c=c/\(s2 c k a b d e).e=0/\c=c/\(s3 c k a b d e).e=0)/\(s4 c k a b d e).e=0/\k=k/\(s5 c k a b d e).e=0)/\(s6 c k a b d e).e=0/\decide ((s6 c k a b d e).lo<=0)=true)),failV):=by kernel_rfl
def VsagSF:List Nu->Option (Prop×AV)
 | [.n c,.n k,.n a,.n b,.n d,.n e]=>some (PsagSF c k a b d e,failV)
 | _=>none
theorem sagSF_ok:GOk Tryz.prog glob hG 7 (gSpec [stdSh,shS,shS] VsagSF):=by
 refine gsp_ok hG_ok hG_plain glob_lt (fun xs q v e h=>?_) ⟨_,Tryz.func7,rfl⟩
 unfold VsagSF at e
 split at e
 .rename_i c k a b d e
  cases e
  refine ⟨cA true,1000,_,cA_ok _,rfl,rfl,rfl,rfl,sagSF_run c k a b d e,?_⟩
  obtain ⟨h0,h1,h2,h3,h4,h5,h6,h7,h8,h9,h10⟩:=h
  repeat' first|with_reducible assumption|with_reducible exact rfl|refine And.intro ?_ ?_
 .cases e
theorem sagSG_run (c k a b d e:Int):oneG hG.size hG.clock ((run (cA false) 1000).call 7 (Sh.mkL [stdSh,shS,shS] [.n c,.n k,.n a,.n b,.n d,.n e]).1 hG)=some (.p (((okCK c k/\okSp a b=true/\okSp d e=true)/\(((s0 c k a b d e).e=0/\(c=c/\d=d/\e=e)/\(s1 c k a b d e).e=0/\c=c/\(s2 c k a b d e).e=0/\c=c/\(s3 c k a b d e).e=0)/\(s4 c k a b d e).e=0/\k=k/\(s5 c k a b d e).e=0)/\(s6 c k a b d e).e=0/\decide ((s6 c k a b d e).lo<=0)=false/\(s7 c k a b d e).e=0/\(s8 c k a b d e).e=0/\(((s7 c k a b d e).lo=(s7 c k a b d e).lo/\(s7 c k a b d e).hi=(s7 c k a b d e).hi)/\(s7 c k a b d e).lo=(s7 c k a b d e).lo/\(s7 c k a b d e).hi=(s7 c k a b d e).hi)/\(s9 c k a b d e).e=0/\((s7 c k a b d e).lo=(s7 c k a b d e).lo/\(s7 c k a b d e).hi=(s7 c k a b d e).hi)/\(s10 c k a b d e).e=0/\((s7 c k a b d e).lo=(s7 c k a b d e).lo/\(s7 c k a b d e).hi=(s7 c k a b d e).hi)/\(s7 c k a b d e).lo=(s7 c k a b d e).lo/\(s7 c k a b d e).hi=(s7 c k a b d e).hi)),goodV (s10 c k a b d e)):=by kernel_rfl
def VsagSG:List Nu->Option (Prop×AV)
 | [.n c,.n k,.n a,.n b,.n d,.n e]=>some (PsagSG c k a b d e,goodV (s10 c k a b d e))
 | _=>none
theorem sagSG_ok:GOk Tryz.prog glob hG 7 (gSpec [stdSh,shS,shS] VsagSG):=by
 refine gsp_ok hG_ok hG_plain glob_lt (fun xs q v e h=>?_) ⟨_,Tryz.func7,rfl⟩
 unfold VsagSG at e
 split at e
 .rename_i c k a b d e
  cases e
  refine ⟨cA false,1000,_,cA_ok _,rfl,rfl,rfl,rfl,sagSG_run c k a b d e,?_⟩
  obtain ⟨h0,h1,h2,h3,h4,h5,h6,h7,h8,h9,h10,h11,h12,h13,h14⟩:=h
  repeat' first|with_reducible assumption|with_reducible exact rfl|refine And.intro ?_ ?_
 .cases e
theorem sagBG_run (c k l m a b d e:Int):oneG hG.size hG.clock ((run (cA false) 1000).call 7 (Sh.mkL [bicSh,shS,shS] [.n c,.n k,.n l,.n m,.n a,.n b,.n d,.n e]).1 hG)=some (.p ((((okCK c k/\okCK l m)/\okSp a b=true/\okSp d e=true)/\(((b0 c k l m a b d e).e=0/\(c=c/\(d=d/\e=e)/\l=l)/\(b1 c k l m a b d e).e=0/\(c=c/\d=d/\e=e)/\(b2 c k l m a b d e).e=0/\c=c/\(b3 c k l m a b d e).e=0)/\((b4 c k l m a b d e).e=0/\m=m/\(b6 c k l m a b d e).e=0)/\((c=c/\k=k)/\(b3 c k l m a b d e).lo=(b3 c k l m a b d e).lo/\(b3 c k l m a b d e).hi=(b3 c k l m a b d e).hi)/\((b5 c k l m a b d e).e=0/\k=k/\(b7 c k l m a b d e).e=0)/\(b8 c k l m a b d e).e=0)/\(b9 c k l m a b d e).e=0/\decide ((b9 c k l m a b d e).lo<=0)=false/\(b10 c k l m a b d e).e=0/\(b11 c k l m a b d e).e=0/\(((b10 c k l m a b d e).lo=(b10 c k l m a b d e).lo/\(b10 c k l m a b d e).hi=(b10 c k l m a b d e).hi)/\(b10 c k l m a b d e).lo=(b10 c k l m a b d e).lo/\(b10 c k l m a b d e).hi=(b10 c k l m a b d e).hi)/\(b12 c k l m a b d e).e=0/\((b10 c k l m a b d e).lo=(b10 c k l m a b d e).lo/\(b10 c k l m a b d e).hi=(b10 c k l m a b d e).hi)/\(b13 c k l m a b d e).e=0/\((b10 c k l m a b d e).lo=(b10 c k l m a b d e).lo/\(b10 c k l m a b d e).hi=(b10 c k l m a b d e).hi)/\(b10 c k l m a b d e).lo=(b10 c k l m a b d e).lo/\(b10 c k l m a b d e).hi=(b10 c k l m a b d e).hi)),goodV (b13 c k l m a b d e)):=by kernel_rfl
def VsagBG:List Nu->Option (Prop×AV)
 | [.n c,.n k,.n l,.n m,.n a,.n b,.n d,.n e]=>some (PsagBG c k l m a b d e,goodV (b13 c k l m a b d e))
 | _=>none
theorem sagBG_ok:GOk Tryz.prog glob hG 7 (gSpec [bicSh,shS,shS] VsagBG):=by
 refine gsp_ok hG_ok hG_plain glob_lt (fun xs q v e h=>?_) ⟨_,Tryz.func7,rfl⟩
 unfold VsagBG at e
 split at e
 .rename_i c k l m a b d e
  cases e
  refine ⟨cA false,1000,_,cA_ok _,rfl,rfl,rfl,rfl,sagBG_run c k l m a b d e,?_⟩
  obtain ⟨h0,h1,h2,h3,h4,h5,h6,h7,h8,h9,h10,h11,h12,h13,h14,h15,h16,h17,h18⟩:=h
  repeat' first|with_reducible assumption|with_reducible exact rfl|refine And.intro ?_ ?_
 .cases e
def tblSl:List (FuncId×PSpec):=(7,orG (gSpec [stdSh,shS,shS] VsagSG) (gSpec [bicSh,shS,shS] VsagBG)) :: tblA
theorem tblSl_g:∀ x∈tblSl,GOk Tryz.prog glob hG x.1 x.2:=by
 intro x hx
 rcases List.mem_cons.1 hx with rfl|hx
 .exact orG_ok sagSG_ok sagBG_ok
 .exact tblA_g x hx
def cSl:Ctx:=hinting (mkG Tryz.prog glob hG tblSl ext) (h102 false)
theorem cSl_ok:CtxOk cSl:=hinting_ok (mkG_ok prog_ok ext_ok tblSl_g) _
theorem slopeS_run (c k a b d e:Int):oneG hG.size hG.clock ((run (cSl) 1000).call 15 (Sh.mkL [stdSh,shS,shS] [.n c,.n k,.n a,.n b,.n d,.n e]).1 hG)=some (.p ((PsagSG c k a b d e/\((((((s0 c k a b d e).e=0/\(c=c/\d=d/\e=e)/\(s1 c k a b d e).e=0/\c=c/\(s2 c k a b d e).e=0/\c=c/\(s3 c k a b d e).e=0)/\(s4 c k a b d e).e=0/\k=k/\(s5 c k a b d e).e=0)/\(s6 c k a b d e).e=0/\decide ((s6 c k a b d e).lo<=0)=false/\(s7 c k a b d e).e=0/\(s8 c k a b d e).e=0/\(((s7 c k a b d e).lo=(s7 c k a b d e).lo/\(s7 c k a b d e).hi=(s7 c k a b d e).hi)/\(s7 c k a b d e).lo=(s7 c k a b d e).lo/\(s7 c k a b d e).hi=(s7 c k a b d e).hi)/\(s9 c k a b d e).e=0/\((s7 c k a b d e).lo=(s7 c k a b d e).lo/\(s7 c k a b d e).hi=(s7 c k a b d e).hi)/\(s10 c k a b d e).e=0/\((s7 c k a b d e).lo=(s7 c k a b d e).lo/\(s7 c k a b d e).hi=(s7 c k a b d e).hi)/\(s7 c k a b d e).lo=(s7 c k a b d e).lo/\(s7 c k a b d e).hi=(s7 c k a b d e).hi)/\(s13 c k a b d e).e=0/\(s14 c k a b d e).e=0)/\((c=c/\k=k)/\d=d/\e=e)/\((((s0 c k a b d e).e=0/\(c=c/\d=d/\e=e)/\(s1 c k a b d e).e=0/\c=c/\(s2 c k a b d e).e=0/\c=c/\(s3 c k a b d e).e=0)/\(s4 c k a b d e).e=0/\k=k/\(s5 c k a b d e).e=0)/\(s6 c k a b d e).e=0/\decide ((s6 c k a b d e).lo<=0)=false/\(s7 c k a b d e).e=0/\(s8 c k a b d e).e=0/\(((s7 c k a b d e).lo=(s7 c k a b d e).lo/\(s7 c k a b d e).hi=(s7 c k a b d e).hi)/\(s7 c k a b d e).lo=(s7 c k a b d e).lo/\(s7 c k a b d e).hi=(s7 c k a b d e).hi)/\(s9 c k a b d e).e=0/\((s7 c k a b d e).lo=(s7 c k a b d e).lo/\(s7 c k a b d e).hi=(s7 c k a b d e).hi)/\(s10 c k a b d e).e=0/\((s7 c k a b d e).lo=(s7 c k a b d e).lo/\(s7 c k a b d e).hi=(s7 c k a b d e).hi)/\(s7 c k a b d e).lo=(s7 c k a b d e).lo/\(s7 c k a b d e).hi=(s7 c k a b d e).hi)/\(s11 c k a b d e).e=0/\(s12 c k a b d e).e=0)/\(s12 c k a b d e).lo=(s12 c k a b d e).lo/\(s12 c k a b d e).hi=(s12 c k a b d e).hi)),slopeV (s14 c k a b d e) (s12 c k a b d e)):=by kernel_rfl
def VslopeS:List Nu->Option (Prop×AV)
 | [.n c,.n k,.n a,.n b,.n d,.n e]=>some (PslopeS c k a b d e,slopeV (s14 c k a b d e) (s12 c k a b d e))
 | _=>none
theorem slopeS_ok:GOk Tryz.prog glob hG 15 (gSpec [stdSh,shS,shS] VslopeS):=by
 refine gsp_ok hG_ok hG_plain glob_lt (fun xs q v e h=>?_) ⟨_,Tryz.func15,rfl⟩
 unfold VslopeS at e
 split at e
 .rename_i c k a b d e
  cases e
  refine ⟨cSl,1000,_,cSl_ok,rfl,rfl,rfl,rfl,slopeS_run c k a b d e,?_⟩
  obtain ⟨h0,h1,h2,h3,h4,h5,h6,h7,h8,h9,h10,h11,h12,h13,h14,h15,h16,h17,h18⟩:=h
  have hs:PsagSG c k a b d e:=⟨h0,h1,h2,h3,h4,h5,h6,h7,h8,h9,h10,h11,h12,h13,h14⟩
  repeat' first|with_reducible assumption|with_reducible exact rfl|refine And.intro ?_ ?_
 .cases e
end
end Go.Proofs.YtkbndjnibcjchaaGreatDoor.K
namespace Go.Dg
def val:List Int->Int
 | []=>0
 | x :: l=>x+(1000000000:Int)*val l
def Dig (xs:List Int):Prop:=∀ x∈xs,0<=x/\x<(1000000000:Int)
def pw:Nat->Int
 | 0=>1
 | n+1=>(1000000000:Int)*pw n
theorem pw_pos:∀ n,0<pw n
 | 0=>by decide
 | n+1=>Int.mul_pos (by decide) (pw_pos n)
theorem pw_add:∀ m n,pw (m+n)=pw m*pw n
 | 0,n=>by simp [pw]
 | m+1,n=>by rw [Nat.succ_add]; simp only [pw]; rw [pw_add m n,Int.mul_assoc]
theorem dig_nil:Dig []:=fun _ h=>by cases h
theorem dig_cons {x:Int} {l:List Int}:Dig (x :: l) ↔ (0<=x/\x<(1000000000:Int))/\Dig l:=by
 constructor
 .intro h; exact ⟨h x (by simp),fun y hy=>h y (by simp [hy])⟩
 .rintro ⟨h1,h2⟩ y hy
  rcases List.mem_cons.1 hy with rfl|hy
  .exact h1
  .exact h2 y hy
theorem dig_app {l m:List Int}:Dig (l++m) ↔ Dig l/\Dig m:=by
 constructor
 .intro h; exact ⟨fun y hy=>h y (by simp [hy]),fun y hy=>h y (by simp [hy])⟩
 .rintro ⟨h1,h2⟩ y hy
  rcases List.mem_append.1 hy with hy|hy
  .exact h1 y hy
  .exact h2 y hy
theorem Dig.take {l:List Int} (h:Dig l) (n:Nat):Dig (l.take n):=fun x hx=>h x (List.mem_of_mem_take hx)
theorem Dig.drop {l:List Int} (h:Dig l) (n:Nat):Dig (l.drop n):=fun x hx=>h x (List.mem_of_mem_drop hx)
theorem Dig.get {l:List Int} (h:Dig l) (i:Nat):0<=l.getD i 0/\l.getD i 0<(1000000000:Int):=by
 rw [List.getD_eq_getElem?_getD]
 cases e:l[i]? with
 | none=>exact ⟨Int.le_refl _,by decide⟩
 | some x=>exact h x (List.mem_of_getElem? e)
theorem Dig.set {l:List Int} (h:Dig l) (i:Nat) {x:Int} (hx:0<=x/\x<(1000000000:Int)):Dig (l.set i x):=fun y hy=>by
 rcases List.mem_or_eq_of_mem_set hy with h1|rfl
 .exact h y h1
 .exact hx
theorem val_app:∀ (l m:List Int),val (l++m)=val l+pw l.length*val m
 | [],m=>by simp [val,pw]
 | x :: l,m=>by
  simp only [List.cons_append,val,List.length_cons,pw]
  rw [val_app l m,Int.mul_add,Int.mul_assoc]; omega
theorem val_nonneg:∀ {l:List Int},Dig l->0<=val l
 | [],_=>Int.le_refl _
 | x :: l,h=>by
  have h:=dig_cons.1 h
  have:=val_nonneg h.2
  simp only [val]
  omega
theorem val_lt:∀ {l:List Int},Dig l->val l<pw l.length
 | [],_=>by decide
 | x :: l,h=>by
  have h:=dig_cons.1 h
  have:=val_lt h.2
  simp only [val,List.length_cons,pw]
  have h3:(1000000000:Int)*val l+(1000000000:Int)<=(1000000000:Int)*pw l.length:=by
   have:(1000000000:Int)*(val l+1)<=(1000000000:Int)*pw l.length:=Int.mul_le_mul_of_nonneg_left (by omega) (by decide)
   rw [Int.mul_add] at this
   simpa using this
  have:=h.1.2
  omega
theorem val_set:∀ (l:List Int) (i:Nat) (x:Int),i<l.length->val (l.set i x)=val l+pw i*(x - l.getD i 0)
 | [],i,x,h=>by simp at h
 | y :: l,0,x,h=>by simp [val,pw]; omega
 | y :: l,i+1,x,h=>by
  simp only [List.set_cons_succ,val,pw,List.getD_cons_succ]
  rw [val_set l i x (by simpa using h),Int.mul_add,Int.mul_assoc]
  omega
theorem val_take_succ {l:List Int} {n:Nat} (h:n<l.length):val (l.take (n+1))=val (l.take n)+pw n*l.getD n 0:=by
 rw [List.take_add_one,List.getElem?_eq_getElem h,val_app,List.length_take,Nat.min_eq_left (by omega),List.getD_eq_getElem?_getD,List.getElem?_eq_getElem h]
 simp [val]
def digs (n:Nat):List Int:=
 if h:n=0 then [] else ((n % 1000000000:Nat):Int) :: digs (n / 1000000000)
termination_by n
decreasing_by exact Nat.div_lt_self (Nat.pos_of_ne_zero h) (by decide)
theorem digs_zero:digs 0=[]:=by rw [digs]; simp
theorem digs_pos {n:Nat} (h:n≠0):digs n=((n % 1000000000:Nat):Int) :: digs (n / 1000000000):=by rw [digs]; simp [h]
theorem val_digs (n:Nat):val (digs n)=n:=by
 induction n using Nat.strongRecOn with
 | _ n ih=>
  by_cases h:n=0
  .subst h; rw [digs_zero]; rfl
  .rw [digs_pos h,val,ih _ (Nat.div_lt_self (Nat.pos_of_ne_zero h) (by decide))]
   omega
theorem dig_digs (n:Nat):Dig (digs n):=by
 induction n using Nat.strongRecOn with
 | _ n ih=>
  by_cases h:n=0
  .subst h; rw [digs_zero]; exact dig_nil
  .rw [digs_pos h]
   exact dig_cons.2 ⟨by omega,ih _ (Nat.div_lt_self (Nat.pos_of_ne_zero h) (by decide))⟩
def Top (l:List Int):Prop:=l=[]\/l.getD (l.length - 1) 0≠0
theorem top_cons {x y:Int} {l:List Int}:Top (x :: y :: l) ↔ Top (y :: l):=by
 constructor
 .intro h
  rcases h with h|h
  .cases h
  .exact .inr (by simpa using h)
 .intro h
  rcases h with h|h
  .cases h
  .exact .inr (by simpa using h)
theorem val_ne {l:List Int}:Dig l->Top l->l≠[]->val l≠0:=by
 induction l with
 | nil=>intro _ _ h; exact absurd rfl h
 | cons x l ih=>
  intro hd ht _
  have h:=dig_cons.1 hd
  have h2:=val_nonneg h.2
  simp only [val]
  cases l with
  | nil=>
   rcases ht with ht|ht
   .cases ht
   .have:x≠0:=by simpa using ht
    simp only [val]; omega
  | cons y l=>
   have:=ih h.2 (top_cons.1 ht) (by simp)
   omega
theorem digs_val:∀ {l:List Int},Dig l->Top l->digs (val l).toNat=l
 | [],_,_=>digs_zero
 | x :: l,hd,ht=>by
  have h:=dig_cons.1 hd
  have h2:=val_nonneg h.2
  have h0:val (x :: l)≠0:=val_ne hd ht (by simp)
  have h1:0<=val (x :: l):=val_nonneg hd
  have ht':Top l:=by
   cases l with
   | nil=>exact .inl rfl
   | cons y l=>exact top_cons.1 ht
  rw [digs_pos (by omega)]
  simp only [val] at h1 ⊢
  have e1:(x+(1000000000:Int)*val l).toNat % 1000000000=x.toNat:=by omega
  have e2:(x+(1000000000:Int)*val l).toNat / 1000000000=(val l).toNat:=by omega
  rw [e1,e2,digs_val h.2 ht',Int.toNat_of_nonneg h.1.1]
theorem top_digs (n:Nat):Top (digs n):=by
 induction n using Nat.strongRecOn with
 | _ n ih=>
  by_cases h:n=0
  .subst h; rw [digs_zero]; exact .inl rfl
  .by_cases h2:n / 1000000000=0
   .rw [digs_pos h,h2,digs_zero]
    right
    simp
    omega
   .have:=ih (n / 1000000000) (Nat.div_lt_self (Nat.pos_of_ne_zero h) (by decide))
    rw [digs_pos h]
    rw [digs_pos h2] at this ⊢
    exact top_cons.2 this
theorem digs_len_pos {n:Nat} (h:n≠0):0<(digs n).length:=by rw [digs_pos h]; simp
theorem digs_nil {n:Nat}:digs n=[] ↔ n=0:=by
 constructor
 .intro h
  by_cases h0:n=0
  .exact h0
  .rw [digs_pos h0] at h; cases h
 .rintro rfl; exact digs_zero
def tl (l:List Int):Nat->Nat
 | 0=>0
 | n+1=>if l.getD n 0=0 then tl l n else n+1
theorem tl_le (l:List Int):∀ n,tl l n<=n
 | 0=>Nat.le_refl _
 | n+1=>by
  simp only [tl]
  split
  .exact Nat.le_succ_of_le (tl_le l n)
  .exact Nat.le_refl _
theorem val_tl {l:List Int}:∀ {n},n<=l.length->val (l.take (tl l n))=val (l.take n)
 | 0,_=>rfl
 | n+1,h=>by
  simp only [tl]
  split
  .rename_i h0
   rw [val_tl (by omega),val_take_succ (by omega),h0]
   simp
  .rfl
theorem top_tl {l:List Int}:∀ {n},n<=l.length->Top (l.take (tl l n))
 | 0,_=>.inl rfl
 | n+1,h=>by
  simp only [tl]
  split
  .exact top_tl (by omega)
  .rename_i h0
   right
   rw [List.length_take,Nat.min_eq_left (by omega)]
   simpa [List.getD_eq_getElem?_getD,List.getElem?_take] using h0
theorem take_tl {l:List Int} (h:Dig l):l.take (tl l l.length)=digs (val l).toNat:=by
 have h1:=digs_val (h.take (tl l l.length)) (top_tl (Nat.le_refl _))
 rw [val_tl (Nat.le_refl _),List.take_length] at h1
 exact h1.symm
theorem tl_zero {l:List Int} (h:Dig l):tl l l.length=0 ↔ val l=0:=by
 have e:=take_tl h
 have h0:=val_nonneg h
 have hle:=tl_le l l.length
 constructor
 .intro ht
  rw [ht,List.take_zero] at e
  have:=digs_nil.1 e.symm
  omega
 .intro hv
  rw [hv] at e
  have e:l.take (tl l l.length)=[]:=by rw [e]; exact digs_zero
  have:=congrArg List.length e
  rw [List.length_take,Nat.min_eq_left hle] at this
  exact this
end Go.Dg
