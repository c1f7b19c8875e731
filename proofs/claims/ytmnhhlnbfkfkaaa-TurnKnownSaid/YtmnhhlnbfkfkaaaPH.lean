/- What is proved: TurnKnown returns true, whatever the input (part 8). No conditions beyond those of the row. -/
import Derived.Test.YtmnhhlnbfkfkaaaPF
import Derived.Test.YtmnhhlnbfkfkaaaPG
import Derived.Shelf.Small.Bits
import Derived.Shelf.Strconv.Itoa0
import Derived.Shelf.Bits.Mul64
import Derived.Test.YtmnhhlnbfkfkaaaProg
import Derived.Laws.Externs
import Derived.KernelRfl
import Derived.Laws.BitsLemmas
set_option linter.unusedVariables false
set_option linter.unusedSimpArgs false
set_option linter.unusedSectionVars false
/-
 DERIVED: THE SHELF's CONTRACTS AT THIS DUMP, IN PLAIN WORDS (tools/lay-plain.mjs out of 'TryShelf.lean', which tools/lay-shelf.mjs wrote): THE SAME DECLARATIONS UNDER THE SAME NAMES: 'import', 'namespace', 'open', 'def', 'theorem' AND NOTHING ELSE: no command of the shelf's: FOR A HAND-IN. Each laying: the table of numbers ('.._ren') and one theorem, a field a fact of the dump's own or the kernel's comparison; each contract: ONE APPLICATION.
-/
namespace Go.Proofs
open Go.Shelf
def Try.lays134_ren:Go.Shelf.Ren:=⟨fun|134=>82|129=>84|n=>n,fun|53=>95|3=>3|4=>4|46=>23|5=>5|9=>9|n=>n,fun|n=>n⟩
theorem Try.lays134:Go.Proofs.Lays.n134 Try.prog Try.lays134_ren:={
 mixed:=by kernel_rfl
 f129:=Try.func84.trans (congrArg some (by kernel_rfl))
 f134:=Try.func82.trans (congrArg some (by kernel_rfl))
 t3:=Try.underlying3
 a3:=Try.isAgg3
 z3:=Try.sizeOf3
 v3:=Try.zeroValue3
 t4:=Try.underlying4
 a4:=Try.isAgg4
 z4:=Try.sizeOf4
 v4:=Try.zeroValue4
 t5:=Try.underlying5
 a5:=Try.isAgg5
 z5:=Try.sizeOf5
 v5:=Try.zeroValue5
 t9:=Try.underlying9
 a9:=Try.isAgg9
 z9:=Try.sizeOf9
 v9:=Try.zeroValue9
 t46:=Try.underlying23
 a46:=Try.isAgg23
 z46:=Try.sizeOf23
 v46:=Try.zeroValue23
 t53:=Try.underlying95
 a53:=Try.isAgg95
 z53:=Try.sizeOf95
 v53:=Try.zeroValue95 }
theorem Try.bits_LeadingZeros64 (x:Int) (w:World) (h0:0<=x) (h1:x<=18446744073709551615):
  Calls Try.prog 82 #[.int .u64 x] w fun e w'=>e=.returned (.int .i64 (64 - (Lib.bitLen x.toNat:Int)))/\w'=w:=Any.bits_LeadingZeros64 Try.lays134 x w h0 h1
def Try.lays264_ren:Go.Shelf.Ren:=⟨fun|264=>73|n=>n,fun|53=>95|46=>23|n=>n,fun|n=>n⟩
theorem Try.lays264:Go.Proofs.Lays.n264 Try.prog Try.lays264_ren:={
 mixed:=by kernel_rfl
 f264:=Try.func73.trans (congrArg some (by kernel_rfl))
 t46:=Try.underlying23
 a46:=Try.isAgg23
 z46:=Try.sizeOf23
 v46:=Try.zeroValue23
 t53:=Try.underlying95
 a53:=Try.isAgg95
 z53:=Try.sizeOf95
 v53:=Try.zeroValue95 }
open Go.RowKit Go.Lib in
theorem Try.bits_Mul64 (x y:Nat) (hx:x<18446744073709551616) (hy:y<18446744073709551616) (w:World):
  Calls Try.prog 73 #[.int .u64 x,.int .u64 y] w fun e w'=>e=.returned (.tuple #[.int .u64 ((x*y / 18446744073709551616:Nat):Int),.int .u64 ((x*y % 18446744073709551616:Nat):Int)])/\w'=w:=Any.bits_Mul64 Try.lays264 x y hx hy w
end Go.Proofs
namespace Go.Proofs.Ytmnhhlnbfkfkaaa.K
open Go Go.Eng
theorem all_names:(Try.prog.funcs.toList.all fun fn=>!(fn.name=="runtime.NumGoroutine"))=true:=by kernel_rfl
theorem prog_ok:ProgOk Try.prog:=by
 refine ⟨fun f fn h _=>?_,by kernel_rfl⟩
 have h1:fn∈Try.prog.funcs.toList:=by
  rw [Array.mem_toList_iff]
  exact Array.mem_of_getElem? h
 have:=List.all_eq_true.1 all_names fn h1
 simpa using this
theorem mkInt_rel {σ:Sg} {s:Bool} {k:IntKind} {n:Int}:VRel σ (mkInt s k n) (.int k n):=by
 cases s with
 | true=>rfl
 | false=>
  unfold mkInt forceInt
  cases n with
  | ofNat m=>cases m <;> rfl
  | negSucc m=>cases m <;> rfl
def asked (s b:Bool) (v:AV):Option (Nd×AV):=
 match s with
 | true=>some (.p (b=true),v)
 | false=>match b with
  | true=>some (.tt,v)
  | false=>none
theorem asked_some {s b:Bool} {v w:AV} {nd:Nd} (e:asked s b v=some (nd,w)) (hn:nd.val):w=v/\b=true:=by
 unfold asked at e
 split at e
 .cases e; exact ⟨rfl,hn⟩
 .split at e
  .cases e; exact ⟨rfl,rfl⟩
  .cases e
def ext (_:FuncId) (_:List AV):Option (Nd×AV):=none
theorem ext_ok:ExtOk Try.prog ext:=fun _ _ _ _ e=>by cases e
def lzSpec:List AV->Option (Nd×AV)
 | [.int s .u64 x]=>some (.p (0<=x/\x<=18446744073709551615),mkInt s .i64 (64 - (Lib.bitLen x.toNat:Int)))
 | _=>none
def two64:Int:=18446744073709551616
def mulSpec:List AV->Option (Nd×AV)
 | [.int s .u64 x,.int s' .u64 y]=>asked (s||s') (decide (0<=x/\x<18446744073709551616/\0<=y/\y<18446744073709551616)) (.tuple [mkInt (s||s') .u64 (x*y / two64),mkInt (s||s') .u64 (x*y % two64)])
 | _=>none
theorem lz_ok:PureOk Try.prog 82 lzSpec:=by
 refine pure_calls ⟨_,Try.func82,rfl⟩ fun args nd v e hn σ A W ha=>?_
 unfold lzSpec at e
 split at e
 .rename_i s x
  cases e
  have hd:=hn
  obtain ⟨V,L,hL,rfl,hL2⟩:=ha
  rw [show L=[] from hL2] at hL
  have hA:A=#[.int .u64 x]:=by
   apply Array.toList_inj.1; simpa using hL
  subst hA
  exact ⟨_,mkInt_rel,Try.bits_LeadingZeros64 x W hd.1 hd.2⟩
 .cases e
theorem mul_ok:PureOk Try.prog 73 mulSpec:=by
 refine pure_calls ⟨_,Try.func73,rfl⟩ fun args nd v e hn σ A W ha=>?_
 unfold mulSpec at e
 split at e
 .rename_i s x s' y
  obtain ⟨rfl,hd⟩:=asked_some e hn
  obtain ⟨h1,h2,h3,h4⟩:=of_decide_eq_true hd
  obtain ⟨V,L,hL,rfl,V2,L2,hL2,rfl,hL3⟩:=ha
  rw [hL2,show L2=[] from hL3] at hL
  have hA:A=#[.int .u64 x,.int .u64 y]:=by
   apply Array.toList_inj.1; simpa using hL
  subst hA
  refine ⟨.tuple #[.int .u64 (x*y / two64),.int .u64 (x*y % two64)],⟨_,rfl,_,_,rfl,mkInt_rel,_,_,rfl,mkInt_rel,rfl⟩,?_⟩
  have:=Try.bits_Mul64 x.toNat y.toNat (by omega) (by omega) W
  rw [Int.toNat_of_nonneg h1,Int.toNat_of_nonneg h3] at this
  have e1:((x.toNat*y.toNat / 18446744073709551616:Nat):Int)=x*y / two64:=by
   rw [Int.natCast_ediv,Int.natCast_mul,Int.toNat_of_nonneg h1,Int.toNat_of_nonneg h3]; rfl
  have e2:((x.toNat*y.toNat % 18446744073709551616:Nat):Int)=x*y % two64:=by
   rw [Int.natCast_emod,Int.natCast_mul,Int.toNat_of_nonneg h1,Int.toNat_of_nonneg h3]; rfl
  rw [e1,e2] at this
  exact this
 .cases e
noncomputable def tbl0:List (FuncId×PSpec):=[(82,lzSpec),(73,mulSpec)]
theorem tbl0_ok:TblOk Try.prog tbl0:=by
 intro x hx
 simp only [tbl0,List.mem_cons,List.not_mem_nil,or_false] at hx
 rcases hx with rfl|rfl
 .exact lz_ok
 .exact mul_ok
noncomputable def cD0:Ctx:=mkC Try.prog tbl0 noExt
theorem cD0_ok:CtxOk cD0:=mkC_ok prog_ok tbl0_ok (noExt_ok _)
noncomputable def cD:Ctx:={ cD0 with loop:=fun fr a s=>match Nat.beq fr.fn 72 with|true=>unroll (run cD0 60) fr a 3 s|false=>none }
theorem cD_ok:CtxOk cD:=by
 refine ⟨cD0_ok.prog,cD0_ok.con,cD0_ok.ext,fun fr a s q e=>?_,fun _ _ _ _ _ _ _ e=>(by cases e)⟩
 have e:(match Nat.beq fr.fn 72 with|true=>unroll (run cD0 60) fr a 3 s|false=>none)=some q:=e
 split at e
 .exact unroll_ok (run_sound cD0_ok 60) 3 s q e
 .cases e
theorem div_run (hi lo y:Int):oneV ((run cD 100).call 72 [.int true .u64 hi,.int true .u64 lo,.int true .u64 y] ⟨[],0,1⟩)=some (.p (dNeed hi lo y),.tuple [.int true .u64 (dQuo hi lo y),.int true .u64 (dRem hi lo y)]):=by kernel_rfl
def divSpec:List AV->Option (Nd×AV)
 | [.int s .u64 hi,.int s' .u64 lo,.int s'' .u64 y]=>asked (s||s'||s'') (decide (0<=hi/\hi<y/\y<18446744073709551616/\0<=lo/\lo<18446744073709551616))
   (.tuple [mkInt (s||s'||s'') .u64 ((hi*two64+lo) / y),mkInt (s||s'||s'') .u64 ((hi*two64+lo) % y)])
 | _=>none
theorem div_ok:PureOk Try.prog 72 divSpec:=by
 refine pure_run (C:=cD) cD_ok (fun _=>rfl) (n:=100) (fun args nd v e hn=>?_) ⟨_,Try.func72,rfl⟩
 unfold divSpec at e
 split at e
 .rename_i s hi s' lo s'' y
  obtain ⟨rfl,hb⟩:=asked_some e hn
  obtain ⟨h1,h2,h3,h4,h5⟩:=of_decide_eq_true hb
  refine ⟨[.int true .u64 hi,.int true .u64 lo,.int true .u64 y],_,_,fun σ L h=>h,div_run hi lo y,?_⟩
  obtain ⟨p1,p2,p3⟩:=div_spec hi.toNat lo.toNat y.toNat (by omega) (by omega) (by omega)
  rw [Int.toNat_of_nonneg h1,Int.toNat_of_nonneg h4,Int.toNat_of_nonneg (show 0<=y by omega)] at p1 p2 p3
  refine ⟨p1,fun τ V hV σ=>?_⟩
  obtain ⟨K,rfl,V1,L1,e1,rfl,V2,L2,e2,rfl,e3⟩:=hV
  rw [show L2=[] from e3] at e2
  rw [e2] at e1
  refine ⟨K,rfl,_,_,e1,?_,_,_,rfl,?_,rfl⟩
  .rw [p2]; exact mkInt_rel
  .rw [p3]; exact mkInt_rel
 .cases e
end Go.Proofs.Ytmnhhlnbfkfkaaa.K
namespace Go.Ar
open Go
def two64:Int:=18446744073709551616
def okF (a:Int):Bool:=decide (-4503599627370496<=a)&&decide (a<=4503599627370496)
def rd (n d:Int) (up:Bool):Int:=bif up then -(-n / d) else n / d
def fitV (v:Int):Int:=bif okF v then v else 0
def fitE (v:Int):Int:=bif okF v then 0 else 6
def mulV (a b:Int) (up:Bool):Int:=bif okF a&&okF b then fitV (rd (a*b) 4294967296 up) else 0
def sg (a b:Int):Int:=bif decide (b<0) then -a else a
def xC (a:Int):Int:=bif bif decide (a < -4503599627370496) then true else decide (a>4503599627370496) then 2 else 0
def xAll (a b:Int):Int:=bif !(xC a != 0)&&!(xC b != 0) then 0 else bif xC a != 0 then xC a else xC b
def xSz (a:Int):Int:=bif decide (a<0) then IntKind.u64.wrap (IntKind.u64.wrap (IntKind.i64.wrap (0 - IntKind.i64.wrap (a+1)))+1) else IntKind.u64.wrap a
def xHi (p:Int):Int:=p / two64
def xLo (p:Int):Int:=p % two64
def xNo (p d:Int):Bool:=decide (xHi p>=d)
def xN (p d:Int) (up neg:Bool):Int:=bif xNo p d then 0 else
 bif bif !(up==neg) then decide ((xHi p*two64+xLo p) % d>0) else false then IntKind.u64.wrap ((xHi p*two64+xLo p) / d+1) else (xHi p*two64+xLo p) / d
def xBig (p d:Int) (up neg:Bool):Bool:=bif !(bif xNo p d then false else true) then true else decide (xN p d up neg>4503599627370496)
def xV (p d:Int) (up neg:Bool):Int:=bif xBig p d up neg then 0 else bif neg then IntKind.i64.wrap (0 - IntKind.i64.wrap (xN p d up neg)) else IntKind.i64.wrap (xN p d up neg)
def xE (p d:Int) (up neg:Bool):Int:=bif xBig p d up neg then 6 else 0
def xNeg (a b:Int):Bool:=!(decide (a<0)==decide (b<0))
def xIn (a b:Int):Prop:=decide (0<=a/\a<18446744073709551616/\0<=b/\b<18446744073709551616)=true
def xDiv (p d:Int):Prop:=decide (0<=xHi p/\xHi p<d/\d<18446744073709551616/\0<=xLo p/\xLo p<18446744073709551616)=true
theorem i64w {n:Int} (h0:-9223372036854775808<=n) (h1:n<9223372036854775808):IntKind.i64.wrap n=n:=by rw [IntKind.wrap_i64]; omega
theorem u64w {n:Int} (h0:0<=n) (h1:n<18446744073709551616):IntKind.u64.wrap n=n:=by rw [IntKind.wrap_u64]; omega
theorem xSz_eq {a:Int} (h0:-9223372036854775808<=a) (h1:a<9223372036854775808):xSz a=sg a a:=by
 unfold xSz sg
 by_cases h:a<0
 .simp only [h,decide_true,cond_true]
  rw [i64w (n:=a+1) (by omega) (by omega),i64w (n:=0 - (a+1)) (by omega) (by omega),u64w (n:=0 - (a+1)) (by omega) (by omega),u64w (by omega) (by omega)]
  omega
 .simp only [h,decide_false,cond_false]
  rw [u64w (by omega) (by omega)]
theorem sg_nonneg (a:Int):0<=sg a a:=by
 unfold sg
 by_cases h:a<0
 .simp only [h,decide_true,cond_true]; omega
 .simp only [h,decide_false,cond_false]; omega
theorem okF_iff {a:Int}:okF a=true ↔ -4503599627370496<=a/\a<=4503599627370496:=by simp [okF]
theorem okF_false {a:Int}:okF a=false ↔ a < -4503599627370496\/4503599627370496<a:=by
 rw [<- Bool.not_eq_true,okF_iff]; omega
theorem xC_eq (a:Int):xC a=bif okF a then 0 else 2:=by
 unfold xC
 cases h:okF a with
 | true=>
  have:=okF_iff.1 h
  simp [show ¬ a < -4503599627370496 by omega,show ¬ a>4503599627370496 by omega]
 | false=>
  rcases okF_false.1 h with h|h
  .simp [h]
  .simp [show ¬ a < -4503599627370496 by omega,h]
theorem xAll_eq (a b:Int):xAll a b=bif okF a&&okF b then 0 else 2:=by
 unfold xAll
 rw [xC_eq,xC_eq]
 cases okF a <;> cases okF b <;> rfl
theorem neg_div {p d:Int} (hd:0<d):-p / d=-(p / d) - (if 0<p % d then 1 else 0):=by
 have h1:=Int.mul_ediv_add_emod p d
 have h2:=Int.emod_nonneg p (show d≠0 by omega)
 have h3:=Int.emod_lt_of_pos p hd
 split
 .have h4:(-p) / d=-(p / d) - 1/\(-p) % d=d - p % d:=by
   rw [Int.ediv_emod_unique hd]
   refine ⟨?_,by omega,by omega⟩
   rw [Int.mul_sub,Int.mul_neg]
   omega
  exact h4.1
 .have:p % d=0:=by omega
  have h4:(-p) / d=-(p / d)/\(-p) % d=0:=by
   rw [Int.ediv_emod_unique hd]
   refine ⟨?_,by omega,by omega⟩
   rw [Int.mul_neg]
   omega
  omega
theorem xN_eq {p d:Int} (hp:0<=p) (hp':p<340282366920938463463374607431768211456) (hd:0<d) (hd':d<18446744073709551616) (up neg:Bool) (n:Int) (hn:n=bif neg then -p else p) (hx:p<18446744073709551615*d\/(!(up==neg))=false):
  xV p d up neg=fitV (rd n d up)/\xE p d up neg=fitE (rd n d up)/\(xNo p d=false->xDiv p d):=by
 have e1:xHi p*two64+xLo p=p:=by unfold xHi xLo; have:=Int.mul_ediv_add_emod p two64; rw [Int.mul_comm] at this; exact this
 have l0:0<=xLo p:=Int.emod_nonneg p (by decide)
 have l1:xLo p<18446744073709551616:=Int.emod_lt_of_pos p (by decide)
 have h0:0<=xHi p:=Int.ediv_nonneg hp (by decide)
 have q0:0<=p / d:=Int.ediv_nonneg hp (by omega)
 have r0:=Int.emod_nonneg p (show d≠0 by omega)
 have rv:rd n d up=bif neg then -(p / d+(if (!(up==neg))=true/\0<p % d then 1 else 0)) else p / d+(if (!(up==neg))=true/\0<p % d then 1 else 0):=by
  subst hn
  unfold rd
  cases neg <;> cases up <;> simp [neg_div hd] <;> split <;> omega
 by_cases hno:xHi p>=d
 .-- the quotient does not fit
  have e2:xNo p d=true:=by simp [xNo,hno]
  have big:18446744073709551616<=p / d:=by
   rw [Int.le_ediv_iff_mul_le hd]
   have h2:d*two64<=xHi p*two64:=Int.mul_le_mul_of_nonneg_right hno (by decide)
   have h3:(18446744073709551616:Int)*d=d*two64:=by rw [Int.mul_comm]; rfl
   omega
  have hb:xBig p d up neg=true:=by simp [xBig,e2]
  have hf:okF (rd n d up)=false:=by
   rw [okF_false,rv]
   cases neg <;> simp <;> split <;> omega
  refine ⟨by simp [xV,hb,fitV,hf],by simp [xE,hb,fitE,hf],fun h=>by rw [e2] at h; cases h⟩
 .have e2:xNo p d=false:=by simp [xNo]; omega
  have hlt:p<d*18446744073709551616:=by
   have h2:(xHi p+1)*two64<=d*two64:=Int.mul_le_mul_of_nonneg_right (by omega) (by decide)
   rw [Int.add_mul] at h2
   unfold two64 at *
   omega
  have q1:p / d<18446744073709551616:=by
   rw [Int.ediv_lt_iff_lt_mul hd]
   rw [Int.mul_comm]; exact hlt
  have ex:xV p d up neg=fitV (rd n d up)/\xE p d up neg=fitE (rd n d up):=by
   have hN:xN p d up neg=p / d+(if (!(up==neg))=true/\0<p % d then 1 else 0):=by
    unfold xN
    rw [e2,e1]
    cases hu:!(up==neg) with
    | false=>simp
    | true=>
     by_cases hr:0<p % d
     .simp only [cond_true,cond_false,hr,decide_true,gt_iff_lt,and_self,if_true]
      rw [u64w (by omega)]
      have:p / d≠18446744073709551615:=by
       intro hq
       have h5:p / d*d<=p:=Int.ediv_mul_le p (by omega)
       rw [hq] at h5
       rcases hx with hx|hx
       .omega
       .rw [hu] at hx; cases hx
      omega
     .simp [hr]
   generalize hk:p / d+(if (!(up==neg))=true/\0<p % d then 1 else 0)=k at hN rv
   have k0:0<=k:=by rw [<- hk]; split <;> omega
   unfold xV xE xBig
   rw [e2,hN,rv]
   by_cases hb:k>4503599627370496
   .have hf:okF (bif neg then -k else k)=false:=by
     rw [okF_false]
     cases neg <;> simp <;> omega
    simp [hb,fitV,fitE,hf]
   .have hf:okF (bif neg then -k else k)=true:=by
     rw [okF_iff]
     cases neg <;> simp <;> omega
    simp only [hb,decide_false,cond_true,cond_false,Bool.not_true,fitV,fitE,hf]
    refine ⟨?_,trivial⟩
    rw [i64w (n:=k) (by omega) (by omega),i64w (n:=0 - k) (by omega) (by omega)]
    cases neg <;> simp
  refine ⟨ex.1,ex.2,fun _=>?_⟩
  unfold xDiv
  rw [decide_eq_true_eq]
  exact ⟨h0,by omega,hd',l0,l1⟩
theorem xE_far {p d:Int} (hp:0<=p) (hd:0<d) (hd':d<18446744073709551616) (neg:Bool) (n:Int) (hn:n=bif neg then -p else p) (hx:18446744073709551615*d<=p):
  xE p d neg neg=6/\(∀ up,fitE (rd n d up)=6)/\(xNo p d=false->xDiv p d):=by
 have e1:xHi p*two64+xLo p=p:=by unfold xHi xLo; have:=Int.mul_ediv_add_emod p two64; rw [Int.mul_comm] at this; exact this
 have l0:0<=xLo p:=Int.emod_nonneg p (by decide)
 have l1:xLo p<18446744073709551616:=Int.emod_lt_of_pos p (by decide)
 have h0:0<=xHi p:=Int.ediv_nonneg hp (by decide)
 have q0:18446744073709551615<=p / d:=by rw [Int.le_ediv_iff_mul_le hd]; exact hx
 refine ⟨?_,fun up=>?_,fun h=>?_⟩
 .unfold xE xBig xN
  cases h:xNo p d with
  | true=>simp
  | false=>
   rw [e1]
   simp only [beq_self_eq_true,Bool.not_true,Bool.not_false,cond_true,cond_false]
   rw [decide_eq_true (by omega)]; rfl
 .have hf:okF (rd n d up)=false:=by
   rw [okF_false]
   subst hn
   unfold rd
   cases neg <;> cases up <;> simp [neg_div hd] <;> (try split) <;> omega
  simp [fitE,hf]
 .unfold xDiv
  rw [decide_eq_true_eq]
  refine ⟨h0,?_,hd',l0,l1⟩
  simp [xNo] at h
  omega
def xMulV (a b:Int) (up:Bool):Int:=bif xAll a b != 0 then 0 else xV (xSz a*xSz b) 4294967296 up (xNeg a b)
def xMulE (a b:Int) (up:Bool):Int:=bif xAll a b != 0 then xAll a b else xE (xSz a*xSz b) 4294967296 up (xNeg a b)
def xMulN (a b:Int):Prop:=(!(xAll a b != 0))=true->b=b/\xIn (xSz a) (xSz b)/\((!xNo (xSz a*xSz b) 4294967296)=true->xDiv (xSz a*xSz b) 4294967296)
theorem sg_cases (a:Int):(a<0/\sg a a=-a)\/(0<=a/\sg a a=a):=by
 unfold sg
 by_cases h:a<0
 .left; simp [h]
 .right; simp [h]; omega
theorem xNeg_mul (a b:Int):a*b=bif xNeg a b then -(sg a a*sg b b) else sg a a*sg b b:=by
 unfold xNeg sg
 by_cases h:a<0 <;> by_cases k:b<0 <;> simp [h,k,Int.neg_mul,Int.mul_neg]
theorem xDiv_all {p d:Int} (hp:0<=p) (hd':d<18446744073709551616) (h:xNo p d=false):xDiv p d:=by
 unfold xDiv
 rw [decide_eq_true_eq]
 simp [xNo] at h
 exact ⟨Int.ediv_nonneg hp (by decide),by omega,hd',Int.emod_nonneg p (by decide),Int.emod_lt_of_pos p (by decide)⟩
theorem xAll_ok {a b:Int} (h:(!(xAll a b != 0))=true):okF a=true/\okF b=true:=by
 rw [xAll_eq] at h
 cases ha:okF a <;> cases hb:okF b <;> simp [ha,hb] at h ⊢
theorem xIn_of {a b:Int} (ha:0<=a) (ha':a<18446744073709551616) (hb:0<=b) (hb':b<18446744073709551616):xIn a b:=by
 unfold xIn; rw [decide_eq_true_eq]; exact ⟨ha,ha',hb,hb'⟩
theorem sz_of {a:Int} (h:okF a=true):xSz a=sg a a/\0<=sg a a/\sg a a<=4503599627370496:=by
 have h:=okF_iff.1 h
 refine ⟨xSz_eq (by omega) (by omega),sg_nonneg a,?_⟩
 rcases sg_cases a with ⟨_,e⟩|⟨_,e⟩ <;> omega
theorem xMul_need (a b:Int):xMulN a b:=by
 intro h
 obtain ⟨ha,hb⟩:=xAll_ok h
 obtain ⟨a1,a2,a3⟩:=sz_of ha
 obtain ⟨b1,b2,b3⟩:=sz_of hb
 rw [a1,b1]
 refine ⟨rfl,xIn_of a2 (by omega) b2 (by omega),fun hn=>?_⟩
 exact xDiv_all (Int.mul_nonneg a2 b2) (by decide) (by simpa using hn)
theorem pair_law {p d:Int} (hp:0<=p) (hp':p<340282366920938463463374607431768211456) (hd:0<d) (hd':d<18446744073709551616) (neg:Bool) (n:Int) (hn:n=bif neg then -p else p):
  ((xE p d false neg=0/\xE p d true neg=0) ↔ (fitE (rd n d false)=0/\fitE (rd n d true)=0)) /\
  (fitE (rd n d false)=0->fitE (rd n d true)=0->xV p d false neg=rd n d false/\xV p d true neg=rd n d true):=by
 by_cases hx:p<18446744073709551615*d
 .obtain ⟨f1,f2,_⟩:=xN_eq hp hp' hd hd' false neg n hn (.inl hx)
  obtain ⟨t1,t2,_⟩:=xN_eq hp hp' hd hd' true neg n hn (.inl hx)
  rw [f2,t2,f1,t1]
  refine ⟨Iff.rfl,fun h1 h2=>?_⟩
  unfold fitE at h1 h2
  unfold fitV
  cases e1:okF (rd n d false) <;> cases e2:okF (rd n d true) <;> simp_all
 .obtain ⟨h1,h2,_⟩:=xE_far hp hd hd' neg n hn (by omega)
  refine ⟨⟨fun ⟨h3,h4⟩=>?_,fun ⟨h3,_⟩=>?_⟩,fun h3=>?_⟩
  .cases neg <;> omega
  .rw [h2] at h3; omega
  .rw [h2] at h3; omega
theorem fitE_cases (v:Int):(fitE v=0/\okF v=true/\fitV v=v)\/(fitE v=6/\okF v=false/\fitV v=0):=by
 unfold fitE fitV
 cases okF v <;> simp
def sqQ (i r:Int):Int:=IntKind.u64.wrap ↑(BitVec.ofInt IntKind.u64.bits r ||| BitVec.ofInt IntKind.u64.bits (IntKind.u64.wrap (1*2 ^ min (IntKind.i64.wrap (42 - i)).toNat IntKind.u64.bits))).toNat
def sqLe (H L t:Int):Bool:=bif decide (xHi (t*t)<H) then true else bif xHi (t*t)==H then decide (xLo (t*t)<=L) else false
def sqStep (H L i r:Int):Int:=bif sqLe H L (sqQ i r) then sqQ i r else r
def sqFin (H L:Int):Nat->Int->Int->Int
 | 0,_,r=>r
 | n+1,i,r=>sqFin H L n (IntKind.i64.wrap (i+1)) (sqStep H L i r)
end Go.Ar
namespace Go.Proofs.Ytmnhhlnbfkfkaaa.K
open Go Go.Eng Go.Ar
noncomputable def tbl1:List (FuncId×PSpec):=[(73,mulSpec),(72,divSpec)]
theorem tbl1_ok:TblOk Try.prog tbl1:=by
 intro x hx
 simp only [tbl1,List.mem_cons,List.not_mem_nil,or_false] at hx
 rcases hx with rfl|rfl
 .exact mul_ok
 .exact div_ok
noncomputable def c1:Ctx:=mkC Try.prog tbl1 ext
theorem c1_ok:CtxOk c1:=mkC_ok prog_ok tbl1_ok ext_ok
theorem mulDown_run (a b:Int):oneV ((run c1 300).call 36 [.int true .i64 a,.int true .i64 b] ⟨[],0,1⟩)=some (.p (xMulN a b),.tuple [.int true .i64 (xMulV a b false),.int true .i64 (xMulE a b false)]):=by kernel_rfl
theorem mulUp_run (a b:Int):oneV ((run c1 300).call 37 [.int true .i64 a,.int true .i64 b] ⟨[],0,1⟩)=some (.p (xMulN a b),.tuple [.int true .i64 (xMulV a b true),.int true .i64 (xMulE a b true)]):=by kernel_rfl
end Go.Proofs.Ytmnhhlnbfkfkaaa.K
namespace Go.Proofs.Ytmnhhlnbfkfkaaa.K
open Go Go.Eng Go.Ar
noncomputable section
end
end Go.Proofs.Ytmnhhlnbfkfkaaa.K
namespace Go.Ar
open Go
def sqP2 (a:Int):Int:=IntKind.u64.wrap a*4294967296
def sqR (a:Int):Int:=sqFin (xHi (sqP2 a)) (xLo (sqP2 a)) 43 0 0
def rtV (a:Int) (up:Bool):Int:=bif up&&!(sqR a*sqR a==a*4294967296) then sqR a+1 else sqR a
end Go.Ar
namespace Go.Ar
open Go Go.Eng
noncomputable section
def two (a b:Int):Tm:=.u [.n .i64 a,.n .i64 b]
def sMul (up:Bool):PSpec:=numSpec [.i .i64,.i .i64] none fun
 | [.n a,.n b]=>two (xMulV a b up) (xMulE a b up)
 | _=>.u []
end
end Go.Ar
namespace Go.Proofs.Ytmnhhlnbfkfkaaa.K
open Go Go.Eng Go.Ar
noncomputable section
theorem mulDown_ok:PureOk Try.prog 36 (sMul false):=by
 refine num_ok (fun xs hk _=>?_) ⟨_,Try.func36,rfl⟩
 obtain ⟨a,_,rfl,h1⟩:=kn hk; obtain ⟨b,_,rfl,h2⟩:=kn h1; obtain rfl:=k0 h2
 exact ⟨c1,300,_,c1_ok,rfl,fun _=>rfl,rfl,mulDown_run a b,xMul_need a b⟩
theorem mulUp_ok:PureOk Try.prog 37 (sMul true):=by
 refine num_ok (fun xs hk _=>?_) ⟨_,Try.func37,rfl⟩
 obtain ⟨a,_,rfl,h1⟩:=kn hk; obtain ⟨b,_,rfl,h2⟩:=kn h1; obtain rfl:=k0 h2
 exact ⟨c1,300,_,c1_ok,rfl,fun _=>rfl,rfl,mulUp_run a b,xMul_need a b⟩
end
end Go.Proofs.Ytmnhhlnbfkfkaaa.K
namespace Go.Proofs.Ytmnhhlnbfkfkaaa.K
open Go Go.Eng Go.Ar
noncomputable section
noncomputable def tbl2:List (FuncId×PSpec):=[(36,sMul false),(37,sMul true),(73,mulSpec)]
theorem tbl2_ok:TblOk Try.prog tbl2:=by
 intro x hx
 simp only [tbl2,List.mem_cons,List.not_mem_nil,or_false] at hx
 rcases hx with rfl|rfl|rfl
 .exact mulDown_ok
 .exact mulUp_ok
 .exact mul_ok
noncomputable def c2:Ctx:=mkC Try.prog tbl2 ext
theorem c2_ok:CtxOk c2:=mkC_ok prog_ok tbl2_ok ext_ok
end
end Go.Proofs.Ytmnhhlnbfkfkaaa.K
namespace Go.Ar
open Go
structure Sp where
 lo:Int
 hi:Int
 e:Int
def err (e:Int):Sp:=⟨0,0,e⟩
def okSp (a b:Int):Bool:=decide (-4503599627370496<=a)&&(decide (a<=b)&&decide (b<=4503599627370496))
def toldS (lo hi:Int):Sp:=bif okF lo&&okF hi then ⟨lo,hi,0⟩ else err 6
def mn (a b:Int):Int:=bif decide (b<a) then b else a
def mx (a b:Int):Int:=bif decide (a<b) then b else a
def both (a b c d:Int) (r:Sp):Sp:=bif okSp a b&&okSp c d then r else err 20
def addS (a b c d:Int):Sp:=both a b c d (toldS (a+c) (b+d))
def subS (a b c d:Int):Sp:=both a b c d (toldS (a - d) (b - c))
def negS (a b:Int):Sp:=bif okSp a b then ⟨-b,-a,0⟩ else err 20
def hull4 (F:Int->Int->Bool->Int) (a b c d:Int):Sp:=
 toldS (mn (mn (mn (F a c false) (F a d false)) (F b c false)) (F b d false)) (mx (mx (mx (F a c true) (F a d true)) (F b c true)) (F b d true))
def mF (x y:Int) (up:Bool):Int:=rd (x*y) 4294967296 up
def dF (x y:Int) (up:Bool):Int:=rd (sg (x*4294967296) y) (sg y y) up
def mulS (a b c d:Int):Sp:=both a b c d (hull4 mF a b c d)
def divS (a b c d:Int):Sp:=both a b c d (bif decide (c<=0)&&decide (0<=d) then err 7 else hull4 dF a b c d)
def abL (a b:Int):Int:=mx (mx a (-b)) 0
def abH (a b:Int):Int:=mx b (-a)
def sqrS (a b:Int):Sp:=bif okSp a b then toldS (rd (abL a b*abL a b) 4294967296 false) (rd (abH a b*abH a b) 4294967296 true) else err 20
def sqrtS (a b:Int):Sp:=bif okSp a b then (bif decide (a<0) then err 2 else ⟨rtV a false,rtV b true,0⟩) else err 20
def okR (n d:Int):Bool:=decide (-4611686018427387904<=n)&&decide (n<=4611686018427387904)&&decide (1<=d)&&decide (d<=4611686018427387904)
def scaleS (a b n d:Int):Sp:=bif okSp a b then (bif okR n d then toldS (rd (mn (a*n) (b*n)) d false) (rd (mx (a*n) (b*n)) d true) else err 2) else err 20
def xCS (a b:Int):Int:=bif bif decide (a < -4503599627370496) then true else bif decide (a>b) then true else decide (b>4503599627370496) then 20 else 0
def xAll2 (a b c d:Int):Int:=bif !(xCS a b != 0)&&!(xCS c d != 0) then 0 else bif xCS a b != 0 then xCS a b else xCS c d
def xTb (l h:Int):Bool:=bif decide (l < -4503599627370496) then true else decide (h>4503599627370496)
def xTold (g l h:Int):Sp:=⟨bif g != 0 then 0 else bif xTb l h then 0 else l,bif g != 0 then 0 else bif xTb l h then 0 else h,bif g != 0 then g else bif xTb l h then 6 else 0⟩
def xAddS (a b c d:Int):Sp:=xTold (xAll2 a b c d) (IntKind.i64.wrap (a+c)) (IntKind.i64.wrap (b+d))
def tL (low lo:Int):Int:=bif decide (low<lo) then low else lo
def tH (low lo hi:Int):Int:=bif decide (low<lo) then hi else hi
def nL (low high lo hi:Int):Int:=bif decide (high>tH low lo hi) then tL low lo else tL low lo
def nH (low high lo hi:Int):Int:=bif decide (high>tH low lo hi) then high else tH low lo hi
def l1 (V:Int->Int->Bool->Int) (a c d:Int):Int:=nL (V a d false) (V a d true) (V a c false) (V a c true)
def h1 (V:Int->Int->Bool->Int) (a c d:Int):Int:=nH (V a d false) (V a d true) (V a c false) (V a c true)
def l2 (V:Int->Int->Bool->Int) (a b c d:Int):Int:=nL (V b c false) (V b c true) (l1 V a c d) (h1 V a c d)
def h2 (V:Int->Int->Bool->Int) (a b c d:Int):Int:=nH (V b c false) (V b c true) (l1 V a c d) (h1 V a c d)
def l3 (V:Int->Int->Bool->Int) (a b c d:Int):Int:=nL (V b d false) (V b d true) (l2 V a b c d) (h2 V a b c d)
def h3 (V:Int->Int->Bool->Int) (a b c d:Int):Int:=nH (V b d false) (V b d true) (l2 V a b c d) (h2 V a b c d)
def bad2 (E:Int->Int->Bool->Int) (x y:Int):Bool:=bif E x y false != 0 then true else E x y true != 0
def ok4 (E:Int->Int->Bool->Int) (a b c d:Int):Bool:=(!bad2 E a c&&!bad2 E a d)&&(!bad2 E b c&&!bad2 E b d)
def bL (V E:Int->Int->Bool->Int) (a b c d:Int):Int:=bif ok4 E a b c d then (bif xTb (l3 V a b c d) (h3 V a b c d) then 0 else l3 V a b c d) else 0
def bH (V E:Int->Int->Bool->Int) (a b c d:Int):Int:=bif ok4 E a b c d then (bif xTb (l3 V a b c d) (h3 V a b c d) then 0 else h3 V a b c d) else 0
def bE (V E:Int->Int->Bool->Int) (a b c d:Int):Int:=bif ok4 E a b c d then (bif xTb (l3 V a b c d) (h3 V a b c d) then 6 else 0) else 6
def xMulS (a b c d:Int):Sp:=⟨bif xAll2 a b c d != 0 then 0 else bL xMulV xMulE a b c d,bif xAll2 a b c d != 0 then 0 else bH xMulV xMulE a b c d,bif xAll2 a b c d != 0 then xAll2 a b c d else bE xMulV xMulE a b c d⟩
theorem okSp_iff {a b:Int}:okSp a b=true ↔ -4503599627370496<=a/\a<=b/\b<=4503599627370496:=by simp [okSp]
theorem xCS_eq (a b:Int):xCS a b=bif okSp a b then 0 else 20:=by
 unfold xCS
 cases h:okSp a b with
 | true=>
  have:=okSp_iff.1 h
  simp [show ¬ a < -4503599627370496 by omega,show ¬ a>b by omega,show ¬ b>4503599627370496 by omega]
 | false=>
  have:¬ (-4503599627370496<=a/\a<=b/\b<=4503599627370496):=fun k=>by rw [okSp_iff.2 k] at h; cases h
  by_cases h1:a < -4503599627370496
  .simp [h1]
  .by_cases h2:a>b
   .simp [h1,h2]
   .simp [h1,h2,show b>4503599627370496 by omega]
theorem xAll2_eq (a b c d:Int):xAll2 a b c d=bif okSp a b&&okSp c d then 0 else 20:=by
 unfold xAll2
 rw [xCS_eq,xCS_eq]
 cases okSp a b <;> cases okSp c d <;> rfl
theorem xTb_eq {l h:Int} (k:l<=h):xTb l h=!(okF l&&okF h):=by
 unfold xTb okF
 rw [Bool.eq_iff_iff]
 by_cases h1:l < -4503599627370496
 .simp [h1] <;> omega
 .simp [h1] <;> omega
theorem xTold_eq (a b c d l h:Int) (k:okSp a b=true->okSp c d=true->l<=h):xTold (xAll2 a b c d) l h=both a b c d (toldS l h):=by
 unfold xTold both
 rw [xAll2_eq]
 cases h1:okSp a b with
 | false=>simp [err]
 | true=>
  cases h2:okSp c d with
  | false=>simp [err]
  | true=>
   rw [xTb_eq (k h1 h2)]
   unfold toldS
   cases okF l&&okF h <;> simp [err]
theorem xAddS_eq (a b c d:Int):xAddS a b c d=addS a b c d:=by
 unfold xAddS addS
 rw [xTold_eq]
 .unfold both
  cases h1:okSp a b <;> cases h2:okSp c d <;> try rfl
  have:=okSp_iff.1 h1; have:=okSp_iff.1 h2
  rw [i64w (by omega) (by omega),i64w (by omega) (by omega)]
 .intro h1 h2
  have:=okSp_iff.1 h1; have:=okSp_iff.1 h2
  rw [i64w (by omega) (by omega),i64w (by omega) (by omega)]; omega
theorem nL_eq (low high lo hi:Int):nL low high lo hi=mn lo low:=by
 unfold nL tL mn
 cases decide (high>tH low lo hi) <;> rfl
theorem nH_eq (low high lo hi:Int):nH low high lo hi=mx hi high:=by
 unfold nH tH mx
 cases decide (low<lo) <;> rfl
theorem mn_le (a b:Int):mn a b<=a/\mn a b<=b/\(mn a b=a\/mn a b=b):=by
 unfold mn
 by_cases h:b<a <;> simp [h] <;> omega
theorem le_mx (a b:Int):a<=mx a b/\b<=mx a b/\(mx a b=a\/mx a b=b):=by
 unfold mx
 by_cases h:a<b <;> simp [h] <;> omega
theorem rd_le (n d:Int) (hd:0<d):rd n d false<=rd n d true:=by
 unfold rd
 simp only [cond_true,cond_false]
 have h1:=Int.mul_ediv_add_emod n d
 have h2:=Int.emod_nonneg n (show d≠0 by omega)
 have h3:=Int.emod_lt_of_pos n hd
 have:=neg_div (p:=n) hd
 rw [this]; split <;> omega
theorem hull_law (V E F:Int->Int->Bool->Int) (a b c d:Int) (hF:∀ x y,(x=a\/x=b)->(y=c\/y=d)->F x y false<=F x y true)
  (hE:∀ x y,(x=a\/x=b)->(y=c\/y=d)->(bad2 E x y=!(okF (F x y false)&&okF (F x y true))/\(bad2 E x y=false->V x y false=F x y false/\V x y true=F x y true))):
  (⟨bL V E a b c d,bH V E a b c d,bE V E a b c d⟩:Sp)=hull4 F a b c d:=by
 obtain ⟨e1,v1⟩:=hE a c (.inl rfl) (.inl rfl)
 obtain ⟨e2,v2⟩:=hE a d (.inl rfl) (.inr rfl)
 obtain ⟨e3,v3⟩:=hE b c (.inr rfl) (.inl rfl)
 obtain ⟨e4,v4⟩:=hE b d (.inr rfl) (.inr rfl)
 have f1:=hF a c (.inl rfl) (.inl rfl)
 have f2:=hF a d (.inl rfl) (.inr rfl)
 have f3:=hF b c (.inr rfl) (.inl rfl)
 have f4:=hF b d (.inr rfl) (.inr rfl)
 unfold bL bH bE
 cases hk:ok4 E a b c d with
 | false=>
  have:(okF (mn (mn (mn (F a c false) (F a d false)) (F b c false)) (F b d false))&&okF (mx (mx (mx (F a c true) (F a d true)) (F b c true)) (F b d true)))=false:=by
   cases hh:okF (mn (mn (mn (F a c false) (F a d false)) (F b c false)) (F b d false))&&okF (mx (mx (mx (F a c true) (F a d true)) (F b c true)) (F b d true)) with
   | false=>rfl
   | true=>
    simp only [Bool.and_eq_true,okF_iff] at hh
    have m1:=mn_le (F a c false) (F a d false); have m2:=mn_le (mn (F a c false) (F a d false)) (F b c false); have m3:=mn_le (mn (mn (F a c false) (F a d false)) (F b c false)) (F b d false)
    have n1:=le_mx (F a c true) (F a d true); have n2:=le_mx (mx (F a c true) (F a d true)) (F b c true); have n3:=le_mx (mx (mx (F a c true) (F a d true)) (F b c true)) (F b d true)
    have g:∀ x y,F x y false<=F x y true->-4503599627370496<=F x y false->F x y true<=4503599627370496->(okF (F x y false)&&okF (F x y true))=true:=by
     intro x y k1 k2 k3
     rw [Bool.and_eq_true,okF_iff,okF_iff]; omega
    unfold ok4 at hk
    rw [e1,e2,e3,e4,g a c f1 (by omega) (by omega),g a d f2 (by omega) (by omega),g b c f3 (by omega) (by omega),g b d f4 (by omega) (by omega)] at hk
    cases hk
  unfold hull4 toldS
  rw [this]; rfl
 | true=>
  unfold ok4 at hk
  simp only [Bool.and_eq_true,Bool.not_eq_true'] at hk
  obtain ⟨⟨k1,k2⟩,k3,k4⟩:=hk
  obtain ⟨a1,a2⟩:=v1 k1; obtain ⟨b1,b2⟩:=v2 k2; obtain ⟨c1,c2⟩:=v3 k3; obtain ⟨d1,d2⟩:=v4 k4
  have el:l3 V a b c d=mn (mn (mn (F a c false) (F a d false)) (F b c false)) (F b d false):=by
   unfold l3 l2 l1; rw [nL_eq,nL_eq,nL_eq,a1,b1,c1,d1]
  have eh:h3 V a b c d=mx (mx (mx (F a c true) (F a d true)) (F b c true)) (F b d true):=by
   unfold h3 h2 h1; rw [nH_eq,nH_eq,nH_eq,a2,b2,c2,d2]
  rw [el,eh]
  have m1:=mn_le (F a c false) (F a d false); have m2:=mn_le (mn (F a c false) (F a d false)) (F b c false); have m3:=mn_le (mn (mn (F a c false) (F a d false)) (F b c false)) (F b d false)
  have n1:=le_mx (F a c true) (F a d true); have n2:=le_mx (mx (F a c true) (F a d true)) (F b c true); have n3:=le_mx (mx (mx (F a c true) (F a d true)) (F b c true)) (F b d true)
  rw [xTb_eq (by omega)]
  unfold hull4 toldS
  simp only [cond_true]
  cases okF (mn (mn (mn (F a c false) (F a d false)) (F b c false)) (F b d false))&&okF (mx (mx (mx (F a c true) (F a d true)) (F b c true)) (F b d true)) <;> rfl
theorem bad2_of {e f:Int->Int->Bool->Int} {F:Int->Int->Bool->Int} {x y:Int} (h:(e x y false=0/\e x y true=0) ↔ (fitE (F x y false)=0/\fitE (F x y true)=0)):bad2 e x y=!(okF (F x y false)&&okF (F x y true)):=by
 unfold bad2
 rcases fitE_cases (F x y false) with ⟨p1,p2,_⟩|⟨p1,p2,_⟩ <;> rcases fitE_cases (F x y true) with ⟨q1,q2,_⟩|⟨q1,q2,_⟩ <;> rw [p1,q1] at h <;> rw [p2,q2]
 .have:=h.2 ⟨rfl,rfl⟩; simp [this.1,this.2]
 all_goals
  simp only [Bool.and_true,Bool.and_false,Bool.not_false,Bool.false_and]
  by_cases h0:e x y false=0
  .by_cases h1:e x y true=0
   .have:=h.1 ⟨h0,h1⟩; omega
   .simp [h0,h1]
  .simp [h0]
theorem mul_corner {x y:Int} (hx:okF x=true) (hy:okF y=true):bad2 xMulE x y=!(okF (mF x y false)&&okF (mF x y true))/\(bad2 xMulE x y=false->xMulV x y false=mF x y false/\xMulV x y true=mF x y true):=by
 obtain ⟨a1,a2,a3⟩:=sz_of hx
 obtain ⟨b1,b2,b3⟩:=sz_of hy
 have hb:sg x x*sg y y<=4503599627370496*4503599627370496:=Int.mul_le_mul a3 b3 b2 (by decide)
 obtain ⟨p1,p2⟩:=pair_law (p:=sg x x*sg y y) (d:=4294967296) (Int.mul_nonneg a2 b2) (by omega) (by decide) (by decide) (xNeg x y) (x*y) (xNeg_mul x y)
 have e0:xAll x y=0:=by rw [xAll_eq,hx,hy]; rfl
 have eE:∀ up,xMulE x y up=xE (sg x x*sg y y) 4294967296 up (xNeg x y):=fun up=>by unfold xMulE; rw [e0,a1,b1]; rfl
 have eV:∀ up,xMulV x y up=xV (sg x x*sg y y) 4294967296 up (xNeg x y):=fun up=>by unfold xMulV; rw [e0,a1,b1]; rfl
 have key:=bad2_of (e:=xMulE) (f:=xMulE) (F:=mF) (x:=x) (y:=y) (by rw [eE,eE]; exact p1)
 refine ⟨key,fun h=>?_⟩
 rw [key] at h
 simp only [Bool.not_eq_false',Bool.and_eq_true] at h
 rw [eV,eV]
 refine p2 ?_ ?_
 .unfold fitE; rw [show rd (x*y) 4294967296 false=mF x y false from rfl,h.1]; rfl
 .unfold fitE; rw [show rd (x*y) 4294967296 true=mF x y true from rfl,h.2]; rfl
theorem okF_of_sp {a b:Int} (h:okSp a b=true):okF a=true/\okF b=true:=by
 have:=okSp_iff.1 h
 exact ⟨okF_iff.2 (by omega),okF_iff.2 (by omega)⟩
theorem xMulS_eq (a b c d:Int):xMulS a b c d=mulS a b c d:=by
 unfold xMulS mulS both
 rw [xAll2_eq]
 cases h1:okSp a b with
 | false=>simp [err]
 | true=>
  cases h2:okSp c d with
  | false=>simp [err]
  | true=>
   obtain ⟨ha,hb⟩:=okF_of_sp h1
   obtain ⟨hc,hd⟩:=okF_of_sp h2
   rw [<- hull_law xMulV xMulE mF a b c d (fun x y _ _=>rd_le _ _ (by decide)) fun x y hx hy=>mul_corner (by rcases hx with rfl|rfl <;> assumption) (by rcases hy with rfl|rfl <;> assumption)]
   rfl
end Go.Ar
namespace Go.Ar
open Go
end Go.Ar
namespace Go.Ar
open Go
end Go.Ar
namespace Go.Ar
open Go Go.Eng
end Go.Ar
namespace Go.Ar
open Go Go.Eng
end Go.Ar
namespace Go.Ar
open Go Go.Eng
end Go.Ar
namespace Go.Ar
open Go Go.Eng
noncomputable section
def shS:Sh:=.a [.i .i64,.i .i64]
def outS (s:Sp):Tm:=.u [.a [.n .i64 s.lo,.n .i64 s.hi],.n .i64 s.e]
def sBin (F:Int->Int->Int->Int->Sp):PSpec:=numSpec [shS,shS] none fun
 | [.n a,.n b,.n c,.n d]=>outS (F a b c d)
 | _=>.u []
def sUn (F:Int->Int->Sp):PSpec:=numSpec [shS] none fun
 | [.n a,.n b]=>outS (F a b)
 | _=>.u []
def chkS (a b:Int):Int:=bif okSp a b then 0 else 20
def sChk:PSpec:=numSpec [shS] none fun
 | [.n a,.n b]=>.n .i64 (chkS a b)
 | _=>.u []
end
end Go.Ar
namespace Go.Proofs.Ytmnhhlnbfkfkaaa.K
open Go Go.Eng Go.Ar
noncomputable section
theorem chk_run (a b:Int):oneV ((run c2 300).call 21 [.agg [.int true .i64 a,.int true .i64 b]] ⟨[],0,1⟩)=some (.tt,.int true .i64 (xCS a b)):=by kernel_rfl
theorem add_run (a b c d:Int):oneV ((run c2 300).call 24 [.agg [.int true .i64 a,.int true .i64 b],.agg [.int true .i64 c,.int true .i64 d]] ⟨[],0,1⟩)=some (.tt,(outS (xAddS a b c d)).av true):=by kernel_rfl
theorem mul_run (a b c d:Int):oneV ((run c2 300).call 23 [.agg [.int true .i64 a,.int true .i64 b],.agg [.int true .i64 c,.int true .i64 d]] ⟨[],0,1⟩)=some (.tt,(outS (xMulS a b c d)).av true):=by kernel_rfl
theorem schk_ok:PureOk Try.prog 21 sChk:=by
 refine num_ok (fun xs hk _=>?_) ⟨_,Try.func21,rfl⟩
 obtain ⟨a,_,rfl,h1⟩:=kn hk; obtain ⟨b,_,rfl,h2⟩:=kn h1; obtain rfl:=k0 h2
 have:=chk_run a b
 rw [xCS_eq] at this
 exact ⟨c2,300,_,c2_ok,rfl,fun _=>rfl,rfl,this,trivial⟩
theorem sadd_ok:PureOk Try.prog 24 (sBin addS):=by
 refine num_ok (fun xs hk _=>?_) ⟨_,Try.func24,rfl⟩
 obtain ⟨a,_,rfl,h1⟩:=kn hk; obtain ⟨b,_,rfl,h2⟩:=kn h1; obtain ⟨c,_,rfl,h3⟩:=kn h2; obtain ⟨d,_,rfl,h4⟩:=kn h3; obtain rfl:=k0 h4
 exact ⟨c2,300,_,c2_ok,rfl,fun _=>rfl,rfl,(add_run a b c d).trans (by rw [xAddS_eq]),trivial⟩
theorem smul_ok:PureOk Try.prog 23 (sBin mulS):=by
 refine num_ok (fun xs hk _=>?_) ⟨_,Try.func23,rfl⟩
 obtain ⟨a,_,rfl,h1⟩:=kn hk; obtain ⟨b,_,rfl,h2⟩:=kn h1; obtain ⟨c,_,rfl,h3⟩:=kn h2; obtain ⟨d,_,rfl,h4⟩:=kn h3; obtain rfl:=k0 h4
 exact ⟨c2,300,_,c2_ok,rfl,fun _=>rfl,rfl,(mul_run a b c d).trans (by rw [xMulS_eq]),trivial⟩
end
end Go.Proofs.Ytmnhhlnbfkfkaaa.K
namespace Go.Proofs.Ytmnhhlnbfkfkaaa.K
open Go Go.Eng Go.Ar
noncomputable section
end
end Go.Proofs.Ytmnhhlnbfkfkaaa.K
namespace Go.Proofs.Ytmnhhlnbfkfkaaa.K
open Go Go.Eng Go.Ar
noncomputable section
end
end Go.Proofs.Ytmnhhlnbfkfkaaa.K
namespace Go.Proofs.Ytmnhhlnbfkfkaaa.K
open Go Go.Eng Go.Ar
noncomputable section
end
end Go.Proofs.Ytmnhhlnbfkfkaaa.K
namespace Go.Proofs.Ytmnhhlnbfkfkaaa.K
open Go Go.Eng Go.Ar
noncomputable section
end
end Go.Proofs.Ytmnhhlnbfkfkaaa.K
namespace Go.Proofs.Ytmnhhlnbfkfkaaa.K
open Go Go.Eng Go.Ar
noncomputable section
end
end Go.Proofs.Ytmnhhlnbfkfkaaa.K
namespace Go.Ar
open Go Go.Eng
end Go.Ar
namespace Go.Ar
open Go Go.Eng
end Go.Ar
namespace Go.Ar
open Go Go.Eng
end Go.Ar
namespace Go.Proofs.Ytmnhhlnbfkfkaaa.K
open Go Go.Eng Go.Ar
noncomputable section
end
end Go.Proofs.Ytmnhhlnbfkfkaaa.K
namespace Go.Ar
open Go
def xNegS (a b:Int):Sp:=xTold (xCS a b) (IntKind.i64.wrap (0 - b)) (IntKind.i64.wrap (0 - a))
theorem xNegS_eq (a b:Int):xNegS a b=negS a b:=by
 unfold xNegS negS xTold
 rw [xCS_eq]
 cases h:okSp a b with
 | false=>simp [err]
 | true=>
  have:=okSp_iff.1 h
  rw [i64w (by omega) (by omega),i64w (by omega) (by omega)]
  have hb:xTb (0 - b) (0 - a)=false:=by
   unfold xTb
   rw [decide_eq_false (show ¬ (0 - b < -4503599627370496) by omega),decide_eq_false (show ¬ (0 - a>4503599627370496) by omega)]
   rfl
  rw [hb]
  simp
end Go.Ar
namespace Go.Vc
open Go Go.Eng Go.Ar
structure VF where
 ad:Int->Int->Int->Int->Sp
 su:Int->Int->Int->Int->Sp
 mu:Int->Int->Int->Int->Sp
 di:Int->Int->Int->Int->Sp
 sc:Int->Int->Int->Int->Sp
 sq:Int->Int->Sp
 rt:Int->Int->Sp
 ng:Int->Int->Sp
 ck:Int->Int->Int
 ok:Int->Int->Bool
noncomputable def vf0:VF:=⟨addS,subS,mulS,divS,scaleS,sqrS,sqrtS,negS,chkS,okSp⟩
structure Ve where
 a:Int
 b:Int
 c:Int
 d:Int
 e:Int
 f:Int
def Ve.cells (v:Ve):List AV:=[.int true .i64 v.a,.int true .i64 v.b,.int true .i64 v.c,.int true .i64 v.d,.int true .i64 v.e,.int true .i64 v.f]
section
variable (F:VF) (v:Ve)
def fe (x y:Int):Int:=bif x==0 then y else x
def uZ:Bool:=!(v.a==0&&(v.b==0&&(v.c==0&&(v.d==0&&(v.e==0&&(v.f==0&&true))))))
def vCk:Int:=fe (fe (F.ck v.a v.b) (F.ck v.c v.d)) (F.ck v.e v.f)
def vC0:Int:=bif uZ v then vCk F v else 0
def f3 (a b c:Int):Int:=bif a != 0||!(a != 0)&&(b != 0||!(b != 0)&&c != 0) then bif a != 0 then a else bif b != 0 then b else c else 0
def wOk:Bool:=!bif F.ok v.a v.b then bif F.ok v.c v.d then F.ok v.e v.f else false else false
end
structure VF.law (F:VF):Prop where
 ck:∀ a b,F.ck a b=bif F.ok a b then 0 else 20
 z:F.ok 0 0=true
theorem vf0_law:vf0.law:=⟨fun _ _=>rfl,by decide⟩
theorem vC0_eq {F:VF} (h:F.law) (v:Ve):vC0 F v=bif wOk F v then 20 else 0:=by
 unfold vC0 vCk wOk fe
 simp only [h.ck]
 cases hz:uZ v with
 | true=>cases F.ok v.a v.b <;> cases F.ok v.c v.d <;> cases F.ok v.e v.f <;> rfl
 | false=>
  unfold uZ at hz
  simp only [Bool.and_true,Bool.not_eq_false',Bool.and_eq_true,beq_iff_eq] at hz
  obtain ⟨h1,h2,h3,h4,h5,h6⟩:=hz
  rw [h1,h2,h3,h4,h5,h6,h.z]
  rfl
end Go.Vc
namespace Go.Vc
open Go Go.Eng Go.Ar
section
variable (F:VF) (v w:Ve) (X Y Z:Sp)
def bCk:Int:=bif uZ w then fe (fe (fe (vC0 F v) (F.ck w.a w.b)) (F.ck w.c w.d)) (F.ck w.e w.f) else vC0 F v
def tE (k:Int):Int:=fe (fe (fe k X.e) Y.e) Z.e
def tI (e x:Int):Int:=bif e != 0 then 0 else x
def tO (e:Int):Int:=bif e != 0 then e else 0
def z3 {β:Type} (f:Int->Int->Int->Int->Sp) (w:Ve) (x:Sp->Sp->Sp->β):β:=x (f v.a v.b w.a w.b) (f v.c v.d w.c w.d) (f v.e v.f w.e w.f)
def two3 (f:Int->Int->Int->Int->Sp):Int:=z3 v f w fun X Y Z=>tE X Y Z (bCk F v w)
def dA:Sp:=F.ad (F.mu v.a v.b w.a w.b).lo (F.mu v.a v.b w.a w.b).hi (F.mu v.c v.d w.c w.d).lo (F.mu v.c v.d w.c w.d).hi
def dB:Sp:=F.ad (dA F v w).lo (dA F v w).hi (F.mu v.e v.f w.e w.f).lo (F.mu v.e v.f w.e w.f).hi
def dE:Int:=fe (fe (two3 F v w F.mu) (dA F v w).e) (dB F v w).e
def dotF:Sp:=⟨tI (dE F v w) (dB F v w).lo,tI (dE F v w) (dB F v w).hi,tO (dE F v w)⟩
def veP (v:Ve):Prop:=v.a=v.a/\v.b=v.b/\v.c=v.c/\v.d=v.d/\v.e=v.e/\v.f=v.f
def veQ (v:Ve):Prop:=(v.a=v.a/\v.b=v.b)/\(v.c=v.c/\v.d=v.d)/\v.e=v.e/\v.f=v.f
def vnD (w:Ve):Prop:=((uZ v=true->veQ v)/\(uZ w=true->veQ w))/\((F.mu v.e v.f w.e w.f).lo=(F.mu v.e v.f w.e w.f).lo/\(F.mu v.e v.f w.e w.f).hi=(F.mu v.e v.f w.e w.f).hi)/\((dE F v w != 0)=true->dE F v w=dE F v w)
theorem vnD_t {F:VF} {v w:Ve}:vnD F v w:=by unfold vnD veQ; simp only [and_self,implies_true]
def bBad:Bool:=bif wOk F v then true else wOk F w
end
theorem bCk_eq {F:VF} (h:F.law) (v w:Ve):bCk F v w=bif bBad F v w then 20 else 0:=by
 have h1:=vC0_eq h v
 have h2:=vC0_eq h w
 unfold bCk bBad
 rw [h1]
 unfold vC0 at h2
 cases hv:wOk F v with
 | true=>cases uZ w <;> rfl
 | false=>
  have h3:fe (fe (fe (bif false then (20:Int) else 0) (F.ck w.a w.b)) (F.ck w.c w.d)) (F.ck w.e w.f)=vCk F w:=rfl
  rw [h3]
  exact h2
structure VF.law2 (F:VF):Prop extends F.law where
 ad:∀ a b c d,((F.ad a b c d).e==0)=false->(F.ad a b c d).lo=0/\(F.ad a b c d).hi=0
 ng:∀ a b,(F.ng a b).e=bif F.ok a b then 0 else 20
end Go.Vc
namespace Go.Proofs.Ytmnhhlnbfkfkaaa.K
open Go Go.Eng Go.Ar Go.Vc
noncomputable section
theorem sneg_run (a b:Int):oneV ((run c2 300).call 8 [.agg [.int true .i64 a,.int true .i64 b]] ⟨[],0,1⟩)=some (.tt,(outS (xNegS a b)).av true):=by kernel_rfl
theorem sneg_ok:PureOk Try.prog 8 (sUn negS):=by
 refine num_ok (fun xs hk _=>?_) ⟨_,Try.func8,rfl⟩
 obtain ⟨a,_,rfl,h1⟩:=kn hk; obtain ⟨b,_,rfl,h2⟩:=kn h1; obtain rfl:=k0 h2
 exact ⟨c2,300,_,c2_ok,rfl,fun _=>rfl,rfl,(sneg_run a b).trans (by rw [xNegS_eq]),trivial⟩
def ckVF (F:VF):PSpec:=numSpec [shS] none fun
 | [.n a,.n b]=>.n .i64 (F.ck a b)
 | _=>.u []
noncomputable def tblVeP (F:VF):List (FuncId×PSpec):=[(24,sBin F.ad),(23,sBin F.mu),(8,sUn F.ng),(21,ckVF F)]
theorem tblVeP_ok:TblOk Try.prog (tblVeP vf0):=by
 intro x hx
 simp only [tblVeP,List.mem_cons,List.not_mem_nil,or_false] at hx
 rcases hx with rfl|rfl|rfl|rfl
 .exact sadd_ok
 .exact smul_ok
 .exact sneg_ok
 .exact schk_ok
noncomputable def cVeP (F:VF):Ctx:=mkC Try.prog (tblVeP F) ext
theorem cVeP_ok:CtxOk (cVeP vf0):=mkC_ok prog_ok tblVeP_ok ext_ok
def shV:Sh:=.a [.i .i64,.i .i64,.i .i64,.i .i64,.i .i64,.i .i64]
def sVD (D:Ve->Ve->Sp):PSpec:=numSpec [shV,shV] none fun
 | [.n a,.n b,.n c,.n d,.n e,.n f,.n a1,.n b1,.n c1,.n d1,.n e1,.n f1]=>outS (D ⟨a,b,c,d,e,f⟩ ⟨a1,b1,c1,d1,e1,f1⟩)
 | _=>.u []
theorem kVV {xs:List Nu} (hk:xs.map Nu.isN=Sh.kindsL [shV,shV]):∃ a b c d e f a1 b1 c1 d1 e1 f1,xs=[.n a,.n b,.n c,.n d,.n e,.n f,.n a1,.n b1,.n c1,.n d1,.n e1,.n f1]:=by
 obtain ⟨a,_,rfl,h1⟩:=kn hk; obtain ⟨b,_,rfl,h2⟩:=kn h1; obtain ⟨c,_,rfl,h3⟩:=kn h2; obtain ⟨d,_,rfl,h4⟩:=kn h3; obtain ⟨e,_,rfl,h5⟩:=kn h4; obtain ⟨f,_,rfl,h6⟩:=kn h5; obtain ⟨a1,_,rfl,h7⟩:=kn h6; obtain ⟨b1,_,rfl,h8⟩:=kn h7; obtain ⟨c1,_,rfl,h9⟩:=kn h8; obtain ⟨d1,_,rfl,h10⟩:=kn h9; obtain ⟨e1,_,rfl,h11⟩:=kn h10; obtain ⟨f1,_,rfl,h12⟩:=kn h11; obtain rfl:=k0 h12
 exact ⟨a,b,c,d,e,f,a1,b1,c1,d1,e1,f1,rfl⟩
theorem vdot_run (F:VF) (v w:Ve):oneV ((run (cVeP F) 3000).call 31 [.agg v.cells,.agg w.cells] ⟨[],0,1⟩)=some (.p (vnD F v w),(outS (dotF F v w)).av true):=by kernel_rfl
theorem vdot_ok:PureOk Try.prog 31 (sVD (dotF vf0)):=by
 refine num_ok (fun xs hk _=>?_) ⟨_,Try.func31,rfl⟩
 obtain ⟨a,b,c,d,e,f,a1,b1,c1,d1,e1,f1,rfl⟩:=kVV hk
 exact ⟨cVeP vf0,3000,_,cVeP_ok,rfl,fun _=>rfl,rfl,vdot_run vf0 ⟨a,b,c,d,e,f⟩ ⟨a1,b1,c1,d1,e1,f1⟩,vnD_t⟩
theorem vchk_run (F:VF) (v:Ve):oneV ((run (cVeP F) 3000).call 30 [.agg v.cells] ⟨[],0,1⟩)=some (.p (uZ v=true->(v.a=v.a/\v.b=v.b)/\(v.c=v.c/\v.d=v.d)/\v.e=v.e/\v.f=v.f),(Tm.n .i64 (vC0 F v)).av true):=by kernel_rfl
end
end Go.Proofs.Ytmnhhlnbfkfkaaa.K
namespace Go.Vc
open Go Go.Eng Go.Ar
structure MF where
 dt:Ve->Ve->Sp
 o:Int->Int->Bool
structure Mat where
 x:Ve
 y:Ve
 z:Ve
def Mat.cells (m:Mat):List AV:=m.x.cells++m.y.cells++m.z.cells
def MF.ok (F:MF) (v:Ve):Bool:=bif F.o v.a v.b then bif F.o v.c v.d then F.o v.e v.f else false else false
def flip (m:Mat):Mat:=⟨⟨m.x.a,m.x.b,m.y.a,m.y.b,m.z.a,m.z.b⟩,⟨m.x.c,m.x.d,m.y.c,m.y.d,m.z.c,m.z.d⟩,⟨m.x.e,m.x.f,m.y.e,m.y.f,m.z.e,m.z.f⟩⟩
def ck (F:MF) (v:Ve):Int:=bif F.ok v then 0 else 20
def ckM (F:MF) (m:Mat):Int:=bif ck F m.x != 0||!(ck F m.x != 0)&&(ck F m.y != 0||!(ck F m.y != 0)&&ck F m.z != 0) then bif ck F m.x != 0 then ck F m.x else bif ck F m.y != 0 then ck F m.y else ck F m.z else 0
def okM (F:MF) (m:Mat):Bool:=bif F.ok m.x then bif F.ok m.y then F.ok m.z else false else false
def g3 (a b c:Int):Bool:=!(a != 0)&&(!(b != 0)&&!(c != 0))
def e3 (a b c:Int):Int:=bif g3 a b c then 0 else bif !(a != 0)&&(!(b != 0)&&c != 0||b != 0) then bif !(b != 0)&&c != 0 then c else b else a
def pBad (F:MF) (m:Mat) (v:Ve):Bool:=bif ckM F m != 0 then true else ck F v != 0
def rBad (F:MF) (m:Mat) (v:Ve):Bool:=bif !okM F m then true else !F.ok v
section
variable (F:MF) (m:Mat) (v:Ve)
def tg:Bool:=g3 (F.dt m.x v).e (F.dt m.y v).e (F.dt m.z v).e
def pI (x:Int):Int:=bif !pBad F m v then bif tg F m v then x else 0 else 0
def rtI (x:Int):Int:=bif rBad F m v then 0 else bif tg F m v then x else 0
def pTuV:Ve:=⟨pI F m v (F.dt m.x v).lo,pI F m v (F.dt m.x v).hi,pI F m v (F.dt m.y v).lo,pI F m v (F.dt m.y v).hi,pI F m v (F.dt m.z v).lo,pI F m v (F.dt m.z v).hi⟩
def tuV:Ve:=⟨rtI F m v (F.dt m.x v).lo,rtI F m v (F.dt m.x v).hi,rtI F m v (F.dt m.y v).lo,rtI F m v (F.dt m.y v).hi,rtI F m v (F.dt m.z v).lo,rtI F m v (F.dt m.z v).hi⟩
def pTuO:Int:=bif !pBad F m v then e3 (F.dt m.x v).e (F.dt m.y v).e (F.dt m.z v).e else 20
def tuO:Int:=bif rBad F m v then 20 else e3 (F.dt m.x v).e (F.dt m.y v).e (F.dt m.z v).e
end
theorem ckM_eq (F:MF) (m:Mat):ckM F m=bif okM F m then 0 else 20:=by
 unfold ckM okM ck
 cases F.ok m.x <;> cases F.ok m.y <;> cases F.ok m.z <;> rfl
theorem pBad_eq (F:MF) (m:Mat) (v:Ve):pBad F m v=rBad F m v:=by
 unfold pBad rBad
 rw [ckM_eq]
 unfold ck
 cases okM F m <;> cases F.ok v <;> rfl
theorem tu_eq (F:MF) (m:Mat) (v:Ve):pTuV F m v=tuV F m v/\pTuO F m v=tuO F m v:=by
 have e:∀ x,pI F m v x=rtI F m v x:=fun x=>by
  unfold pI rtI
  rw [pBad_eq]
  cases rBad F m v <;> rfl
 refine ⟨?_,?_⟩
 .unfold pTuV tuV
  simp only [e]
 .unfold pTuO tuO
  rw [pBad_eq]
  cases rBad F m v <;> rfl
theorem veP_t (v:Ve):veP v:=⟨rfl,rfl,rfl,rfl,rfl,rfl⟩
def maP (m:Mat):Prop:=m.x.a=m.x.a/\m.x.b=m.x.b/\m.x.c=m.x.c/\m.x.d=m.x.d/\m.x.e=m.x.e/\m.x.f=m.x.f/\m.y.a=m.y.a/\m.y.b=m.y.b/\m.y.c=m.y.c/\m.y.d=m.y.d/\m.y.e=m.y.e/\m.y.f=m.y.f/\m.z.a=m.z.a/\m.z.b=m.z.b/\m.z.c=m.z.c/\m.z.d=m.z.d/\m.z.e=m.z.e/\m.z.f=m.z.f
theorem maP_t (m:Mat):maP m:=⟨rfl,rfl,rfl,rfl,rfl,rfl,rfl,rfl,rfl,rfl,rfl,rfl,rfl,rfl,rfl,rfl,rfl,rfl⟩
structure TF where
 tv:Mat->Ve->Ve
 te:Mat->Ve->Int
 cm:Mat->Int
def f3b (a b c:Int):Bool:=!(a != 0)&&(!(b != 0)&&c != 0||b != 0)||a != 0
def er3 (a b c:Int):Int:=bif !(a != 0)&&(!(b != 0)&&c != 0||b != 0) then bif !(b != 0)&&c != 0 then c else b else a
section
variable (T:TF) (a b:Mat)
def pmB:Bool:=bif T.cm ⟨a.x,a.y,a.z⟩ != 0 then true else T.cm ⟨b.x,b.y,b.z⟩ != 0
def pmG:Bool:=g3 (T.te (flip b) a.x) (T.te (flip b) a.y) (T.te (flip b) a.z)
def pmV (v:Ve):Ve:=⟨bif !pmB T a b then bif pmG T a b then v.a else 0 else 0,bif !pmB T a b then bif pmG T a b then v.b else 0 else 0,bif !pmB T a b then bif pmG T a b then v.c else 0 else 0,bif !pmB T a b then bif pmG T a b then v.d else 0 else 0,bif !pmB T a b then bif pmG T a b then v.e else 0 else 0,bif !pmB T a b then bif pmG T a b then v.f else 0 else 0⟩
def pMulV:Mat:=⟨pmV T a b (T.tv (flip b) a.x),pmV T a b (T.tv (flip b) a.y),pmV T a b (T.tv (flip b) a.z)⟩
def pMulO:Int:=bif !pmB T a b then e3 (T.te (flip b) a.x) (T.te (flip b) a.y) (T.te (flip b) a.z) else 20
def pmN:Prop:=(!pmB T a b)=true->veP a.x/\((!(T.te (flip b) a.x != 0))=true->veP a.y/\((!(T.te (flip b) a.y != 0))=true->veP a.z))
end
theorem pmN_t (T:TF) (a b:Mat):pmN T a b:=fun _=>⟨veP_t _,fun _=>⟨veP_t _,fun _=>veP_t _⟩⟩
section
variable (F:MF) (a b:Mat)
def rmB:Bool:=bif !okM F a then true else !okM F b
def rg (r:Ve):Bool:=g3 (F.dt r (flip b).x).e (F.dt r (flip b).y).e (F.dt r (flip b).z).e
def rf (r:Ve):Bool:=f3b (F.dt r (flip b).x).e (F.dt r (flip b).y).e (F.dt r (flip b).z).e
def re (r:Ve):Int:=er3 (F.dt r (flip b).x).e (F.dt r (flip b).y).e (F.dt r (flip b).z).e
def rmG:Bool:=rg F b a.x&&(rg F b a.y&&rg F b a.z)
def rmI (x:Int):Int:=bif rmB F a b then 0 else bif rmG F a b then x else 0
def rmV (r:Ve):Ve:=⟨rmI F a b (F.dt r (flip b).x).lo,rmI F a b (F.dt r (flip b).x).hi,rmI F a b (F.dt r (flip b).y).lo,rmI F a b (F.dt r (flip b).y).hi,rmI F a b (F.dt r (flip b).z).lo,rmI F a b (F.dt r (flip b).z).hi⟩
def mulV:Mat:=⟨rmV F a b a.x,rmV F a b a.y,rmV F a b a.z⟩
def mulO:Int:=bif rmB F a b then 20 else bif rmG F a b then 0 else bif rg F b a.x&&(rg F b a.y&&rf F b a.z||rf F b a.y) then bif rg F b a.y&&rf F b a.z then re F b a.z else re F b a.y else re F b a.x
end
theorem f3b_eq (a b c:Int):f3b a b c=!g3 a b c:=by
 unfold f3b g3
 cases a != 0 <;> cases b != 0 <;> cases c != 0 <;> rfl
theorem e3_eq (a b c:Int):e3 a b c=bif g3 a b c then 0 else er3 a b c:=rfl
theorem e3_nz (a b c:Int):(e3 a b c != 0)=!g3 a b c:=by
 unfold e3 g3
 cases h1:a != 0 <;> cases h2:b != 0 <;> cases h3:c != 0 <;> simp [h1,h2,h3]
theorem okM_flip (F:MF) (b:Mat):okM F (flip b)=okM F b:=by
 unfold okM MF.ok flip
 cases F.o b.x.a b.x.b <;> cases F.o b.x.c b.x.d <;> cases F.o b.x.e b.x.f <;> cases F.o b.y.a b.y.b <;> cases F.o b.y.c b.y.d <;> cases F.o b.y.e b.y.f <;> cases F.o b.z.a b.z.b <;> cases F.o b.z.c b.z.d <;> cases F.o b.z.e b.z.f <;> rfl
def tfOf (F:MF):TF:=⟨tuV F,tuO F,ckM F⟩
theorem mul_eq {F:MF} (hc:∀ v w,F.dt v w=F.dt w v) (a b:Mat):pMulV (tfOf F) a b=mulV F a b/\pMulO (tfOf F) a b=mulO F a b:=by
 have eB:pmB (tfOf F) a b=rmB F a b:=by
  show (bif ckM F a != 0 then true else ckM F b != 0)=_
  rw [ckM_eq,ckM_eq]
  unfold rmB
  cases okM F a <;> cases okM F b <;> rfl
 cases hB:rmB F a b with
 | true=>
  have e1:pmB (tfOf F) a b=true:=by rw [eB,hB]
  refine ⟨?_,?_⟩
  .unfold pMulV mulV pmV rmV rmI
   rw [e1,hB]; rfl
  .unfold pMulO mulO
   rw [e1,hB]; rfl
 | false=>
  have e1:pmB (tfOf F) a b=false:=by rw [eB,hB]
  have hh:okM F a=true/\okM F b=true:=by
   unfold rmB at hB
   cases ha:okM F a <;> cases hb:okM F b <;> rw [ha,hb] at hB <;> first|exact ⟨rfl,rfl⟩|cases hB
  have hr:F.ok a.x=true/\F.ok a.y=true/\F.ok a.z=true:=by
   have:=hh.1
   unfold okM at this
   cases h1:F.ok a.x <;> cases h2:F.ok a.y <;> cases h3:F.ok a.z <;> rw [h1,h2,h3] at this <;> first|exact ⟨rfl,rfl,rfl⟩|cases this
  have bd:∀ r,F.ok r=true->rBad F (flip b) r=false:=fun r h=>by
   unfold rBad
   rw [okM_flip,hh.2,h]; rfl
  have te:∀ r,F.ok r=true->(tfOf F).te (flip b) r=e3 (F.dt r (flip b).x).e (F.dt r (flip b).y).e (F.dt r (flip b).z).e:=fun r h=>by
   show tuO F (flip b) r=_
   unfold tuO
   rw [bd r h,hc _ r,hc _ r,hc _ r]; rfl
  have nz:∀ r,F.ok r=true->((tfOf F).te (flip b) r != 0)=!rg F b r:=fun r h=>by
   rw [te r h,e3_nz]; rfl
  have eG:pmG (tfOf F) a b=rmG F a b:=by
   unfold pmG g3 rmG
   rw [nz _ hr.1,nz _ hr.2.1,nz _ hr.2.2,Bool.not_not,Bool.not_not,Bool.not_not]
  refine ⟨?_,?_⟩
  .cases hG:rmG F a b with
   | false=>
    rw [hG] at eG
    unfold pMulV mulV pmV rmV rmI
    rw [e1,hB,eG,hG]; rfl
   | true=>
    have hG0:=hG
    rw [hG] at eG
    unfold rmG at hG
    simp only [Bool.and_eq_true] at hG
    have tv:∀ r,F.ok r=true->rg F b r=true->(tfOf F).tv (flip b) r=⟨(F.dt r (flip b).x).lo,(F.dt r (flip b).x).hi,(F.dt r (flip b).y).lo,(F.dt r (flip b).y).hi,(F.dt r (flip b).z).lo,(F.dt r (flip b).z).hi⟩:=fun r h hg=>by
     show tuV F (flip b) r=_
     have htg:tg F (flip b) r=true:=by
      unfold tg
      rw [hc _ r,hc _ r,hc _ r]; exact hg
     unfold tuV rtI
     rw [bd r h,htg,hc _ r,hc _ r,hc _ r]; rfl
    unfold pMulV mulV
    rw [tv _ hr.1 hG.1,tv _ hr.2.1 hG.2.1,tv _ hr.2.2 hG.2.2]
    unfold pmV rmV rmI
    rw [e1,hB,eG,hG0]; rfl
  .unfold pMulO mulO
   rw [e1,hB]
   show e3 _ _ _=bif rmG F a b then 0 else _
   rw [te _ hr.1,te _ hr.2.1,te _ hr.2.2]
   have n1:=e3_nz (F.dt a.x (flip b).x).e (F.dt a.x (flip b).y).e (F.dt a.x (flip b).z).e
   have n2:=e3_nz (F.dt a.y (flip b).x).e (F.dt a.y (flip b).y).e (F.dt a.y (flip b).z).e
   have n3:=e3_nz (F.dt a.z (flip b).x).e (F.dt a.z (flip b).y).e (F.dt a.z (flip b).z).e
   have f1:=f3b_eq (F.dt a.y (flip b).x).e (F.dt a.y (flip b).y).e (F.dt a.y (flip b).z).e
   have f2:=f3b_eq (F.dt a.z (flip b).x).e (F.dt a.z (flip b).y).e (F.dt a.z (flip b).z).e
   have d1:=e3_eq (F.dt a.x (flip b).x).e (F.dt a.x (flip b).y).e (F.dt a.x (flip b).z).e
   have d2:=e3_eq (F.dt a.y (flip b).x).e (F.dt a.y (flip b).y).e (F.dt a.y (flip b).z).e
   have d3:=e3_eq (F.dt a.z (flip b).x).e (F.dt a.z (flip b).y).e (F.dt a.z (flip b).z).e
   unfold rmG rf rg re
   rw [f1,f2]
   generalize e3 (F.dt a.x (flip b).x).e (F.dt a.x (flip b).y).e (F.dt a.x (flip b).z).e=E1 at *
   generalize e3 (F.dt a.y (flip b).x).e (F.dt a.y (flip b).y).e (F.dt a.y (flip b).z).e=E2 at *
   generalize e3 (F.dt a.z (flip b).x).e (F.dt a.z (flip b).y).e (F.dt a.z (flip b).z).e=E3 at *
   generalize g3 (F.dt a.x (flip b).x).e (F.dt a.x (flip b).y).e (F.dt a.x (flip b).z).e=G1 at *
   generalize g3 (F.dt a.y (flip b).x).e (F.dt a.y (flip b).y).e (F.dt a.y (flip b).z).e=G2 at *
   generalize g3 (F.dt a.z (flip b).x).e (F.dt a.z (flip b).y).e (F.dt a.z (flip b).z).e=G3 at *
   unfold e3 g3
   rw [n1,n2,n3]
   cases G1 <;> cases G2 <;> cases G3 <;> simp only [cond_true,cond_false] at d1 d2 d3 <;> simp [d1,d2,d3]
end Go.Vc
namespace Go.Proofs.Ytmnhhlnbfkfkaaa.K
open Go Go.Eng Go.Ar Go.Vc
noncomputable section
def sVC (C:Ve->Int):PSpec:=numSpec [shV] none fun
 | [.n a,.n b,.n c,.n d,.n e,.n f]=>.n .i64 (C ⟨a,b,c,d,e,f⟩)
 | _=>.u []
theorem kV {xs:List Nu} (hk:xs.map Nu.isN=Sh.kindsL [shV]):∃ a b c d e f,xs=[.n a,.n b,.n c,.n d,.n e,.n f]:=by
 obtain ⟨a,_,rfl,h1⟩:=kn hk; obtain ⟨b,_,rfl,h2⟩:=kn h1; obtain ⟨c,_,rfl,h3⟩:=kn h2; obtain ⟨d,_,rfl,h4⟩:=kn h3; obtain ⟨e,_,rfl,h5⟩:=kn h4; obtain ⟨f,_,rfl,h6⟩:=kn h5; obtain rfl:=k0 h6
 exact ⟨a,b,c,d,e,f,rfl⟩
def mf0:MF:=⟨dotF vf0,okSp⟩
theorem vchkV_ok:PureOk Try.prog 30 (sVC (ck mf0)):=by
 refine num_ok (fun xs hk _=>?_) ⟨_,Try.func30,rfl⟩
 obtain ⟨a,b,c,d,e,f,rfl⟩:=kV hk
 have r:=vchk_run vf0 ⟨a,b,c,d,e,f⟩
 have e:vC0 vf0 ⟨a,b,c,d,e,f⟩=ck mf0 ⟨a,b,c,d,e,f⟩:=by
  rw [vC0_eq vf0_law]
  show (bif !(MF.ok mf0 ⟨a,b,c,d,e,f⟩) then (20:Int) else 0)=bif MF.ok mf0 ⟨a,b,c,d,e,f⟩ then 0 else 20
  cases MF.ok mf0 ⟨a,b,c,d,e,f⟩ <;> rfl
 rw [e] at r
 exact ⟨cVeP vf0,3000,_,cVeP_ok,rfl,fun _=>rfl,rfl,r,fun _=>⟨⟨rfl,rfl⟩,⟨rfl,rfl⟩,rfl,rfl⟩⟩
def tblMaP (F:MF):List (FuncId×PSpec):=[(31,sVD F.dt),(30,sVC (ck F))]
theorem tblMaP_ok:TblOk Try.prog (tblMaP mf0):=by
 intro x hx
 simp only [tblMaP,List.mem_cons,List.not_mem_nil,or_false] at hx
 rcases hx with rfl|rfl
 .exact vdot_ok
 .exact vchkV_ok
def cMaP (F:MF):Ctx:=mkC Try.prog (tblMaP F) ext
theorem cMaP_ok:CtxOk (cMaP mf0):=mkC_ok prog_ok tblMaP_ok ext_ok
def shM:Sh:=.a [.i .i64,.i .i64,.i .i64,.i .i64,.i .i64,.i .i64,.i .i64,.i .i64,.i .i64,.i .i64,.i .i64,.i .i64,.i .i64,.i .i64,.i .i64,.i .i64,.i .i64,.i .i64]
def outVe (v:Ve) (e:Int):Tm:=.u [.a [.n .i64 v.a,.n .i64 v.b,.n .i64 v.c,.n .i64 v.d,.n .i64 v.e,.n .i64 v.f],.n .i64 e]
def sMC (C:Mat->Int):PSpec:=numSpec [shM] none fun
 | [.n a,.n b,.n c,.n d,.n e,.n f,.n g,.n h,.n i,.n j,.n k,.n l,.n m,.n n,.n o,.n p,.n q,.n r]=>.n .i64 (C ⟨⟨a,b,c,d,e,f⟩,⟨g,h,i,j,k,l⟩,⟨m,n,o,p,q,r⟩⟩)
 | _=>.u []
def sMV (V:Mat->Ve->Ve) (E:Mat->Ve->Int):PSpec:=numSpec [shM,shV] none fun
 | [.n a,.n b,.n c,.n d,.n e,.n f,.n g,.n h,.n i,.n j,.n k,.n l,.n m,.n n,.n o,.n p,.n q,.n r,.n a1,.n b1,.n c1,.n d1,.n e1,.n f1]=>outVe (V ⟨⟨a,b,c,d,e,f⟩,⟨g,h,i,j,k,l⟩,⟨m,n,o,p,q,r⟩⟩ ⟨a1,b1,c1,d1,e1,f1⟩) (E ⟨⟨a,b,c,d,e,f⟩,⟨g,h,i,j,k,l⟩,⟨m,n,o,p,q,r⟩⟩ ⟨a1,b1,c1,d1,e1,f1⟩)
 | _=>.u []
theorem k6 {xs:List Nu} {K:List Nat} (hk:xs.map Nu.isN=0 :: 0 :: 0 :: 0 :: 0 :: 0 :: K):∃ (v:Ve) (ys:List Nu),xs=.n v.a :: .n v.b :: .n v.c :: .n v.d :: .n v.e :: .n v.f :: ys/\ys.map Nu.isN=K:=by
 obtain ⟨a,_,rfl,h1⟩:=kn hk; obtain ⟨b,_,rfl,h2⟩:=kn h1; obtain ⟨c,_,rfl,h3⟩:=kn h2; obtain ⟨d,_,rfl,h4⟩:=kn h3; obtain ⟨e,_,rfl,h5⟩:=kn h4; obtain ⟨f,ys,rfl,h6⟩:=kn h5
 exact ⟨⟨a,b,c,d,e,f⟩,ys,rfl,h6⟩
theorem pturn_run (F:MF) (m:Mat) (v:Ve):oneV ((run (cMaP F) 3000).call 17 [.agg m.cells,.agg v.cells] ⟨[],0,1⟩)=some (.tt,(outVe (pTuV F m v) (pTuO F m v)).av true):=by kernel_rfl
theorem pback_run (F:MF) (m:Mat) (v:Ve):oneV ((run (cMaP F) 3000).call 18 [.agg m.cells,.agg v.cells] ⟨[],0,1⟩)=some (.p (veP v),(outVe (pTuV F (flip m) v) (pTuO F (flip m) v)).av true):=by kernel_rfl
theorem pcheck_run (F:MF) (m:Mat):oneV ((run (cMaP F) 3000).call 20 [.agg m.cells] ⟨[],0,1⟩)=some (.tt,(Tm.n .i64 (ckM F m)).av true):=by kernel_rfl
theorem pturn_ok:PureOk Try.prog 17 (sMV (tuV mf0) (tuO mf0)):=by
 refine num_ok (fun xs hk _=>?_) ⟨_,Try.func17,rfl⟩
 obtain ⟨a,_,rfl,h1⟩:=k6 hk; obtain ⟨b,_,rfl,h2⟩:=k6 h1; obtain ⟨c,_,rfl,h3⟩:=k6 h2; obtain ⟨v,_,rfl,h4⟩:=k6 h3; obtain rfl:=k0 h4
 have r:=pturn_run mf0 ⟨a,b,c⟩ v
 rw [(tu_eq _ _ _).1,(tu_eq _ _ _).2] at r
 exact ⟨cMaP mf0,3000,_,cMaP_ok,rfl,fun _=>rfl,rfl,r,trivial⟩
theorem pback_ok:PureOk Try.prog 18 (sMV (fun m=>tuV mf0 (flip m)) (fun m=>tuO mf0 (flip m))):=by
 refine num_ok (fun xs hk _=>?_) ⟨_,Try.func18,rfl⟩
 obtain ⟨a,_,rfl,h1⟩:=k6 hk; obtain ⟨b,_,rfl,h2⟩:=k6 h1; obtain ⟨c,_,rfl,h3⟩:=k6 h2; obtain ⟨v,_,rfl,h4⟩:=k6 h3; obtain rfl:=k0 h4
 have r:=pback_run mf0 ⟨a,b,c⟩ v
 rw [(tu_eq _ _ _).1,(tu_eq _ _ _).2] at r
 exact ⟨cMaP mf0,3000,_,cMaP_ok,rfl,fun _=>rfl,rfl,r,veP_t v⟩
theorem pcheck_ok:PureOk Try.prog 20 (sMC (ckM mf0)):=by
 refine num_ok (fun xs hk _=>?_) ⟨_,Try.func20,rfl⟩
 obtain ⟨a,_,rfl,h1⟩:=k6 hk; obtain ⟨b,_,rfl,h2⟩:=k6 h1; obtain ⟨c,_,rfl,h3⟩:=k6 h2; obtain rfl:=k0 h3
 exact ⟨cMaP mf0,3000,_,cMaP_ok,rfl,fun _=>rfl,rfl,pcheck_run mf0 ⟨a,b,c⟩,trivial⟩
end
end Go.Proofs.Ytmnhhlnbfkfkaaa.K
namespace Go.Vc
open Go Go.Eng Go.Ar
theorem mn_eq (a b:Int):mn a b=if b<a then b else a:=by
 unfold mn; by_cases h:b<a <;> simp [h]
theorem mx_eq (a b:Int):mx a b=if a<b then b else a:=by
 unfold mx; by_cases h:a<b <;> simp [h]
theorem mn_mid (p q r s:Int):mn (mn (mn p q) r) s=mn (mn (mn p r) q) s:=by
 simp only [mn_eq]
 repeat' split
 all_goals omega
theorem mx_mid (p q r s:Int):mx (mx (mx p q) r) s=mx (mx (mx p r) q) s:=by
 simp only [mx_eq]
 repeat' split
 all_goals omega
theorem mulS_comm (a b c d:Int):mulS a b c d=mulS c d a b:=by
 unfold mulS both hull4 mF
 rw [Int.mul_comm c a,Int.mul_comm c b,Int.mul_comm d a,Int.mul_comm d b,mn_mid (Ar.rd (a*c) 4294967296 false),mx_mid (Ar.rd (a*c) 4294967296 true),Bool.and_comm]
theorem two3_comm (v w:Ve):two3 vf0 v w vf0.mu=two3 vf0 w v vf0.mu:=by
 have e:∀ a b c d,vf0.mu a b c d=vf0.mu c d a b:=mulS_comm
 have hb:bBad vf0 v w=bBad vf0 w v:=by
  unfold bBad
  cases wOk vf0 v <;> cases wOk vf0 w <;> rfl
 unfold two3 z3
 rw [bCk_eq vf0_law,bCk_eq vf0_law,hb,e v.a,e v.c,e v.e]
theorem dot_comm (v w:Ve):dotF vf0 v w=dotF vf0 w v:=by
 have e:∀ a b c d,vf0.mu a b c d=vf0.mu c d a b:=mulS_comm
 have hA:dA vf0 v w=dA vf0 w v:=by
  unfold dA
  rw [e v.a,e v.c]
 have hB:dB vf0 v w=dB vf0 w v:=by
  unfold dB
  rw [hA,e v.e]
 have hE:dE vf0 v w=dE vf0 w v:=by
  unfold dE
  rw [two3_comm,hA,hB]
 unfold dotF
 rw [hE,hB]
end Go.Vc
namespace Go.Proofs.Ytmnhhlnbfkfkaaa.K
open Go Go.Eng Go.Ar Go.Vc
noncomputable section
def tblTmP (T:TF):List (FuncId×PSpec):=[(17,sMV T.tv T.te),(20,sMC T.cm)]
theorem tblTmP_ok:TblOk Try.prog (tblTmP (tfOf mf0)):=by
 intro x hx
 simp only [tblTmP,List.mem_cons,List.not_mem_nil,or_false] at hx
 rcases hx with rfl|rfl
 .exact pturn_ok
 .exact pcheck_ok
def cTmP (T:TF):Ctx:=mkC Try.prog (tblTmP T) ext
theorem cTmP_ok:CtxOk (cTmP (tfOf mf0)):=mkC_ok prog_ok tblTmP_ok ext_ok
def outMa (m:Mat) (e:Int):Tm:=.u [.a [.n .i64 m.x.a,.n .i64 m.x.b,.n .i64 m.x.c,.n .i64 m.x.d,.n .i64 m.x.e,.n .i64 m.x.f,.n .i64 m.y.a,.n .i64 m.y.b,.n .i64 m.y.c,.n .i64 m.y.d,.n .i64 m.y.e,.n .i64 m.y.f,.n .i64 m.z.a,.n .i64 m.z.b,.n .i64 m.z.c,.n .i64 m.z.d,.n .i64 m.z.e,.n .i64 m.z.f],.n .i64 e]
def gVe:List Nu->Ve×List Nu
 | .n a :: .n b :: .n c :: .n d :: .n e :: .n f :: l=>(⟨a,b,c,d,e,f⟩,l)
 | l=>(⟨0,0,0,0,0,0⟩,l)
def gMa (l:List Nu):Mat×List Nu:=(⟨(gVe l).1,(gVe (gVe l).2).1,(gVe (gVe (gVe l).2).2).1⟩,(gVe (gVe (gVe l).2).2).2)
def sMM (V:Mat->Mat->Mat) (E:Mat->Mat->Int):PSpec:=numSpec [shM,shM] none fun xs=>outMa (V (gMa xs).1 (gMa (gMa xs).2).1) (E (gMa xs).1 (gMa (gMa xs).2).1)
theorem pmul_run (T:TF) (a b:Mat):oneV ((run (cTmP T) 3000).call 16 [.agg a.cells,.agg b.cells] ⟨[],0,1⟩)=some (.p (pmN T a b),(outMa (pMulV T a b) (pMulO T a b)).av true):=by kernel_rfl
theorem pmul_ok:PureOk Try.prog 16 (sMM (mulV mf0) (mulO mf0)):=by
 refine num_ok (fun xs hk _=>?_) ⟨_,Try.func16,rfl⟩
 obtain ⟨a,_,rfl,h1⟩:=k6 hk; obtain ⟨b,_,rfl,h2⟩:=k6 h1; obtain ⟨c,_,rfl,h3⟩:=k6 h2; obtain ⟨a1,_,rfl,h4⟩:=k6 h3; obtain ⟨b1,_,rfl,h5⟩:=k6 h4; obtain ⟨c1,_,rfl,h6⟩:=k6 h5; obtain rfl:=k0 h6
 have r:=pmul_run (tfOf mf0) ⟨a,b,c⟩ ⟨a1,b1,c1⟩
 have e:=mul_eq (F:=mf0) dot_comm ⟨a,b,c⟩ ⟨a1,b1,c1⟩
 rw [e.1,e.2] at r
 exact ⟨cTmP (tfOf mf0),3000,_,cTmP_ok,rfl,fun _=>rfl,rfl,r,pmN_t _ _ _⟩
end
end Go.Proofs.Ytmnhhlnbfkfkaaa.K
namespace Go.Dg
def val:List Int->Int
 | []=>0
 | x :: l=>x+(1000000000:Int)*val l
def Dig (xs:List Int):Prop:=∀ x∈xs,0<=x/\x<(1000000000:Int)
def pw:Nat->Int
 | 0=>1
 | n+1=>(1000000000:Int)*pw n
theorem pw_pos:∀ n,0<pw n
 | 0=>by decide
 | n+1=>Int.mul_pos (by decide) (pw_pos n)
theorem pw_add:∀ m n,pw (m+n)=pw m*pw n
 | 0,n=>by simp [pw]
 | m+1,n=>by rw [Nat.succ_add]; simp only [pw]; rw [pw_add m n,Int.mul_assoc]
theorem dig_nil:Dig []:=fun _ h=>by cases h
theorem dig_cons {x:Int} {l:List Int}:Dig (x :: l) ↔ (0<=x/\x<(1000000000:Int))/\Dig l:=by
 constructor
 .intro h; exact ⟨h x (by simp),fun y hy=>h y (by simp [hy])⟩
 .rintro ⟨h1,h2⟩ y hy
  rcases List.mem_cons.1 hy with rfl|hy
  .exact h1
  .exact h2 y hy
theorem dig_app {l m:List Int}:Dig (l++m) ↔ Dig l/\Dig m:=by
 constructor
 .intro h; exact ⟨fun y hy=>h y (by simp [hy]),fun y hy=>h y (by simp [hy])⟩
 .rintro ⟨h1,h2⟩ y hy
  rcases List.mem_append.1 hy with hy|hy
  .exact h1 y hy
  .exact h2 y hy
theorem Dig.take {l:List Int} (h:Dig l) (n:Nat):Dig (l.take n):=fun x hx=>h x (List.mem_of_mem_take hx)
theorem Dig.drop {l:List Int} (h:Dig l) (n:Nat):Dig (l.drop n):=fun x hx=>h x (List.mem_of_mem_drop hx)
theorem Dig.get {l:List Int} (h:Dig l) (i:Nat):0<=l.getD i 0/\l.getD i 0<(1000000000:Int):=by
 rw [List.getD_eq_getElem?_getD]
 cases e:l[i]? with
 | none=>exact ⟨Int.le_refl _,by decide⟩
 | some x=>exact h x (List.mem_of_getElem? e)
theorem Dig.set {l:List Int} (h:Dig l) (i:Nat) {x:Int} (hx:0<=x/\x<(1000000000:Int)):Dig (l.set i x):=fun y hy=>by
 rcases List.mem_or_eq_of_mem_set hy with h1|rfl
 .exact h y h1
 .exact hx
theorem val_app:∀ (l m:List Int),val (l++m)=val l+pw l.length*val m
 | [],m=>by simp [val,pw]
 | x :: l,m=>by
  simp only [List.cons_append,val,List.length_cons,pw]
  rw [val_app l m,Int.mul_add,Int.mul_assoc]; omega
theorem val_nonneg:∀ {l:List Int},Dig l->0<=val l
 | [],_=>Int.le_refl _
 | x :: l,h=>by
  have h:=dig_cons.1 h
  have:=val_nonneg h.2
  simp only [val]
  omega
theorem val_lt:∀ {l:List Int},Dig l->val l<pw l.length
 | [],_=>by decide
 | x :: l,h=>by
  have h:=dig_cons.1 h
  have:=val_lt h.2
  simp only [val,List.length_cons,pw]
  have h3:(1000000000:Int)*val l+(1000000000:Int)<=(1000000000:Int)*pw l.length:=by
   have:(1000000000:Int)*(val l+1)<=(1000000000:Int)*pw l.length:=Int.mul_le_mul_of_nonneg_left (by omega) (by decide)
   rw [Int.mul_add] at this
   simpa using this
  have:=h.1.2
  omega
theorem val_set:∀ (l:List Int) (i:Nat) (x:Int),i<l.length->val (l.set i x)=val l+pw i*(x - l.getD i 0)
 | [],i,x,h=>by simp at h
 | y :: l,0,x,h=>by simp [val,pw]; omega
 | y :: l,i+1,x,h=>by
  simp only [List.set_cons_succ,val,pw,List.getD_cons_succ]
  rw [val_set l i x (by simpa using h),Int.mul_add,Int.mul_assoc]
  omega
theorem val_rep0:∀ n,val (List.replicate n 0)=0
 | 0=>rfl
 | n+1=>by simp [List.replicate_succ,val,val_rep0 n]
theorem dig_rep0 (n:Nat):Dig (List.replicate n 0):=fun x hx=>by
 obtain rfl:=List.eq_of_mem_replicate hx
 decide
theorem val_take_succ {l:List Int} {n:Nat} (h:n<l.length):val (l.take (n+1))=val (l.take n)+pw n*l.getD n 0:=by
 rw [List.take_add_one,List.getElem?_eq_getElem h,val_app,List.length_take,Nat.min_eq_left (by omega),List.getD_eq_getElem?_getD,List.getElem?_eq_getElem h]
 simp [val]
def digs (n:Nat):List Int:=
 if h:n=0 then [] else ((n % 1000000000:Nat):Int) :: digs (n / 1000000000)
termination_by n
decreasing_by exact Nat.div_lt_self (Nat.pos_of_ne_zero h) (by decide)
theorem digs_zero:digs 0=[]:=by rw [digs]; simp
theorem digs_pos {n:Nat} (h:n≠0):digs n=((n % 1000000000:Nat):Int) :: digs (n / 1000000000):=by rw [digs]; simp [h]
theorem val_digs (n:Nat):val (digs n)=n:=by
 induction n using Nat.strongRecOn with
 | _ n ih=>
  by_cases h:n=0
  .subst h; rw [digs_zero]; rfl
  .rw [digs_pos h,val,ih _ (Nat.div_lt_self (Nat.pos_of_ne_zero h) (by decide))]
   omega
theorem dig_digs (n:Nat):Dig (digs n):=by
 induction n using Nat.strongRecOn with
 | _ n ih=>
  by_cases h:n=0
  .subst h; rw [digs_zero]; exact dig_nil
  .rw [digs_pos h]
   exact dig_cons.2 ⟨by omega,ih _ (Nat.div_lt_self (Nat.pos_of_ne_zero h) (by decide))⟩
def Top (l:List Int):Prop:=l=[]\/l.getD (l.length - 1) 0≠0
theorem top_cons {x y:Int} {l:List Int}:Top (x :: y :: l) ↔ Top (y :: l):=by
 constructor
 .intro h
  rcases h with h|h
  .cases h
  .exact .inr (by simpa using h)
 .intro h
  rcases h with h|h
  .cases h
  .exact .inr (by simpa using h)
theorem val_ne {l:List Int}:Dig l->Top l->l≠[]->val l≠0:=by
 induction l with
 | nil=>intro _ _ h; exact absurd rfl h
 | cons x l ih=>
  intro hd ht _
  have h:=dig_cons.1 hd
  have h2:=val_nonneg h.2
  simp only [val]
  cases l with
  | nil=>
   rcases ht with ht|ht
   .cases ht
   .have:x≠0:=by simpa using ht
    simp only [val]; omega
  | cons y l=>
   have:=ih h.2 (top_cons.1 ht) (by simp)
   omega
theorem digs_val:∀ {l:List Int},Dig l->Top l->digs (val l).toNat=l
 | [],_,_=>digs_zero
 | x :: l,hd,ht=>by
  have h:=dig_cons.1 hd
  have h2:=val_nonneg h.2
  have h0:val (x :: l)≠0:=val_ne hd ht (by simp)
  have h1:0<=val (x :: l):=val_nonneg hd
  have ht':Top l:=by
   cases l with
   | nil=>exact .inl rfl
   | cons y l=>exact top_cons.1 ht
  rw [digs_pos (by omega)]
  simp only [val] at h1 ⊢
  have e1:(x+(1000000000:Int)*val l).toNat % 1000000000=x.toNat:=by omega
  have e2:(x+(1000000000:Int)*val l).toNat / 1000000000=(val l).toNat:=by omega
  rw [e1,e2,digs_val h.2 ht',Int.toNat_of_nonneg h.1.1]
theorem top_digs (n:Nat):Top (digs n):=by
 induction n using Nat.strongRecOn with
 | _ n ih=>
  by_cases h:n=0
  .subst h; rw [digs_zero]; exact .inl rfl
  .by_cases h2:n / 1000000000=0
   .rw [digs_pos h,h2,digs_zero]
    right
    simp
    omega
   .have:=ih (n / 1000000000) (Nat.div_lt_self (Nat.pos_of_ne_zero h) (by decide))
    rw [digs_pos h]
    rw [digs_pos h2] at this ⊢
    exact top_cons.2 this
theorem digs_len_pos {n:Nat} (h:n≠0):0<(digs n).length:=by rw [digs_pos h]; simp
def tl (l:List Int):Nat->Nat
 | 0=>0
 | n+1=>if l.getD n 0=0 then tl l n else n+1
theorem tl_le (l:List Int):∀ n,tl l n<=n
 | 0=>Nat.le_refl _
 | n+1=>by
  simp only [tl]
  split
  .exact Nat.le_succ_of_le (tl_le l n)
  .exact Nat.le_refl _
theorem val_tl {l:List Int}:∀ {n},n<=l.length->val (l.take (tl l n))=val (l.take n)
 | 0,_=>rfl
 | n+1,h=>by
  simp only [tl]
  split
  .rename_i h0
   rw [val_tl (by omega),val_take_succ (by omega),h0]
   simp
  .rfl
theorem top_tl {l:List Int}:∀ {n},n<=l.length->Top (l.take (tl l n))
 | 0,_=>.inl rfl
 | n+1,h=>by
  simp only [tl]
  split
  .exact top_tl (by omega)
  .rename_i h0
   right
   rw [List.length_take,Nat.min_eq_left (by omega)]
   simpa [List.getD_eq_getElem?_getD,List.getElem?_take] using h0
theorem take_tl {l:List Int} (h:Dig l):l.take (tl l l.length)=digs (val l).toNat:=by
 have h1:=digs_val (h.take (tl l l.length)) (top_tl (Nat.le_refl _))
 rw [val_tl (Nat.le_refl _),List.take_length] at h1
 exact h1.symm
end Go.Dg
namespace Go.Dg
def lessB (a b:List Int):Nat->Bool
 | 0=>false
 | n+1=>if a.getD n 0=b.getD n 0 then lessB a b n else decide (a.getD n 0<b.getD n 0)
theorem lessB_iff {a b:List Int} (ha:Dig a) (hb:Dig b):∀ {n:Nat},n<=a.length->n<=b.length->(lessB a b n=true ↔ val (a.take n)<val (b.take n))
 | 0,_,_=>by simp [lessB,val]
 | n+1,h1,h2=>by
  have ih:=lessB_iff ha hb (n:=n) (by omega) (by omega)
  simp only [lessB]
  rw [val_take_succ (by omega),val_take_succ (by omega)]
  split
  .rename_i he
   rw [ih,he]
   omega
  .rename_i he
   have x1:=val_lt (ha.take n)
   have x2:=val_lt (hb.take n)
   have y1:=val_nonneg (ha.take n)
   have y2:=val_nonneg (hb.take n)
   rw [List.length_take,Nat.min_eq_left (by omega)] at x1 x2
   have hp:=pw_pos n
   simp only [decide_eq_true_eq]
   constructor
   .intro hlt
    have:pw n*(a.getD n 0+1)<=pw n*b.getD n 0:=Int.mul_le_mul_of_nonneg_left (by omega) (by omega)
    rw [Int.mul_add] at this
    omega
   .intro hlt
    rcases (show a.getD n 0<b.getD n 0\/b.getD n 0<=a.getD n 0 by omega) with h|h
    .exact h
    .have:pw n*(b.getD n 0+1)<=pw n*a.getD n 0:=Int.mul_le_mul_of_nonneg_left (by omega) (by omega)
     rw [Int.mul_add] at this
     omega
theorem pw_mono {m n:Nat} (h:m<=n):pw m<=pw n:=by
 obtain ⟨k,rfl⟩:=Nat.le.dest h
 rw [pw_add]
 have h1:=pw_pos m
 have h2:=pw_pos k
 calc pw m=pw m*1:=(Int.mul_one _).symm
  _<=pw m*pw k:=Int.mul_le_mul_of_nonneg_left h2 (Int.le_of_lt h1)
theorem val_ge {l:List Int} (h:Dig l) (ht:Top l) (hne:l≠[]):pw (l.length - 1)<=val l:=by
 have hpos:0<l.length:=List.length_pos_iff.2 hne
 have h1:val l=val (l.take (l.length - 1))+pw (l.length - 1)*l.getD (l.length - 1) 0:=by
  have:=val_take_succ (l:=l) (n:=l.length - 1) (by omega)
  rw [show l.length - 1+1=l.length by omega,List.take_length] at this
  exact this
 have h2:=val_nonneg (h.take (l.length - 1))
 have h3:1<=l.getD (l.length - 1) 0:=by
  rcases ht with ht|ht
  .exact absurd ht hne
  .have:=h.get (l.length - 1); omega
 have h4:pw (l.length - 1)*1<=pw (l.length - 1)*l.getD (l.length - 1) 0:=Int.mul_le_mul_of_nonneg_left h3 (Int.le_of_lt (pw_pos _))
 omega
theorem val_len_lt {a b:List Int} (ha:Dig a) (hb:Dig b) (tb:Top b) (h:a.length<b.length):val a<val b:=by
 have h1:=val_lt ha
 have h2:=val_ge hb tb (by rintro rfl; simp at h)
 have h3:=pw_mono (show a.length<=b.length - 1 by omega)
 omega
def lessL (a b:List Int):Bool:=if a.length=b.length then lessB a b a.length else decide (a.length<b.length)
theorem lessL_iff {a b:List Int} (ha:Dig a) (hb:Dig b) (ta:Top a) (tb:Top b):lessL a b=true ↔ val a<val b:=by
 unfold lessL
 split
 .rename_i h
  rw [lessB_iff ha hb (Nat.le_refl _) (by omega),List.take_length,h,List.take_length]
 .rename_i h
  simp only [decide_eq_true_eq]
  constructor
  .exact fun hl=>val_len_lt ha hb tb hl
  .intro hv
   rcases Nat.lt_or_ge a.length b.length with h1|h1
   .exact h1
   .have:=val_len_lt hb ha ta (by omega)
    omega
end Go.Dg
namespace Go.Dg
end Go.Dg
namespace Go.Dg
def fr (x:Int):Int:=if x.tmod (1000000000:Int)<0 then x.tmod (1000000000:Int)+(1000000000:Int) else x.tmod (1000000000:Int)
end Go.Dg
namespace Go.Dg
open Go Go.Eng
theorem bt {p:Prop} [Decidable p] {b:Bool}:(bif decide p then b else false)=true ↔ p/\b=true:=by
 by_cases h:p <;> simp [h]
theorem nbt {p:Prop} [Decidable p] {b:Bool}:(!bif decide p then b else false)=true ↔ (p->b=false):=by
 by_cases h:p <;> simp [h]
theorem eb {x y:Int}:(x==y)=true ↔ x=y:=⟨eq_of_beq,fun h=>by rw [h]; exact beq_self_eq_true y⟩
theorem neb {x y:Int}:(x==y)=false ↔ x≠y:=by
 constructor
 .intro h e; rw [eb.2 e] at h; cases h
 .intro h
  cases e:(x==y) with
  | false=>rfl
  | true=>exact absurd (eb.1 e) h
theorem dt {p:Prop} [Decidable p]:decide p=true ↔ p:=decide_eq_true_iff
theorem ndt {p:Prop} [Decidable p]:(!decide p)=true ↔ ¬p:=by by_cases h:p <;> simp [h]
def Sm (d:List Int):Prop:=d.length<=500000
theorem Sm.le {d:List Int} (h:Sm d):d.length<=500000:=h
theorem iw {n:Int} (h0:-9223372036854775808<=n) (h1:n<9223372036854775808):IntKind.i64.wrap n=n:=Go.Ar.i64w h0 h1
end Go.Dg
namespace Go.Proofs.Ytmnhhlnbfkfkaaa.K
open Go Go.Eng
noncomputable section
def cL:Ctx:=mkN Try.prog (fun _=>none) hG0 [] [] noExt
def tlI (d:List Int) (y:Int):Int:=(Go.Dg.tl d y.toNat:Nat)
end
end Go.Proofs.Ytmnhhlnbfkfkaaa.K
namespace Go.Proofs.Ytmnhhlnbfkfkaaa.K
open Go Go.Eng Go.Dg
noncomputable section
end
end Go.Proofs.Ytmnhhlnbfkfkaaa.K
namespace Go.Proofs.Ytmnhhlnbfkfkaaa.K
open Go Go.Eng Go.Dg
noncomputable section
theorem cL_ok:CtxOk cL:=mkN_ok prog_ok (noExt_ok _) (fun x h=>by cases h) (fun x h=>by cases h)
theorem tlI_step {d:List Int} {i:Int} (h:0<i):tlI d i=if d.getD (i - 1).toNat 0=0 then tlI d (i - 1) else i:=by
 unfold tlI
 obtain ⟨n,rfl⟩:∃ n:Nat,i=(n+1:Nat):=⟨(i - 1).toNat,by omega⟩
 have e1:((n+1:Nat):Int).toNat=n+1:=by omega
 have e2:(((n+1:Nat):Int) - 1).toNat=n:=by omega
 rw [e1,e2]
 simp only [tl]
 split <;> rfl
end
end Go.Proofs.Ytmnhhlnbfkfkaaa.K
namespace Go.Proofs.Ytmnhhlnbfkfkaaa.K
open Go Go.Eng Go.Dg
noncomputable section
end
end Go.Proofs.Ytmnhhlnbfkfkaaa.K
namespace Go.Proofs.Ytmnhhlnbfkfkaaa.K
open Go Go.Eng Go.Dg
noncomputable section
end
end Go.Proofs.Ytmnhhlnbfkfkaaa.K
namespace Go.Proofs.Ytmnhhlnbfkfkaaa.K
open Go Go.Eng Go.Dg
noncomputable section
theorem tlI_le (d:List Int):0<=tlI d d.length/\tlI d d.length<=d.length:=by
 have:=tl_le d d.length
 unfold tlI
 rw [show ((d.length:Int)).toNat=d.length by omega]
 omega
end
end Go.Proofs.Ytmnhhlnbfkfkaaa.K
namespace Go.Proofs.Ytmnhhlnbfkfkaaa.K
open Go Go.Eng Go.Dg
noncomputable section
end
end Go.Proofs.Ytmnhhlnbfkfkaaa.K
namespace Go.Proofs.Ytmnhhlnbfkfkaaa.K
open Go Go.Eng Go.Dg
noncomputable section
theorem take_tlI {d:List Int} (h:Dig d):d.take (tlI d d.length).toNat=digs (val d).toNat:=by
 rw [<- take_tl h]
 have e:(tlI d d.length).toNat=tl d d.length:=by
  unfold tlI
  rw [show ((d.length:Int)).toNat=d.length by omega]
  omega
 rw [e]
end
end Go.Proofs.Ytmnhhlnbfkfkaaa.K
namespace Go.Dg
def fndB (a b:List Int):Nat->Bool
 | 0=>false
 | n+1=>if a.getD n 0=b.getD n 0 then fndB a b n else true
def fndI (a b:List Int) (i:Int):Bool:=fndB a b (i+1).toNat
theorem fnd_step {a b:List Int} {i:Int} (h:0<=i):fndI a b i=if a.getD i.toNat 0=b.getD i.toNat 0 then fndI a b (i - 1) else true:=by
 unfold fndI
 rw [show (i+1).toNat=i.toNat+1 by omega,show (i - 1+1).toNat=i.toNat by omega,fndB]
theorem bne_t {x y:Int}:(x != y)=true ↔ x≠y:=by simp
theorem bne_f {x y:Int}:(x != y)=false ↔ x=y:=by simp
theorem nbne {x y:Int}:(!x != y)=true ↔ x=y:=by
 have:(!x != y)=(x==y):=by simp [bne]
 rw [this]; exact eb
theorem and_t {p:Prop} [Decidable p] {b:Bool}:(decide p&&b)=true ↔ p/\b=true:=by
 by_cases h:p <;> simp [h]
end Go.Dg
namespace Go.Dg
open Go.Eng
def okL (neg:Bool) (d:List Int):Prop:=Dig d/\Top d/\(neg=true->d≠[])/\Sm d
def zv (neg:Bool) (d:List Int):Int:=bif neg then -val d else val d
theorem len_digs {n k:Nat} (h:(n:Int)<pw k):(digs n).length<=k:=by
 rcases Nat.lt_or_ge k (digs n).length with h1|h1
 .have:=val_ge (dig_digs n) (top_digs n) (by intro e; rw [e] at h1; simp at h1)
  rw [val_digs] at this
  have:=pw_mono (show k<=(digs n).length - 1 by omega)
  omega
 .exact h1
end Go.Dg
namespace Go.Dg
open Go Go.Eng
end Go.Dg
namespace Go.Dg
open Go Go.Eng
end Go.Dg
namespace Go.Dg
end Go.Dg
namespace Go.Dg
open Go Go.Eng
def padL:Nat->Int->List Int
 | 0,_=>[]
 | n+1,v=>v % 1000000000 :: padL n (v / 1000000000)
theorem padL_len:∀ (n:Nat) (v:Int),(padL n v).length=n
 | 0,_=>rfl
 | n+1,v=>by simp [padL,padL_len n]
theorem padL_dig:∀ (n:Nat) (v:Int),Dig (padL n v)
 | 0,_=>dig_nil
 | n+1,v=>dig_cons.2 ⟨by omega,padL_dig n _⟩
theorem padL_val:∀ {n:Nat} {v:Int},0<=v->v<pw n->val (padL n v)=v
 | 0,v,h0,h1=>by
  have:pw 0=1:=rfl
  simp only [padL,val]; omega
 | n+1,v,h0,h1=>by
  simp only [padL,val]
  have h2:pw (n+1)=(1000000000:Int)*pw n:=rfl
  rw [padL_val (by omega) (by omega)]
  omega
theorem padL_eq:∀ {d:List Int},Dig d->d=padL d.length (val d)
 | [],_=>rfl
 | x :: l,h=>by
  have h:=dig_cons.1 h
  simp only [List.length_cons,padL,val]
  rw [show (x+(1000000000:Int)*val l) % (1000000000:Int)=x by omega,show (x+(1000000000:Int)*val l) / (1000000000:Int)=val l by omega,<- padL_eq h.2]
theorem padL_rep:∀ n,List.replicate n (0:Int)=padL n 0
 | 0=>rfl
 | n+1=>by simp [List.replicate_succ,padL,<- padL_rep n]
theorem padL_uni {d:List Int} (h:Dig d) {n:Nat} {v:Int} (hl:d.length=n) (hv:val d=v):d=padL n v:=by
 subst hl hv; exact padL_eq h
theorem ndf {p:Prop} [Decidable p] (h:¬p):decide p=false:=decide_eq_false h
end Go.Dg
namespace Go.Dg
open Go Go.Eng
end Go.Dg
namespace Go.Dg
open Go Go.Eng
def dA (a:List Int) (i:Int):Int:=val (a.drop (i+1).toNat)
theorem padL_get:∀ (n:Nat) (v:Int) (i:Nat),i<n->(padL n v).getD i 0=v / pw i % (1000000000:Int)
 | 0,_,_,h=>by omega
 | n+1,v,0,_=>by simp [padL,pw]
 | n+1,v,i+1,h=>by
  simp only [padL,List.getD_cons_succ]
  rw [padL_get n _ i (by omega),Int.ediv_ediv_of_nonneg (by decide)]
  rfl
def paV (a b:List Int) (i:Int):Int:=a.getD i.toNat 0+(1000000000:Int)*(dA a i % val b)
end Go.Dg
namespace Go.Dg
open Go Go.Eng
structure OkQ (p q:Bool) (n d:List Int):Prop where
 hn:okL p n
 hd:okL q d
 hq:q=false
 ne:d≠[]
 ln:n.length<=600
 ld:d.length<=600
 cop:Int.gcd (zv p n) (zv q d)=1
theorem mul_len {x y:Int} {k l:Nat} (hx:(x.natAbs:Int)<pw k) (hy:(y.natAbs:Int)<pw l):((x*y).natAbs:Int)<pw (k+l):=by
 rw [Int.natAbs_mul,pw_add,Int.natCast_mul]
 have h0:(0:Int)<=x.natAbs:=by omega
 have h1:(0:Int)<=y.natAbs:=by omega
 have h2:=pw_pos k
 calc (x.natAbs:Int)*y.natAbs<=x.natAbs*pw l:=Int.mul_le_mul_of_nonneg_left (by omega) h0
  _<pw k*pw l:=Int.mul_lt_mul_of_pos_right hx (pw_pos l)
theorem len_mul {x y:Int} {k l:Nat} (hx:(x.natAbs:Int)<pw k) (hy:(y.natAbs:Int)<pw l):(digs (x*y).natAbs).length<=k+l:=len_digs (mul_len hx hy)
end Go.Dg
namespace Go.Dg
theorem pw_succ (n:Nat):pw (n+1)=1000000000*pw n:=rfl
end Go.Dg
namespace Go.Dg
end Go.Dg
namespace Go.Dg
open Go Go.Eng
theorem drop_val {a:List Int} {i:Nat} (h:i<a.length):val (a.drop i)=a.getD i 0+1000000000*val (a.drop (i+1)):=by
 rw [List.drop_eq_getElem_cons h]
 show a[i]+1000000000*val (a.drop (i+1))=_
 congr 1
 simp [List.getD_eq_getElem?_getD,List.getElem?_eq_getElem h]
theorem getD_set {l:List Int} {i j:Nat} {x:Int} (h:i≠j):(l.set i x).getD j 0=l.getD j 0:=by
 simp [List.getD_eq_getElem?_getD,List.getElem?_set_ne h]
theorem getD_set_self {l:List Int} {i:Nat} {x:Int} (h:i<l.length):(l.set i x).getD i 0=x:=by
 simp [List.getD_eq_getElem?_getD,h]
structure PaI (a:List Int) (n i r:Int) (d:List Int):Prop where
 l:d.length=a.length
 dg:Dig d
 i0:-1<=i
 i1:i<a.length
 z:∀ j:Nat,(j:Int)<=i->d.getD j 0=0
 v:val d*n+pw (i+1).toNat*r=pw (i+1).toNat*val (a.drop (i+1).toNat)
 r0:0<=r
 r1:r<n
theorem PaI.start {a:List Int} {n:Int} (hn:0<n):PaI a n (a.length - 1) 0 (List.replicate a.length 0):=by
 refine ⟨by simp,dig_rep0 _,by omega,by omega,fun j hj=>?_,?_,Int.le_refl _,hn⟩
 .simp [List.getD_eq_getElem?_getD,List.getElem?_replicate]
  split <;> rfl
 .rw [val_rep0,show ((a.length:Int) - 1+1).toNat=a.length by omega,List.drop_length]
  simp [val]
theorem PaI.step {a:List Int} {n i r:Int} {d:List Int} (ha:Dig a) (h:PaI a n i r d) (hi:0<=i):PaI a n (i - 1) ((r*1000000000+a.getD i.toNat 0).tmod n) (d.set i.toNat ((r*1000000000+a.getD i.toNat 0).tdiv n)):=by
 obtain ⟨l,dg,i0,i1,z,v,r0,r1⟩:=h
 have ga:=ha.get i.toNat
 have m0:0<=r*1000000000+a.getD i.toNat 0:=by omega
 have hn:0<n:=by omega
 have eq1:(r*1000000000+a.getD i.toNat 0).tmod n=(r*1000000000+a.getD i.toNat 0) % n:=Int.tmod_eq_emod_of_nonneg m0
 have eq2:(r*1000000000+a.getD i.toNat 0).tdiv n=(r*1000000000+a.getD i.toNat 0) / n:=Int.tdiv_eq_ediv_of_nonneg m0
 rw [eq1,eq2]
 have q0:0<=(r*1000000000+a.getD i.toNat 0) / n:=Int.ediv_nonneg m0 (by omega)
 have q1:(r*1000000000+a.getD i.toNat 0) / n<1000000000:=by
  apply Int.ediv_lt_of_lt_mul hn
  have:(r+1)*1000000000<=n*1000000000:=Int.mul_le_mul_of_nonneg_right (by omega) (by decide)
  omega
 have hil:i.toNat<d.length:=by omega
 have e0:(i - 1+1).toNat=i.toNat:=by omega
 have e1:(i+1).toNat=i.toNat+1:=by omega
 have ed:=Int.mul_ediv_add_emod (r*1000000000+a.getD i.toNat 0) n
 refine ⟨by simp [l],dg.set _ ⟨q0,q1⟩,by omega,by omega,fun j hj=>?_,?_,Int.emod_nonneg _ (by omega),Int.emod_lt_of_pos _ hn⟩
 .rw [getD_set (by omega)]
  exact z j (by omega)
 .rw [e0,val_set _ _ _ hil,z i.toNat (by omega),drop_val (by omega)]
  rw [e1,pw_succ] at v
  generalize (r*1000000000+a.getD i.toNat 0) / n=q at *
  generalize (r*1000000000+a.getD i.toNat 0) % n=r' at *
  generalize val (a.drop (i.toNat+1))=V at *
  generalize a.getD i.toNat 0=x at *
  generalize pw i.toNat=p at *
  generalize val d=D at *
  grind
theorem PaI.fin {a:List Int} {n i r:Int} {d:List Int} (h:PaI a n i r d) (hi:¬ 0<=i):i=-1/\r=val a % n/\d=padL a.length (val a / n):=by
 obtain ⟨l,dg,i0,i1,z,v,r0,r1⟩:=h
 have e:i=-1:=by omega
 subst e
 have v:val d*n+1*r=1*val (a.drop 0):=v
 rw [List.drop_zero] at v
 have h1:val a / n=val d:=by
  rw [show val a=r+val d*n by omega,Int.add_mul_ediv_right _ _ (by omega),Int.ediv_eq_zero_of_lt r0 r1]
  omega
 have h2:val a % n=r:=by
  rw [show val a=r+val d*n by omega,Int.add_mul_emod_self_right]
  exact Int.emod_eq_of_lt r0 r1
 exact ⟨rfl,h2.symm,padL_uni dg l h1.symm⟩
end Go.Dg
namespace Go.Proofs.Ytmnhhlnbfkfkaaa.K
open Go Go.Eng Go.Dg
noncomputable section
def zA (a:List Int) (n:Int):List AV:=[.lslice 0 a.length,.int true .i64 n]
def zH (a:List Int):Hp:=viewsH true hG0 [(.i64,a)]
def paFr:AFr:=⟨76,none⟩
def paA:Code:=loopOf Try.prog 76 0
noncomputable def paS (a:List Int) (n:Int):St:=stAt cL 300 76 (zA a n) (zH a)
def paP (i r:Int) (d:List Int):Patch:=⟨(7,.int true .i64 r) :: (8,.int true .i64 i) :: deadT 15 20,[(1,.ints .i64 d)],[]⟩
def paU (a:List Int) (n:Int):SumL (Int×Int×List Int):=
 {
  S:=fun (i,r,d)=>paP i r d
  I:=fun (i,r,d)=>PaI a n i r d
  μ:=fun (i,_,_)=>(i+1).toNat
  F:=fun _=>(.exit 0,paP (-1) (val a % n) (padL a.length (val a / n)))
  next:=fun (i,r,d)=>(i - 1,(r*1000000000+a.getD i.toNat 0).tmod n,d.set i.toNat ((r*1000000000+a.getD i.toNat 0).tdiv n))
  ids:=fun _=>[]
  X:=fun (i,r,d) _=>some (paP i r d,[]) }
end
end Go.Proofs.Ytmnhhlnbfkfkaaa.K
namespace Go.Proofs.Ytmnhhlnbfkfkaaa.K
open Go Go.Eng Go.Dg
noncomputable section
def pa_start_nd (a:List Int) (n:Int):Prop:=((0:Int)=(0:Int)/\IntKind.i64.wrap ((↑a.length:Int) - (1:Int))=(↑a.length:Int) - (1:Int))/\List.replicate (↑a.length:Int).toNat (0:Int)=List.replicate a.length (0:Int)
theorem pa_start (a:List Int) (n:Int):fit (paS a n) (paS a n) (patch (paS a n) ((paU a n).S (a.length - 1,0,List.replicate a.length 0))) ([])=some (.p (pa_start_nd a n)):=by kernel_rfl
def pa_body_nd (a:List Int) (n i r:Int) (d:List Int):Prop:=(decide (i>=(0:Int))=true->(((0:Int)<=i/\i<(↑a.length:Int))/\i.toNat<a.length)/\n≠(0:Int)/\n≠(0:Int)/\((0:Int)<=i/\i<(↑a.length:Int))/\((0:Int)+i).toNat<d.length)/\((!decide (i>=(0:Int)))=true->((r=r/\i=i)/\d=d)/\(paU a n).F (i,r,d)=(Ex.exit (0:Nat),paP i r d))/\(decide (i>=(0:Int))=true->(((IntKind.i64.wrap (IntKind.i64.wrap (r*(1000000000:Int))+a.getD i.toNat (0:Int))).tmod n=(r*(1000000000:Int)+a.getD i.toNat (0:Int)).tmod n/\IntKind.i64.wrap (i - (1:Int))=i - (1:Int))/\d.set ((0:Int)+i).toNat (IntKind.i64.wrap ((IntKind.i64.wrap (IntKind.i64.wrap (r*(1000000000:Int))+a.getD i.toNat (0:Int))).tdiv n))=d.set i.toNat ((r*(1000000000:Int)+a.getD i.toNat (0:Int)).tdiv n))/\(paU a n).I ((paU a n).next (i,r,d))/\(paU a n).μ ((paU a n).next (i,r,d))<(paU a n).μ (i,r,d)/\(paU a n).F ((paU a n).next (i,r,d))=(paU a n).F (i,r,d))
theorem pa_body (a:List Int) (n i r:Int) (d:List Int):chkR (paS a n) ((paU a n).way ((i,r,d))) ((run cL 300).code paFr paA (patch (paS a n) ((paU a n).S (i,r,d))))=some (.p (pa_body_nd a n i r d)):=by kernel_rfl
end
end Go.Proofs.Ytmnhhlnbfkfkaaa.K
namespace Go.Proofs.Ytmnhhlnbfkfkaaa.K
open Go Go.Eng Go.Dg
noncomputable section
theorem pa_loop {a:List Int} {n:Int} (ha:Dig a) (la:Sm a) (h0:1<=n) (h1:n<=1000000000):CodeOk cL paFr (.loop paA) (paS a n) ⟨.tt,[⟨.tt,.exit 0,patch (paS a n) (paP (-1) (val a % n) (padL a.length (val a / n)))⟩]⟩:=by
 have la:=la.le
 refine sumL_one (run_sound cL_ok 300) (paU a n) (y0:=((a.length:Int) - 1,0,List.replicate a.length 0)) (PaI.start (by omega)) ⟨_,pa_start a n,⟨⟨rfl,iw (by omega) (by omega)⟩,by rw [show ((a.length:Int)).toNat=a.length by omega]⟩⟩ (by kernel_rfl) (fun y hy=>?_) rfl
 obtain ⟨i,r,d⟩:=y
 have hI:PaI a n i r d:=hy
 obtain ⟨l,dg,i0,i1,z,v,r0,r1⟩:=id hI
 refine ⟨_,pa_body a n i r d,fun h=>?_,fun h=>⟨⟨⟨rfl,rfl⟩,rfl⟩,?_⟩,fun h=>?_⟩
 .have h:i>=0:=dt.1 h
  exact ⟨⟨⟨by omega,i1⟩,by omega⟩,by omega,by omega,⟨by omega,i1⟩,by omega⟩
 .obtain ⟨e1,e2,e3⟩:=hI.fin (ndt.1 h)
  show (Ex.exit 0,paP (-1) (val a % n) (padL a.length (val a / n)))=_
  rw [e1,e2,<- e3]
 .have h:i>=0:=dt.1 h
  have g:=ha.get i.toNat
  have e1:IntKind.i64.wrap (r*1000000000)=r*1000000000:=iw (by omega) (by omega)
  have e2:IntKind.i64.wrap (r*1000000000+a.getD i.toNat 0)=r*1000000000+a.getD i.toNat 0:=iw (by omega) (by omega)
  have m0:0<=r*1000000000+a.getD i.toNat 0:=by omega
  have e3:IntKind.i64.wrap ((r*1000000000+a.getD i.toNat 0).tdiv n)=(r*1000000000+a.getD i.toNat 0).tdiv n:=by
   rw [Int.tdiv_eq_ediv_of_nonneg m0]
   have:=Int.ediv_nonneg m0 (show 0<=n by omega)
   have:=Int.ediv_le_self n m0
   exact iw (by omega) (by omega)
  refine ⟨⟨⟨by rw [e1,e2],iw (by omega) (by omega)⟩,by rw [e1,e2,e3,show ((0:Int)+i).toNat=i.toNat by omega]⟩,hI.step ha h,?_,rfl⟩
  show (i - 1+1).toNat<(i+1).toNat
  omega
def trFr:AFr:=⟨75,none⟩
def trA:Code:=loopOf Try.prog 75 0
def trP (id:Nat) (y:Int):Patch:=⟨(0,.islice true id 0 y) :: deadT 3 17,[],[]⟩
def trU (id:Nat) (d:List Int) (N:Int):SumL Int:=
 {
  S:=fun y=>trP id y
  I:=fun y=>0<=y/\y<=N
  μ:=fun y=>y.toNat
  F:=fun y=>(.exit 0,trP id (tlI d y))
  next:=fun y=>y - 1
  ids:=fun _=>[]
  X:=fun y _=>some (trP id y,[]) }
def trN (id:Nat) (d:List Int) (N y:Int):Prop:=((decide (y>(0:Int))=true->((0:Int)<=IntKind.i64.wrap (y - (1:Int))/\IntKind.i64.wrap (y - (1:Int))<y)/\((0:Int)+IntKind.i64.wrap (y - (1:Int))).toNat<d.length)/\((bif decide (y>(0:Int)) then d.getD ((0:Int)+IntKind.i64.wrap (y - (1:Int))).toNat (0:Int)==(0:Int) else false)=true->(0:Int)<=(0:Int)/\(0:Int)<=IntKind.i64.wrap (y - (1:Int))/\IntKind.i64.wrap (y - (1:Int))<=y))/\((!bif decide (y>(0:Int)) then d.getD ((0:Int)+IntKind.i64.wrap (y - (1:Int))).toNat (0:Int)==(0:Int) else false)=true->((0:Int)=(0:Int)/\y=y)/\(trU id d N).F y=(Ex.exit (0:Nat),trP id y))/\((bif decide (y>(0:Int)) then d.getD ((0:Int)+IntKind.i64.wrap (y - (1:Int))).toNat (0:Int)==(0:Int) else false)=true->((0:Int)+(0:Int)=(0:Int)/\IntKind.i64.wrap (y - (1:Int)) - (0:Int)=(trU id d N).next y)/\(trU id d N).I ((trU id d N).next y)/\(trU id d N).μ ((trU id d N).next y)<(trU id d N).μ y/\(trU id d N).F ((trU id d N).next y)=(trU id d N).F y)
theorem trN_ok {id:Nat} {d:List Int} {N y:Int} (hN:N=d.length) (ld:Sm d) (h0:0<=y) (h1:y<=N):trN id d N y:=by
 have ld:=ld.le
 have ez:∀ z:Int,(0+z).toNat=z.toNat:=fun z=>by rw [Int.zero_add]
 refine ⟨⟨fun h=>?_,fun h=>?_⟩,fun h=>⟨⟨rfl,rfl⟩,?_⟩,fun h=>?_⟩
 .have h:=of_decide_eq_true h
  rw [iw (by omega) (by omega)]
  omega
 .obtain ⟨h2,_⟩:=bt.1 h
  rw [iw (by omega) (by omega)]
  omega
 .show (Ex.exit 0,trP id (tlI d y))=_
  have h:=nbt.1 h
  by_cases h2:0<y
  .have h3:=neb.1 (h h2)
   rw [iw (by omega) (by omega),ez] at h3
   rw [tlI_step h2,if_neg h3]
  .have:y=0:=by omega
   subst this; rfl
 .obtain ⟨h2,h3⟩:=bt.1 h
  have h2:0<y:=h2
  have h3:=eb.1 h3
  rw [iw (by omega) (by omega),ez] at h3
  rw [iw (by omega) (by omega)]
  refine ⟨⟨rfl,by show y - 1 - 0=y - 1; omega⟩,?_,?_,?_⟩
  .show 0<=y - 1/\y - 1<=N
   omega
  .show (y - 1).toNat<y.toNat
   omega
  .show (Ex.exit 0,trP id (tlI d (y - 1)))=(Ex.exit 0,trP id (tlI d y))
   rw [tlI_step h2,if_pos h3]
theorem tr_loop {S:St} {id:Nat} {d:List Int} {N:Int} (hN:N=d.length) (ld:Sm d) (hs:fit S S (patch S ((trU id d N).S N)) []=some (.p ((0:Int)=0/\N=N))) (ho:oldsOk S.hp (((trU id d N).S N).old)=true)
  (hb:∀ y,chkR S ((trU id d N).way y) ((run cL 300).code trFr trA (patch S ((trU id d N).S y)))=some (.p (trN id d N y))):CodeOk cL trFr (.loop trA) S ⟨.tt,[⟨.tt,.exit 0,patch S (trP id (tlI d N))⟩]⟩:=
 sumL_one (run_sound cL_ok 300) (trU id d N) (y0:=N) ⟨by omega,by omega⟩ ⟨_,hs,rfl,rfl⟩ ho (fun y hy=>⟨_,hb y,trN_ok hN ld hy.1 hy.2⟩) rfl
noncomputable def ptS (a d:List Int) (N:Int):St:=stAt cL 300 75 [.islice true 1 0 N] ⟨[⟨14,.ints .i64 d⟩,⟨0,.rows .i64 a⟩],2,17⟩
end
end Go.Proofs.Ytmnhhlnbfkfkaaa.K
namespace Go.Proofs.Ytmnhhlnbfkfkaaa.K
open Go Go.Eng Go.Dg
noncomputable section
theorem pt_start (a d:List Int) (N:Int):fit (ptS a d N) (ptS a d N) (patch (ptS a d N) ((trU 1 d N).S N)) []=some (.p ((0:Int)=0/\N=N)):=by kernel_rfl
theorem pt_body (a d:List Int) (N y:Int):chkR (ptS a d N) ((trU 1 d N).way y) ((run cL 300).code trFr trA (patch (ptS a d N) ((trU 1 d N).S y)))=some (.p (trN 1 d N y)):=by kernel_rfl
theorem pt_loop (a:List Int) {d:List Int} {N:Int} (hN:N=d.length) (ld:Sm d):CodeOk cL trFr (.loop trA) (ptS a d N) ⟨.tt,[⟨.tt,.exit 0,patch (ptS a d N) (trP 1 (tlI d N))⟩]⟩:=tr_loop hN ld (pt_start a d N) (by kernel_rfl) (fun y=>pt_body a d N y)
noncomputable def cPt (a:List Int) (n:Int):Ctx:=withLoops cL [oneLoop 76 (paS a n).hp.clock paFr paA (paS a n) (.exit 0) (paP (-1) (val a % n) (padL a.length (val a / n))),oneLoop 75 20 trFr trA (ptS a (padL a.length (val a / n)) a.length) (.exit 0) (trP 1 (tlI (padL a.length (val a / n)) a.length))]
theorem cPt_ok {a:List Int} {n:Int} (ha:Dig a) (la:Sm a) (h0:1<=n) (h1:n<=1000000000):CtxOk (cPt a n):=
 withLoop_ok cL_ok (pa_loop ha la h0 h1) (withLoop_ok cL_ok (pt_loop a (padL_len _ _ ▸ rfl) (by show (padL _ _).length<=500000; rw [padL_len]; exact la)) (withNone_ok cL_ok))
end
end Go.Proofs.Ytmnhhlnbfkfkaaa.K
namespace Go.Proofs.Ytmnhhlnbfkfkaaa.K
open Go Go.Eng Go.Dg
noncomputable section
def pa_t_nd (a:List Int) (n:Int):Prop:=(((↑a.length:Int)=(↑a.length:Int)/\(0:Int)<=(↑a.length:Int)/\(↑a.length:Int)<=(1048576:Int))/\At (paFr) (paFr) (paA) (paA) (paS a n) (paS a n)/\At (trFr) (trFr) (trA) (trA) (ptS a (padL a.length (val a / n)) a.length) (ptS a (padL a.length (val a / n)) a.length))
def pa_t_v (a:List Int) (n:Int):AV:=(AV.tuple [AV.islice true 1 (0:Int) (tlI (padL a.length (val a / n)) (↑a.length:Int)),AV.int true IntKind.i64 (val a % n)])
def pa_t_h (a:List Int) (n:Int):Hp:=⟨[{ wr:=14,body:=ABody.ints IntKind.i64 (padL a.length (val a / n)) },{ wr:=(0:Nat),body:=ABody.rows IntKind.i64 a }],2,26⟩
theorem pa_t (a:List Int) (n:Int):(run (cPt a n) 300).call 76 (zA a n) (zH a)=some ⟨.p (pa_t_nd a n),[⟨.tt,pa_t_v a n,pa_t_h a n⟩]⟩:=by kernel_rfl
end
end Go.Proofs.Ytmnhhlnbfkfkaaa.K
namespace Go.Proofs.Ytmnhhlnbfkfkaaa.K
open Go Go.Eng Go.Dg
noncomputable section
def paV:List Nu->List (List Int)->Option (Prop×To)
 | [.n n],[a]=>some (Dig a/\a.length<=500000/\1<=n/\n<=1000000000,.tu [.li false (digs (val a / n).toNat),.nu .i64 (val a % n)])
 | _,_=>none
theorem padL_q {a:List Int} {n:Int} (ha:Dig a) (h0:1<=n):val (padL a.length (val a / n))=val a / n:=by
 have h1:=val_nonneg ha
 have h2:=val_lt ha
 have h3:=Int.ediv_le_self n h1
 exact padL_val (Int.ediv_nonneg h1 (by omega)) (by omega)
theorem take_tr {d:List Int} {N:Int} (h:Dig d) (hN:N=d.length):List.take (tlI d N).toNat (List.drop (Int.toNat 0) d)=digs (val d).toNat:=by
 rw [show Int.toNat 0=0 from rfl,List.drop_zero,hN]
 exact take_tlI h
theorem part_ok:NOk Try.prog (fun _=>none) hG0 76 (mSpec hG0 .i64 [.li,.nu (.i .i64)] paV):=by
 refine msp_runs (fun xs ys p t e h=>?_) ⟨_,Try.func76,rfl⟩
 unfold paV at e
 split at e
 .rename_i n a
  cases e
  obtain ⟨ha,la,h0,h1⟩:=h
  refine ⟨cPt a n,300,zA a n,_,_,_,_,_,cPt_ok ha la h0 h1,rfl,rfl,⟨rfl,⟨rfl,rfl⟩,trivial⟩,pa_t a n,rfl,⟨⟨rfl,by omega,by omega⟩,⟨rfl,rfl,rfl⟩,⟨rfl,rfl,rfl⟩⟩,rfl,rfl,?_⟩
  have hl:=tlI_le (padL a.length (val a / n))
  rw [padL_len] at hl
  refine ⟨⟨⟨by omega,by omega,by rw [padL_len]; omega⟩,?_⟩,rfl⟩
  show List.take _ (List.drop _ (padL a.length (val a / n)))=digs (val a / n).toNat
  rw [take_tr (padL_dig _ _) (by rw [padL_len]),padL_q ha h0]
 .cases e
end
end Go.Proofs.Ytmnhhlnbfkfkaaa.K
namespace Go.Dg
open Go Go.Eng
theorem padL_high {n j k:Nat} {v:Int} (h0:0<=v) (h:v<pw k) (hj:k<=j):(padL n v).getD j 0=0:=by
 rcases Nat.lt_or_ge j n with h1|h1
 .rw [padL_get n v j h1]
  have:=pw_mono hj
  rw [Int.ediv_eq_zero_of_lt h0 (by omega)]
  rfl
 .rw [List.getD_eq_getElem?_getD,List.getElem?_eq_none (by rw [padL_len]; exact h1)]
  rfl
theorem val_low:∀ {d:List Int} {k:Nat},Dig d->(∀ j,k<=j->d.getD j 0=0)->val d<pw k
 | [],k,_,_=>pw_pos k
 | x :: l,0,h,z=>by
  have h':=dig_cons.1 h
  have z0:x=0:=z 0 (Nat.le_refl _)
  have:=val_low (k:=0) h'.2 (fun j _=>z (j+1) (by omega))
  have e:pw 0=1:=rfl
  show x+1000000000*val l<pw 0
  omega
 | x :: l,k+1,h,z=>by
  have h':=dig_cons.1 h
  have:=val_low (k:=k) h'.2 (fun j hj=>z (j+1) (by omega))
  rw [pw_succ]
  show x+1000000000*val l<_
  omega
def tmV (a b:List Int) (i:Int):Int:=val (a.take i.toNat)*val b
theorem tmV_bd {a b:List Int} (ha:Dig a) (hb:Dig b) {i:Int} (h0:0<=i) (h1:i<=a.length):0<=tmV a b i/\tmV a b i<pw (i.toNat+b.length):=by
 have t0:=val_nonneg (ha.take i.toNat)
 have t1:=val_lt (ha.take i.toNat)
 have b0:=val_nonneg hb
 have b1:=val_lt hb
 rw [List.length_take,Nat.min_eq_left (by omega)] at t1
 refine ⟨Int.mul_nonneg t0 b0,?_⟩
 rw [pw_add]
 have p:=pw_pos i.toNat
 calc val (a.take i.toNat)*val b<=pw i.toNat*val b:=Int.mul_le_mul_of_nonneg_right (by omega) b0
  _<pw i.toNat*pw b.length:=Int.mul_lt_mul_of_pos_left b1 p
structure TmI (a b:List Int) (i k c:Int) (d:List Int):Prop where
 l:d.length=a.length+b.length
 dg:Dig d
 k0:0<=k
 k1:k<=b.length
 c0:0<=c
 c1:c<1000000000
 v:val d+pw (i.toNat+k.toNat)*c=tmV a b i+pw i.toNat*(a.getD i.toNat 0*val (b.take k.toNat))
 z:∀ j:Nat,i.toNat+b.length<=j->d.getD j 0=0
theorem TmI.start {a b:List Int} (ha:Dig a) (hb:Dig b) {i:Int} (h0:0<=i) (h1:i<a.length):TmI a b i 0 0 (padL (a.length+b.length) (tmV a b i)):=by
 obtain ⟨t0,t1⟩:=tmV_bd ha hb h0 (Int.le_of_lt h1)
 have t2:=pw_mono (show i.toNat+b.length<=a.length+b.length by omega)
 refine ⟨padL_len _ _,padL_dig _ _,Int.le_refl _,by omega,Int.le_refl _,by decide,?_,fun j hj=>padL_high t0 t1 hj⟩
 rw [padL_val t0 (by omega)]
 simp [val]
theorem TmI.num {a b:List Int} (ha:Dig a) (hb:Dig b) {i k c:Int} {d:List Int} (h:TmI a b i k c d) (hk:k<b.length):0<=a.getD i.toNat 0*b.getD k.toNat 0/\a.getD i.toNat 0*b.getD k.toNat 0<=999999998000000001/\0<=d.getD (i.toNat+k.toNat) 0/\d.getD (i.toNat+k.toNat) 0<1000000000:=by
 have g1:=ha.get i.toNat
 have g2:=hb.get k.toNat
 have g3:=h.dg.get (i.toNat+k.toNat)
 refine ⟨Int.mul_nonneg g1.1 g2.1,?_,g3⟩
 exact Int.mul_le_mul (show a.getD i.toNat 0<=999999999 by omega) (show b.getD k.toNat 0<=999999999 by omega) g2.1 (by decide)
theorem TmI.step {a b:List Int} (ha:Dig a) (hb:Dig b) {i k c:Int} {d:List Int} (h:TmI a b i k c d) (hi:i<a.length) (hk:k<b.length):
  TmI a b i (k+1) ((d.getD (i.toNat+k.toNat) 0+a.getD i.toNat 0*b.getD k.toNat 0+c).tdiv 1000000000) (d.set (i.toNat+k.toNat) ((d.getD (i.toNat+k.toNat) 0+a.getD i.toNat 0*b.getD k.toNat 0+c).tmod 1000000000)):=by
 obtain ⟨m0,m1,m2,m3⟩:=h.num ha hb hk
 obtain ⟨l,dg,k0,k1,c0,c1,v,z⟩:=h
 have n0:0<=d.getD (i.toNat+k.toNat) 0+a.getD i.toNat 0*b.getD k.toNat 0+c:=by omega
 rw [Int.tdiv_eq_ediv_of_nonneg n0,Int.tmod_eq_emod_of_nonneg n0]
 have ek:(k+1).toNat=k.toNat+1:=by omega
 have hl:i.toNat+k.toNat<d.length:=by omega
 refine ⟨by simp [l],dg.set _ (by omega),by omega,by omega,by omega,by omega,?_,fun j hj=>?_⟩
 .rw [ek,val_set _ _ _ hl,val_take_succ (by omega),<- Nat.add_assoc,pw_succ]
  have ed:=Int.mul_ediv_add_emod (d.getD (i.toNat+k.toNat) 0+a.getD i.toNat 0*b.getD k.toNat 0+c) 1000000000
  rw [pw_add] at v ⊢
  generalize (d.getD (i.toNat+k.toNat) 0+a.getD i.toNat 0*b.getD k.toNat 0+c) / 1000000000=Q at *
  generalize (d.getD (i.toNat+k.toNat) 0+a.getD i.toNat 0*b.getD k.toNat 0+c) % 1000000000=R at *
  generalize d.getD (i.toNat+k.toNat) 0=x at *
  generalize a.getD i.toNat 0=y at *
  generalize b.getD k.toNat 0=w at *
  generalize pw i.toNat=p at *
  generalize pw k.toNat=q at *
  generalize tmV a b i=V at *
  generalize val (b.take k.toNat)=u at *
  generalize val d=D at *
  grind
 .rw [getD_set (by omega)]
  exact z j hj
def tmW (a b:List Int) (i:Int):Int:=tmV a b i+pw i.toNat*(a.getD i.toNat 0*val b)
theorem tmW_eq {a b:List Int} {i:Int} (h0:0<=i) (h1:i<a.length):tmW a b i=tmV a b (i+1):=by
 unfold tmW tmV
 rw [show (i+1).toNat=i.toNat+1 by omega,val_take_succ (by omega)]
 grind
theorem TmI.fin {a b:List Int} {i k c:Int} {d:List Int} (h:TmI a b i k c d) (hk:¬ k<b.length):k=b.length/\c=tmW a b i / pw (i.toNat+b.length)/\d=padL (a.length+b.length) (tmW a b i % pw (i.toNat+b.length)):=by
 obtain ⟨l,dg,k0,k1,c0,c1,v,z⟩:=h
 have e:k=b.length:=by omega
 subst e
 have d0:=val_nonneg dg
 have d1:=val_low dg z
 have p:=pw_pos (i.toNat+b.length)
 rw [show ((b.length:Int)).toNat=b.length by omega,List.take_length] at v
 have hW:tmW a b i=val d+pw (i.toNat+b.length)*c:=v.symm
 refine ⟨rfl,?_,padL_uni dg l ?_⟩
 .rw [hW,Int.add_mul_ediv_left _ _ (by omega),Int.ediv_eq_zero_of_lt d0 d1]; omega
 .rw [hW,Int.add_mul_emod_self_left,Int.emod_eq_of_lt d0 d1]
theorem tm_row {a b:List Int} (ha:Dig a) (hb:Dig b) {i:Int} (h0:0<=i) (h1:i<a.length):
  (padL (a.length+b.length) (tmW a b i % pw (i.toNat+b.length))).set (i.toNat+b.length) (tmW a b i / pw (i.toNat+b.length))=padL (a.length+b.length) (tmV a b (i+1)):=by
 obtain ⟨t0,t1⟩:=tmV_bd ha hb (show 0<=i+1 by omega) (show i+1<=a.length by omega)
 have p:=pw_pos (i.toNat+b.length)
 rw [tmW_eq h0 h1]
 rw [show (i+1).toNat+b.length=(i.toNat+b.length)+1 by omega,pw_succ] at t1
 have m0:=Int.emod_nonneg (tmV a b (i+1)) (show pw (i.toNat+b.length)≠0 by omega)
 have m1:=Int.emod_lt_of_pos (tmV a b (i+1)) p
 have m2:=pw_mono (show i.toNat+b.length<=a.length+b.length by omega)
 have q0:=Int.ediv_nonneg t0 (show 0<=pw (i.toNat+b.length) by omega)
 have q1:tmV a b (i+1) / pw (i.toNat+b.length)<1000000000:=Int.ediv_lt_of_lt_mul p (by omega)
 have ed:=Int.mul_ediv_add_emod (tmV a b (i+1)) (pw (i.toNat+b.length))
 apply padL_uni ((padL_dig _ _).set _ ⟨q0,q1⟩)
 .rw [List.length_set,padL_len]
 .rw [val_set _ _ _ (by rw [padL_len]; omega),padL_high m0 m1 (Nat.le_refl _),padL_val m0 (by omega)]
  rw [Int.sub_zero]
  omega
theorem tm_end {a b:List Int} (ha:Dig a) (hb:Dig b):val (padL (a.length+b.length) (tmV a b a.length))=val a*val b:=by
 obtain ⟨t0,t1⟩:=tmV_bd ha hb (show 0<=(a.length:Int) by omega) (Int.le_refl _)
 rw [show ((a.length:Int)).toNat=a.length by omega] at t1
 rw [padL_val t0 t1]
 unfold tmV
 rw [show ((a.length:Int)).toNat=a.length by omega,List.take_length]
end Go.Dg
namespace Go.Proofs.Ytmnhhlnbfkfkaaa.K
open Go Go.Eng Go.Dg
noncomputable section
def zB (a b:List Int):List AV:=[.lslice 0 a.length,.lslice 1 b.length]
def zG (a b:List Int):Hp:=viewsH true hG0 [(.i64,a),(.i64,b)]
def tmFr:AFr:=⟨63,none⟩
def tmAo:Code:=loopOf Try.prog 63 0
def tmAi:Code:=loopOf Try.prog 63 1
noncomputable def toS (a b:List Int):St:=stAt cL 300 63 (zB a b) (zG a b)
def tmL (a b:List Int):Nat:=a.length+b.length
def toP (i:Int) (d:List Int):Patch:=⟨deadT 6 6++(20,.int true .i64 i) :: deadT 21 41,[(2,.ints .i64 d)],[]⟩
def toU (a b:List Int):SumL Int:=
 {
  S:=fun i=>toP i (padL (tmL a b) (tmV a b i))
  I:=fun i=>0<=i/\i<=a.length
  μ:=fun i=>(a.length - i).toNat
  F:=fun _=>(.exit 0,toP a.length (padL (tmL a b) (tmV a b a.length)))
  next:=fun i=>i+1
  ids:=fun _=>[]
  X:=fun i _=>some (toP i (padL (tmL a b) (tmV a b i)),[]) }
noncomputable def tiS (a b:List Int) (i:Int):St:=stIn cL 300 tmFr tmAo (patch (toS a b) ((toU a b).S i))
def tiP (k c:Int) (d:List Int):Patch:=⟨(8,.int true .i64 c) :: deadT 9 3++(27,.int true .i64 k) :: deadT 28 26,[(2,.ints .i64 d)],[]⟩
def tiX (a b:List Int) (i:Int):Patch:=tiP b.length (tmW a b i / pw (i.toNat+b.length)) (padL (tmL a b) (tmW a b i % pw (i.toNat+b.length)))
def tiU (a b:List Int) (i:Int):SumL (Int×Int×List Int):=
 {
  S:=fun (k,c,d)=>tiP k c d
  I:=fun (k,c,d)=>TmI a b i k c d
  μ:=fun (k,_,_)=>(b.length - k).toNat
  F:=fun _=>(.exit 2,tiX a b i)
  next:=fun (k,c,d)=>(k+1,(d.getD (i.toNat+k.toNat) 0+a.getD i.toNat 0*b.getD k.toNat 0+c).tdiv 1000000000,d.set (i.toNat+k.toNat) ((d.getD (i.toNat+k.toNat) 0+a.getD i.toNat 0*b.getD k.toNat 0+c).tmod 1000000000))
  ids:=fun _=>[]
  X:=fun (k,c,d) _=>some (tiP k c d,[]) }
noncomputable def cTi (a b:List Int) (i:Int):Ctx:=withLoops cL [oneLoop 63 (tiS a b i).hp.clock tmFr tmAi (tiS a b i) (.exit 2) (tiX a b i)]
def hZ (l:List (Nat×AV)):Nat->Nat->Option AV:=fun _ t=>match l with
 | []=>none
 | x :: l=>match Nat.beq t x.1 with
  | true=>some x.2
  | false=>hZ l 0 t
termination_by structural l
def cHz (t:Nat):Ctx:=hinting cL (hZ [(t,.bool false false)])
theorem cHz_ok (t:Nat):CtxOk (cHz t):=hinting_ok cL_ok _
end
end Go.Proofs.Ytmnhhlnbfkfkaaa.K
namespace Go.Proofs.Ytmnhhlnbfkfkaaa.K
open Go Go.Eng Go.Dg
noncomputable section
def to_start_nd (a b:List Int):Prop:=(0:Int)=(0:Int)/\List.replicate (IntKind.i64.wrap ((↑a.length:Int)+(↑b.length:Int))).toNat (0:Int)=padL (tmL a b) (tmV a b (0:Int))
theorem to_start (a b:List Int):fit (toS a b) (toS a b) (patch (toS a b) ((toU a b).S 0)) ([])=some (.p (to_start_nd a b)):=by kernel_rfl
def ti_start_nd (a b:List Int) (i:Int):Prop:=((0:Int)=(0:Int)/\(0:Int)=(0:Int))/\padL (tmL a b) (tmV a b i)=padL (tmL a b) (tmV a b i)
theorem ti_start (a b:List Int) (i:Int):fit (tiS a b i) (tiS a b i) (patch (tiS a b i) ((tiU a b i).S (0,0,padL (tmL a b) (tmV a b i)))) ([])=some (.p (ti_start_nd a b i)):=by kernel_rfl
def ti_body_nd (a b:List Int) (i k c:Int) (d:List Int):Prop:=(decide (k<(↑b.length:Int))=true->(((0:Int)<=k/\k<(↑b.length:Int))/\k.toNat<b.length)/\(((0:Int)<=IntKind.i64.wrap (i+k)/\IntKind.i64.wrap (i+k)<IntKind.i64.wrap ((↑a.length:Int)+(↑b.length:Int)))/\((0:Int)+IntKind.i64.wrap (i+k)).toNat<d.length)/\((0:Int)<=IntKind.i64.wrap (i+k)/\IntKind.i64.wrap (i+k)<IntKind.i64.wrap ((↑a.length:Int)+(↑b.length:Int)))/\((0:Int)+IntKind.i64.wrap (i+k)).toNat<d.length)/\((!decide (k<(↑b.length:Int)))=true->((c=c/\k=k)/\d=d)/\(tiU a b i).F (k,c,d)=(Ex.exit (2:Nat),tiP k c d))/\(decide (k<(↑b.length:Int))=true->((IntKind.i64.wrap ((IntKind.i64.wrap (IntKind.i64.wrap (d.getD ((0:Int)+IntKind.i64.wrap (i+k)).toNat (0:Int)+IntKind.i64.wrap (a.getD i.toNat (0:Int)*b.getD k.toNat (0:Int)))+c)).tdiv (1000000000:Int))=(d.getD (i.toNat+k.toNat) (0:Int)+a.getD i.toNat (0:Int)*b.getD k.toNat (0:Int)+c).tdiv (1000000000:Int)/\IntKind.i64.wrap (k+(1:Int))=k+(1:Int))/\d.set ((0:Int)+IntKind.i64.wrap (i+k)).toNat ((IntKind.i64.wrap (IntKind.i64.wrap (d.getD ((0:Int)+IntKind.i64.wrap (i+k)).toNat (0:Int)+IntKind.i64.wrap (a.getD i.toNat (0:Int)*b.getD k.toNat (0:Int)))+c)).tmod (1000000000:Int))=d.set (i.toNat+k.toNat) ((d.getD (i.toNat+k.toNat) (0:Int)+a.getD i.toNat (0:Int)*b.getD k.toNat (0:Int)+c).tmod (1000000000:Int)))/\(tiU a b i).I ((tiU a b i).next (k,c,d))/\(tiU a b i).μ ((tiU a b i).next (k,c,d))<(tiU a b i).μ (k,c,d)/\(tiU a b i).F ((tiU a b i).next (k,c,d))=(tiU a b i).F (k,c,d))
theorem ti_body (a b:List Int) (i k c:Int) (d:List Int):chkR (tiS a b i) ((tiU a b i).way ((k,c,d))) ((run cL 300).code tmFr tmAi (patch (tiS a b i) ((tiU a b i).S (k,c,d))))=some (.p (ti_body_nd a b i k c d)):=by kernel_rfl
def to_body_nd (a b:List Int) (i:Int):Prop:=(decide (i<(↑a.length:Int))=true->(((0:Int)<=i/\i<(↑a.length:Int))/\i.toNat<a.length)/\At (tmFr) (tmFr) (tmAi) (tmAi) (tiS a b i) (tiS a b i)/\((0:Int)<=IntKind.i64.wrap (i+(↑b.length:Int))/\IntKind.i64.wrap (i+(↑b.length:Int))<IntKind.i64.wrap ((↑a.length:Int)+(↑b.length:Int)))/\((0:Int)+IntKind.i64.wrap (i+(↑b.length:Int))).toNat<(padL (tmL a b) (tmW a b i % pw (i.toNat+b.length))).length)/\((!decide (i<(↑a.length:Int)))=true->(i=i/\padL (tmL a b) (tmV a b i)=padL (tmL a b) (tmV a b i))/\(toU a b).F i=(Ex.exit (0:Nat),toP i (padL (tmL a b) (tmV a b i))))/\(decide (i<(↑a.length:Int))=true->(IntKind.i64.wrap (i+(1:Int))=(toU a b).next i/\(padL (tmL a b) (tmW a b i % pw (i.toNat+b.length))).set ((0:Int)+IntKind.i64.wrap (i+(↑b.length:Int))).toNat (tmW a b i / pw (i.toNat+b.length))=padL (tmL a b) (tmV a b ((toU a b).next i)))/\(toU a b).I ((toU a b).next i)/\(toU a b).μ ((toU a b).next i)<(toU a b).μ i/\(toU a b).F ((toU a b).next i)=(toU a b).F i)
theorem to_body (a b:List Int) (i:Int):chkR (toS a b) ((toU a b).way (i)) ((run (cTi a b i) 300).code tmFr tmAo (patch (toS a b) ((toU a b).S i)))=some (.p (to_body_nd a b i)):=by kernel_rfl
def to_end_nd (a b:List Int) (i:Int):Prop:=decide (i<(↑a.length:Int))=false/\(true=true->(i=i/\padL (tmL a b) (tmV a b i)=padL (tmL a b) (tmV a b i))/\(toU a b).F i=(Ex.exit (0:Nat),toP i (padL (tmL a b) (tmV a b i))))
theorem to_end (a b:List Int) (i:Int):chkR (toS a b) ((toU a b).way (i)) ((run (cHz 21) 300).code tmFr tmAo (patch (toS a b) ((toU a b).S i)))=some (.p (to_end_nd a b i)):=by kernel_rfl
end
end Go.Proofs.Ytmnhhlnbfkfkaaa.K
namespace Go.Proofs.Ytmnhhlnbfkfkaaa.K
open Go Go.Eng Go.Dg
noncomputable section
theorem ti_loop {a b:List Int} (ha:Dig a) (hb:Dig b) (hl:a.length+b.length<=500000) {i:Int} (h0:0<=i) (h1:i<a.length):CodeOk cL tmFr (.loop tmAi) (tiS a b i) ⟨.tt,[⟨.tt,.exit 2,patch (tiS a b i) (tiX a b i)⟩]⟩:=by
 refine sumL_one (run_sound cL_ok 300) (tiU a b i) (y0:=(0,0,padL (tmL a b) (tmV a b i))) (TmI.start ha hb h0 h1) ⟨_,ti_start a b i,⟨rfl,rfl⟩,rfl⟩ (by kernel_rfl) (fun y hy=>?_) rfl
 obtain ⟨k,c,d⟩:=y
 have hI:TmI a b i k c d:=hy
 obtain ⟨l,dg,k0,k1,c0,c1,v,z⟩:=id hI
 have eL:IntKind.i64.wrap ((a.length:Int)+b.length)=a.length+b.length:=iw (by omega) (by omega)
 have e1:IntKind.i64.wrap (i+k)=i+k:=iw (by omega) (by omega)
 have e2:(0+(i+k)).toNat=i.toNat+k.toNat:=by omega
 refine ⟨_,ti_body a b i k c d,fun h=>?_,fun h=>⟨⟨⟨rfl,rfl⟩,rfl⟩,?_⟩,fun h=>?_⟩
 .have h:=dt.1 h
  rw [e1,eL,e2]
  exact ⟨⟨⟨k0,h⟩,by omega⟩,⟨⟨by omega,by omega⟩,by omega⟩,⟨by omega,by omega⟩,by omega⟩
 .obtain ⟨f1,f2,f3⟩:=hI.fin (ndt.1 h)
  show (Ex.exit 2,tiX a b i)=(Ex.exit 2,tiP k c d)
  unfold tiX tmL
  rw [f1,f2,<- f3]
 .have h:=dt.1 h
  obtain ⟨m0,m1,m2,m3⟩:=hI.num ha hb h
  rw [e1,e2]
  have e3:IntKind.i64.wrap (a.getD i.toNat 0*b.getD k.toNat 0)=a.getD i.toNat 0*b.getD k.toNat 0:=iw (by omega) (by omega)
  rw [e3]
  have e4:IntKind.i64.wrap (d.getD (i.toNat+k.toNat) 0+a.getD i.toNat 0*b.getD k.toNat 0)=d.getD (i.toNat+k.toNat) 0+a.getD i.toNat 0*b.getD k.toNat 0:=iw (by omega) (by omega)
  rw [e4]
  have e5:IntKind.i64.wrap (d.getD (i.toNat+k.toNat) 0+a.getD i.toNat 0*b.getD k.toNat 0+c)=d.getD (i.toNat+k.toNat) 0+a.getD i.toNat 0*b.getD k.toNat 0+c:=iw (by omega) (by omega)
  rw [e5]
  have st:=hI.step ha hb h1 h
  have e6:IntKind.i64.wrap ((d.getD (i.toNat+k.toNat) 0+a.getD i.toNat 0*b.getD k.toNat 0+c).tdiv 1000000000)=(d.getD (i.toNat+k.toNat) 0+a.getD i.toNat 0*b.getD k.toNat 0+c).tdiv 1000000000:=by
   have:=st.c0
   have:=st.c1
   exact iw (by omega) (by omega)
  refine ⟨⟨⟨e6,iw (by omega) (by omega)⟩,rfl⟩,st,?_,rfl⟩
  show (b.length - (k+1)).toNat<(b.length - k).toNat
  omega
theorem cTi_ok {a b:List Int} (ha:Dig a) (hb:Dig b) (hl:a.length+b.length<=500000) {i:Int} (h0:0<=i) (h1:i<a.length):CtxOk (cTi a b i):=withLoop_ok cL_ok (ti_loop ha hb hl h0 h1) (withNone_ok cL_ok)
theorem to_loop {a b:List Int} (ha:Dig a) (hb:Dig b) (hl:a.length+b.length<=500000):CodeOk cL tmFr (.loop tmAo) (toS a b) ⟨.tt,[⟨.tt,.exit 0,patch (toS a b) (toP a.length (padL (tmL a b) (tmV a b a.length)))⟩]⟩:=by
 have eL:IntKind.i64.wrap ((a.length:Int)+b.length)=a.length+b.length:=iw (by omega) (by omega)
 refine sumL_oneC (toU a b) (y0:=0) ⟨by omega,by omega⟩ ⟨_,to_start a b,rfl,?_⟩ (by kernel_rfl) (fun i hi=>?_) rfl
 .rw [eL,show ((a.length:Int)+b.length).toNat=tmL a b by unfold tmL; omega,padL_rep]
  congr 1
  unfold tmV
  simp [val]
 obtain ⟨i0,i1⟩:=(show 0<=i/\i<=a.length from hi)
 by_cases hlt:i<a.length
 .have e1:IntKind.i64.wrap (i+b.length)=i+b.length:=iw (by omega) (by omega)
  have e2:(0+(i+(b.length:Int))).toNat=i.toNat+b.length:=by omega
  refine ⟨cTi a b i,300,cTi_ok ha hb hl i0 hlt,rfl,rfl,_,to_body a b i,fun h=>?_,fun h=>absurd hlt (ndt.1 h),fun h=>⟨⟨iw (by omega) (by omega),?_⟩,?_,?_,rfl⟩⟩
  .rw [e1,eL,e2]
   refine ⟨⟨⟨i0,hlt⟩,by omega⟩,⟨rfl,rfl,rfl⟩,⟨by omega,by omega⟩,?_⟩
   rw [padL_len]; unfold tmL; omega
  .rw [e1,e2]
   exact tm_row ha hb i0 hlt
  .show 0<=i+1/\i+1<=a.length
   omega
  .show (a.length - (i+1)).toNat<(a.length - i).toNat
   omega
 .obtain rfl:i=a.length:=by omega
  exact ⟨cHz 21,300,cHz_ok 21,rfl,rfl,_,to_end a b a.length,ndf hlt,fun _=>⟨⟨rfl,rfl⟩,rfl⟩⟩
noncomputable def ttS (a b d:List Int) (N:Int):St:=stAt cL 300 75 [.islice true 2 0 N] ⟨[⟨14,.ints .i64 d⟩,⟨0,.rows .i64 b⟩,⟨0,.rows .i64 a⟩],3,17⟩
theorem tt_start (a b d:List Int) (N:Int):fit (ttS a b d N) (ttS a b d N) (patch (ttS a b d N) ((trU 2 d N).S N)) []=some (.p ((0:Int)=0/\N=N)):=by kernel_rfl
theorem tt_body (a b d:List Int) (N y:Int):chkR (ttS a b d N) ((trU 2 d N).way y) ((run cL 300).code trFr trA (patch (ttS a b d N) ((trU 2 d N).S y)))=some (.p (trN 2 d N y)):=by kernel_rfl
theorem tt_loop (a b:List Int) {d:List Int} {N:Int} (hN:N=d.length) (ld:Sm d):CodeOk cL trFr (.loop trA) (ttS a b d N) ⟨.tt,[⟨.tt,.exit 0,patch (ttS a b d N) (trP 2 (tlI d N))⟩]⟩:=tr_loop hN ld (tt_start a b d N) (by kernel_rfl) (fun y=>tt_body a b d N y)
def tmN (a b:List Int):Int:=IntKind.i64.wrap ((a.length:Int)+b.length)
def tmD (a b:List Int):List Int:=padL (tmL a b) (tmV a b a.length)
noncomputable def cTt (a b:List Int):Ctx:=withLoops cL [oneLoop 63 (toS a b).hp.clock tmFr tmAo (toS a b) (.exit 0) (toP a.length (tmD a b)),oneLoop 75 20 trFr trA (ttS a b (tmD a b) (tmN a b)) (.exit 0) (trP 2 (tlI (tmD a b) (tmN a b)))]
theorem tmN_len {a b:List Int} (hl:a.length+b.length<=500000):tmN a b=(tmD a b).length:=by
 unfold tmN tmD tmL
 rw [iw (by omega) (by omega),padL_len]; omega
theorem cTt_ok {a b:List Int} (ha:Dig a) (hb:Dig b) (hl:a.length+b.length<=500000):CtxOk (cTt a b):=
 withLoop_ok cL_ok (to_loop ha hb hl) (withLoop_ok cL_ok (tt_loop a b (tmN_len hl) (by show (tmD a b).length<=500000; unfold tmD tmL; rw [padL_len]; exact hl)) (withNone_ok cL_ok))
end
end Go.Proofs.Ytmnhhlnbfkfkaaa.K
namespace Go.Proofs.Ytmnhhlnbfkfkaaa.K
open Go Go.Eng Go.Dg
noncomputable section
def tm_t_nd (a b:List Int):Prop:=((IntKind.i64.wrap ((↑a.length:Int)+(↑b.length:Int))=IntKind.i64.wrap ((↑a.length:Int)+(↑b.length:Int))/\(0:Int)<=IntKind.i64.wrap ((↑a.length:Int)+(↑b.length:Int))/\IntKind.i64.wrap ((↑a.length:Int)+(↑b.length:Int))<=(1048576:Int))/\At (tmFr) (tmFr) (tmAo) (tmAo) (toS a b) (toS a b)/\At (trFr) (trFr) (trA) (trA) (ttS a b (tmD a b) (tmN a b)) (ttS a b (tmD a b) (tmN a b)))
def tm_t_v (a b:List Int):AV:=(AV.islice true 2 (0:Int) (tlI (tmD a b) (tmN a b)))
def tm_t_h (a b:List Int):Hp:=⟨[{ wr:=14,body:=ABody.ints IntKind.i64 (tmD a b) },{ wr:=(0:Nat),body:=ABody.rows IntKind.i64 b },{ wr:=(0:Nat),body:=ABody.rows IntKind.i64 a }],3,24⟩
theorem tm_t (a b:List Int):(run (cTt a b) 300).call 63 (zB a b) (zG a b)=some ⟨.p (tm_t_nd a b),[⟨.tt,tm_t_v a b,tm_t_h a b⟩]⟩:=by kernel_rfl
end
end Go.Proofs.Ytmnhhlnbfkfkaaa.K
namespace Go.Proofs.Ytmnhhlnbfkfkaaa.K
open Go Go.Eng Go.Dg
noncomputable section
def timV:List Nu->List (List Int)->Option (Prop×To)
 | [],[a,b]=>some (Dig a/\Dig b/\a.length+b.length<=500000,.li false (digs (val a*val b).toNat))
 | _,_=>none
theorem fit_tr {d:List Int} {N v:Int} (h:Dig d) (hN:N=d.length) (hv:val d=v):((0:Int)<=0/\0<=tlI d N/\0+tlI d N<=d.length)/\List.take (tlI d N).toNat (List.drop (Int.toNat 0) d)=digs v.toNat:=by
 have hl:=tlI_le d
 rw [take_tr h hN,hv,hN]
 exact ⟨⟨by omega,by omega,by omega⟩,rfl⟩
theorem times_ok:NOk Try.prog (fun _=>none) hG0 63 (mSpec hG0 .i64 [.li,.li] timV):=by
 refine msp_runs (fun xs ys p t e h=>?_) ⟨_,Try.func63,rfl⟩
 unfold timV at e
 split at e
 .rename_i a b
  cases e
  obtain ⟨ha,hb,hl⟩:=h
  have eN:tmN a b=a.length+b.length:=iw (by omega) (by omega)
  exact ⟨cTt a b,300,zB a b,_,_,_,_,_,cTt_ok ha hb hl,rfl,rfl,⟨rfl,rfl,trivial⟩,tm_t a b,rfl,⟨⟨rfl,by show 0<=tmN a b; omega,by show tmN a b<=_; omega⟩,⟨rfl,rfl,rfl⟩,⟨rfl,rfl,rfl⟩⟩,rfl,rfl,fit_tr (padL_dig _ _) (tmN_len hl) (tm_end ha hb)⟩
 .cases e
end
end Go.Proofs.Ytmnhhlnbfkfkaaa.K
