/- What is proved: MtfMoves returns true, whatever the input (part 8). No conditions beyond those of the row. -/
import Derived.Test.YtbiiiloimbjpaaaDoorPF
import Derived.Test.YtbiiiloimbjpaaaDoorPG
import Derived.Shelf.Small.Bits
import Derived.Shelf.Strconv.Itoa0
import Derived.Shelf.Bits.Mul64
import Derived.Test.YtbiiiloimbjpaaaDoorProg
import Derived.Laws.Externs
import Derived.KernelRfl
import Derived.Laws.BitsLemmas
set_option linter.unusedVariables false
set_option linter.unusedSimpArgs false
set_option linter.unusedSectionVars false
/-
 DERIVED: THE SHELF's CONTRACTS AT THIS DUMP, IN PLAIN WORDS (tools/lay-plain.mjs out of 'TrydShelf.lean', which tools/lay-shelf.mjs wrote): THE SAME DECLARATIONS UNDER THE SAME NAMES: 'import', 'namespace', 'open', 'def', 'theorem' AND NOTHING ELSE: no command of the shelf's: FOR A HAND-IN. Each laying: the table of numbers ('.._ren') and one theorem, a field a fact of the dump's own or the kernel's comparison; each contract: ONE APPLICATION.
-/
namespace Go.Proofs
open Go.Shelf
def Tryd.lays134_ren:Go.Shelf.Ren:=⟨fun|134=>93|129=>95|n=>n,fun|53=>95|3=>3|4=>4|46=>47|5=>5|9=>9|n=>n,fun|n=>n⟩
theorem Tryd.lays134:Go.Proofs.Lays.n134 Tryd.prog Tryd.lays134_ren:={
 mixed:=by kernel_rfl
 f129:=Tryd.func95.trans (congrArg some (by kernel_rfl))
 f134:=Tryd.func93.trans (congrArg some (by kernel_rfl))
 t3:=Tryd.underlying3
 a3:=Tryd.isAgg3
 z3:=Tryd.sizeOf3
 v3:=Tryd.zeroValue3
 t4:=Tryd.underlying4
 a4:=Tryd.isAgg4
 z4:=Tryd.sizeOf4
 v4:=Tryd.zeroValue4
 t5:=Tryd.underlying5
 a5:=Tryd.isAgg5
 z5:=Tryd.sizeOf5
 v5:=Tryd.zeroValue5
 t9:=Tryd.underlying9
 a9:=Tryd.isAgg9
 z9:=Tryd.sizeOf9
 v9:=Tryd.zeroValue9
 t46:=Tryd.underlying47
 a46:=Tryd.isAgg47
 z46:=Tryd.sizeOf47
 v46:=Tryd.zeroValue47
 t53:=Tryd.underlying95
 a53:=Tryd.isAgg95
 z53:=Tryd.sizeOf95
 v53:=Tryd.zeroValue95 }
theorem Tryd.bits_LeadingZeros64 (x:Int) (w:World) (h0:0<=x) (h1:x<=18446744073709551615):
  Calls Tryd.prog 93 #[.int .u64 x] w fun e w'=>e=.returned (.int .i64 (64 - (Lib.bitLen x.toNat:Int)))/\w'=w:=Any.bits_LeadingZeros64 Tryd.lays134 x w h0 h1
def Tryd.lays264_ren:Go.Shelf.Ren:=⟨fun|264=>81|n=>n,fun|53=>95|46=>47|n=>n,fun|n=>n⟩
theorem Tryd.lays264:Go.Proofs.Lays.n264 Tryd.prog Tryd.lays264_ren:={
 mixed:=by kernel_rfl
 f264:=Tryd.func81.trans (congrArg some (by kernel_rfl))
 t46:=Tryd.underlying47
 a46:=Tryd.isAgg47
 z46:=Tryd.sizeOf47
 v46:=Tryd.zeroValue47
 t53:=Tryd.underlying95
 a53:=Tryd.isAgg95
 z53:=Tryd.sizeOf95
 v53:=Tryd.zeroValue95 }
open Go.RowKit Go.Lib in
theorem Tryd.bits_Mul64 (x y:Nat) (hx:x<18446744073709551616) (hy:y<18446744073709551616) (w:World):
  Calls Tryd.prog 81 #[.int .u64 x,.int .u64 y] w fun e w'=>e=.returned (.tuple #[.int .u64 ((x*y / 18446744073709551616:Nat):Int),.int .u64 ((x*y % 18446744073709551616:Nat):Int)])/\w'=w:=Any.bits_Mul64 Tryd.lays264 x y hx hy w
end Go.Proofs
namespace Go.Proofs.YtbiiiloimbjpaaaDoor.K
open Go Go.Eng
theorem all_names:(Tryd.prog.funcs.toList.all fun fn=>!(fn.name=="runtime.NumGoroutine"))=true:=by kernel_rfl
theorem prog_ok:ProgOk Tryd.prog:=by
 refine ⟨fun f fn h _=>?_,by kernel_rfl⟩
 have h1:fn∈Tryd.prog.funcs.toList:=by
  rw [Array.mem_toList_iff]
  exact Array.mem_of_getElem? h
 have:=List.all_eq_true.1 all_names fn h1
 simpa using this
theorem mkInt_rel {σ:Sg} {s:Bool} {k:IntKind} {n:Int}:VRel σ (bB s k n) (.int k n):=by
 cases s with
 | true=>rfl
 | false=>
  unfold bB rU
  cases n with
  | ofNat m=>cases m <;> rfl
  | negSucc m=>cases m <;> rfl
def FQ (s b:Bool) (v:AV):Option (Nd×AV):=
 match s with
 | true=>some (.p (b=true),v)
 | false=>match b with
  | true=>some (.tt,v)
  | false=>none
theorem rF {s b:Bool} {v w:AV} {nd:Nd} (e:FQ s b v=some (nd,w)) (hn:nd.val):w=v/\b=true:=by
 unfold FQ at e
 split at e
 .cases e; exact ⟨rfl,hn⟩
 .split at e
  .cases e; exact ⟨rfl,rfl⟩
  .cases e
def ext (f:FuncId) (args:List AV):Option (Nd×AV):=
 match Nat.beq f 82 with
 | true=>match args with
  | [.int s .u64 x,.int s' .u64 y,.int s'' .u64 c]=>FQ (s||s'||s'') (decide (0<=x/\0<=y/\0<=c/\c<=1)) (.tuple [bB (s||s'||s'') .u64 ((x+y+c) % 18446744073709551616),bB (s||s'||s'') .u64 ((x+y+c) / 18446744073709551616)])
  | _=>none
 | false=>none
theorem add64_run (x y c:Int) (hx:0<=x) (hy:0<=y) (hc0:0<=c) (hc:c<=1) (w:World):
  (callFunc 82 #[.int .u64 x,.int .u64 y,.int .u64 c]).run Tryd.prog w=.ok (.value (.tuple #[.int .u64 ((x+y+c) % 18446744073709551616),.int .u64 ((x+y+c) / 18446744073709551616)])) w:=by
 rw [run_callFunc_extern Tryd.func82 (by kernel_rfl) (by kernel_rfl) (by kernel_rfl) (e:=add64Entry) (by kernel_rfl),run_add64 x y c hx hy hc0 hc]
 rfl
theorem ext_ok:Fv Tryd.prog ext:=by
 intro f args nd v e hn σ A W ha
 unfold ext at e
 split at e
 .rename_i hf
  have:=Nat.eq_of_beq_eq_true hf
  subst this
  split at e
  .rename_i s x s' y s'' c
   obtain ⟨rfl,hd⟩:=rF e hn
   have hd:=of_decide_eq_true hd
   obtain ⟨V,L,hL,rfl,V2,L2,hL2,rfl,V3,L3,hL3,rfl,hL4⟩:=ha
   rw [hL2,hL3,show L3=[] from hL4] at hL
   have hA:A=#[.int .u64 x,.int .u64 y,.int .u64 c]:=by
    apply Array.toList_inj.1; simpa using hL
   subst hA
   exact ⟨_,⟨_,rfl,_,_,rfl,mkInt_rel,_,_,rfl,mkInt_rel,rfl⟩,add64_run x y c hd.1 hd.2.1 hd.2.2.1 hd.2.2.2 W⟩
  .cases e
 .cases e
def Ih:List AV->Option (Nd×AV)
 | [.int s .u64 x]=>some (.p (0<=x/\x<=18446744073709551615),bB s .i64 (64 - (Lib.bitLen x.toNat:Int)))
 | _=>none
def two64:Int:=18446744073709551616
def uq:List AV->Option (Nd×AV)
 | [.int s .u64 x,.int s' .u64 y]=>FQ (s||s') (decide (0<=x/\x<18446744073709551616/\0<=y/\y<18446744073709551616)) (.tuple [bB (s||s') .u64 (x*y / two64),bB (s||s') .u64 (x*y % two64)])
 | _=>none
theorem abW:PureOk Tryd.prog 93 Ih:=by
 refine y5 ⟨_,Tryd.func93,rfl⟩ fun args nd v e hn σ A W ha=>?_
 unfold Ih at e
 split at e
 .rename_i s x
  cases e
  have hd:=hn
  obtain ⟨V,L,hL,rfl,hL2⟩:=ha
  rw [show L=[] from hL2] at hL
  have hA:A=#[.int .u64 x]:=by
   apply Array.toList_inj.1; simpa using hL
  subst hA
  exact ⟨_,mkInt_rel,Tryd.bits_LeadingZeros64 x W hd.1 hd.2⟩
 .cases e
theorem Ii:PureOk Tryd.prog 81 uq:=by
 refine y5 ⟨_,Tryd.func81,rfl⟩ fun args nd v e hn σ A W ha=>?_
 unfold uq at e
 split at e
 .rename_i s x s' y
  obtain ⟨rfl,hd⟩:=rF e hn
  obtain ⟨h1,h2,h3,h4⟩:=of_decide_eq_true hd
  obtain ⟨V,L,hL,rfl,V2,L2,hL2,rfl,hL3⟩:=ha
  rw [hL2,show L2=[] from hL3] at hL
  have hA:A=#[.int .u64 x,.int .u64 y]:=by
   apply Array.toList_inj.1; simpa using hL
  subst hA
  refine ⟨.tuple #[.int .u64 (x*y / two64),.int .u64 (x*y % two64)],⟨_,rfl,_,_,rfl,mkInt_rel,_,_,rfl,mkInt_rel,rfl⟩,?_⟩
  have:=Tryd.bits_Mul64 x.toNat y.toNat (by omega) (by omega) W
  rw [Int.toNat_of_nonneg h1,Int.toNat_of_nonneg h3] at this
  have e1:((x.toNat*y.toNat / 18446744073709551616:Nat):Int)=x*y / two64:=by
   rw [Int.natCast_ediv,Int.natCast_mul,Int.toNat_of_nonneg h1,Int.toNat_of_nonneg h3]; rfl
  have e2:((x.toNat*y.toNat % 18446744073709551616:Nat):Int)=x*y % two64:=by
   rw [Int.natCast_emod,Int.natCast_mul,Int.toNat_of_nonneg h1,Int.toNat_of_nonneg h3]; rfl
  rw [e1,e2] at this
  exact this
 .cases e
noncomputable def XT:List (FuncId×bC):=[(93,Ih),(81,uq)]
theorem TZ:Fu Tryd.prog XT:=by
 intro x hx
 simp only [XT,List.mem_cons,List.not_mem_nil,or_false] at hx
 rcases hx with rfl|rfl
 .exact abW
 .exact Ii
noncomputable def cD0:Ctx:=mkC Tryd.prog XT kV
theorem Da:CtxOk cD0:=yZ prog_ok TZ (oL _)
noncomputable def cD:Ctx:={ cD0 with loop:=fun fr a s=>match Nat.beq fr.fn 84 with|true=>u7 (run cD0 60) fr a 3 s|false=>none }
theorem abX:CtxOk cD:=by
 refine ⟨Da.prog,Da.con,Da.ext,fun fr a s q e=>?_,fun _ _ _ _ _ _ _ e=>(by cases e)⟩
 have e:(match Nat.beq fr.fn 84 with|true=>u7 (run cD0 60) fr a 3 s|false=>none)=some q:=e
 split at e
 .exact ve (bL Da 60) 3 s q e
 .cases e
theorem T9 (hi lo y:Int):kN ((run cD 100).call 84 [.int true .u64 hi,.int true .u64 lo,.int true .u64 y] ⟨[],0,1⟩)=some (.p (Ww hi lo y),.tuple [.int true .u64 (TW hi lo y),.int true .u64 (TY hi lo y)]):=by kernel_rfl
def Db:List AV->Option (Nd×AV)
 | [.int s .u64 hi,.int s' .u64 lo,.int s'' .u64 y]=>FQ (s||s'||s'') (decide (0<=hi/\hi<y/\y<18446744073709551616/\0<=lo/\lo<18446744073709551616))
   (.tuple [bB (s||s'||s'') .u64 ((hi*two64+lo) / y),bB (s||s'||s'') .u64 ((hi*two64+lo) % y)])
 | _=>none
theorem XU:PureOk Tryd.prog 84 Db:=by
 refine NE (C:=cD) abX (fun _=>rfl) (n:=100) (fun args nd v e hn=>?_) ⟨_,Tryd.func84,rfl⟩
 unfold Db at e
 split at e
 .rename_i s hi s' lo s'' y
  obtain ⟨rfl,hb⟩:=rF e hn
  obtain ⟨h1,h2,h3,h4,h5⟩:=of_decide_eq_true hb
  refine ⟨[.int true .u64 hi,.int true .u64 lo,.int true .u64 y],_,_,fun σ L h=>h,T9 hi lo y,?_⟩
  obtain ⟨p1,p2,p3⟩:=NY hi.toNat lo.toNat y.toNat (by omega) (by omega) (by omega)
  rw [Int.toNat_of_nonneg h1,Int.toNat_of_nonneg h4,Int.toNat_of_nonneg (show 0<=y by omega)] at p1 p2 p3
  refine ⟨p1,fun τ V hV σ=>?_⟩
  obtain ⟨K,rfl,V1,L1,e1,rfl,V2,L2,e2,rfl,e3⟩:=hV
  rw [show L2=[] from e3] at e2
  rw [e2] at e1
  refine ⟨K,rfl,_,_,e1,?_,_,_,rfl,?_,rfl⟩
  .rw [p2]; exact mkInt_rel
  .rw [p3]; exact mkInt_rel
 .cases e
end Go.Proofs.YtbiiiloimbjpaaaDoor.K
namespace Go.Ar
open Go
def two64:Int:=18446744073709551616
def okF (a:Int):Bool:=decide (-4503599627370496<=a)&&decide (a<=4503599627370496)
def rd (n d:Int) (up:Bool):Int:=bif up then -(-n / d) else n / d
def Dc (v:Int):Int:=bif okF v then v else 0
def De (v:Int):Int:=bif okF v then 0 else 6
def sg (a b:Int):Int:=bif decide (b<0) then -a else a
def okS (a n d:Int):Bool:=okF a&&(decide (-4611686018427387904<=n)&&decide (n<=4611686018427387904)&&decide (1<=d)&&decide (d<=4611686018427387904))
def xC (a:Int):Int:=bif bif decide (a < -4503599627370496) then true else decide (a>4503599627370496) then 2 else 0
def xSz (a:Int):Int:=bif decide (a<0) then IntKind.u64.wrap (IntKind.u64.wrap (IntKind.i64.wrap (0 - IntKind.i64.wrap (a+1)))+1) else IntKind.u64.wrap a
def xHi (p:Int):Int:=p / two64
def xLo (p:Int):Int:=p % two64
def xNo (p d:Int):Bool:=decide (xHi p>=d)
def xN (p d:Int) (up neg:Bool):Int:=bif xNo p d then 0 else
 bif bif !(up==neg) then decide ((xHi p*two64+xLo p) % d>0) else false then IntKind.u64.wrap ((xHi p*two64+xLo p) / d+1) else (xHi p*two64+xLo p) / d
def NZ (p d:Int) (up neg:Bool):Bool:=bif !(bif xNo p d then false else true) then true else decide (xN p d up neg>4503599627370496)
def xV (p d:Int) (up neg:Bool):Int:=bif NZ p d up neg then 0 else bif neg then IntKind.i64.wrap (0 - IntKind.i64.wrap (xN p d up neg)) else IntKind.i64.wrap (xN p d up neg)
def xE (p d:Int) (up neg:Bool):Int:=bif NZ p d up neg then 6 else 0
def N7 (a b:Int):Bool:=!(decide (a<0)==decide (b<0))
def xIn (a b:Int):Prop:=decide (0<=a/\a<18446744073709551616/\0<=b/\b<18446744073709551616)=true
def N8 (p d:Int):Prop:=decide (0<=xHi p/\xHi p<d/\d<18446744073709551616/\0<=xLo p/\xLo p<18446744073709551616)=true
theorem i64w {n:Int} (h0:-9223372036854775808<=n) (h1:n<9223372036854775808):IntKind.i64.wrap n=n:=by rw [IntKind.wrap_i64]; omega
theorem qz {n:Int} (h0:0<=n) (h1:n<18446744073709551616):IntKind.u64.wrap n=n:=by rw [IntKind.wrap_u64]; omega
theorem Ij {a:Int} (h0:-9223372036854775808<=a) (h1:a<9223372036854775808):xSz a=sg a a:=by
 unfold xSz sg
 by_cases h:a<0
 .simp only [h,decide_true,cond_true]
  rw [i64w (n:=a+1) (by omega) (by omega),i64w (n:=0 - (a+1)) (by omega) (by omega),qz (n:=0 - (a+1)) (by omega) (by omega),qz (by omega) (by omega)]
  omega
 .simp only [h,decide_false,cond_false]
  rw [qz (by omega) (by omega)]
theorem Lm (a:Int):0<=sg a a:=by
 unfold sg
 by_cases h:a<0
 .simp only [h,decide_true,cond_true]; omega
 .simp only [h,decide_false,cond_false]; omega
theorem dw {a:Int}:okF a=true ↔ -4503599627370496<=a/\a<=4503599627370496:=by simp [okF]
theorem qh {a:Int}:okF a=false ↔ a < -4503599627370496\/4503599627370496<a:=by
 rw [<- Bool.not_eq_true,dw]; omega
theorem Wy (a:Int):xC a=bif okF a then 0 else 2:=by
 unfold xC
 cases h:okF a with
 | true=>
  have:=dw.1 h
  simp [show ¬ a < -4503599627370496 by omega,show ¬ a>4503599627370496 by omega]
 | false=>
  rcases qh.1 h with h|h
  .simp [h]
  .simp [show ¬ a < -4503599627370496 by omega,h]
theorem Df {p d:Int} (hd:0<d):-p / d=-(p / d) - (if 0<p % d then 1 else 0):=by
 have h1:=Int.mul_ediv_add_emod p d
 have h2:=Int.emod_nonneg p (show d≠0 by omega)
 have h3:=Int.emod_lt_of_pos p hd
 split
 .have h4:(-p) / d=-(p / d) - 1/\(-p) % d=d - p % d:=by
   rw [Int.ediv_emod_unique hd]
   refine ⟨?_,by omega,by omega⟩
   rw [Int.mul_sub,Int.mul_neg]
   omega
  exact h4.1
 .have:p % d=0:=by omega
  have h4:(-p) / d=-(p / d)/\(-p) % d=0:=by
   rw [Int.ediv_emod_unique hd]
   refine ⟨?_,by omega,by omega⟩
   rw [Int.mul_neg]
   omega
  omega
theorem abY {p d:Int} (hp:0<=p) (hp':p<340282366920938463463374607431768211456) (hd:0<d) (hd':d<18446744073709551616) (up neg:Bool) (n:Int) (hn:n=bif neg then -p else p) (hx:p<18446744073709551615*d\/(!(up==neg))=false):
  xV p d up neg=Dc (rd n d up)/\xE p d up neg=De (rd n d up)/\(xNo p d=false->N8 p d):=by
 have e1:xHi p*two64+xLo p=p:=by unfold xHi xLo; have:=Int.mul_ediv_add_emod p two64; rw [Int.mul_comm] at this; exact this
 have l0:0<=xLo p:=Int.emod_nonneg p (by decide)
 have l1:xLo p<18446744073709551616:=Int.emod_lt_of_pos p (by decide)
 have h0:0<=xHi p:=Int.ediv_nonneg hp (by decide)
 have q0:0<=p / d:=Int.ediv_nonneg hp (by omega)
 have r0:=Int.emod_nonneg p (show d≠0 by omega)
 have rv:rd n d up=bif neg then -(p / d+(if (!(up==neg))=true/\0<p % d then 1 else 0)) else p / d+(if (!(up==neg))=true/\0<p % d then 1 else 0):=by
  subst hn
  unfold rd
  cases neg <;> cases up <;> simp [Df hd] <;> split <;> omega
 by_cases hno:xHi p>=d
 .-- the quotient does not fit
  have e2:xNo p d=true:=by simp [xNo,hno]
  have big:18446744073709551616<=p / d:=by
   rw [Int.le_ediv_iff_mul_le hd]
   have h2:d*two64<=xHi p*two64:=Int.mul_le_mul_of_nonneg_right hno (by decide)
   have h3:(18446744073709551616:Int)*d=d*two64:=by rw [Int.mul_comm]; rfl
   omega
  have hb:NZ p d up neg=true:=by simp [NZ,e2]
  have hf:okF (rd n d up)=false:=by
   rw [qh,rv]
   cases neg <;> simp <;> split <;> omega
  refine ⟨by simp [xV,hb,Dc,hf],by simp [xE,hb,De,hf],fun h=>by rw [e2] at h; cases h⟩
 .have e2:xNo p d=false:=by simp [xNo]; omega
  have hlt:p<d*18446744073709551616:=by
   have h2:(xHi p+1)*two64<=d*two64:=Int.mul_le_mul_of_nonneg_right (by omega) (by decide)
   rw [Int.add_mul] at h2
   unfold two64 at *
   omega
  have q1:p / d<18446744073709551616:=by
   rw [Int.ediv_lt_iff_lt_mul hd]
   rw [Int.mul_comm]; exact hlt
  have ex:xV p d up neg=Dc (rd n d up)/\xE p d up neg=De (rd n d up):=by
   have hN:xN p d up neg=p / d+(if (!(up==neg))=true/\0<p % d then 1 else 0):=by
    unfold xN
    rw [e2,e1]
    cases hu:!(up==neg) with
    | false=>simp
    | true=>
     by_cases hr:0<p % d
     .simp only [cond_true,cond_false,hr,decide_true,gt_iff_lt,and_self,if_true]
      rw [qz (by omega)]
      have:p / d≠18446744073709551615:=by
       intro hq
       have h5:p / d*d<=p:=Int.ediv_mul_le p (by omega)
       rw [hq] at h5
       rcases hx with hx|hx
       .omega
       .rw [hu] at hx; cases hx
      omega
     .simp [hr]
   generalize hk:p / d+(if (!(up==neg))=true/\0<p % d then 1 else 0)=k at hN rv
   have k0:0<=k:=by rw [<- hk]; split <;> omega
   unfold xV xE NZ
   rw [e2,hN,rv]
   by_cases hb:k>4503599627370496
   .have hf:okF (bif neg then -k else k)=false:=by
     rw [qh]
     cases neg <;> simp <;> omega
    simp [hb,Dc,De,hf]
   .have hf:okF (bif neg then -k else k)=true:=by
     rw [dw]
     cases neg <;> simp <;> omega
    simp only [hb,decide_false,cond_true,cond_false,Bool.not_true,Dc,De,hf]
    refine ⟨?_,trivial⟩
    rw [i64w (n:=k) (by omega) (by omega),i64w (n:=0 - k) (by omega) (by omega)]
    cases neg <;> simp
  refine ⟨ex.1,ex.2,fun _=>?_⟩
  unfold N8
  rw [decide_eq_true_eq]
  exact ⟨h0,by omega,hd',l0,l1⟩
def Ik (a n d:Int):Bool:=bif xC a != 0 then true else bif decide (n < -4611686018427387904) then true else bif decide (n>4611686018427387904) then true else bif decide (d<1) then true else decide (d>4611686018427387904)
def Dh (a n d:Int) (up:Bool):Int:=bif Ik a n d then 0 else xV (xSz a*xSz n) (IntKind.u64.wrap d) up (N7 a n)
def jE (a n d:Int) (up:Bool):Int:=bif Ik a n d then 2 else xE (xSz a*xSz n) (IntKind.u64.wrap d) up (N7 a n)
def XV (a n d:Int):Prop:=(!Ik a n d)=true->(d=d/\n=n)/\d=d/\xIn (xSz a) (xSz n)/\d=d/\((!xNo (xSz a*xSz n) (IntKind.u64.wrap d))=true->N8 (xSz a*xSz n) (IntKind.u64.wrap d))
theorem eP (a:Int):(a<0/\sg a a=-a)\/(0<=a/\sg a a=a):=by
 unfold sg
 by_cases h:a<0
 .left; simp [h]
 .right; simp [h]; omega
theorem N9 (a b:Int):a*b=bif N7 a b then -(sg a a*sg b b) else sg a a*sg b b:=by
 unfold N7 sg
 by_cases h:a<0 <;> by_cases k:b<0 <;> simp [h,k,Int.neg_mul,Int.mul_neg]
theorem Oa {p d:Int} (hp:0<=p) (hd':d<18446744073709551616) (h:xNo p d=false):N8 p d:=by
 unfold N8
 rw [decide_eq_true_eq]
 simp [xNo] at h
 exact ⟨Int.ediv_nonneg hp (by decide),by omega,hd',Int.emod_nonneg p (by decide),Int.emod_lt_of_pos p (by decide)⟩
theorem rG {a b:Int} (ha:0<=a) (ha':a<18446744073709551616) (hb:0<=b) (hb':b<18446744073709551616):xIn a b:=by
 unfold xIn; rw [decide_eq_true_eq]; exact ⟨ha,ha',hb,hb'⟩
theorem Ob {a:Int} (h:okF a=true):xSz a=sg a a/\0<=sg a a/\sg a a<=4503599627370496:=by
 have h:=dw.1 h
 refine ⟨Ij (by omega) (by omega),Lm a,?_⟩
 rcases eP a with ⟨_,e⟩|⟨_,e⟩ <;> omega
theorem Di (a n d:Int):Ik a n d=!okS a n d:=by
 unfold Ik okS
 rw [Wy]
 rw [Bool.eq_iff_iff]
 cases okF a with
 | false=>simp
 | true=>
  simp only [cond_true,bne_self_eq_false,cond_false,Bool.true_and,Bool.not_eq_true',Bool.and_eq_false_iff,decide_eq_false_iff_not]
  by_cases h1:n < -4611686018427387904
  .simp [h1]
  .by_cases h2:n>4611686018427387904
   .simp [h1,h2]
   .by_cases h3:d<1
    .simp [h1,h2,h3]
    .simp [h1,h2,h3] <;> omega
theorem FR (a n d:Int):XV a n d:=by
 intro h
 rw [Di,Bool.not_not] at h
 simp only [okS,Bool.and_eq_true,decide_eq_true_eq] at h
 obtain ⟨ha,⟨⟨n1,n2⟩,d1⟩,d2⟩:=h
 obtain ⟨a1,a2,a3⟩:=Ob ha
 have e1:xSz n=sg n n:=Ij (by omega) (by omega)
 have e2:=eP n
 rw [a1,e1,qz (n:=d) (by omega) (by omega)]
 refine ⟨⟨rfl,rfl⟩,rfl,rG a2 (by omega) (by omega) (by omega),rfl,fun hn=>?_⟩
 exact Oa (Int.mul_nonneg a2 (by omega)) (by omega) (by simpa using hn)
theorem zy (v:Int):(De v=0/\okF v=true/\Dc v=v)\/(De v=6/\okF v=false/\Dc v=0):=by
 unfold De Dc
 cases okF v <;> simp
def sqQ (i r:Int):Int:=IntKind.u64.wrap ↑(BitVec.ofInt IntKind.u64.bits r ||| BitVec.ofInt IntKind.u64.bits (IntKind.u64.wrap (1*2 ^ min (IntKind.i64.wrap (42 - i)).toNat IntKind.u64.bits))).toNat
def XW (H L t:Int):Bool:=bif decide (xHi (t*t)<H) then true else bif xHi (t*t)==H then decide (xLo (t*t)<=L) else false
def vF (H L i r:Int):Int:=bif XW H L (sqQ i r) then sqQ i r else r
def l7 (H L:Int):Nat->Int->Int->Int
 | 0,_,r=>r
 | n+1,i,r=>l7 H L n (IntKind.i64.wrap (i+1)) (vF H L i r)
theorem Lp (n:Int):0<=IntKind.u64.wrap n/\IntKind.u64.wrap n<18446744073709551616:=by
 rw [IntKind.wrap_u64]; omega
end Go.Ar
namespace Go.Proofs.YtbiiiloimbjpaaaDoor.K
open Go Go.Eng Go.Ar
noncomputable def XX:List (FuncId×bC):=[(81,uq),(84,Db)]
theorem Ua:Fu Tryd.prog XX:=by
 intro x hx
 simp only [XX,List.mem_cons,List.not_mem_nil,or_false] at hx
 rcases hx with rfl|rfl
 .exact Ii
 .exact XU
noncomputable def c1:Ctx:=mkC Tryd.prog XX ext
theorem FT:CtxOk c1:=yZ prog_ok Ua ext_ok
theorem Af (a n d:Int):kN ((run c1 300).call 41 [.int true .i64 a,.int true .i64 n,.int true .i64 d] ⟨[],0,1⟩)=some (.p (XV a n d),.tuple [.int true .i64 (Dh a n d false),.int true .i64 (jE a n d false)]):=by kernel_rfl
theorem FU (a n d:Int):kN ((run c1 300).call 42 [.int true .i64 a,.int true .i64 n,.int true .i64 d] ⟨[],0,1⟩)=some (.p (XV a n d),.tuple [.int true .i64 (Dh a n d true),.int true .i64 (jE a n d true)]):=by kernel_rfl
end Go.Proofs.YtbiiiloimbjpaaaDoor.K
namespace Go.Proofs.YtbiiiloimbjpaaaDoor.K
open Go Go.Eng Go.Ar
noncomputable section
def sqS (up:Bool) (H L:Int):St:=⟨[⟨0,.bool false up⟩,⟨0,.ptr 0 0⟩,⟨0,.tuple []⟩,⟨61,.int false .u64 0⟩,⟨62,.bool false false⟩,⟨63,.int false .u64 0⟩,⟨0,.tuple []⟩,⟨0,.tuple []⟩,⟨64,.int false .i64 0⟩,
 ⟨0,.tuple []⟩,⟨0,.tuple []⟩,⟨0,.tuple []⟩,⟨0,.tuple []⟩,⟨0,.tuple []⟩,⟨0,.tuple []⟩,⟨0,.tuple []⟩,⟨0,.tuple []⟩,⟨0,.tuple []⟩,⟨0,.tuple []⟩,⟨0,.tuple []⟩,⟨0,.tuple []⟩,⟨0,.tuple []⟩,⟨0,.tuple []⟩,⟨0,.tuple []⟩,⟨0,.tuple []⟩,⟨0,.tuple []⟩,⟨0,.tuple []⟩,⟨0,.tuple []⟩,⟨0,.tuple []⟩,⟨0,.tuple []⟩,⟨0,.tuple []⟩,⟨0,.tuple []⟩,⟨0,.tuple []⟩,⟨0,.tuple []⟩],[],
 ⟨[⟨48,.cells [.int true .u64 H,.int true .u64 L]⟩],1,65⟩⟩
def sqP (i r:Int):Patch:=⟨[(5,.int true .u64 r),(8,.int true .i64 i),(6,.any false),(7,.any false),(9,.any false),(10,.any false),(11,.any false),(12,.any false),(13,.any false),(14,.any false),(15,.any false),(16,.any false),(17,.any false),(18,.any false),(19,.any false),(20,.any false),(21,.any false),(22,.any false)],[],[]⟩
def sqO (r:Int):Patch:=⟨[(5,.int true .u64 r),(8,.any false),(6,.any false),(7,.any false),(9,.any false),(10,.any false),(11,.any false),(12,.any false),(13,.any false),(14,.any false),(15,.any false),(16,.any false),(17,.any false),(18,.any false),(19,.any false),(20,.any false),(21,.any false),(22,.any false)],[],[]⟩
def Oc:AFr:=⟨69,none⟩
noncomputable def sqA:Code:=iX Tryd.prog 69 0
def sqU (H L:Int):Sum (Int×Int):=
 {
  S:=fun y=>sqP y.1 y.2
  I:=fun y=>0<=y.1/\y.1<=43
  μ:=fun y=>(43 - y.1).toNat
  F:=fun y=>(.exit 0,sqO (l7 H L (43 - y.1).toNat y.1 y.2))
  next:=fun y=>(IntKind.i64.wrap (y.1+1),vF H L y.1 y.2)
  ids:=[]
  X:=fun y _=>some (sqO y.2,[]) }
def abZ (H L i r:Int):Prop:=
 (decide (i<43)=true->0<=IntKind.i64.wrap (42 - i)/\xIn (sqQ i r) (sqQ i r)/\H=H/\L=L) /\
 ((!decide (i<43))=true->r=r/\(sqU H L).F (i,r)=(.exit 0,sqO r)) /\
 (decide (i<43)=true->(vF H L i r=vF H L i r/\IntKind.i64.wrap (i+1)=IntKind.i64.wrap (i+1)) /\
  (sqU H L).I ((sqU H L).next (i,r))/\(sqU H L).μ ((sqU H L).next (i,r))<(sqU H L).μ (i,r)/\(sqU H L).F ((sqU H L).next (i,r))=(sqU H L).F (i,r))
theorem XY (up:Bool) (H L i r:Int):d9 (sqS up H L) ((sqU H L).way (i,r)) ((run c1 300).code Oc sqA (ah (sqS up H L) ((sqU H L).S (i,r))))=some (.p (abZ H L i r)):=by kernel_rfl
end
end Go.Proofs.YtbiiiloimbjpaaaDoor.K
namespace Go.Ar
open Go
theorem XZ (i k:Nat) (hi:i<=42) (hr:2 ^ (43 - i)*k<2 ^ 43):sqQ (i:Int) ((2 ^ (43 - i)*k:Nat):Int)=((2 ^ (43 - i)*k+2 ^ (42 - i):Nat):Int):=by
 have e1:IntKind.i64.wrap (42 - (i:Int))=((42 - i:Nat):Int):=by rw [i64w (by omega) (by omega)]; omega
 have e2:min (((42 - i:Nat):Int)).toNat IntKind.u64.bits=42 - i:=by
  rw [Int.toNat_natCast]; exact Nat.min_eq_left (Nat.le_trans (Nat.sub_le _ _) (by decide))
 have p1:2 ^ (42 - i)<=2 ^ 42:=Nat.pow_le_pow_right (by decide) (by omega)
 have e3:IntKind.u64.wrap (1*2 ^ (42 - i))=((2 ^ (42 - i):Nat):Int):=by
  rw [Int.one_mul,show (2:Int) ^ (42 - i)=((2 ^ (42 - i):Nat):Int) from (Int.natCast_pow 2 _).symm]
  generalize 2 ^ (42 - i)=P at p1
  exact qz (by omega) (by omega)
 unfold sqQ
 rw [e1,e2,e3]
 rw [Go.Eng.dOr_eq _ _ (by omega) (by omega)]
 congr 1
 rw [<- Nat.two_pow_add_eq_or_of_lt (Nat.pow_lt_pow_right (by decide) (by omega)) k]
theorem Ub (t n:Nat) (ht:t<18446744073709551616):XW (xHi (n:Int)) (xLo (n:Int)) (t:Int)=decide (t*t<=n):=by
 unfold XW xHi xLo two64
 have e1:((t:Int)*t) / 18446744073709551616=((t*t / 18446744073709551616:Nat):Int):=by rw [Int.natCast_ediv,Int.natCast_mul]; rfl
 have e2:((t:Int)*t) % 18446744073709551616=((t*t % 18446744073709551616:Nat):Int):=by rw [Int.natCast_emod,Int.natCast_mul]; rfl
 have e3:(n:Int) / 18446744073709551616=((n / 18446744073709551616:Nat):Int):=by rw [Int.natCast_ediv]; rfl
 have e4:(n:Int) % 18446744073709551616=((n % 18446744073709551616:Nat):Int):=by rw [Int.natCast_emod]; rfl
 rw [e1,e2,e3,e4]
 generalize t*t=m
 rw [Bool.eq_iff_iff]
 by_cases h1:m / 18446744073709551616<n / 18446744073709551616
 .have:((m / 18446744073709551616:Nat):Int)<((n / 18446744073709551616:Nat):Int):=by omega
  simp only [this,decide_true,cond_true,true_iff,decide_eq_true_eq]
  omega
 .have:¬ ((m / 18446744073709551616:Nat):Int)<((n / 18446744073709551616:Nat):Int):=by omega
  simp only [this,decide_false,cond_false,decide_eq_true_eq]
  by_cases h2:m / 18446744073709551616=n / 18446744073709551616
  .rw [h2]
   simp only [beq_self_eq_true,cond_true,decide_eq_true_eq]
   omega
  .have:(((m / 18446744073709551616:Nat):Int)==((n / 18446744073709551616:Nat):Int))=false:=by
    rw [beq_eq_false_iff_ne]; omega
   rw [this]
   simp only [cond_false,Bool.false_eq_true,false_iff]
   omega
theorem rH (n:Nat):∀ (m i k:Nat),i+m=43->2 ^ (43 - i)*k<2 ^ 43->(2 ^ (43 - i)*k)*(2 ^ (43 - i)*k)<=n->n<(2 ^ (43 - i)*k+2 ^ (43 - i))*(2 ^ (43 - i)*k+2 ^ (43 - i)) ->
  ∃ r:Nat,l7 (xHi (n:Int)) (xLo (n:Int)) m (i:Int) ((2 ^ (43 - i)*k:Nat):Int)=(r:Int)/\r*r<=n/\n<(r+1)*(r+1)/\r<2 ^ 43
 | 0,i,k,hi,h1,h2,h3=>by
  have:i=43:=by omega
  subst this
  exact ⟨2 ^ (43 - 43)*k,rfl,h2,h3,h1⟩
 | m+1,i,k,hi,h1,h2,h3=>by
  have p:2 ^ (43 - i)=2*2 ^ (43 - (i+1)):=by
   rw [show 43 - i=(43 - (i+1))+1 by omega,Nat.pow_succ]; omega
  have e1:IntKind.i64.wrap ((i:Int)+1)=((i+1:Nat):Int):=by rw [i64w (by omega) (by omega)]; omega
  have e2:=XZ i k (by omega) h1
  rw [show 42 - i=43 - (i+1) by omega] at e2
  simp only [l7]
  rw [e1]
  unfold vF
  rw [e2]
  generalize hq:2 ^ (43 - (i+1))=q at *
  have hq1:1<=q:=by rw [<- hq]; exact Nat.one_le_two_pow
  have hb:2 ^ (43 - i)*k+q<2 ^ 43:=by
   rw [p]
   have h4:2 ^ (43 - i)*(2 ^ i)=2 ^ 43:=by rw [<- Nat.pow_add]; congr 1; omega
   rw [p] at h4
   have:k<2 ^ i:=by
    rw [p,<- h4] at h1
    exact Nat.lt_of_mul_lt_mul_left h1
   have h5:2*q*(k+1)<=2*q*2 ^ i:=Nat.mul_le_mul_left _ this
   rw [h4,Nat.mul_add] at h5
   omega
  rw [Ub _ n (by omega)]
  by_cases h:(2 ^ (43 - i)*k+q)*(2 ^ (43 - i)*k+q)<=n
  .rw [decide_eq_true h,cond_true]
   have hk:2 ^ (43 - i)*k+q=q*(2*k+1):=by rw [p,Nat.mul_add,Nat.mul_one,<- Nat.mul_assoc,Nat.mul_comm q 2]
   have hs:q*(2*k+1)+q=2 ^ (43 - i)*k+2 ^ (43 - i):=by rw [<- hk,p]; omega
   rw [hk] at h hb ⊢
   have:=rH n m (i+1) (2*k+1) (by omega) (by rw [hq]; exact hb) (by rw [hq]; exact h) (by rw [hq,hs]; exact h3)
   rw [hq] at this
   exact this
  .rw [decide_eq_false h,cond_false]
   have hk:2 ^ (43 - i)*k=q*(2*k):=by rw [p,<- Nat.mul_assoc,Nat.mul_comm q 2]
   rw [hk] at h h1 h2 ⊢
   have:=rH n m (i+1) (2*k) (by omega) (by rw [hq]; exact h1) (by rw [hq]; exact h2) (by rw [hq]; omega)
   rw [hq] at this
   exact this
theorem Uc (a:Nat) (ha:a<=4503599627370496):∃ r:Nat,l7 (xHi (IntKind.u64.wrap a*4294967296)) (xLo (IntKind.u64.wrap a*4294967296)) 43 0 0=(r:Int)/\r*r<=a*4294967296/\a*4294967296<(r+1)*(r+1)/\r<2 ^ 43:=by
 rw [qz (n:=(a:Int)) (by omega) (by omega)]
 have:=rH (a*4294967296) 43 0 0 rfl (by decide) (by omega) (by simp; omega)
 simpa using this
def l8 (a:Int):Int:=IntKind.u64.wrap a*4294967296
def sqR (a:Int):Int:=l7 (xHi (l8 a)) (xLo (l8 a)) 43 0 0
def Bq (a:Int):Bool:=bif xC a != 0 then true else decide (a<0)
def Od (a:Int):Int:=bif !(sqR a*sqR a / two64==xHi (l8 a)&&(sqR a*sqR a % two64==xLo (l8 a)&&true)) then IntKind.u64.wrap (sqR a+1) else sqR a
def vG (a:Int) (up:Bool):Int:=bif Bq a then 0 else bif decide ((bif up then Od a else sqR a)>4503599627370496) then 0 else IntKind.i64.wrap (bif up then Od a else sqR a)
def Oe (a:Int) (up:Bool):Int:=bif Bq a then 2 else bif decide ((bif up then Od a else sqR a)>4503599627370496) then 6 else 0
def rtV (a:Int) (up:Bool):Int:=bif up&&!(sqR a*sqR a==a*4294967296) then sqR a+1 else sqR a
def kP (a:Int):Bool:=okF a&&decide (0<=a)
def Og (a:Int) (up:Bool):Int:=bif kP a then rtV a up else 0
def Wz (a:Int):Int:=bif kP a then 0 else 2
theorem FV (a:Int):Bq a=!kP a:=by
 unfold Bq kP
 rw [Wy]
 cases okF a with
 | false=>simp
 | true=>by_cases h:a<0 <;> simp [h] <;> omega
theorem kH {a:Int} (h:kP a=true):0<=sqR a/\sqR a*sqR a<=a*4294967296/\a*4294967296<(sqR a+1)*(sqR a+1)/\sqR a<8796093022208:=by
 simp only [kP,Bool.and_eq_true,decide_eq_true_eq] at h
 obtain ⟨h1,h2⟩:=h
 have h1:=dw.1 h1
 obtain ⟨r,e,r1,r2,r3⟩:=Uc a.toNat (by omega)
 rw [Int.toNat_of_nonneg h2] at e
 have e:sqR a=r:=e
 rw [e]
 have c1:((r*r:Nat):Int)=(r:Int)*r:=Int.natCast_mul r r
 have c2:(((r+1)*(r+1):Nat):Int)=((r:Int)+1)*(r+1):=by rw [Int.natCast_mul]; rfl
 refine ⟨by omega,by omega,by omega,by omega⟩
theorem JU (a:Int) (up:Bool):vG a up=Og a up/\Oe a up=Wz a:=by
 unfold vG Oe Og Wz
 rw [FV]
 cases h:kP a with
 | false=>simp
 | true=>
  obtain ⟨r0,r1,r2,r3⟩:=kH h
  simp only [kP,Bool.and_eq_true,decide_eq_true_eq] at h
  obtain ⟨h1,h2⟩:=h
  have h1:=dw.1 h1
  have key:(bif up then Od a else sqR a)=rtV a up:=by
   cases up with
   | false=>rfl
   | true=>
    have e0:l8 a=a*4294967296:=by unfold l8; rw [qz (by omega) (by omega)]
    have:(sqR a*sqR a / two64==xHi (l8 a)&&(sqR a*sqR a % two64==xLo (l8 a)&&true))=(sqR a*sqR a==a*4294967296):=by
     rw [e0]
     unfold xHi xLo two64
     rw [Bool.eq_iff_iff]
     simp only [Bool.and_true,Bool.and_eq_true,beq_iff_eq]
     omega
    unfold Od rtV
    rw [this,qz (by omega) (by omega)]
    rfl
  rw [key]
  have hb:0<=rtV a up/\rtV a up<=8796093022208:=by
   unfold rtV
   cases up&&!(sqR a*sqR a==a*4294967296) <;> simp <;> omega
  simp only [Bool.not_true,cond_false,cond_true]
  rw [decide_eq_false (by omega),i64w (by omega) (by omega)]
  exact ⟨rfl,rfl⟩
end Go.Ar
namespace Go.Ar
open Go Go.Eng
noncomputable section
def two (a b:Int):Tm:=.u [.n .i64 a,.n .i64 b]
def Dj (up:Bool):bC:=bG [.i .i64,.i .i64,.i .i64] none fun
 | [.n a,.n n,.n d]=>two (Dh a n d up) (jE a n d up)
 | _=>.u []
def JV (up:Bool):bC:=bG [.i .i64] none fun
 | [.n a]=>two (vG a up) (Oe a up)
 | _=>.u []
end
end Go.Ar
namespace Go.Proofs.YtbiiiloimbjpaaaDoor.K
open Go Go.Eng Go.Ar
noncomputable section
theorem Oh (up:Bool) (H L:Int):fit (sqS up H L) (sqS up H L) (ah (sqS up H L) ((sqU H L).S (0,0))) []=some (.p ((0:Int)=0/\(0:Int)=0)):=by kernel_rfl
theorem ab0 (H L i r:Int) (h:0<=i/\i<=43):abZ H L i r:=by
 refine ⟨fun hi=>?_,fun hi=>⟨rfl,?_⟩,fun hi=>⟨⟨rfl,rfl⟩,?_⟩⟩
 .have hi:=of_decide_eq_true hi
  refine ⟨by rw [i64w (by omega) (by omega)]; omega,?_,rfl,rfl⟩
  have:=Lp (↑(BitVec.ofInt IntKind.u64.bits r ||| BitVec.ofInt IntKind.u64.bits (IntKind.u64.wrap (1*2 ^ min (IntKind.i64.wrap (42 - i)).toNat IntKind.u64.bits))).toNat)
  exact rG this.1 this.2 this.1 this.2
 .have:i=43:=by simp at hi; omega
  subst this
  rfl
 .have hi:=of_decide_eq_true hi
  have e:IntKind.i64.wrap (i+1)=i+1:=i64w (by omega) (by omega)
  have e2:(43 - i).toNat=(43 - (i+1)).toNat+1:=by omega
  refine ⟨?_,?_,?_⟩
  .show 0<=IntKind.i64.wrap (i+1)/\IntKind.i64.wrap (i+1)<=43
   rw [e]; omega
  .show (43 - IntKind.i64.wrap (i+1)).toNat<(43 - i).toNat
   rw [e]; omega
  .show (Ex.exit 0,sqO (l7 H L (43 - IntKind.i64.wrap (i+1)).toNat (IntKind.i64.wrap (i+1)) (vF H L i r)))=(Ex.exit 0,sqO (l7 H L (43 - i).toNat i r))
   rw [e2,l7,e]
theorem Ud (up:Bool) (H L:Int):CodeOk c1 Oc (.loop sqA) (sqS up H L) ⟨.tt,[⟨.tt,.exit 0,ah (sqS up H L) (sqO (l7 H L 43 0 0))⟩]⟩:=by
 have hF:(sqU H L).F (0,0)=(.exit 0,sqO (l7 H L 43 0 0)):=by
  show (Ex.exit 0,sqO (l7 H L (43 - (0:Int)).toNat 0 0))=_
  rw [show (43 - (0:Int)).toNat=43 from by decide]
 have h0:fU (sqS up H L).hp ((sqU H L).S (0,0)).old=true:=by kernel_rfl
 have h1:(sqU H L).I (0,0):=⟨by decide,by decide⟩
 exact TN (bL FT 300) (sqU H L) h1 ⟨_,Oh up H L,rfl,rfl⟩ h0 (fun y hy=>⟨_,XY up H L y.1 y.2,ab0 H L y.1 y.2 hy⟩) hF
noncomputable def c1s (up:Bool) (a:Int):Ctx:=bg c1 [bY 69 65 Oc sqA (sqS up (xHi (l8 a)) (xLo (l8 a))) (.exit 0) (sqO (l7 (xHi (l8 a)) (xLo (l8 a)) 43 0 0))]
theorem Oi (up:Bool) (a:Int):CtxOk (c1s up a):=aO FT (Ud up _ _) (cK FT)
def ab1 (up:Bool) (a:Int):Prop:=At Oc Oc sqA sqA (sqS up (xHi (l8 a)) (xLo (l8 a))) (sqS up (xHi (l8 a)) (xLo (l8 a)))
def WA (a:Int):Prop:=(!Bq a)=true->xIn (IntKind.u64.wrap a) 4294967296/\ab1 false a
def WB (a:Int):Prop:=(!Bq a)=true->xIn (IntKind.u64.wrap a) 4294967296/\ab1 true a/\xIn (sqR a) (sqR a)/\xHi (l8 a)=xHi (l8 a)/\xLo (l8 a)=xLo (l8 a)
theorem Il (a:Int):kN ((run (c1s false a) 300).call 43 [.int true .i64 a] ⟨[],0,1⟩)=some (.p (WA a),.tuple [.int true .i64 (vG a false),.int true .i64 (Oe a false)]):=by kernel_rfl
theorem Oj (a:Int):kN ((run (c1s true a) 300).call 44 [.int true .i64 a] ⟨[],0,1⟩)=some (.p (WB a),.tuple [.int true .i64 (vG a true),.int true .i64 (Oe a true)]):=by kernel_rfl
theorem Br (a:Int):WB a:=by
 intro h
 rw [FV,Bool.not_not] at h
 obtain ⟨r0,r1,r2,r3⟩:=kH h
 simp only [kP,Bool.and_eq_true,decide_eq_true_eq] at h
 have h1:=dw.1 h.1
 rw [qz (n:=a) (by omega) (by omega)]
 exact ⟨rG (by omega) (by omega) (by decide) (by decide),⟨rfl,rfl,rfl⟩,rG (by omega) (by omega) (by omega) (by omega),rfl,rfl⟩
theorem Lr (a:Int):WA a:=fun h=>⟨(Br a h).1,rfl,rfl,rfl⟩
theorem Dk:PureOk Tryd.prog 41 (Dj false):=by
 refine lF (fun xs hk _=>?_) ⟨_,Tryd.func41,rfl⟩
 obtain ⟨a,_,rfl,h1⟩:=kn hk; obtain ⟨n,_,rfl,h2⟩:=kn h1; obtain ⟨d,_,rfl,h3⟩:=kn h2; obtain rfl:=k0 h3
 exact ⟨c1,300,_,FT,rfl,fun _=>rfl,rfl,Af a n d,FR a n d⟩
theorem Im:PureOk Tryd.prog 42 (Dj true):=by
 refine lF (fun xs hk _=>?_) ⟨_,Tryd.func42,rfl⟩
 obtain ⟨a,_,rfl,h1⟩:=kn hk; obtain ⟨n,_,rfl,h2⟩:=kn h1; obtain ⟨d,_,rfl,h3⟩:=kn h2; obtain rfl:=k0 h3
 exact ⟨c1,300,_,FT,rfl,fun _=>rfl,rfl,FU a n d,FR a n d⟩
theorem FW:PureOk Tryd.prog 43 (JV false):=by
 refine lF (fun xs hk _=>?_) ⟨_,Tryd.func43,rfl⟩
 obtain ⟨a,_,rfl,h1⟩:=kn hk; obtain rfl:=k0 h1
 exact ⟨c1s false a,300,_,Oi false a,rfl,fun _=>rfl,rfl,Il a,Lr a⟩
theorem Ls:PureOk Tryd.prog 44 (JV true):=by
 refine lF (fun xs hk _=>?_) ⟨_,Tryd.func44,rfl⟩
 obtain ⟨a,_,rfl,h1⟩:=kn hk; obtain rfl:=k0 h1
 exact ⟨c1s true a,300,_,Oi true a,rfl,fun _=>rfl,rfl,Oj a,Br a⟩
noncomputable def Ue:List (FuncId×bC):=[(41,Dj false),(42,Dj true),(43,JV false),(44,JV true),(81,uq)]
theorem JW:Fu Tryd.prog Ue:=by
 intro x hx
 simp only [Ue,List.mem_cons,List.not_mem_nil,or_false] at hx
 rcases hx with rfl|rfl|rfl|rfl|rfl
 .exact Dk
 .exact Im
 .exact FW
 .exact Ls
 .exact Ii
noncomputable def c2:Ctx:=mkC Tryd.prog Ue ext
theorem FX:CtxOk c2:=yZ prog_ok JW ext_ok
end
end Go.Proofs.YtbiiiloimbjpaaaDoor.K
namespace Go.Ar
open Go
structure Sp where
 lo:Int
 hi:Int
 e:Int
def err (e:Int):Sp:=⟨0,0,e⟩
def aS (a b:Int):Bool:=decide (-4503599627370496<=a)&&(decide (a<=b)&&decide (b<=4503599627370496))
def fw (lo hi:Int):Sp:=bif okF lo&&okF hi then ⟨lo,hi,0⟩ else err 6
def mn (a b:Int):Int:=bif decide (b<a) then b else a
def mx (a b:Int):Int:=bif decide (a<b) then b else a
def Dl (a b c d:Int) (r:Sp):Sp:=bif aS a b&&aS c d then r else err 20
def eU (a b c d:Int):Sp:=Dl a b c d (fw (a+c) (b+d))
def abL (a b:Int):Int:=mx (mx a (-b)) 0
def abH (a b:Int):Int:=mx b (-a)
def jv (a b:Int):Sp:=bif aS a b then fw (rd (abL a b*abL a b) 4294967296 false) (rd (abH a b*abH a b) 4294967296 true) else err 20
def kW (a b:Int):Sp:=bif aS a b then (bif decide (a<0) then err 2 else ⟨rtV a false,rtV b true,0⟩) else err 20
def okR (n d:Int):Bool:=decide (-4611686018427387904<=n)&&decide (n<=4611686018427387904)&&decide (1<=d)&&decide (d<=4611686018427387904)
def fV (a b n d:Int):Sp:=bif aS a b then (bif okR n d then fw (rd (mn (a*n) (b*n)) d false) (rd (mx (a*n) (b*n)) d true) else err 2) else err 20
def xCS (a b:Int):Int:=bif bif decide (a < -4503599627370496) then true else bif decide (a>b) then true else decide (b>4503599627370496) then 20 else 0
def JX (a b c d:Int):Int:=bif !(xCS a b != 0)&&!(xCS c d != 0) then 0 else bif xCS a b != 0 then xCS a b else xCS c d
def xTb (l h:Int):Bool:=bif decide (l < -4503599627370496) then true else decide (h>4503599627370496)
def Ol (g l h:Int):Sp:=⟨bif g != 0 then 0 else bif xTb l h then 0 else l,bif g != 0 then 0 else bif xTb l h then 0 else h,bif g != 0 then g else bif xTb l h then 6 else 0⟩
def Om (a b c d:Int):Sp:=Ol (JX a b c d) (IntKind.i64.wrap (a+c)) (IntKind.i64.wrap (b+d))
def Io (a b:Int):Sp:=
 ⟨bif xCS a b != 0 then 0 else bif decide (a<0) then 0 else bif xTb (vG a false) (vG b true) then 0 else vG a false,
  bif xCS a b != 0 then 0 else bif decide (a<0) then 0 else bif xTb (vG a false) (vG b true) then 0 else vG b true,
  bif xCS a b != 0 then xCS a b else bif decide (a<0) then 2 else bif xTb (vG a false) (vG b true) then 6 else 0⟩
def tL (low lo:Int):Int:=bif decide (low<lo) then low else lo
def tH (low lo hi:Int):Int:=bif decide (low<lo) then hi else hi
def nL (low high lo hi:Int):Int:=bif decide (high>tH low lo hi) then tL low lo else tL low lo
def nH (low high lo hi:Int):Int:=bif decide (high>tH low lo hi) then high else tH low lo hi
def l1 (V:Int->Int->Bool->Int) (a c d:Int):Int:=nL (V a d false) (V a d true) (V a c false) (V a c true)
def h1 (V:Int->Int->Bool->Int) (a c d:Int):Int:=nH (V a d false) (V a d true) (V a c false) (V a c true)
def l2 (V:Int->Int->Bool->Int) (a b c d:Int):Int:=nL (V b c false) (V b c true) (l1 V a c d) (h1 V a c d)
def h2 (V:Int->Int->Bool->Int) (a b c d:Int):Int:=nH (V b c false) (V b c true) (l1 V a c d) (h1 V a c d)
def h3 (V:Int->Int->Bool->Int) (a b c d:Int):Int:=nH (V b d false) (V b d true) (l2 V a b c d) (h2 V a b c d)
def xsA (a b n:Int):Int:=bif decide (n<0) then IntKind.i64.wrap (0 - b) else a
def xsB (a b n:Int):Int:=bif decide (n<0) then IntKind.i64.wrap (0 - a) else b
def xsN (n:Int):Int:=bif decide (n<0) then IntKind.i64.wrap (0 - n) else n
def FY (n:Int):Bool:=bif decide (n<0) then !decide (n < -4611686018427387904) else true
def Bt (a b n d:Int):Bool:=bif jE (xsA a b n) (xsN n) d false != 0 then true else jE (xsB a b n) (xsN n) d true != 0
def jQ (a b n d:Int):Sp:=
 ⟨bif xCS a b != 0 then 0 else bif FY n then (bif Bt a b n d then 0 else Dh (xsA a b n) (xsN n) d false) else 0,
  bif xCS a b != 0 then 0 else bif FY n then (bif Bt a b n d then 0 else Dh (xsB a b n) (xsN n) d true) else 0,
  bif xCS a b != 0 then xCS a b else bif FY n then (bif Bt a b n d then (if jE (xsB a b n) (xsN n) d true>jE (xsA a b n) (xsN n) d false then jE (xsB a b n) (xsN n) d true else jE (xsA a b n) (xsN n) d false) else 0) else 2⟩
theorem aF {a b:Int}:aS a b=true ↔ -4503599627370496<=a/\a<=b/\b<=4503599627370496:=by simp [aS]
theorem oQ (a b:Int):xCS a b=bif aS a b then 0 else 20:=by
 unfold xCS
 cases h:aS a b with
 | true=>
  have:=aF.1 h
  simp [show ¬ a < -4503599627370496 by omega,show ¬ a>b by omega,show ¬ b>4503599627370496 by omega]
 | false=>
  have:¬ (-4503599627370496<=a/\a<=b/\b<=4503599627370496):=fun k=>by rw [aF.2 k] at h; cases h
  by_cases h1:a < -4503599627370496
  .simp [h1]
  .by_cases h2:a>b
   .simp [h1,h2]
   .simp [h1,h2,show b>4503599627370496 by omega]
theorem Oo (a b c d:Int):JX a b c d=bif aS a b&&aS c d then 0 else 20:=by
 unfold JX
 rw [oQ,oQ]
 cases aS a b <;> cases aS c d <;> rfl
theorem Oq {l h:Int} (k:l<=h):xTb l h=!(okF l&&okF h):=by
 unfold xTb okF
 rw [Bool.eq_iff_iff]
 by_cases h1:l < -4503599627370496
 .simp [h1] <;> omega
 .simp [h1] <;> omega
theorem Ot (a b c d l h:Int) (k:aS a b=true->aS c d=true->l<=h):Ol (JX a b c d) l h=Dl a b c d (fw l h):=by
 unfold Ol Dl
 rw [Oo]
 cases h1:aS a b with
 | false=>simp [err]
 | true=>
  cases h2:aS c d with
  | false=>simp [err]
  | true=>
   rw [Oq (k h1 h2)]
   unfold fw
   cases okF l&&okF h <;> simp [err]
theorem Ou (a b c d:Int):Om a b c d=eU a b c d:=by
 unfold Om eU
 rw [Ot]
 .unfold Dl
  cases h1:aS a b <;> cases h2:aS c d <;> try rfl
  have:=aF.1 h1; have:=aF.1 h2
  rw [i64w (by omega) (by omega),i64w (by omega) (by omega)]
 .intro h1 h2
  have:=aF.1 h1; have:=aF.1 h2
  rw [i64w (by omega) (by omega),i64w (by omega) (by omega)]; omega
theorem Bu {a:Int} (h:kP a=true) (up:Bool):0<=rtV a up/\rtV a up<=8796093022208:=by
 obtain ⟨r0,r1,r2,r3⟩:=kH h
 unfold rtV
 cases up&&!(sqR a*sqR a==a*4294967296) <;> simp <;> omega
theorem Lt (a b:Int):Io a b=kW a b:=by
 unfold Io kW
 rw [oQ]
 cases h1:aS a b with
 | false=>simp [err]
 | true=>
  have h:=aF.1 h1
  by_cases h2:a<0
  .simp [h2,err]
  .have ha:kP a=true:=by simp [kP,okF]; omega
   have hb:kP b=true:=by simp [kP,okF]; omega
   have ra:=Bu ha false
   have rb:=Bu hb true
   rw [(JU a false).1,(JU b true).1]
   unfold Og
   rw [ha,hb]
   have ht:xTb (rtV a false) (rtV b true)=false:=by
    unfold xTb
    rw [decide_eq_false (by omega),decide_eq_false (by omega)]; rfl
   simp [h2,ht]
theorem ab2 (a b:Int):mn a b<=a/\mn a b<=b/\(mn a b=a\/mn a b=b):=by
 unfold mn
 by_cases h:b<a <;> simp [h] <;> omega
theorem kI (a b:Int):a<=mx a b/\b<=mx a b/\(mx a b=a\/mx a b=b):=by
 unfold mx
 by_cases h:a<b <;> simp [h] <;> omega
theorem WC (n d:Int) (hd:0<d):rd n d false<=rd n d true:=by
 unfold rd
 simp only [cond_true,cond_false]
 have h1:=Int.mul_ediv_add_emod n d
 have h2:=Int.emod_nonneg n (show d≠0 by omega)
 have h3:=Int.emod_lt_of_pos n hd
 have:=Df (p:=n) hd
 rw [this]; split <;> omega
def pwS (v:Int):Int:=IntKind.u64.wrap (if IntKind.i64.wrap (0 - v)>v then IntKind.i64.wrap (0 - v) else v)
def pw2 (v:Int):Int:=1*pwS v
def pw3 (v:Int):Int:=pw2 v % two64
def pw4 (v:Int):Int:=pw3 v+0+0
def pw5 (v:Int):Int:=pw4 v % 18446744073709551616
def pw6 (v:Int):Int:=pw5 v*pwS v
def pw7 (v:Int):Int:=pw6 v % two64
def pw8 (v:Int):Int:=IntKind.u64.wrap (pw2 v / two64+pw4 v / 18446744073709551616)
def pw9 (v:Int):Int:=pw8 v*pwS v
def Uf (v:Int):Int:=pw9 v % two64
def Ug (v:Int):Int:=pw7 v+0+0
def Uh (v:Int):Int:=IntKind.u64.wrap (pw6 v / two64+Ug v / 18446744073709551616)
def Ui (v:Int):Int:=Uf v+Uh v+0
def Uj (v:Int):Int:=Ui v % 18446744073709551616
def Uk:Int:=2 ^ min (Int.ofNat 32).toNat IntKind.u64.bits
def Lu (v:Int):Bool:=decide ((Uj v).fdiv Uk>0)
def X0 (v:Int):Int:=IntKind.u64.wrap (pw9 v / two64+Ui v / 18446744073709551616)
def Ov (v:Int):Bool:=decide (X0 v>0)
def Ul (v:Int):Int:=Ug v % 18446744073709551616
def Ip (v:Int):Int:=bif Lu v then 0 else bif Ov v then 0 else
 IntKind.u64.wrap ↑(BitVec.ofInt IntKind.u64.bits ((Ul v).fdiv Uk) ||| BitVec.ofInt IntKind.u64.bits (IntKind.u64.wrap (Uj v*Uk))).toNat
def X3 (v:Int):Int:=IntKind.u64.wrap ↑(BitVec.ofInt IntKind.u64.bits (Ul v) &&& BitVec.ofInt IntKind.u64.bits 4294967295).toNat
def wN (v:Int):Bool:=bif !(bif Lu v then false else bif Ov v then false else true) then true else decide (Ip v>4503599627370496)
def pwD (v:Int):Int:=bif wN v then 0 else IntKind.i64.wrap (Ip v)
def pwU (v:Int):Int:=bif wN v then 0 else bif bif Lu v then false else bif Ov v then false else decide (X3 v>0) then IntKind.i64.wrap (IntKind.i64.wrap (Ip v)+1) else IntKind.i64.wrap (Ip v)
def pwE (v:Int):Int:=bif wN v then 6 else 0
def Um (x y:Int):Prop:=decide (0<=x/\0<=y/\(0:Int)<=0/\(0:Int)<=1)=true
def pwN (v:Int):Prop:=(xIn 1 (pwS v)/\Um (pw3 v) 0)/\(xIn (pw5 v) (pwS v)/\Um (pw7 v) 0)/\xIn (pw8 v) (pwS v)/\Um (Uf v) (Uh v)
def sqD (v:Int):Int:=bif decide (v*v / 4294967296>4503599627370496) then 0 else rd (v*v) 4294967296 false
def sqU (v:Int):Int:=bif decide (v*v / 4294967296>4503599627370496) then 0 else rd (v*v) 4294967296 true
def sqE (v:Int):Int:=bif decide (v*v / 4294967296>4503599627370496) then 6 else 0
theorem X4 {v:Int} (h:okF v=true):pwS v=sg v v:=by
 have h:=dw.1 h
 unfold pwS
 rw [i64w (n:=0 - v) (by omega) (by omega)]
 rcases eP v with ⟨h1,e⟩|⟨h1,e⟩ <;> rw [e] <;> split <;> rw [qz (by omega) (by omega)] <;> omega
theorem ab3 (n:Nat) (h:n<18446744073709551616):IntKind.u64.wrap ↑(BitVec.ofInt IntKind.u64.bits (n:Int) &&& BitVec.ofInt IntKind.u64.bits 4294967295).toNat=((n % 4294967296:Nat):Int):=Go.Eng.dLow_eq n h
theorem X5 {v:Int} (h:okF v=true):pwD v=sqD v/\pwU v=sqU v/\pwE v=sqE v/\pwN v:=by
 obtain ⟨_,s1,s2⟩:=Ob h
 have e1:=X4 h
 have es:v*v=sg v v*sg v v:=by
  rcases eP v with ⟨_,e⟩|⟨_,e⟩ <;> rw [e]
  rw [Int.neg_mul,Int.mul_neg,Int.neg_neg]
 have hq:sg v v*sg v v<=4503599627370496*4503599627370496:=Int.mul_le_mul s2 s2 s1 (by decide)
 have hq0:0<=sg v v*sg v v:=Int.mul_nonneg s1 s1
 have q2:pw2 v=sg v v:=by unfold pw2; rw [e1]; omega
 have q3:pw3 v=sg v v:=by unfold pw3 two64; rw [q2]; omega
 have q4:pw4 v=sg v v:=by unfold pw4; rw [q3]; omega
 have q5:pw5 v=sg v v:=by unfold pw5; rw [q4]; omega
 have q6:pw6 v=sg v v*sg v v:=by unfold pw6; rw [q5,e1]
 have q8:pw8 v=0:=by unfold pw8 two64; rw [q2,q4,qz] <;> omega
 have q9:pw9 v=0:=by unfold pw9; rw [q8]; omega
 have q10:Uf v=0:=by unfold Uf two64; rw [q9]; rfl
 generalize hP:sg v v*sg v v=P at *
 have q7:pw7 v=P % 18446744073709551616:=by unfold pw7 two64; rw [q6]
 have q11:Ug v=P % 18446744073709551616:=by unfold Ug; rw [q7]; omega
 have q12:Uh v=P / 18446744073709551616:=by unfold Uh two64; rw [q6,q11,qz] <;> omega
 have q13:Ui v=P / 18446744073709551616:=by unfold Ui; rw [q10,q12]; omega
 have q14:Uj v=P / 18446744073709551616:=by unfold Uj; rw [q13]; omega
 have q15:Uk=4294967296:=by decide
 have q16:Lu v=decide (4294967296<=P / 18446744073709551616):=by
  unfold Lu
  rw [q14,q15,Int.fdiv_eq_ediv_of_nonneg _ (by decide)]
  rw [Bool.eq_iff_iff]; simp only [decide_eq_true_eq]; omega
 have q17:X0 v=0:=by unfold X0 two64; rw [q9,q13,qz] <;> omega
 have q18:Ov v=false:=by unfold Ov; rw [q17]; rfl
 have q19:Ul v=P % 18446744073709551616:=by unfold Ul; rw [q11]; omega
 have nd:pwN v:=by
  unfold pwN
  rw [e1,q3,q5,q7,q8,q10,q12]
  refine ⟨⟨rG (by omega) (by omega) (by omega) (by omega),?_⟩,⟨rG (by omega) (by omega) (by omega) (by omega),?_⟩,rG (by omega) (by omega) (by omega) (by omega),?_⟩ <;> unfold Um <;> rw [decide_eq_true_eq] <;> omega
 have e21:X3 v=P % 4294967296:=by
  unfold X3
  rw [q19]
  obtain ⟨n,hn⟩:=Int.eq_ofNat_of_zero_le (show 0<=P % 18446744073709551616 by omega)
  rw [hn,ab3 n (by omega)]
  omega
 have big:wN v=decide (v*v / 4294967296>4503599627370496)/\(wN v=false->Ip v=P / 4294967296/\Lu v=false):=by
  unfold wN
  rw [q18,q16]
  by_cases hb:4294967296<=P / 18446744073709551616
  .refine ⟨?_,fun h=>by simp [hb] at h⟩
   rw [es]
   simp [hb]; omega
  .have hor:Ip v=P / 4294967296:=by
    unfold Ip
    rw [q16,q18,q19,q14,q15,decide_eq_false hb]
    simp only [cond_false]
    rw [Int.fdiv_eq_ediv_of_nonneg _ (by decide),qz (n:=P / 18446744073709551616*4294967296) (by omega) (by omega)]
    obtain ⟨n,hn⟩:=Int.eq_ofNat_of_zero_le (show 0<=P % 18446744073709551616 / 4294967296 by omega)
    obtain ⟨m,hm⟩:=Int.eq_ofNat_of_zero_le (show 0<=P / 18446744073709551616 by omega)
    rw [hn,hm,show (m:Int)*4294967296=((m*4294967296:Nat):Int) by omega,Go.Eng.dOr_eq _ _ (by omega) (by omega)]
    have:n ||| m*4294967296=m*4294967296+n:=by
     rw [Nat.or_comm,Nat.mul_comm]
     exact (Nat.two_pow_add_eq_or_of_lt (i:=32) (show n<2 ^ 32 by omega) m).symm
    rw [this]
    omega
   rw [hor,decide_eq_false hb,es]
   exact ⟨rfl,fun _=>⟨rfl,rfl⟩⟩
 obtain ⟨b1,b2⟩:=big
 refine ⟨?_,?_,?_,nd⟩
 .unfold pwD sqD
  cases hb:wN v with
  | true=>rw [<- b1,hb]; rfl
  | false=>
   rw [<- b1,hb,(b2 hb).1,es]
   rw [hb] at b1
   have b1:=of_decide_eq_false b1.symm
   rw [es] at b1
   simp only [cond_false]
   rw [i64w (by omega) (by omega)]; rfl
 .unfold pwU sqU
  cases hb:wN v with
  | true=>rw [<- b1,hb]; rfl
  | false=>
   obtain ⟨b3,b4⟩:=b2 hb
   rw [<- b1,hb,b3,b4,q18,e21,es]
   rw [hb] at b1
   have b1:=of_decide_eq_false b1.symm
   rw [es] at b1
   simp only [cond_false]
   rw [i64w (n:=P / 4294967296) (by omega) (by omega),i64w (n:=P / 4294967296+1) (by omega) (by omega)]
   unfold rd
   simp only [cond_true]
   by_cases hr:P % 4294967296>0
   .rw [decide_eq_true hr]; simp only [cond_true]; omega
   .rw [decide_eq_false hr]; simp only [cond_false]; omega
 .unfold pwE sqE; rw [b1]
def xaM (a b:Int):Int:=if IntKind.i64.wrap (0 - b)>a then IntKind.i64.wrap (0 - b) else a
def Ow (a b:Int):Int:=if 0>xaM a b then 0 else xaM a b
def Ox (a b:Int):Int:=if IntKind.i64.wrap (0 - a)>b then IntKind.i64.wrap (0 - a) else b
def xaL (a b:Int):Int:=bif xCS a b != 0 then 0 else bif xTb (Ow a b) (Ox a b) then 0 else Ow a b
def xaH (a b:Int):Int:=bif xCS a b != 0 then 0 else bif xTb (Ow a b) (Ox a b) then 0 else Ox a b
def Dm (a b:Int):Bool:=bif sqE (xaL a b) != 0 then true else sqE (xaH a b) != 0
def Oy (a b:Int):Sp:=
 ⟨bif xCS a b != 0 then 0 else bif Dm a b then 0 else bif xTb (sqD (xaL a b)) (sqU (xaH a b)) then 0 else sqD (xaL a b),
  bif xCS a b != 0 then 0 else bif Dm a b then 0 else bif xTb (sqD (xaL a b)) (sqU (xaH a b)) then 0 else sqU (xaH a b),
  bif xCS a b != 0 then xCS a b else bif Dm a b then 6 else bif xTb (sqD (xaL a b)) (sqU (xaH a b)) then 6 else 0⟩
def WE (a b:Int):Prop:=(!(xCS a b != 0))=true->okF (xaL a b)=true/\okF (xaH a b)=true
theorem WF {a b:Int} (h:aS a b=true):xaL a b=abL a b/\xaH a b=abH a b/\0<=abL a b/\abL a b<=abH a b/\abH a b<=4503599627370496:=by
 have k:=aF.1 h
 have l0:Ow a b=abL a b:=by
  unfold Ow xaM abL mx
  rw [i64w (by omega) (by omega)]
  by_cases h1:a < -b
  .rw [if_pos (show 0 - b>a by omega),decide_eq_true h1]
   simp only [cond_true]
   by_cases h2:-b<0
   .rw [if_pos (by omega),decide_eq_true h2]; rfl
   .rw [if_neg (by omega),decide_eq_false h2]; simp only [cond_false]; omega
  .rw [if_neg (show ¬ 0 - b>a by omega),decide_eq_false h1]
   simp only [cond_false]
   by_cases h2:a<0
   .rw [if_pos (by omega),decide_eq_true h2]; rfl
   .rw [if_neg (by omega),decide_eq_false h2]; rfl
 have h0:Ox a b=abH a b:=by
  unfold Ox abH mx
  rw [i64w (by omega) (by omega)]
  by_cases h1:b < -a
  .rw [if_pos (show 0 - a>b by omega),decide_eq_true h1]; simp only [cond_true]; omega
  .rw [if_neg (show ¬ 0 - a>b by omega),decide_eq_false h1]; rfl
 have bl:0<=abL a b/\abL a b<=abH a b/\abH a b<=4503599627370496:=by
  unfold abL abH
  have m1:=kI a (-b); have m2:=kI (mx a (-b)) 0; have m3:=kI b (-a)
  omega
 have ht:xTb (abL a b) (abH a b)=false:=by
  unfold xTb; rw [decide_eq_false (by omega),decide_eq_false (by omega)]; rfl
 unfold xaL xaH
 rw [l0,h0,ht,oQ,h]
 exact ⟨rfl,rfl,bl⟩
theorem Lv (a b:Int):WE a b:=by
 intro h
 rw [oQ] at h
 cases k:aS a b with
 | false=>rw [k] at h; cases h
 | true=>
  obtain ⟨e1,e2,b1,b2,b3⟩:=WF k
  rw [e1,e2,dw,dw]; omega
theorem Oz (a b:Int):Oy a b=jv a b:=by
 unfold Oy jv
 rw [oQ]
 cases h:aS a b with
 | false=>simp [err]
 | true=>
  obtain ⟨e1,e2,b1,b2,b3⟩:=WF h
  unfold Dm
  rw [e1,e2]
  have q:abL a b*abL a b<=abH a b*abH a b:=Int.mul_le_mul b2 b2 b1 (by omega)
  have q0:0<=abL a b*abL a b:=Int.mul_nonneg b1 b1
  unfold sqE sqD sqU fw
  generalize hP:abL a b*abL a b=P at *
  generalize hQ:abH a b*abH a b=Q at *
  have u1:rd P 4294967296 false=P / 4294967296:=rfl
  have u2:rd Q 4294967296 true=Q / 4294967296+(if 0<Q % 4294967296 then 1 else 0):=by
   unfold rd; simp only [cond_true]; rw [Df (by decide)]; omega
  have okl:okF (rd P 4294967296 false)=!decide (P / 4294967296>4503599627370496):=by
   rw [u1]; unfold okF
   rw [decide_eq_true (show (-4503599627370496:Int)<=P / 4294967296 by omega),Bool.true_and,Bool.eq_iff_iff]
   simp only [decide_eq_true_eq,Bool.not_eq_true',decide_eq_false_iff_not]; omega
  cases hp:decide (P / 4294967296>4503599627370496) with
  | true=>rw [okl,hp]; simp [err]
  | false=>
   have hp':=of_decide_eq_false hp
   cases hq:decide (Q / 4294967296>4503599627370496) with
   | true=>
    have hq':=of_decide_eq_true hq
    have:okF (rd Q 4294967296 true)=false:=by rw [qh,u2]; split <;> omega
    rw [this]; simp [err]
   | false=>
    have hq':=of_decide_eq_false hq
    simp only [cond_false,cond_true,bne_self_eq_false]
    rw [Oq (by rw [u1,u2]; split <;> omega)]
    cases okF (rd P 4294967296 false)&&okF (rd Q 4294967296 true) <;> simp [err]
theorem OA {x n d:Int} (hx:okF x=true) (hn:0<=n) (hr:okR n d=true) (hb:sg x x*n<18446744073709551615*d) (up:Bool):Dh x n d up=Dc (rd (x*n) d up)/\jE x n d up=De (rd (x*n) d up):=by
 obtain ⟨a1,a2,a3⟩:=Ob hx
 simp only [okR,Bool.and_eq_true,decide_eq_true_eq] at hr
 obtain ⟨⟨⟨n1,n2⟩,d1⟩,d2⟩:=hr
 have en:xSz n=n:=by rw [Ij (by omega) (by omega)]; rcases eP n with ⟨_,e⟩|⟨_,e⟩ <;> omega
 have esn:sg n n=n:=by rcases eP n with ⟨_,e⟩|⟨_,e⟩ <;> omega
 have ed:IntKind.u64.wrap d=d:=qz (by omega) (by omega)
 have ok:Ik x n d=false:=by
  rw [Di]; unfold okS; rw [hx,decide_eq_true n1,decide_eq_true n2,decide_eq_true d1,decide_eq_true d2]; rfl
 have hm:sg x x*n<=4503599627370496*4611686018427387904:=Int.mul_le_mul a3 n2 hn (by decide)
 obtain ⟨v,e,_⟩:=abY (p:=sg x x*n) (d:=d) (Int.mul_nonneg a2 hn) (by omega) (by omega) (by omega) up (N7 x n) (x*n) (by have:=N9 x n; rw [esn] at this; exact this) (.inl hb)
 unfold Dh jE
 rw [ok,a1,en,ed]
 exact ⟨v,e⟩
theorem OB {x n d:Int} (h:okR n d=false) (up:Bool):jE x n d up=2:=by
 unfold jE
 have:Ik x n d=true:=by
  rw [Di]; unfold okS okR at *; rw [h,Bool.and_false]; rfl
 rw [this]; rfl
theorem Iq (a b n d:Int) (hb:aS a b=true->okR n d=true->abH a b*sg n n<18446744073709551615*d):jQ a b n d=fV a b n d:=by
 unfold jQ fV
 rw [oQ]
 cases h:aS a b with
 | false=>simp [err]
 | true=>
  have k:=aF.1 h
  cases hr:okR n d with
  | false=>
   have hx:FY n=true->Bt a b n d=true/\jE (xsA a b n) (xsN n) d false=2/\jE (xsB a b n) (xsN n) d true=2:=by
    intro ho
    have hr2:okR (xsN n) d=false:=by
     unfold xsN
     by_cases hn:n<0
     .simp only [FY,hn,decide_true,cond_true,Bool.not_eq_true',decide_eq_false_iff_not] at ho
      rw [decide_eq_true hn,cond_true,i64w (by omega) (by omega)]
      simp only [okR,Bool.and_eq_false_iff,decide_eq_false_iff_not] at hr ⊢
      omega
     .rw [decide_eq_false hn]; exact hr
    have e1:=OB (x:=xsA a b n) hr2 false
    have e2:=OB (x:=xsB a b n) hr2 true
    exact ⟨by unfold Bt; rw [e1]; rfl,e1,e2⟩
   cases ho:FY n with
   | false=>simp [err]
   | true=>
    obtain ⟨h1,h2,h3⟩:=hx ho
    simp [h1,h2,h3,err]
  | true=>
   have hb:=hb h hr
   have hr':=hr
   simp only [okR,Bool.and_eq_true,decide_eq_true_eq] at hr'
   obtain ⟨⟨⟨n1,n2⟩,d1⟩,d2⟩:=hr'
   have ho:FY n=true:=by
    unfold FY
    by_cases hn:n<0
    .rw [decide_eq_true hn,decide_eq_false (by omega)]; rfl
    .rw [decide_eq_false hn]; rfl
   have m3:=kI b (-a)
   have core:∀ (x y m:Int),0<=m->m<=4611686018427387904->okF x=true->okF y=true->x<=y->sg x x<=abH a b->sg y y<=abH a b->abH a b*m<18446744073709551615*d ->
     (⟨bif (bif jE x m d false != 0 then true else jE y m d true != 0) then 0 else Dh x m d false,bif (bif jE x m d false != 0 then true else jE y m d true != 0) then 0 else Dh y m d true,
      bif (bif jE x m d false != 0 then true else jE y m d true != 0) then (if jE y m d true>jE x m d false then jE y m d true else jE x m d false) else 0⟩:Sp)=fw (rd (x*m) d false) (rd (y*m) d true):=by
    intro x y m m0 m1 hx hy hxy sx sy hbm
    have hr2:okR m d=true:=by simp [okR]; omega
    have bx:sg x x*m<18446744073709551615*d:=Int.lt_of_le_of_lt (Int.mul_le_mul_of_nonneg_right sx m0) hbm
    have by':sg y y*m<18446744073709551615*d:=Int.lt_of_le_of_lt (Int.mul_le_mul_of_nonneg_right sy m0) hbm
    obtain ⟨v1,e1⟩:=OA hx m0 hr2 bx false
    obtain ⟨v2,e2⟩:=OA hy m0 hr2 by' true
    rw [v1,e1,v2,e2]
    unfold fw
    rcases zy (rd (x*m) d false) with ⟨p1,p2,p3⟩|⟨p1,p2,p3⟩ <;> rcases zy (rd (y*m) d true) with ⟨q1,q2,q3⟩|⟨q1,q2,q3⟩ <;> rw [p1,p2,p3,q1,q2,q3] <;> rfl
   unfold Bt
   rw [ho]
   simp only [bne_self_eq_false,cond_false,cond_true]
   by_cases hn:n<0
   .have ea:xsA a b n=-b:=by unfold xsA; rw [decide_eq_true hn,cond_true,i64w (by omega) (by omega)]; omega
    have eb:xsB a b n=-a:=by unfold xsB; rw [decide_eq_true hn,cond_true,i64w (by omega) (by omega)]; omega
    have en:xsN n=-n:=by unfold xsN; rw [decide_eq_true hn,cond_true,i64w (by omega) (by omega)]; omega
    have esn:sg n n=-n:=by rcases eP n with ⟨_,e⟩|⟨_,e⟩ <;> omega
    rw [esn] at hb
    rw [ea,eb,en]
    rw [core (-b) (-a) (-n) (by omega) (by omega) (dw.2 (by omega)) (dw.2 (by omega)) (by omega)
     (by unfold abH; rcases eP (-b) with ⟨_,e⟩|⟨_,e⟩ <;> omega) (by unfold abH; rcases eP (-a) with ⟨_,e⟩|⟨_,e⟩ <;> omega) hb]
    have hmul:b*n<=a*n:=Int.mul_le_mul_of_nonpos_right k.2.1 (by omega)
    have e1:mn (a*n) (b*n)=b*n:=by
     unfold mn; by_cases h2:b*n<a*n
     .rw [decide_eq_true h2]; rfl
     .rw [decide_eq_false h2]; simp only [cond_false]; omega
    have e2:mx (a*n) (b*n)=a*n:=by
     unfold mx; rw [decide_eq_false (by omega)]; rfl
    rw [e1,e2,Int.neg_mul_neg,Int.neg_mul_neg]
   .have ea:xsA a b n=a:=by unfold xsA; rw [decide_eq_false hn]; rfl
    have eb:xsB a b n=b:=by unfold xsB; rw [decide_eq_false hn]; rfl
    have en:xsN n=n:=by unfold xsN; rw [decide_eq_false hn]; rfl
    have esn:sg n n=n:=by rcases eP n with ⟨_,e⟩|⟨_,e⟩ <;> omega
    rw [esn] at hb
    rw [ea,eb,en]
    rw [core a b n (by omega) n2 (dw.2 (by omega)) (dw.2 (by omega)) k.2.1
     (by unfold abH; rcases eP a with ⟨_,e⟩|⟨_,e⟩ <;> omega) (by unfold abH; rcases eP b with ⟨_,e⟩|⟨_,e⟩ <;> omega) hb]
    have hmul:a*n<=b*n:=Int.mul_le_mul_of_nonneg_right k.2.1 (by omega)
    have e1:mn (a*n) (b*n)=a*n:=by
     unfold mn; rw [decide_eq_false (by omega)]; rfl
    have e2:mx (a*n) (b*n)=b*n:=by
     unfold mx; by_cases h2:a*n<b*n
     .rw [decide_eq_true h2]; rfl
     .rw [decide_eq_false h2]; simp only [cond_false]; omega
    rw [e1,e2]
end Go.Ar
namespace Go.Ar
open Go Go.Eng
end Go.Ar
namespace Go.Ar
open Go Go.Eng
noncomputable section
def shS:Sh:=.a [.i .i64,.i .i64]
def qA (s:Sp):Tm:=.u [.a [.n .i64 s.lo,.n .i64 s.hi],.n .i64 s.e]
def OC (F:Int->Int->Int->Int->Sp):bC:=bG [shS,shS] none fun
 | [.n a,.n b,.n c,.n d]=>qA (F a b c d)
 | _=>.u []
def sUn (F:Int->Int->Sp):bC:=bG [shS] none fun
 | [.n a,.n b]=>qA (F a b)
 | _=>.u []
def sSc (F:Int->Int->Int->Int->Sp):bC:=bG [shS,.i .i64,.i .i64] none fun
 | [.n a,.n b,.n n,.n d]=>qA (F a b n d)
 | _=>.u []
def OD (a b:Int):Int:=bif aS a b then 0 else 20
def Un:bC:=bG [shS] none fun
 | [.n a,.n b]=>.n .i64 (OD a b)
 | _=>.u []
def ab4:bC:=bG [.i .i64,.c (.int false .i64 2)] (some fun
 | [.n v]=>okF v
 | _=>false) fun
 | [.n v]=>.u [.n .i64 (sqD v),.n .i64 (sqU v),.n .i64 (sqE v)]
 | _=>.u []
end
end Go.Ar
namespace Go.Proofs.YtbiiiloimbjpaaaDoor.K
open Go Go.Eng Go.Ar
noncomputable section
theorem Uo (a b:Int):kN ((run c2 300).call 40 [.agg [.int true .i64 a,.int true .i64 b]] ⟨[],0,1⟩)=some (.tt,.int true .i64 (xCS a b)):=by kernel_rfl
theorem Uq (a b c d:Int):kN ((run c2 300).call 25 [.agg [.int true .i64 a,.int true .i64 b],.agg [.int true .i64 c,.int true .i64 d]] ⟨[],0,1⟩)=some (.tt,(qA (Om a b c d)).av true):=by kernel_rfl
theorem OE (a b:Int):kN ((run c2 300).call 28 [.agg [.int true .i64 a,.int true .i64 b]] ⟨[],0,1⟩)=some (.tt,(qA (Io a b)).av true):=by kernel_rfl
theorem Lx (a b n d:Int):kN ((run c2 300).call 27 [.agg [.int true .i64 a,.int true .i64 b],.int true .i64 n,.int true .i64 d] ⟨[],0,1⟩)=some (.tt,(qA (jQ a b n d)).av true):=by kernel_rfl
theorem Ur (v:Int):kN ((run c2 300).call 51 [.int true .i64 v,.int false .i64 2] ⟨[],0,1⟩)=some (.p (pwN v),.tuple [.int true .i64 (pwD v),.int true .i64 (pwU v),.int true .i64 (pwE v)]):=by kernel_rfl
theorem X6:PureOk Tryd.prog 51 ab4:=by
 refine lF (fun xs hk hN=>?_) ⟨_,Tryd.func51,rfl⟩
 obtain ⟨v,_,rfl,h1⟩:=kn hk; obtain rfl:=k0 h1
 obtain ⟨e1,e2,e3,hn⟩:=X5 hN
 have:=Ur v
 rw [e1,e2,e3] at this
 exact ⟨c2,300,_,FX,rfl,fun _=>rfl,rfl,this,hn⟩
noncomputable def ab5:List (FuncId×bC):=(51,ab4) :: Ue
theorem Us:Fu Tryd.prog ab5:=fun x hx=>by
 rcases List.mem_cons.1 hx with rfl|hx
 .exact X6
 .exact JW x hx
noncomputable def c3:Ctx:=mkC Tryd.prog ab5 ext
theorem ab6:CtxOk c3:=yZ prog_ok Us ext_ok
theorem Ut (a b:Int):kN ((run c3 300).call 26 [.agg [.int true .i64 a,.int true .i64 b]] ⟨[],0,1⟩)=some (.p (WE a b),(qA (Oy a b)).av true):=by kernel_rfl
theorem JY:PureOk Tryd.prog 40 Un:=by
 refine lF (fun xs hk _=>?_) ⟨_,Tryd.func40,rfl⟩
 obtain ⟨a,_,rfl,h1⟩:=kn hk; obtain ⟨b,_,rfl,h2⟩:=kn h1; obtain rfl:=k0 h2
 have:=Uo a b
 rw [oQ] at this
 exact ⟨c2,300,_,FX,rfl,fun _=>rfl,rfl,this,trivial⟩
theorem JZ:PureOk Tryd.prog 25 (OC eU):=by
 refine lF (fun xs hk _=>?_) ⟨_,Tryd.func25,rfl⟩
 obtain ⟨a,_,rfl,h1⟩:=kn hk; obtain ⟨b,_,rfl,h2⟩:=kn h1; obtain ⟨c,_,rfl,h3⟩:=kn h2; obtain ⟨d,_,rfl,h4⟩:=kn h3; obtain rfl:=k0 h4
 exact ⟨c2,300,_,FX,rfl,fun _=>rfl,rfl,(Uq a b c d).trans (by rw [Ou]),trivial⟩
theorem FZ:PureOk Tryd.prog 28 (sUn kW):=by
 refine lF (fun xs hk _=>?_) ⟨_,Tryd.func28,rfl⟩
 obtain ⟨a,_,rfl,h1⟩:=kn hk; obtain ⟨b,_,rfl,h2⟩:=kn h1; obtain rfl:=k0 h2
 exact ⟨c2,300,_,FX,rfl,fun _=>rfl,rfl,(OE a b).trans (by rw [Lt]),trivial⟩
theorem J2:PureOk Tryd.prog 26 (sUn jv):=by
 refine lF (fun xs hk _=>?_) ⟨_,Tryd.func26,rfl⟩
 obtain ⟨a,_,rfl,h1⟩:=kn hk; obtain ⟨b,_,rfl,h2⟩:=kn h1; obtain rfl:=k0 h2
 exact ⟨c3,300,_,ab6,rfl,fun _=>rfl,rfl,(Ut a b).trans (by rw [Oz]),Lv a b⟩
theorem Bv:PureOk Tryd.prog 27 (sSc jQ):=by
 refine lF (fun xs hk _=>?_) ⟨_,Tryd.func27,rfl⟩
 obtain ⟨a,_,rfl,h1⟩:=kn hk; obtain ⟨b,_,rfl,h2⟩:=kn h1; obtain ⟨n,_,rfl,h3⟩:=kn h2; obtain ⟨d,_,rfl,h4⟩:=kn h3; obtain rfl:=k0 h4
 exact ⟨c2,300,_,FX,rfl,fun _=>rfl,rfl,Lx a b n d,trivial⟩
noncomputable def c0:Ctx:=mkC Tryd.prog [] ext
noncomputable def ad7:List (FuncId×bC):=[]
noncomputable def c4:Ctx:=mkC Tryd.prog ad7 ext
noncomputable def ab7:List (FuncId×bC):=[]
noncomputable def c5:Ctx:=mkC Tryd.prog ab7 ext
noncomputable def ad8:List (FuncId×bC):=ab7
noncomputable def c6:Ctx:=mkC Tryd.prog ad8 ext
end
end Go.Proofs.YtbiiiloimbjpaaaDoor.K
namespace Go.Ar
open Go Go.Eng
end Go.Ar
namespace Go.Proofs.YtbiiiloimbjpaaaDoor.K
open Go Go.Eng Go.Ar
noncomputable section
end
end Go.Proofs.YtbiiiloimbjpaaaDoor.K
namespace Go.Ar
open Go
end Go.Ar
namespace Go.Vc
open Go Go.Eng Go.Ar
structure VF where
 ad:Int->Int->Int->Int->Sp
 su:Int->Int->Int->Int->Sp
 mu:Int->Int->Int->Int->Sp
 di:Int->Int->Int->Int->Sp
 sc:Int->Int->Int->Int->Sp
 sq:Int->Int->Sp
 rt:Int->Int->Sp
 ng:Int->Int->Sp
 ck:Int->Int->Int
 ok:Int->Int->Bool
structure Ve where
 a:Int
 b:Int
 c:Int
 d:Int
 e:Int
 f:Int
section
variable (F:VF) (v:Ve)
end
structure VF.law (F:VF):Prop where
 ck:∀ a b,F.ck a b=bif F.ok a b then 0 else 20
 z:F.ok 0 0=true
section
variable (F:VF) (v w:Ve) (X Y Z:Sp)
end
structure VF.law2 (F:VF):Prop extends F.law where
 ad:∀ a b c d,((F.ad a b c d).e==0)=false->(F.ad a b c d).lo=0/\(F.ad a b c d).hi=0
 ng:∀ a b,(F.ng a b).e=bif F.ok a b then 0 else 20
end Go.Vc
namespace Go.Proofs.YtbiiiloimbjpaaaDoor.K
open Go Go.Eng Go.Ar Go.Vc
noncomputable section
end
end Go.Proofs.YtbiiiloimbjpaaaDoor.K
namespace Go.Vc
open Go Go.Eng Go.Ar
structure MF where
 dt:Ve->Ve->Sp
 o:Int->Int->Bool
structure Mat where
 x:Ve
 y:Ve
 z:Ve
def MF.ok (F:MF) (v:Ve):Bool:=bif F.o v.a v.b then bif F.o v.c v.d then F.o v.e v.f else false else false
def g3 (a b c:Int):Bool:=!(a != 0)&&(!(b != 0)&&!(c != 0))
def e3 (a b c:Int):Int:=bif g3 a b c then 0 else bif !(a != 0)&&(!(b != 0)&&c != 0||b != 0) then bif !(b != 0)&&c != 0 then c else b else a
section
variable (F:MF) (m:Mat) (v:Ve)
end
structure TF where
 tv:Mat->Ve->Ve
 te:Mat->Ve->Int
 cm:Mat->Int
section
variable (T:TF) (a b:Mat)
end
section
variable (F:MF) (a b:Mat)
end
end Go.Vc
namespace Go.Proofs.YtbiiiloimbjpaaaDoor.K
open Go Go.Eng Go.Ar Go.Vc
noncomputable section
end
end Go.Proofs.YtbiiiloimbjpaaaDoor.K
namespace Go.Vc
open Go Go.Eng Go.Ar
end Go.Vc
namespace Go.Proofs.YtbiiiloimbjpaaaDoor.K
open Go Go.Eng Go.Ar Go.Vc
noncomputable section
end
end Go.Proofs.YtbiiiloimbjpaaaDoor.K
namespace Go.Dg
def val:List Int->Int
 | []=>0
 | x :: l=>x+1000000000*val l
def Dig (xs:List Int):Prop:=∀ x∈xs,0<=x/\x<1000000000
def pw:Nat->Int
 | 0=>1
 | n+1=>(1000000000:Int)*pw n
theorem pw_pos:∀ n,0<pw n
 | 0=>by decide
 | n+1=>Int.mul_pos (by decide) (pw_pos n)
theorem vH:∀ m n,pw (m+n)=pw m*pw n
 | 0,n=>by simp [pw]
 | m+1,n=>by rw [Nat.succ_add]; simp only [pw]; rw [vH m n,Int.mul_assoc]
theorem jR:Dig []:=fun _ h=>by cases h
theorem bQ {x:Int} {l:List Int}:Dig (x :: l) ↔ (0<=x/\x<1000000000)/\Dig l:=by
 constructor
 .intro h; exact ⟨h x (by simp),fun y hy=>h y (by simp [hy])⟩
 .rintro ⟨h1,h2⟩ y hy
  rcases List.mem_cons.1 hy with rfl|hy
  .exact h1
  .exact h2 y hy
theorem J3 {l m:List Int}:Dig (l++m) ↔ Dig l/\Dig m:=by
 constructor
 .intro h; exact ⟨fun y hy=>h y (by simp [hy]),fun y hy=>h y (by simp [hy])⟩
 .rintro ⟨h1,h2⟩ y hy
  rcases List.mem_append.1 hy with hy|hy
  .exact h1 y hy
  .exact h2 y hy
theorem Dig.take {l:List Int} (h:Dig l) (n:Nat):Dig (l.take n):=fun x hx=>h x (List.mem_of_mem_take hx)
theorem Dig.drop {l:List Int} (h:Dig l) (n:Nat):Dig (l.drop n):=fun x hx=>h x (List.mem_of_mem_drop hx)
theorem Dig.get {l:List Int} (h:Dig l) (i:Nat):0<=l.getD i 0/\l.getD i 0<1000000000:=by
 rw [List.getD_eq_getElem?_getD]
 cases e:l[i]? with
 | none=>exact ⟨Int.le_refl _,by decide⟩
 | some x=>exact h x (List.mem_of_getElem? e)
theorem Dig.set {l:List Int} (h:Dig l) (i:Nat) {x:Int} (hx:0<=x/\x<1000000000):Dig (l.set i x):=fun y hy=>by
 rcases List.mem_or_eq_of_mem_set hy with h1|rfl
 .exact h y h1
 .exact hx
theorem Dn:∀ (l m:List Int),val (l++m)=val l+pw l.length*val m
 | [],m=>by simp [val,pw]
 | x :: l,m=>by
  simp only [List.cons_append,val,List.length_cons,pw]
  rw [Dn l m,Int.mul_add,Int.mul_assoc]; omega
theorem aA:∀ {l:List Int},Dig l->0<=val l
 | [],_=>Int.le_refl _
 | x :: l,h=>by
  have h:=bQ.1 h
  have:=aA h.2
  simp only [val]
  omega
theorem fZ:∀ {l:List Int},Dig l->val l<pw l.length
 | [],_=>by decide
 | x :: l,h=>by
  have h:=bQ.1 h
  have:=fZ h.2
  simp only [val,List.length_cons,pw]
  have h3:(1000000000:Int)*val l+1000000000<=1000000000*pw l.length:=by
   have:(1000000000:Int)*(val l+1)<=1000000000*pw l.length:=Int.mul_le_mul_of_nonneg_left (by omega) (by decide)
   rw [Int.mul_add] at this
   simpa using this
  have:=h.1.2
  omega
theorem kX:∀ (l:List Int) (i:Nat) (x:Int),i<l.length->val (l.set i x)=val l+pw i*(x - l.getD i 0)
 | [],i,x,h=>by simp at h
 | y :: l,0,x,h=>by simp [val,pw]; omega
 | y :: l,i+1,x,h=>by
  simp only [List.set_cons_succ,val,pw,List.getD_cons_succ]
  rw [kX l i x (by simpa using h),Int.mul_add,Int.mul_assoc]
  omega
theorem F3:∀ n,val (List.replicate n 0)=0
 | 0=>rfl
 | n+1=>by simp [List.replicate_succ,val,F3 n]
theorem OG (n:Nat):Dig (List.replicate n 0):=fun x hx=>by
 obtain rfl:=List.eq_of_mem_replicate hx
 decide
theorem dI {l:List Int} {n:Nat} (h:n<l.length):val (l.take (n+1))=val (l.take n)+pw n*l.getD n 0:=by
 rw [List.take_add_one,List.getElem?_eq_getElem h,Dn,List.length_take,Nat.min_eq_left (by omega),List.getD_eq_getElem?_getD,List.getElem?_eq_getElem h]
 simp [val]
def aa (n:Nat):List Int:=
 if h:n=0 then [] else ((n % 1000000000:Nat):Int) :: aa (n / 1000000000)
termination_by n
decreasing_by exact Nat.div_lt_self (Nat.pos_of_ne_zero h) (by decide)
theorem dU:aa 0=[]:=by rw [aa]; simp
theorem fH {n:Nat} (h:n≠0):aa n=((n % 1000000000:Nat):Int) :: aa (n / 1000000000):=by rw [aa]; simp [h]
theorem ut (n:Nat):val (aa n)=n:=by
 induction n using Nat.strongRecOn with
 | _ n ih=>
  by_cases h:n=0
  .subst h; rw [dU]; rfl
  .rw [fH h,val,ih _ (Nat.div_lt_self (Nat.pos_of_ne_zero h) (by decide))]
   omega
theorem aI (n:Nat):Dig (aa n):=by
 induction n using Nat.strongRecOn with
 | _ n ih=>
  by_cases h:n=0
  .subst h; rw [dU]; exact jR
  .rw [fH h]
   exact bQ.2 ⟨by omega,ih _ (Nat.div_lt_self (Nat.pos_of_ne_zero h) (by decide))⟩
def Top (l:List Int):Prop:=l=[]\/l.getD (l.length - 1) 0≠0
theorem zz {x y:Int} {l:List Int}:Top (x :: y :: l) ↔ Top (y :: l):=by
 constructor
 .intro h
  rcases h with h|h
  .cases h
  .exact .inr (by simpa using h)
 .intro h
  rcases h with h|h
  .cases h
  .exact .inr (by simpa using h)
theorem X7 {l:List Int}:Dig l->Top l->l≠[]->val l≠0:=by
 induction l with
 | nil=>intro _ _ h; exact absurd rfl h
 | cons x l ih=>
  intro hd ht _
  have h:=bQ.1 hd
  have h2:=aA h.2
  simp only [val]
  cases l with
  | nil=>
   rcases ht with ht|ht
   .cases ht
   .have:x≠0:=by simpa using ht
    simp only [val]; omega
  | cons y l=>
   have:=ih h.2 (zz.1 ht) (by simp)
   omega
theorem fI:∀ {l:List Int},Dig l->Top l->aa (val l).toNat=l
 | [],_,_=>dU
 | x :: l,hd,ht=>by
  have h:=bQ.1 hd
  have h2:=aA h.2
  have h0:val (x :: l)≠0:=X7 hd ht (by simp)
  have h1:0<=val (x :: l):=aA hd
  have ht':Top l:=by
   cases l with
   | nil=>exact .inl rfl
   | cons y l=>exact zz.1 ht
  rw [fH (by omega)]
  simp only [val] at h1 ⊢
  have e1:(x+1000000000*val l).toNat % 1000000000=x.toNat:=by omega
  have e2:(x+1000000000*val l).toNat / 1000000000=(val l).toNat:=by omega
  rw [e1,e2,fI h.2 ht',Int.toNat_of_nonneg h.1.1]
theorem kJ (n:Nat):Top (aa n):=by
 induction n using Nat.strongRecOn with
 | _ n ih=>
  by_cases h:n=0
  .subst h; rw [dU]; exact .inl rfl
  .by_cases h2:n / 1000000000=0
   .rw [fH h,h2,dU]
    right
    simp
    omega
   .have:=ih (n / 1000000000) (Nat.div_lt_self (Nat.pos_of_ne_zero h) (by decide))
    rw [fH h]
    rw [fH h2] at this ⊢
    exact zz.2 this
theorem Dp {n:Nat} (h:n≠0):0<(aa n).length:=by rw [fH h]; simp
def tl (l:List Int):Nat->Nat
 | 0=>0
 | n+1=>if l.getD n 0=0 then tl l n else n+1
theorem WG (l:List Int):∀ n,tl l n<=n
 | 0=>Nat.le_refl _
 | n+1=>by
  simp only [tl]
  split
  .exact Nat.le_succ_of_le (WG l n)
  .exact Nat.le_refl _
theorem OH {l:List Int}:∀ {n},n<=l.length->val (l.take (tl l n))=val (l.take n)
 | 0,_=>rfl
 | n+1,h=>by
  simp only [tl]
  split
  .rename_i h0
   rw [OH (by omega),dI (by omega),h0]
   simp
  .rfl
theorem OI {l:List Int}:∀ {n},n<=l.length->Top (l.take (tl l n))
 | 0,_=>.inl rfl
 | n+1,h=>by
  simp only [tl]
  split
  .exact OI (by omega)
  .rename_i h0
   right
   rw [List.length_take,Nat.min_eq_left (by omega)]
   simpa [List.getD_eq_getElem?_getD,List.getElem?_take] using h0
theorem Uu {l:List Int} (h:Dig l):l.take (tl l l.length)=aa (val l).toNat:=by
 have h1:=fI (h.take (tl l l.length)) (OI (Nat.le_refl _))
 rw [OH (Nat.le_refl _),List.take_length] at h1
 exact h1.symm
def uu (a b:List Int):Nat->Bool
 | 0=>false
 | n+1=>if a.getD n 0=b.getD n 0 then uu a b n else decide (a.getD n 0<b.getD n 0)
theorem Bw {a b:List Int} (ha:Dig a) (hb:Dig b):∀ {n:Nat},n<=a.length->n<=b.length->(uu a b n=true ↔ val (a.take n)<val (b.take n))
 | 0,_,_=>by simp [uu,val]
 | n+1,h1,h2=>by
  have ih:=Bw ha hb (n:=n) (by omega) (by omega)
  simp only [uu]
  rw [dI (by omega),dI (by omega)]
  split
  .rename_i he
   rw [ih,he]
   omega
  .rename_i he
   have x1:=fZ (ha.take n)
   have x2:=fZ (hb.take n)
   have y1:=aA (ha.take n)
   have y2:=aA (hb.take n)
   rw [List.length_take,Nat.min_eq_left (by omega)] at x1 x2
   have hp:=pw_pos n
   simp only [decide_eq_true_eq]
   constructor
   .intro hlt
    have:pw n*(a.getD n 0+1)<=pw n*b.getD n 0:=Int.mul_le_mul_of_nonneg_left (by omega) (by omega)
    rw [Int.mul_add] at this
    omega
   .intro hlt
    rcases (show a.getD n 0<b.getD n 0\/b.getD n 0<=a.getD n 0 by omega) with h|h
    .exact h
    .have:pw n*(b.getD n 0+1)<=pw n*a.getD n 0:=Int.mul_le_mul_of_nonneg_left (by omega) (by omega)
     rw [Int.mul_add] at this
     omega
theorem jS {m n:Nat} (h:m<=n):pw m<=pw n:=by
 obtain ⟨k,rfl⟩:=Nat.le.dest h
 rw [vH]
 have h1:=pw_pos m
 have h2:=pw_pos k
 calc pw m=pw m*1:=(Int.mul_one _).symm
  _<=pw m*pw k:=Int.mul_le_mul_of_nonneg_left h2 (Int.le_of_lt h1)
theorem Ir {l:List Int} (h:Dig l) (ht:Top l) (hne:l≠[]):pw (l.length - 1)<=val l:=by
 have hpos:0<l.length:=List.length_pos_iff.2 hne
 have h1:val l=val (l.take (l.length - 1))+pw (l.length - 1)*l.getD (l.length - 1) 0:=by
  have:=dI (l:=l) (n:=l.length - 1) (by omega)
  rw [show l.length - 1+1=l.length by omega,List.take_length] at this
  exact this
 have h2:=aA (h.take (l.length - 1))
 have h3:1<=l.getD (l.length - 1) 0:=by
  rcases ht with ht|ht
  .exact absurd ht hne
  .have:=h.get (l.length - 1); omega
 have h4:pw (l.length - 1)*1<=pw (l.length - 1)*l.getD (l.length - 1) 0:=Int.mul_le_mul_of_nonneg_left h3 (Int.le_of_lt (pw_pos _))
 omega
theorem zC {a b:List Int} (ha:Dig a) (hb:Dig b) (tb:Top b) (h:a.length<b.length):val a<val b:=by
 have h1:=fZ ha
 have h2:=Ir hb tb (by rintro rfl; simp at h)
 have h3:=jS (show a.length<=b.length - 1 by omega)
 omega
def J4 (a b:List Int):Bool:=if a.length=b.length then uu a b a.length else decide (a.length<b.length)
theorem Bz {a b:List Int} (ha:Dig a) (hb:Dig b) (ta:Top a) (tb:Top b):J4 a b=true ↔ val a<val b:=by
 unfold J4
 split
 .rename_i h
  rw [Bw ha hb (Nat.le_refl _) (by omega),List.take_length,h,List.take_length]
 .rename_i h
  simp only [decide_eq_true_eq]
  constructor
  .exact fun hl=>zC ha hb tb hl
  .intro hv
   rcases Nat.lt_or_ge a.length b.length with h1|h1
   .exact h1
   .have:=zC hb ha ta (by omega)
    omega
def fr (x:Int):Int:=if x.tmod (1000000000:Int)<0 then x.tmod (1000000000:Int)+1000000000 else x.tmod (1000000000:Int)
end Go.Dg
namespace Go.Dg
open Go Go.Eng
theorem bt {p:Prop} [Decidable p] {b:Bool}:(bif decide p then b else false)=true ↔ p/\b=true:=by
 by_cases h:p <;> simp [h]
theorem nbt {p:Prop} [Decidable p] {b:Bool}:(!bif decide p then b else false)=true ↔ (p->b=false):=by
 by_cases h:p <;> simp [h]
theorem eb {x y:Int}:(x==y)=true ↔ x=y:=⟨eq_of_beq,fun h=>by rw [h]; exact beq_self_eq_true y⟩
theorem neb {x y:Int}:(x==y)=false ↔ x≠y:=by
 constructor
 .intro h e; rw [eb.2 e] at h; cases h
 .intro h
  cases e:(x==y) with
  | false=>rfl
  | true=>exact absurd (eb.1 e) h
theorem dt {p:Prop} [Decidable p]:decide p=true ↔ p:=decide_eq_true_iff
theorem ndt {p:Prop} [Decidable p]:(!decide p)=true ↔ ¬p:=by by_cases h:p <;> simp [h]
def Sm (d:List Int):Prop:=d.length<=500000
theorem Sm.le {d:List Int} (h:Sm d):d.length<=500000:=h
theorem iw {n:Int} (h0:-9223372036854775808<=n) (h1:n<9223372036854775808):IntKind.i64.wrap n=n:=Go.Ar.i64w h0 h1
end Go.Dg
namespace Go.Proofs.YtbiiiloimbjpaaaDoor.K
open Go Go.Eng
noncomputable section
noncomputable def cL:Ctx:=mkN Tryd.prog (fun _=>none) hG0 [] [] kV
def tlI (d:List Int) (y:Int):Int:=(Go.Dg.tl d y.toNat:Nat)
end
end Go.Proofs.YtbiiiloimbjpaaaDoor.K
namespace Go.Proofs.YtbiiiloimbjpaaaDoor.K
open Go Go.Eng Go.Dg
noncomputable section
theorem gX:CtxOk cL:=oO prog_ok (oL _) (fun x h=>by cases h) (fun x h=>by cases h)
theorem F4 {d:List Int} {i:Int} (h:0<i):tlI d i=if d.getD (i - 1).toNat 0=0 then tlI d (i - 1) else i:=by
 unfold tlI
 obtain ⟨n,rfl⟩:∃ n:Nat,i=(n+1:Nat):=⟨(i - 1).toNat,by omega⟩
 have e1:((n+1:Nat):Int).toNat=n+1:=by omega
 have e2:(((n+1:Nat):Int) - 1).toNat=n:=by omega
 rw [e1,e2]
 simp only [tl]
 split <;> rfl
theorem OJ (d:List Int):0<=tlI d d.length/\tlI d d.length<=d.length:=by
 have:=WG d d.length
 unfold tlI
 rw [show ((d.length:Int)).toNat=d.length by omega]
 omega
theorem OL {d:List Int} (h:Dig d):d.take (tlI d d.length).toNat=aa (val d).toNat:=by
 rw [<- Uu h]
 have e:(tlI d d.length).toNat=tl d d.length:=by
  unfold tlI
  rw [show ((d.length:Int)).toNat=d.length by omega]
  omega
 rw [e]
end
end Go.Proofs.YtbiiiloimbjpaaaDoor.K
namespace Go.Dg
def LA (a b:List Int):Nat->Bool
 | 0=>false
 | n+1=>if a.getD n 0=b.getD n 0 then LA a b n else true
def vI (a b:List Int) (i:Int):Bool:=LA a b (i+1).toNat
theorem F5 {a b:List Int} {i:Int} (h:0<=i):vI a b i=if a.getD i.toNat 0=b.getD i.toNat 0 then vI a b (i - 1) else true:=by
 unfold vI
 rw [show (i+1).toNat=i.toNat+1 by omega,show (i - 1+1).toNat=i.toNat by omega,LA]
theorem F6 {x y:Int}:(x != y)=true ↔ x≠y:=by simp
theorem J5 {x y:Int}:(x != y)=false ↔ x=y:=by simp
theorem ad9 {x y:Int}:(!x != y)=true ↔ x=y:=by
 have:(!x != y)=(x==y):=by simp [bne]
 rw [this]; exact eb
theorem WH {p:Prop} [Decidable p] {b:Bool}:(decide p&&b)=true ↔ p/\b=true:=by
 by_cases h:p <;> simp [h]
end Go.Dg
namespace Go.Dg
open Go.Eng
def okL (neg:Bool) (d:List Int):Prop:=Dig d/\Top d/\(neg=true->d≠[])/\Sm d
def zv (neg:Bool) (d:List Int):Int:=bif neg then -val d else val d
theorem okL.digs_eq {neg:Bool} {d:List Int} (h:okL neg d):aa (zv neg d).natAbs=d:=by
 have h0:=aA h.1
 have e:(zv neg d).natAbs=(val d).toNat:=by
  cases neg <;> simp [zv] <;> omega
 rw [e,fI h.1 h.2.1]
theorem okL.nil {neg:Bool} {d:List Int} (h:okL neg d):d=[] ↔ zv neg d=0:=by
 constructor
 .rintro rfl; cases neg <;> rfl
 .intro e
  rw [<- h.digs_eq,e]; exact dU
theorem F7 {n k:Nat} (h:(n:Int)<pw k):(aa n).length<=k:=by
 rcases Nat.lt_or_ge k (aa n).length with h1|h1
 .have:=Ir (aI n) (kJ n) (by intro e; rw [e] at h1; simp at h1)
  rw [ut] at this
  have:=jS (show k<=(aa n).length - 1 by omega)
  omega
 .exact h1
end Go.Dg
namespace Go.Dg
open Go Go.Eng
end Go.Dg
namespace Go.Dg
end Go.Dg
namespace Go.Dg
open Go Go.Eng
def aW:Nat->Int->List Int
 | 0,_=>[]
 | n+1,v=>v % 1000000000 :: aW n (v / 1000000000)
theorem dn:∀ (n:Nat) (v:Int),(aW n v).length=n
 | 0,_=>rfl
 | n+1,v=>by simp [aW,dn n]
theorem jw:∀ (n:Nat) (v:Int),Dig (aW n v)
 | 0,_=>jR
 | n+1,v=>bQ.2 ⟨by omega,jw n _⟩
theorem kK:∀ {n:Nat} {v:Int},0<=v->v<pw n->val (aW n v)=v
 | 0,v,h0,h1=>by
  have:pw 0=1:=rfl
  simp only [aW,val]; omega
 | n+1,v,h0,h1=>by
  simp only [aW,val]
  have h2:pw (n+1)=1000000000*pw n:=rfl
  rw [kK (by omega) (by omega)]
  omega
theorem J6:∀ {d:List Int},Dig d->d=aW d.length (val d)
 | [],_=>rfl
 | x :: l,h=>by
  have h:=bQ.1 h
  simp only [List.length_cons,aW,val]
  rw [show (x+1000000000*val l) % (1000000000:Int)=x by omega,show (x+1000000000*val l) / (1000000000:Int)=val l by omega,<- J6 h.2]
theorem F8:∀ n,List.replicate n (0:Int)=aW n 0
 | 0=>rfl
 | n+1=>by simp [List.replicate_succ,aW,<- F8 n]
theorem oU {d:List Int} (h:Dig d) {n:Nat} {v:Int} (hl:d.length=n) (hv:val d=v):d=aW n v:=by
 subst hl hv; exact J6 h
theorem ndf {p:Prop} [Decidable p] (h:¬p):decide p=false:=decide_eq_false h
theorem F9:∀ (n:Nat) (v:Int) (i:Nat),i<n->(aW n v).getD i 0=v / pw i % (1000000000:Int)
 | 0,_,_,h=>by omega
 | n+1,v,0,_=>by simp [aW,pw]
 | n+1,v,i+1,h=>by
  simp only [aW,List.getD_cons_succ]
  rw [F9 n _ i (by omega),Int.ediv_ediv_of_nonneg (by decide)]
  rfl
structure OkQ (p q:Bool) (n d:List Int):Prop where
 hn:okL p n
 hd:okL q d
 hq:q=false
 ne:d≠[]
 ln:n.length<=600
 ld:d.length<=600
 cop:Int.gcd (zv p n) (zv q d)=1
theorem Uv {x y:Int} {k l:Nat} (hx:(x.natAbs:Int)<pw k) (hy:(y.natAbs:Int)<pw l):((x*y).natAbs:Int)<pw (k+l):=by
 rw [Int.natAbs_mul,vH,Int.natCast_mul]
 have h0:(0:Int)<=x.natAbs:=by omega
 have h1:(0:Int)<=y.natAbs:=by omega
 have h2:=pw_pos k
 calc (x.natAbs:Int)*y.natAbs<=x.natAbs*pw l:=Int.mul_le_mul_of_nonneg_left (by omega) h0
  _<pw k*pw l:=Int.mul_lt_mul_of_pos_right hx (pw_pos l)
theorem len_mul {x y:Int} {k l:Nat} (hx:(x.natAbs:Int)<pw k) (hy:(y.natAbs:Int)<pw l):(aa (x*y).natAbs).length<=k+l:=F7 (Uv hx hy)
end Go.Dg
namespace Go.Dg
theorem jT (n:Nat):pw (n+1)=1000000000*pw n:=rfl
end Go.Dg
namespace Go.Dg
open Go Go.Eng
theorem Ga {a:List Int} {i:Nat} (h:i<a.length):val (a.drop i)=a.getD i 0+1000000000*val (a.drop (i+1)):=by
 rw [List.drop_eq_getElem_cons h]
 show a[i]+1000000000*val (a.drop (i+1))=_
 congr 1
 simp [List.getD_eq_getElem?_getD,List.getElem?_eq_getElem h]
theorem getD_set {l:List Int} {i j:Nat} {x:Int} (h:i≠j):(l.set i x).getD j 0=l.getD j 0:=by
 simp [List.getD_eq_getElem?_getD,List.getElem?_set_ne h]
theorem gB {l:List Int} {i:Nat} {x:Int} (h:i<l.length):(l.set i x).getD i 0=x:=by
 simp [List.getD_eq_getElem?_getD,h]
structure PaI (a:List Int) (n i r:Int) (d:List Int):Prop where
 l:d.length=a.length
 dg:Dig d
 i0:-1<=i
 i1:i<a.length
 z:∀ j:Nat,(j:Int)<=i->d.getD j 0=0
 v:val d*n+pw (i+1).toNat*r=pw (i+1).toNat*val (a.drop (i+1).toNat)
 r0:0<=r
 r1:r<n
theorem PaI.start {a:List Int} {n:Int} (hn:0<n):PaI a n (a.length - 1) 0 (List.replicate a.length 0):=by
 refine ⟨by simp,OG _,by omega,by omega,fun j hj=>?_,?_,Int.le_refl _,hn⟩
 .simp [List.getD_eq_getElem?_getD,List.getElem?_replicate]
  split <;> rfl
 .rw [F3,show ((a.length:Int) - 1+1).toNat=a.length by omega,List.drop_length]
  simp [val]
theorem PaI.step {a:List Int} {n i r:Int} {d:List Int} (ha:Dig a) (h:PaI a n i r d) (hi:0<=i):PaI a n (i - 1) ((r*1000000000+a.getD i.toNat 0).tmod n) (d.set i.toNat ((r*1000000000+a.getD i.toNat 0).tdiv n)):=by
 obtain ⟨l,dg,i0,i1,z,v,r0,r1⟩:=h
 have ga:=ha.get i.toNat
 have m0:0<=r*1000000000+a.getD i.toNat 0:=by omega
 have hn:0<n:=by omega
 have eq1:(r*1000000000+a.getD i.toNat 0).tmod n=(r*1000000000+a.getD i.toNat 0) % n:=Int.tmod_eq_emod_of_nonneg m0
 have eq2:(r*1000000000+a.getD i.toNat 0).tdiv n=(r*1000000000+a.getD i.toNat 0) / n:=Int.tdiv_eq_ediv_of_nonneg m0
 rw [eq1,eq2]
 have q0:0<=(r*1000000000+a.getD i.toNat 0) / n:=Int.ediv_nonneg m0 (by omega)
 have q1:(r*1000000000+a.getD i.toNat 0) / n<1000000000:=by
  apply Int.ediv_lt_of_lt_mul hn
  have:(r+1)*1000000000<=n*1000000000:=Int.mul_le_mul_of_nonneg_right (by omega) (by decide)
  omega
 have hil:i.toNat<d.length:=by omega
 have e0:(i - 1+1).toNat=i.toNat:=by omega
 have e1:(i+1).toNat=i.toNat+1:=by omega
 have ed:=Int.mul_ediv_add_emod (r*1000000000+a.getD i.toNat 0) n
 refine ⟨by simp [l],dg.set _ ⟨q0,q1⟩,by omega,by omega,fun j hj=>?_,?_,Int.emod_nonneg _ (by omega),Int.emod_lt_of_pos _ hn⟩
 .rw [getD_set (by omega)]
  exact z j (by omega)
 .rw [e0,kX _ _ _ hil,z i.toNat (by omega),Ga (by omega)]
  rw [e1,jT] at v
  generalize (r*1000000000+a.getD i.toNat 0) / n=q at *
  generalize (r*1000000000+a.getD i.toNat 0) % n=r' at *
  generalize val (a.drop (i.toNat+1))=V at *
  generalize a.getD i.toNat 0=x at *
  generalize pw i.toNat=p at *
  generalize val d=D at *
  grind
theorem PaI.fin {a:List Int} {n i r:Int} {d:List Int} (h:PaI a n i r d) (hi:¬ 0<=i):i=-1/\r=val a % n/\d=aW a.length (val a / n):=by
 obtain ⟨l,dg,i0,i1,z,v,r0,r1⟩:=h
 have e:i=-1:=by omega
 subst e
 have v:val d*n+1*r=1*val (a.drop 0):=v
 rw [List.drop_zero] at v
 have h1:val a / n=val d:=by
  rw [show val a=r+val d*n by omega,Int.add_mul_ediv_right _ _ (by omega),Int.ediv_eq_zero_of_lt r0 r1]
  omega
 have h2:val a % n=r:=by
  rw [show val a=r+val d*n by omega,Int.add_mul_emod_self_right]
  exact Int.emod_eq_of_lt r0 r1
 exact ⟨rfl,h2.symm,oU dg l h1.symm⟩
end Go.Dg
namespace Go.Proofs.YtbiiiloimbjpaaaDoor.K
open Go Go.Eng Go.Dg
noncomputable section
def zA (a:List Int) (n:Int):List AV:=[.lslice 0 a.length,.int true .i64 n]
def zH (a:List Int):Hp:=fF true hG0 [(.i64,a)]
def Gb:AFr:=⟨87,none⟩
noncomputable def OM:Code:=iX Tryd.prog 87 0
noncomputable def zD (a:List Int) (n:Int):St:=uo cL 300 87 (zA a n) (zH a)
def Iu (i r:Int) (d:List Int):Patch:=⟨(7,.int true .i64 r) :: (8,.int true .i64 i) :: fD 15 20,[(1,.ints .i64 d)],[]⟩
def vJ (a:List Int) (n:Int):SumL (Int×Int×List Int):=
 {
  S:=fun (i,r,d)=>Iu i r d
  I:=fun (i,r,d)=>PaI a n i r d
  μ:=fun (i,_,_)=>(i+1).toNat
  F:=fun _=>(.exit 0,Iu (-1) (val a % n) (aW a.length (val a / n)))
  next:=fun (i,r,d)=>(i - 1,(r*1000000000+a.getD i.toNat 0).tmod n,d.set i.toNat ((r*1000000000+a.getD i.toNat 0).tdiv n))
  ids:=fun _=>[]
  X:=fun (i,r,d) _=>some (Iu i r d,[]) }
def Dq (a:List Int) (n:Int):Prop:=((0:Int)=0/\IntKind.i64.wrap ((↑a.length:Int) - (1:Int))=(↑a.length:Int) - (1:Int))/\List.replicate (↑a.length:Int).toNat (0:Int)=List.replicate a.length (0:Int)
theorem LB (a:List Int) (n:Int):fit (zD a n) (zD a n) (ah (zD a n) ((vJ a n).S (a.length - 1,0,List.replicate a.length 0))) ([])=some (.p (Dq a n)):=by kernel_rfl
def Iw (a:List Int) (n i r:Int) (d:List Int):Prop:=(decide (i>=0)=true->(((0:Int)<=i/\i<(↑a.length:Int))/\i.toNat<a.length)/\n≠0/\n≠0/\((0:Int)<=i/\i<(↑a.length:Int))/\((0:Int)+i).toNat<d.length)/\((!decide (i>=0))=true->((r=r/\i=i)/\d=d)/\(vJ a n).F (i,r,d)=(Ex.exit (0:Nat),Iu i r d))/\(decide (i>=0)=true->(((IntKind.i64.wrap (IntKind.i64.wrap (r*1000000000)+a.getD i.toNat (0:Int))).tmod n=(r*1000000000+a.getD i.toNat (0:Int)).tmod n/\IntKind.i64.wrap (i - (1:Int))=i - (1:Int))/\d.set ((0:Int)+i).toNat (IntKind.i64.wrap ((IntKind.i64.wrap (IntKind.i64.wrap (r*1000000000)+a.getD i.toNat (0:Int))).tdiv n))=d.set i.toNat ((r*1000000000+a.getD i.toNat (0:Int)).tdiv n))/\(vJ a n).I ((vJ a n).next (i,r,d))/\(vJ a n).μ ((vJ a n).next (i,r,d))<(vJ a n).μ (i,r,d)/\(vJ a n).F ((vJ a n).next (i,r,d))=(vJ a n).F (i,r,d))
theorem Uw (a:List Int) (n i r:Int) (d:List Int):d9 (zD a n) ((vJ a n).way ((i,r,d))) ((run cL 300).code Gb OM (ah (zD a n) ((vJ a n).S (i,r,d))))=some (.p (Iw a n i r d)):=by kernel_rfl
theorem OO {a:List Int} {n:Int} (ha:Dig a) (la:Sm a) (h0:1<=n) (h1:n<=1000000000):CodeOk cL Gb (.loop OM) (zD a n) ⟨.tt,[⟨.tt,.exit 0,ah (zD a n) (Iu (-1) (val a % n) (aW a.length (val a / n)))⟩]⟩:=by
 have la:=la.le
 refine lY (bL gX 300) (vJ a n) (y0:=((a.length:Int) - 1,0,List.replicate a.length 0)) (PaI.start (by omega)) ⟨_,LB a n,⟨⟨rfl,iw (by omega) (by omega)⟩,by rw [show ((a.length:Int)).toNat=a.length by omega]⟩⟩ (by kernel_rfl) (fun y hy=>?_) rfl
 obtain ⟨i,r,d⟩:=y
 have hI:PaI a n i r d:=hy
 obtain ⟨l,dg,i0,i1,z,v,r0,r1⟩:=id hI
 refine ⟨_,Uw a n i r d,fun h=>?_,fun h=>⟨⟨⟨rfl,rfl⟩,rfl⟩,?_⟩,fun h=>?_⟩
 .have h:i>=0:=dt.1 h
  exact ⟨⟨⟨by omega,i1⟩,by omega⟩,by omega,by omega,⟨by omega,i1⟩,by omega⟩
 .obtain ⟨e1,e2,e3⟩:=hI.fin (ndt.1 h)
  show (Ex.exit 0,Iu (-1) (val a % n) (aW a.length (val a / n)))=_
  rw [e1,e2,<- e3]
 .have h:i>=0:=dt.1 h
  have g:=ha.get i.toNat
  have e1:IntKind.i64.wrap (r*1000000000)=r*1000000000:=iw (by omega) (by omega)
  have e2:IntKind.i64.wrap (r*1000000000+a.getD i.toNat 0)=r*1000000000+a.getD i.toNat 0:=iw (by omega) (by omega)
  have m0:0<=r*1000000000+a.getD i.toNat 0:=by omega
  have e3:IntKind.i64.wrap ((r*1000000000+a.getD i.toNat 0).tdiv n)=(r*1000000000+a.getD i.toNat 0).tdiv n:=by
   rw [Int.tdiv_eq_ediv_of_nonneg m0]
   have:=Int.ediv_nonneg m0 (show 0<=n by omega)
   have:=Int.ediv_le_self n m0
   exact iw (by omega) (by omega)
  refine ⟨⟨⟨by rw [e1,e2],iw (by omega) (by omega)⟩,by rw [e1,e2,e3,show ((0:Int)+i).toNat=i.toNat by omega]⟩,hI.step ha h,?_,rfl⟩
  show (i - 1+1).toNat<(i+1).toNat
  omega
def jU:AFr:=⟨86,none⟩
noncomputable def trA:Code:=iX Tryd.prog 86 0
def trP (id:Nat) (y:Int):Patch:=⟨(0,.islice true id 0 y) :: fD 3 17,[],[]⟩
def trU (id:Nat) (d:List Int) (N:Int):SumL Int:=
 {
  S:=fun y=>trP id y
  I:=fun y=>0<=y/\y<=N
  μ:=fun y=>y.toNat
  F:=fun y=>(.exit 0,trP id (tlI d y))
  next:=fun y=>y - 1
  ids:=fun _=>[]
  X:=fun y _=>some (trP id y,[]) }
def trN (id:Nat) (d:List Int) (N y:Int):Prop:=((decide (y>0)=true->((0:Int)<=IntKind.i64.wrap (y - (1:Int))/\IntKind.i64.wrap (y - (1:Int))<y)/\((0:Int)+IntKind.i64.wrap (y - (1:Int))).toNat<d.length)/\((bif decide (y>0) then d.getD ((0:Int)+IntKind.i64.wrap (y - (1:Int))).toNat (0:Int)==0 else false)=true->(0:Int)<=0/\(0:Int)<=IntKind.i64.wrap (y - (1:Int))/\IntKind.i64.wrap (y - (1:Int))<=y))/\((!bif decide (y>0) then d.getD ((0:Int)+IntKind.i64.wrap (y - (1:Int))).toNat (0:Int)==0 else false)=true->((0:Int)=0/\y=y)/\(trU id d N).F y=(Ex.exit (0:Nat),trP id y))/\((bif decide (y>0) then d.getD ((0:Int)+IntKind.i64.wrap (y - (1:Int))).toNat (0:Int)==0 else false)=true->((0:Int)+0=0/\IntKind.i64.wrap (y - (1:Int)) - (0:Int)=(trU id d N).next y)/\(trU id d N).I ((trU id d N).next y)/\(trU id d N).μ ((trU id d N).next y)<(trU id d N).μ y/\(trU id d N).F ((trU id d N).next y)=(trU id d N).F y)
theorem X8 {id:Nat} {d:List Int} {N y:Int} (hN:N=d.length) (ld:Sm d) (h0:0<=y) (h1:y<=N):trN id d N y:=by
 have ld:=ld.le
 have ez:∀ z:Int,(0+z).toNat=z.toNat:=fun z=>by rw [Int.zero_add]
 refine ⟨⟨fun h=>?_,fun h=>?_⟩,fun h=>⟨⟨rfl,rfl⟩,?_⟩,fun h=>?_⟩
 .have h:=of_decide_eq_true h
  rw [iw (by omega) (by omega)]
  omega
 .obtain ⟨h2,_⟩:=bt.1 h
  rw [iw (by omega) (by omega)]
  omega
 .show (Ex.exit 0,trP id (tlI d y))=_
  have h:=nbt.1 h
  by_cases h2:0<y
  .have h3:=neb.1 (h h2)
   rw [iw (by omega) (by omega),ez] at h3
   rw [F4 h2,if_neg h3]
  .have:y=0:=by omega
   subst this; rfl
 .obtain ⟨h2,h3⟩:=bt.1 h
  have h2:0<y:=h2
  have h3:=eb.1 h3
  rw [iw (by omega) (by omega),ez] at h3
  rw [iw (by omega) (by omega)]
  refine ⟨⟨rfl,by show y - 1 - 0=y - 1; omega⟩,?_,?_,?_⟩
  .show 0<=y - 1/\y - 1<=N
   omega
  .show (y - 1).toNat<y.toNat
   omega
  .show (Ex.exit 0,trP id (tlI d (y - 1)))=(Ex.exit 0,trP id (tlI d y))
   rw [F4 h2,if_pos h3]
theorem xq {S:St} {id:Nat} {d:List Int} {N:Int} (hN:N=d.length) (ld:Sm d) (hs:fit S S (ah S ((trU id d N).S N)) []=some (.p ((0:Int)=0/\N=N))) (ho:fU S.hp (((trU id d N).S N).old)=true)
  (hb:∀ y,d9 S ((trU id d N).way y) ((run cL 300).code jU trA (ah S ((trU id d N).S y)))=some (.p (trN id d N y))):CodeOk cL jU (.loop trA) S ⟨.tt,[⟨.tt,.exit 0,ah S (trP id (tlI d N))⟩]⟩:=
 lY (bL gX 300) (trU id d N) (y0:=N) ⟨by omega,by omega⟩ ⟨_,hs,rfl,rfl⟩ ho (fun y hy=>⟨_,hb y,X8 hN ld hy.1 hy.2⟩) rfl
noncomputable def ptS (a d:List Int) (N:Int):St:=uo cL 300 86 [.islice true 1 0 N] ⟨[⟨14,.ints .i64 d⟩,⟨0,.rows .i64 a⟩],2,17⟩
theorem OP (a d:List Int) (N:Int):fit (ptS a d N) (ptS a d N) (ah (ptS a d N) ((trU 1 d N).S N)) []=some (.p ((0:Int)=0/\N=N)):=by kernel_rfl
theorem Ux (a d:List Int) (N y:Int):d9 (ptS a d N) ((trU 1 d N).way y) ((run cL 300).code jU trA (ah (ptS a d N) ((trU 1 d N).S y)))=some (.p (trN 1 d N y)):=by kernel_rfl
theorem Uy (a:List Int) {d:List Int} {N:Int} (hN:N=d.length) (ld:Sm d):CodeOk cL jU (.loop trA) (ptS a d N) ⟨.tt,[⟨.tt,.exit 0,ah (ptS a d N) (trP 1 (tlI d N))⟩]⟩:=xq hN ld (OP a d N) (by kernel_rfl) (fun y=>Ux a d N y)
noncomputable def cPt (a:List Int) (n:Int):Ctx:=bg cL [bY 87 (zD a n).hp.clock Gb OM (zD a n) (.exit 0) (Iu (-1) (val a % n) (aW a.length (val a / n))),bY 86 20 jU trA (ptS a (aW a.length (val a / n)) a.length) (.exit 0) (trP 1 (tlI (aW a.length (val a / n)) a.length))]
theorem X9 {a:List Int} {n:Int} (ha:Dig a) (la:Sm a) (h0:1<=n) (h1:n<=1000000000):CtxOk (cPt a n):=
 aO gX (OO ha la h0 h1) (aO gX (Uy a (dn _ _ ▸ rfl) (by show (aW _ _).length<=500000; rw [dn]; exact la)) (cK gX))
def Uz (a:List Int) (n:Int):Prop:=(((↑a.length:Int)=(↑a.length:Int)/\(0:Int)<=(↑a.length:Int)/\(↑a.length:Int)<=1048576)/\At (Gb) (Gb) (OM) (OM) (zD a n) (zD a n)/\At (jU) (jU) (trA) (trA) (ptS a (aW a.length (val a / n)) a.length) (ptS a (aW a.length (val a / n)) a.length))
def Ya (a:List Int) (n:Int):AV:=(AV.tuple [AV.islice true 1 (0:Int) (tlI (aW a.length (val a / n)) (↑a.length:Int)),AV.int true IntKind.i64 (val a % n)])
def Yb (a:List Int) (n:Int):Hp:=⟨[{ wr:=14,body:=ABody.ints IntKind.i64 (aW a.length (val a / n)) },{ wr:=(0:Nat),body:=ABody.rows IntKind.i64 a }],2,26⟩
theorem aea (a:List Int) (n:Int):(run (cPt a n) 300).call 87 (zA a n) (zH a)=some ⟨.p (Uz a n),[⟨.tt,Ya a n,Yb a n⟩]⟩:=by kernel_rfl
def Yc:List Nu->List (List Int)->Option (Prop×To)
 | [.n n],[a]=>some (Dig a/\a.length<=500000/\1<=n/\n<=1000000000,.tu [.li false (aa (val a / n).toNat),.nu .i64 (val a % n)])
 | _,_=>none
theorem Yd {a:List Int} {n:Int} (ha:Dig a) (h0:1<=n):val (aW a.length (val a / n))=val a / n:=by
 have h1:=aA ha
 have h2:=fZ ha
 have h3:=Int.ediv_le_self n h1
 exact kK (Int.ediv_nonneg h1 (by omega)) (by omega)
theorem J7 {d:List Int} {N:Int} (h:Dig d) (hN:N=d.length):List.take (tlI d N).toNat (List.drop (Int.toNat 0) d)=aa (val d).toNat:=by
 rw [show Int.toNat 0=0 from rfl,List.drop_zero,hN]
 exact OL h
theorem part_ok:NOk Tryd.prog (fun _=>none) hG0 87 (eO hG0 .i64 [.li,.nu (.i .i64)] Yc):=by
 refine fG (fun xs ys p t e h=>?_) ⟨_,Tryd.func87,rfl⟩
 unfold Yc at e
 split at e
 .rename_i n a
  cases e
  obtain ⟨ha,la,h0,h1⟩:=h
  refine ⟨cPt a n,300,zA a n,_,_,_,_,_,X9 ha la h0 h1,rfl,rfl,⟨rfl,⟨rfl,rfl⟩,trivial⟩,aea a n,rfl,⟨⟨rfl,by omega,by omega⟩,⟨rfl,rfl,rfl⟩,⟨rfl,rfl,rfl⟩⟩,rfl,rfl,?_⟩
  have hl:=OJ (aW a.length (val a / n))
  rw [dn] at hl
  refine ⟨⟨⟨by omega,by omega,by rw [dn]; omega⟩,?_⟩,rfl⟩
  show List.take _ (List.drop _ (aW a.length (val a / n)))=aa (val a / n).toNat
  rw [J7 (jw _ _) (by rw [dn]),Yd ha h0]
 .cases e
end
end Go.Proofs.YtbiiiloimbjpaaaDoor.K
namespace Go.Dg
open Go Go.Eng
theorem BA {n j k:Nat} {v:Int} (h0:0<=v) (h:v<pw k) (hj:k<=j):(aW n v).getD j 0=0:=by
 rcases Nat.lt_or_ge j n with h1|h1
 .rw [F9 n v j h1]
  have:=jS hj
  rw [Int.ediv_eq_zero_of_lt h0 (by omega)]
  rfl
 .rw [List.getD_eq_getElem?_getD,List.getElem?_eq_none (by rw [dn]; exact h1)]
  rfl
theorem Dr:∀ {d:List Int} {k:Nat},Dig d->(∀ j,k<=j->d.getD j 0=0)->val d<pw k
 | [],k,_,_=>pw_pos k
 | x :: l,0,h,z=>by
  have h':=bQ.1 h
  have z0:x=0:=z 0 (Nat.le_refl _)
  have:=Dr (k:=0) h'.2 (fun j _=>z (j+1) (by omega))
  have e:pw 0=1:=rfl
  show x+1000000000*val l<pw 0
  omega
 | x :: l,k+1,h,z=>by
  have h':=bQ.1 h
  have:=Dr (k:=k) h'.2 (fun j hj=>z (j+1) (by omega))
  rw [jT]
  show x+1000000000*val l<_
  omega
def tmV (a b:List Int) (i:Int):Int:=val (a.take i.toNat)*val b
theorem Iy {a b:List Int} (ha:Dig a) (hb:Dig b) {i:Int} (h0:0<=i) (h1:i<=a.length):0<=tmV a b i/\tmV a b i<pw (i.toNat+b.length):=by
 have t0:=aA (ha.take i.toNat)
 have t1:=fZ (ha.take i.toNat)
 have b0:=aA hb
 have b1:=fZ hb
 rw [List.length_take,Nat.min_eq_left (by omega)] at t1
 refine ⟨Int.mul_nonneg t0 b0,?_⟩
 rw [vH]
 have p:=pw_pos i.toNat
 calc val (a.take i.toNat)*val b<=pw i.toNat*val b:=Int.mul_le_mul_of_nonneg_right (by omega) b0
  _<pw i.toNat*pw b.length:=Int.mul_lt_mul_of_pos_left b1 p
structure TmI (a b:List Int) (i k c:Int) (d:List Int):Prop where
 l:d.length=a.length+b.length
 dg:Dig d
 k0:0<=k
 k1:k<=b.length
 c0:0<=c
 c1:c<1000000000
 v:val d+pw (i.toNat+k.toNat)*c=tmV a b i+pw i.toNat*(a.getD i.toNat 0*val (b.take k.toNat))
 z:∀ j:Nat,i.toNat+b.length<=j->d.getD j 0=0
theorem TmI.start {a b:List Int} (ha:Dig a) (hb:Dig b) {i:Int} (h0:0<=i) (h1:i<a.length):TmI a b i 0 0 (aW (a.length+b.length) (tmV a b i)):=by
 obtain ⟨t0,t1⟩:=Iy ha hb h0 (Int.le_of_lt h1)
 have t2:=jS (show i.toNat+b.length<=a.length+b.length by omega)
 refine ⟨dn _ _,jw _ _,Int.le_refl _,by omega,Int.le_refl _,by decide,?_,fun j hj=>BA t0 t1 hj⟩
 rw [kK t0 (by omega)]
 simp [val]
theorem TmI.num {a b:List Int} (ha:Dig a) (hb:Dig b) {i k c:Int} {d:List Int} (h:TmI a b i k c d) (hk:k<b.length):0<=a.getD i.toNat 0*b.getD k.toNat 0/\a.getD i.toNat 0*b.getD k.toNat 0<=999999998000000001/\0<=d.getD (i.toNat+k.toNat) 0/\d.getD (i.toNat+k.toNat) 0<1000000000:=by
 have g1:=ha.get i.toNat
 have g2:=hb.get k.toNat
 have g3:=h.dg.get (i.toNat+k.toNat)
 refine ⟨Int.mul_nonneg g1.1 g2.1,?_,g3⟩
 exact Int.mul_le_mul (show a.getD i.toNat 0<=999999999 by omega) (show b.getD k.toNat 0<=999999999 by omega) g2.1 (by decide)
theorem TmI.step {a b:List Int} (ha:Dig a) (hb:Dig b) {i k c:Int} {d:List Int} (h:TmI a b i k c d) (hi:i<a.length) (hk:k<b.length):
  TmI a b i (k+1) ((d.getD (i.toNat+k.toNat) 0+a.getD i.toNat 0*b.getD k.toNat 0+c).tdiv 1000000000) (d.set (i.toNat+k.toNat) ((d.getD (i.toNat+k.toNat) 0+a.getD i.toNat 0*b.getD k.toNat 0+c).tmod 1000000000)):=by
 obtain ⟨m0,m1,m2,m3⟩:=h.num ha hb hk
 obtain ⟨l,dg,k0,k1,c0,c1,v,z⟩:=h
 have n0:0<=d.getD (i.toNat+k.toNat) 0+a.getD i.toNat 0*b.getD k.toNat 0+c:=by omega
 rw [Int.tdiv_eq_ediv_of_nonneg n0,Int.tmod_eq_emod_of_nonneg n0]
 have ek:(k+1).toNat=k.toNat+1:=by omega
 have hl:i.toNat+k.toNat<d.length:=by omega
 refine ⟨by simp [l],dg.set _ (by omega),by omega,by omega,by omega,by omega,?_,fun j hj=>?_⟩
 .rw [ek,kX _ _ _ hl,dI (by omega),<- Nat.add_assoc,jT]
  have ed:=Int.mul_ediv_add_emod (d.getD (i.toNat+k.toNat) 0+a.getD i.toNat 0*b.getD k.toNat 0+c) 1000000000
  rw [vH] at v ⊢
  generalize (d.getD (i.toNat+k.toNat) 0+a.getD i.toNat 0*b.getD k.toNat 0+c) / 1000000000=Q at *
  generalize (d.getD (i.toNat+k.toNat) 0+a.getD i.toNat 0*b.getD k.toNat 0+c) % 1000000000=R at *
  generalize d.getD (i.toNat+k.toNat) 0=x at *
  generalize a.getD i.toNat 0=y at *
  generalize b.getD k.toNat 0=w at *
  generalize pw i.toNat=p at *
  generalize pw k.toNat=q at *
  generalize tmV a b i=V at *
  generalize val (b.take k.toNat)=u at *
  generalize val d=D at *
  grind
 .rw [getD_set (by omega)]
  exact z j hj
def tmW (a b:List Int) (i:Int):Int:=tmV a b i+pw i.toNat*(a.getD i.toNat 0*val b)
theorem Ye {a b:List Int} {i:Int} (h0:0<=i) (h1:i<a.length):tmW a b i=tmV a b (i+1):=by
 unfold tmW tmV
 rw [show (i+1).toNat=i.toNat+1 by omega,dI (by omega)]
 grind
theorem TmI.fin {a b:List Int} {i k c:Int} {d:List Int} (h:TmI a b i k c d) (hk:¬ k<b.length):k=b.length/\c=tmW a b i / pw (i.toNat+b.length)/\d=aW (a.length+b.length) (tmW a b i % pw (i.toNat+b.length)):=by
 obtain ⟨l,dg,k0,k1,c0,c1,v,z⟩:=h
 have e:k=b.length:=by omega
 subst e
 have d0:=aA dg
 have d1:=Dr dg z
 have p:=pw_pos (i.toNat+b.length)
 rw [show ((b.length:Int)).toNat=b.length by omega,List.take_length] at v
 have hW:tmW a b i=val d+pw (i.toNat+b.length)*c:=v.symm
 refine ⟨rfl,?_,oU dg l ?_⟩
 .rw [hW,Int.add_mul_ediv_left _ _ (by omega),Int.ediv_eq_zero_of_lt d0 d1]; omega
 .rw [hW,Int.add_mul_emod_self_left,Int.emod_eq_of_lt d0 d1]
theorem Yf {a b:List Int} (ha:Dig a) (hb:Dig b) {i:Int} (h0:0<=i) (h1:i<a.length):
  (aW (a.length+b.length) (tmW a b i % pw (i.toNat+b.length))).set (i.toNat+b.length) (tmW a b i / pw (i.toNat+b.length))=aW (a.length+b.length) (tmV a b (i+1)):=by
 obtain ⟨t0,t1⟩:=Iy ha hb (show 0<=i+1 by omega) (show i+1<=a.length by omega)
 have p:=pw_pos (i.toNat+b.length)
 rw [Ye h0 h1]
 rw [show (i+1).toNat+b.length=(i.toNat+b.length)+1 by omega,jT] at t1
 have m0:=Int.emod_nonneg (tmV a b (i+1)) (show pw (i.toNat+b.length)≠0 by omega)
 have m1:=Int.emod_lt_of_pos (tmV a b (i+1)) p
 have m2:=jS (show i.toNat+b.length<=a.length+b.length by omega)
 have q0:=Int.ediv_nonneg t0 (show 0<=pw (i.toNat+b.length) by omega)
 have q1:tmV a b (i+1) / pw (i.toNat+b.length)<1000000000:=Int.ediv_lt_of_lt_mul p (by omega)
 have ed:=Int.mul_ediv_add_emod (tmV a b (i+1)) (pw (i.toNat+b.length))
 apply oU ((jw _ _).set _ ⟨q0,q1⟩)
 .rw [List.length_set,dn]
 .rw [kX _ _ _ (by rw [dn]; omega),BA m0 m1 (Nat.le_refl _),kK m0 (by omega)]
  rw [Int.sub_zero]
  omega
theorem Yg {a b:List Int} (ha:Dig a) (hb:Dig b):val (aW (a.length+b.length) (tmV a b a.length))=val a*val b:=by
 obtain ⟨t0,t1⟩:=Iy ha hb (show 0<=(a.length:Int) by omega) (Int.le_refl _)
 rw [show ((a.length:Int)).toNat=a.length by omega] at t1
 rw [kK t0 t1]
 unfold tmV
 rw [show ((a.length:Int)).toNat=a.length by omega,List.take_length]
end Go.Dg
namespace Go.Proofs.YtbiiiloimbjpaaaDoor.K
open Go Go.Eng Go.Dg
noncomputable section
def zB (a b:List Int):List AV:=[.lslice 0 a.length,.lslice 1 b.length]
def zG (a b:List Int):Hp:=fF true hG0 [(.i64,a),(.i64,b)]
def wS:AFr:=⟨72,none⟩
noncomputable def Iz:Code:=iX Tryd.prog 72 0
noncomputable def OQ:Code:=iX Tryd.prog 72 1
noncomputable def toS (a b:List Int):St:=uo cL 300 72 (zB a b) (zG a b)
def tmL (a b:List Int):Nat:=a.length+b.length
def toP (i:Int) (d:List Int):Patch:=⟨fD 6 6++(20,.int true .i64 i) :: fD 21 41,[(2,.ints .i64 d)],[]⟩
def toU (a b:List Int):SumL Int:=
 {
  S:=fun i=>toP i (aW (tmL a b) (tmV a b i))
  I:=fun i=>0<=i/\i<=a.length
  μ:=fun i=>(a.length - i).toNat
  F:=fun _=>(.exit 0,toP a.length (aW (tmL a b) (tmV a b a.length)))
  next:=fun i=>i+1
  ids:=fun _=>[]
  X:=fun i _=>some (toP i (aW (tmL a b) (tmV a b i)),[]) }
noncomputable def zF (a b:List Int) (i:Int):St:=ad6 cL 300 wS Iz (ah (toS a b) ((toU a b).S i))
def tiP (k c:Int) (d:List Int):Patch:=⟨(8,.int true .i64 c) :: fD 9 3++(27,.int true .i64 k) :: fD 28 26,[(2,.ints .i64 d)],[]⟩
def tiX (a b:List Int) (i:Int):Patch:=tiP b.length (tmW a b i / pw (i.toNat+b.length)) (aW (tmL a b) (tmW a b i % pw (i.toNat+b.length)))
def tiU (a b:List Int) (i:Int):SumL (Int×Int×List Int):=
 {
  S:=fun (k,c,d)=>tiP k c d
  I:=fun (k,c,d)=>TmI a b i k c d
  μ:=fun (k,_,_)=>(b.length - k).toNat
  F:=fun _=>(.exit 2,tiX a b i)
  next:=fun (k,c,d)=>(k+1,(d.getD (i.toNat+k.toNat) 0+a.getD i.toNat 0*b.getD k.toNat 0+c).tdiv 1000000000,d.set (i.toNat+k.toNat) ((d.getD (i.toNat+k.toNat) 0+a.getD i.toNat 0*b.getD k.toNat 0+c).tmod 1000000000))
  ids:=fun _=>[]
  X:=fun (k,c,d) _=>some (tiP k c d,[]) }
noncomputable def Yh (a b:List Int) (i:Int):Ctx:=bg cL [bY 72 (zF a b i).hp.clock wS OQ (zF a b i) (.exit 2) (tiX a b i)]
def hZ (l:List (Nat×AV)):Nat->Nat->Option AV:=fun _ t=>match l with
 | []=>none
 | x :: l=>match Nat.beq t x.1 with
  | true=>some x.2
  | false=>hZ l 0 t
termination_by structural l
noncomputable def cHz (t:Nat):Ctx:=gG cL (hZ [(t,.bool false false)])
theorem Yi (t:Nat):CtxOk (cHz t):=dh gX _
def Gc (a b:List Int):Prop:=(0:Int)=0/\List.replicate (IntKind.i64.wrap ((↑a.length:Int)+(↑b.length:Int))).toNat (0:Int)=aW (tmL a b) (tmV a b (0:Int))
theorem OT (a b:List Int):fit (toS a b) (toS a b) (ah (toS a b) ((toU a b).S 0)) ([])=some (.p (Gc a b)):=by kernel_rfl
def Gd (a b:List Int) (i:Int):Prop:=((0:Int)=0/\(0:Int)=0)/\aW (tmL a b) (tmV a b i)=aW (tmL a b) (tmV a b i)
theorem OU (a b:List Int) (i:Int):fit (zF a b i) (zF a b i) (ah (zF a b i) ((tiU a b i).S (0,0,aW (tmL a b) (tmV a b i)))) ([])=some (.p (Gd a b i)):=by kernel_rfl
def IA (a b:List Int) (i k c:Int) (d:List Int):Prop:=(decide (k<(↑b.length:Int))=true->(((0:Int)<=k/\k<(↑b.length:Int))/\k.toNat<b.length)/\(((0:Int)<=IntKind.i64.wrap (i+k)/\IntKind.i64.wrap (i+k)<IntKind.i64.wrap ((↑a.length:Int)+(↑b.length:Int)))/\((0:Int)+IntKind.i64.wrap (i+k)).toNat<d.length)/\((0:Int)<=IntKind.i64.wrap (i+k)/\IntKind.i64.wrap (i+k)<IntKind.i64.wrap ((↑a.length:Int)+(↑b.length:Int)))/\((0:Int)+IntKind.i64.wrap (i+k)).toNat<d.length)/\((!decide (k<(↑b.length:Int)))=true->((c=c/\k=k)/\d=d)/\(tiU a b i).F (k,c,d)=(Ex.exit (2:Nat),tiP k c d))/\(decide (k<(↑b.length:Int))=true->((IntKind.i64.wrap ((IntKind.i64.wrap (IntKind.i64.wrap (d.getD ((0:Int)+IntKind.i64.wrap (i+k)).toNat (0:Int)+IntKind.i64.wrap (a.getD i.toNat (0:Int)*b.getD k.toNat (0:Int)))+c)).tdiv (1000000000:Int))=(d.getD (i.toNat+k.toNat) (0:Int)+a.getD i.toNat (0:Int)*b.getD k.toNat (0:Int)+c).tdiv (1000000000:Int)/\IntKind.i64.wrap (k+1)=k+1)/\d.set ((0:Int)+IntKind.i64.wrap (i+k)).toNat ((IntKind.i64.wrap (IntKind.i64.wrap (d.getD ((0:Int)+IntKind.i64.wrap (i+k)).toNat (0:Int)+IntKind.i64.wrap (a.getD i.toNat (0:Int)*b.getD k.toNat (0:Int)))+c)).tmod (1000000000:Int))=d.set (i.toNat+k.toNat) ((d.getD (i.toNat+k.toNat) (0:Int)+a.getD i.toNat (0:Int)*b.getD k.toNat (0:Int)+c).tmod (1000000000:Int)))/\(tiU a b i).I ((tiU a b i).next (k,c,d))/\(tiU a b i).μ ((tiU a b i).next (k,c,d))<(tiU a b i).μ (k,c,d)/\(tiU a b i).F ((tiU a b i).next (k,c,d))=(tiU a b i).F (k,c,d))
theorem UA (a b:List Int) (i k c:Int) (d:List Int):d9 (zF a b i) ((tiU a b i).way ((k,c,d))) ((run cL 300).code wS OQ (ah (zF a b i) ((tiU a b i).S (k,c,d))))=some (.p (IA a b i k c d)):=by kernel_rfl
def IB (a b:List Int) (i:Int):Prop:=(decide (i<(↑a.length:Int))=true->(((0:Int)<=i/\i<(↑a.length:Int))/\i.toNat<a.length)/\At (wS) (wS) (OQ) (OQ) (zF a b i) (zF a b i)/\((0:Int)<=IntKind.i64.wrap (i+(↑b.length:Int))/\IntKind.i64.wrap (i+(↑b.length:Int))<IntKind.i64.wrap ((↑a.length:Int)+(↑b.length:Int)))/\((0:Int)+IntKind.i64.wrap (i+(↑b.length:Int))).toNat<(aW (tmL a b) (tmW a b i % pw (i.toNat+b.length))).length)/\((!decide (i<(↑a.length:Int)))=true->(i=i/\aW (tmL a b) (tmV a b i)=aW (tmL a b) (tmV a b i))/\(toU a b).F i=(Ex.exit (0:Nat),toP i (aW (tmL a b) (tmV a b i))))/\(decide (i<(↑a.length:Int))=true->(IntKind.i64.wrap (i+1)=(toU a b).next i/\(aW (tmL a b) (tmW a b i % pw (i.toNat+b.length))).set ((0:Int)+IntKind.i64.wrap (i+(↑b.length:Int))).toNat (tmW a b i / pw (i.toNat+b.length))=aW (tmL a b) (tmV a b ((toU a b).next i)))/\(toU a b).I ((toU a b).next i)/\(toU a b).μ ((toU a b).next i)<(toU a b).μ i/\(toU a b).F ((toU a b).next i)=(toU a b).F i)
theorem UB (a b:List Int) (i:Int):d9 (toS a b) ((toU a b).way (i)) ((run (Yh a b i) 300).code wS Iz (ah (toS a b) ((toU a b).S i)))=some (.p (IB a b i)):=by kernel_rfl
def LC (a b:List Int) (i:Int):Prop:=decide (i<(↑a.length:Int))=false/\(true=true->(i=i/\aW (tmL a b) (tmV a b i)=aW (tmL a b) (tmV a b i))/\(toU a b).F i=(Ex.exit (0:Nat),toP i (aW (tmL a b) (tmV a b i))))
theorem Yj (a b:List Int) (i:Int):d9 (toS a b) ((toU a b).way (i)) ((run (cHz 21) 300).code wS Iz (ah (toS a b) ((toU a b).S i)))=some (.p (LC a b i)):=by kernel_rfl
theorem OV {a b:List Int} (ha:Dig a) (hb:Dig b) (hl:a.length+b.length<=500000) {i:Int} (h0:0<=i) (h1:i<a.length):CodeOk cL wS (.loop OQ) (zF a b i) ⟨.tt,[⟨.tt,.exit 2,ah (zF a b i) (tiX a b i)⟩]⟩:=by
 refine lY (bL gX 300) (tiU a b i) (y0:=(0,0,aW (tmL a b) (tmV a b i))) (TmI.start ha hb h0 h1) ⟨_,OU a b i,⟨rfl,rfl⟩,rfl⟩ (by kernel_rfl) (fun y hy=>?_) rfl
 obtain ⟨k,c,d⟩:=y
 have hI:TmI a b i k c d:=hy
 obtain ⟨l,dg,k0,k1,c0,c1,v,z⟩:=id hI
 have eL:IntKind.i64.wrap ((a.length:Int)+b.length)=a.length+b.length:=iw (by omega) (by omega)
 have e1:IntKind.i64.wrap (i+k)=i+k:=iw (by omega) (by omega)
 have e2:(0+(i+k)).toNat=i.toNat+k.toNat:=by omega
 refine ⟨_,UA a b i k c d,fun h=>?_,fun h=>⟨⟨⟨rfl,rfl⟩,rfl⟩,?_⟩,fun h=>?_⟩
 .have h:=dt.1 h
  rw [e1,eL,e2]
  exact ⟨⟨⟨k0,h⟩,by omega⟩,⟨⟨by omega,by omega⟩,by omega⟩,⟨by omega,by omega⟩,by omega⟩
 .obtain ⟨f1,f2,f3⟩:=hI.fin (ndt.1 h)
  show (Ex.exit 2,tiX a b i)=(Ex.exit 2,tiP k c d)
  unfold tiX tmL
  rw [f1,f2,<- f3]
 .have h:=dt.1 h
  obtain ⟨m0,m1,m2,m3⟩:=hI.num ha hb h
  rw [e1,e2]
  have e3:IntKind.i64.wrap (a.getD i.toNat 0*b.getD k.toNat 0)=a.getD i.toNat 0*b.getD k.toNat 0:=iw (by omega) (by omega)
  rw [e3]
  have e4:IntKind.i64.wrap (d.getD (i.toNat+k.toNat) 0+a.getD i.toNat 0*b.getD k.toNat 0)=d.getD (i.toNat+k.toNat) 0+a.getD i.toNat 0*b.getD k.toNat 0:=iw (by omega) (by omega)
  rw [e4]
  have e5:IntKind.i64.wrap (d.getD (i.toNat+k.toNat) 0+a.getD i.toNat 0*b.getD k.toNat 0+c)=d.getD (i.toNat+k.toNat) 0+a.getD i.toNat 0*b.getD k.toNat 0+c:=iw (by omega) (by omega)
  rw [e5]
  have st:=hI.step ha hb h1 h
  have e6:IntKind.i64.wrap ((d.getD (i.toNat+k.toNat) 0+a.getD i.toNat 0*b.getD k.toNat 0+c).tdiv 1000000000)=(d.getD (i.toNat+k.toNat) 0+a.getD i.toNat 0*b.getD k.toNat 0+c).tdiv 1000000000:=by
   have:=st.c0
   have:=st.c1
   exact iw (by omega) (by omega)
  refine ⟨⟨⟨e6,iw (by omega) (by omega)⟩,rfl⟩,st,?_,rfl⟩
  show (b.length - (k+1)).toNat<(b.length - k).toNat
  omega
theorem UC {a b:List Int} (ha:Dig a) (hb:Dig b) (hl:a.length+b.length<=500000) {i:Int} (h0:0<=i) (h1:i<a.length):CtxOk (Yh a b i):=aO gX (OV ha hb hl h0 h1) (cK gX)
theorem UD {a b:List Int} (ha:Dig a) (hb:Dig b) (hl:a.length+b.length<=500000):CodeOk cL wS (.loop Iz) (toS a b) ⟨.tt,[⟨.tt,.exit 0,ah (toS a b) (toP a.length (aW (tmL a b) (tmV a b a.length)))⟩]⟩:=by
 have eL:IntKind.i64.wrap ((a.length:Int)+b.length)=a.length+b.length:=iw (by omega) (by omega)
 refine lZ (toU a b) (y0:=0) ⟨by omega,by omega⟩ ⟨_,OT a b,rfl,?_⟩ (by kernel_rfl) (fun i hi=>?_) rfl
 .rw [eL,show ((a.length:Int)+b.length).toNat=tmL a b by unfold tmL; omega,F8]
  congr 1
  unfold tmV
  simp [val]
 obtain ⟨i0,i1⟩:=(show 0<=i/\i<=a.length from hi)
 by_cases hlt:i<a.length
 .have e1:IntKind.i64.wrap (i+b.length)=i+b.length:=iw (by omega) (by omega)
  have e2:(0+(i+(b.length:Int))).toNat=i.toNat+b.length:=by omega
  refine ⟨Yh a b i,300,UC ha hb hl i0 hlt,rfl,rfl,_,UB a b i,fun h=>?_,fun h=>absurd hlt (ndt.1 h),fun h=>⟨⟨iw (by omega) (by omega),?_⟩,?_,?_,rfl⟩⟩
  .rw [e1,eL,e2]
   refine ⟨⟨⟨i0,hlt⟩,by omega⟩,⟨rfl,rfl,rfl⟩,⟨by omega,by omega⟩,?_⟩
   rw [dn]; unfold tmL; omega
  .rw [e1,e2]
   exact Yf ha hb i0 hlt
  .show 0<=i+1/\i+1<=a.length
   omega
  .show (a.length - (i+1)).toNat<(a.length - i).toNat
   omega
 .obtain rfl:i=a.length:=by omega
  exact ⟨cHz 21,300,Yi 21,rfl,rfl,_,Yj a b a.length,ndf hlt,fun _=>⟨⟨rfl,rfl⟩,rfl⟩⟩
noncomputable def ttS (a b d:List Int) (N:Int):St:=uo cL 300 86 [.islice true 2 0 N] ⟨[⟨14,.ints .i64 d⟩,⟨0,.rows .i64 b⟩,⟨0,.rows .i64 a⟩],3,17⟩
theorem OW (a b d:List Int) (N:Int):fit (ttS a b d N) (ttS a b d N) (ah (ttS a b d N) ((trU 2 d N).S N)) []=some (.p ((0:Int)=0/\N=N)):=by kernel_rfl
theorem UE (a b d:List Int) (N y:Int):d9 (ttS a b d N) ((trU 2 d N).way y) ((run cL 300).code jU trA (ah (ttS a b d N) ((trU 2 d N).S y)))=some (.p (trN 2 d N y)):=by kernel_rfl
theorem UF (a b:List Int) {d:List Int} {N:Int} (hN:N=d.length) (ld:Sm d):CodeOk cL jU (.loop trA) (ttS a b d N) ⟨.tt,[⟨.tt,.exit 0,ah (ttS a b d N) (trP 2 (tlI d N))⟩]⟩:=xq hN ld (OW a b d N) (by kernel_rfl) (fun y=>UE a b d N y)
def tmN (a b:List Int):Int:=IntKind.i64.wrap ((a.length:Int)+b.length)
def tmD (a b:List Int):List Int:=aW (tmL a b) (tmV a b a.length)
noncomputable def cTt (a b:List Int):Ctx:=bg cL [bY 72 (toS a b).hp.clock wS Iz (toS a b) (.exit 0) (toP a.length (tmD a b)),bY 86 20 jU trA (ttS a b (tmD a b) (tmN a b)) (.exit 0) (trP 2 (tlI (tmD a b) (tmN a b)))]
theorem J8 {a b:List Int} (hl:a.length+b.length<=500000):tmN a b=(tmD a b).length:=by
 unfold tmN tmD tmL
 rw [iw (by omega) (by omega),dn]; omega
theorem Yk {a b:List Int} (ha:Dig a) (hb:Dig b) (hl:a.length+b.length<=500000):CtxOk (cTt a b):=
 aO gX (UD ha hb hl) (aO gX (UF a b (J8 hl) (by show (tmD a b).length<=500000; unfold tmD tmL; rw [dn]; exact hl)) (cK gX))
def UG (a b:List Int):Prop:=((IntKind.i64.wrap ((↑a.length:Int)+(↑b.length:Int))=IntKind.i64.wrap ((↑a.length:Int)+(↑b.length:Int))/\(0:Int)<=IntKind.i64.wrap ((↑a.length:Int)+(↑b.length:Int))/\IntKind.i64.wrap ((↑a.length:Int)+(↑b.length:Int))<=1048576)/\At (wS) (wS) (Iz) (Iz) (toS a b) (toS a b)/\At (jU) (jU) (trA) (trA) (ttS a b (tmD a b) (tmN a b)) (ttS a b (tmD a b) (tmN a b)))
def Yl (a b:List Int):AV:=(AV.islice true 2 (0:Int) (tlI (tmD a b) (tmN a b)))
def Ym (a b:List Int):Hp:=⟨[{ wr:=14,body:=ABody.ints IntKind.i64 (tmD a b) },{ wr:=(0:Nat),body:=ABody.rows IntKind.i64 b },{ wr:=(0:Nat),body:=ABody.rows IntKind.i64 a }],3,24⟩
theorem aeb (a b:List Int):(run (cTt a b) 300).call 72 (zB a b) (zG a b)=some ⟨.p (UG a b),[⟨.tt,Yl a b,Ym a b⟩]⟩:=by kernel_rfl
def Yn:List Nu->List (List Int)->Option (Prop×To)
 | [],[a,b]=>some (Dig a/\Dig b/\a.length+b.length<=500000,.li false (aa (val a*val b).toNat))
 | _,_=>none
theorem Dt {d:List Int} {N v:Int} (h:Dig d) (hN:N=d.length) (hv:val d=v):((0:Int)<=0/\0<=tlI d N/\0+tlI d N<=d.length)/\List.take (tlI d N).toNat (List.drop (Int.toNat 0) d)=aa v.toNat:=by
 have hl:=OJ d
 rw [J7 h hN,hv,hN]
 exact ⟨⟨by omega,by omega,by omega⟩,rfl⟩
theorem OX:NOk Tryd.prog (fun _=>none) hG0 72 (eO hG0 .i64 [.li,.li] Yn):=by
 refine fG (fun xs ys p t e h=>?_) ⟨_,Tryd.func72,rfl⟩
 unfold Yn at e
 split at e
 .rename_i a b
  cases e
  obtain ⟨ha,hb,hl⟩:=h
  have eN:tmN a b=a.length+b.length:=iw (by omega) (by omega)
  exact ⟨cTt a b,300,zB a b,_,_,_,_,_,Yk ha hb hl,rfl,rfl,⟨rfl,rfl,trivial⟩,aeb a b,rfl,⟨⟨rfl,by show 0<=tmN a b; omega,by show tmN a b<=_; omega⟩,⟨rfl,rfl,rfl⟩,⟨rfl,rfl,rfl⟩⟩,rfl,rfl,Dt (jw _ _) (J8 hl) (Yg ha hb)⟩
 .cases e
end
end Go.Proofs.YtbiiiloimbjpaaaDoor.K
