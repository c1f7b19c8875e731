/- What is proved: MtfBounds returns true, whatever the input (part 8). No conditions beyond those of the row. -/
import Derived.Test.YtbiiiloimbjpaaaDoorPF
import Derived.Test.YtbiiiloimbjpaaaDoorPG
import Derived.Shelf.Small.Bits
import Derived.Shelf.Strconv.Itoa0
import Derived.Shelf.Bits.Mul64
import Derived.Test.YtbiiiloimbjpaaaDoorProg
import Derived.Laws.Externs
import Derived.KernelRfl
import Derived.Laws.BitsLemmas
set_option linter.unusedVariables false
set_option linter.unusedSimpArgs false
set_option linter.unusedSectionVars false
/-
 DERIVED: THE SHELF's CONTRACTS AT THIS DUMP, IN PLAIN WORDS (tools/lay-plain.mjs out of 'TrydShelf.lean', which tools/lay-shelf.mjs wrote): THE SAME DECLARATIONS UNDER THE SAME NAMES: 'import', 'namespace', 'open', 'def', 'theorem' AND NOTHING ELSE: no command of the shelf's: FOR A HAND-IN. Each laying: the table of numbers ('.._ren') and one theorem, a field a fact of the dump's own or the kernel's comparison; each contract: ONE APPLICATION.
-/
namespace Go.Proofs
open Go.Shelf
def Tryd.lays134_ren:Go.Shelf.Ren:=⟨fun|134=>93|129=>95|n=>n,fun|53=>95|3=>3|4=>4|46=>47|5=>5|9=>9|n=>n,fun|n=>n⟩
theorem Tryd.lays134:Go.Proofs.Lays.n134 Tryd.prog Tryd.lays134_ren:={
 mixed:=by kernel_rfl
 f129:=Tryd.func95.trans (congrArg some (by kernel_rfl))
 f134:=Tryd.func93.trans (congrArg some (by kernel_rfl))
 t3:=Tryd.underlying3
 a3:=Tryd.isAgg3
 z3:=Tryd.sizeOf3
 v3:=Tryd.zeroValue3
 t4:=Tryd.underlying4
 a4:=Tryd.isAgg4
 z4:=Tryd.sizeOf4
 v4:=Tryd.zeroValue4
 t5:=Tryd.underlying5
 a5:=Tryd.isAgg5
 z5:=Tryd.sizeOf5
 v5:=Tryd.zeroValue5
 t9:=Tryd.underlying9
 a9:=Tryd.isAgg9
 z9:=Tryd.sizeOf9
 v9:=Tryd.zeroValue9
 t46:=Tryd.underlying47
 a46:=Tryd.isAgg47
 z46:=Tryd.sizeOf47
 v46:=Tryd.zeroValue47
 t53:=Tryd.underlying95
 a53:=Tryd.isAgg95
 z53:=Tryd.sizeOf95
 v53:=Tryd.zeroValue95 }
theorem Tryd.bits_LeadingZeros64 (x:Int) (w:World) (h0:0<=x) (h1:x<=18446744073709551615):
  Calls Tryd.prog 93 #[.int .u64 x] w fun e w'=>e=.returned (.int .i64 (64 - (Lib.bitLen x.toNat:Int)))/\w'=w:=Any.bits_LeadingZeros64 Tryd.lays134 x w h0 h1
def Tryd.lays264_ren:Go.Shelf.Ren:=⟨fun|264=>81|n=>n,fun|53=>95|46=>47|n=>n,fun|n=>n⟩
theorem Tryd.lays264:Go.Proofs.Lays.n264 Tryd.prog Tryd.lays264_ren:={
 mixed:=by kernel_rfl
 f264:=Tryd.func81.trans (congrArg some (by kernel_rfl))
 t46:=Tryd.underlying47
 a46:=Tryd.isAgg47
 z46:=Tryd.sizeOf47
 v46:=Tryd.zeroValue47
 t53:=Tryd.underlying95
 a53:=Tryd.isAgg95
 z53:=Tryd.sizeOf95
 v53:=Tryd.zeroValue95 }
open Go.RowKit Go.Lib in
theorem Tryd.bits_Mul64 (x y:Nat) (hx:x<18446744073709551616) (hy:y<18446744073709551616) (w:World):
  Calls Tryd.prog 81 #[.int .u64 x,.int .u64 y] w fun e w'=>e=.returned (.tuple #[.int .u64 ((x*y / 18446744073709551616:Nat):Int),.int .u64 ((x*y % 18446744073709551616:Nat):Int)])/\w'=w:=Any.bits_Mul64 Tryd.lays264 x y hx hy w
end Go.Proofs
namespace Go.Proofs.YtbiiiloimbjpaaaDoor.K
open Go Go.Eng
theorem all_names:(Tryd.prog.funcs.toList.all fun fn=>!(fn.name=="runtime.NumGoroutine"))=true:=by kernel_rfl
theorem prog_ok:ProgOk Tryd.prog:=by
 refine ⟨fun f fn h _=>?_,by kernel_rfl⟩
 have h1:fn∈Tryd.prog.funcs.toList:=by
  rw [Array.mem_toList_iff]
  exact Array.mem_of_getElem? h
 have:=List.all_eq_true.1 all_names fn h1
 simpa using this
theorem mkInt_rel {σ:Sg} {s:Bool} {k:IntKind} {n:Int}:VRel σ (bB s k n) (.int k n):=by
 cases s with
 | true=>rfl
 | false=>
  unfold bB rM
  cases n with
  | ofNat m=>cases m <;> rfl
  | negSucc m=>cases m <;> rfl
def Fu (s b:Bool) (v:AV):Option (Nd×AV):=
 match s with
 | true=>some (.p (b=true),v)
 | false=>match b with
  | true=>some (.tt,v)
  | false=>none
theorem rA {s b:Bool} {v w:AV} {nd:Nd} (e:Fu s b v=some (nd,w)) (hn:nd.val):w=v/\b=true:=by
 unfold Fu at e
 split at e
 .cases e; exact ⟨rfl,hn⟩
 .split at e
  .cases e; exact ⟨rfl,rfl⟩
  .cases e
def ext (f:FuncId) (args:List AV):Option (Nd×AV):=
 match Nat.beq f 82 with
 | true=>match args with
  | [.int s .u64 x,.int s' .u64 y,.int s'' .u64 c]=>Fu (s||s'||s'') (decide (0<=x/\0<=y/\0<=c/\c<=1)) (.tuple [bB (s||s'||s'') .u64 ((x+y+c) % 18446744073709551616),bB (s||s'||s'') .u64 ((x+y+c) / 18446744073709551616)])
  | _=>none
 | false=>none
theorem add64_run (x y c:Int) (hx:0<=x) (hy:0<=y) (hc0:0<=c) (hc:c<=1) (w:World):
  (callFunc 82 #[.int .u64 x,.int .u64 y,.int .u64 c]).run Tryd.prog w=.ok (.value (.tuple #[.int .u64 ((x+y+c) % 18446744073709551616),.int .u64 ((x+y+c) / 18446744073709551616)])) w:=by
 rw [run_callFunc_extern Tryd.func82 (by kernel_rfl) (by kernel_rfl) (by kernel_rfl) (e:=add64Entry) (by kernel_rfl),run_add64 x y c hx hy hc0 hc]
 rfl
theorem ext_ok:EU Tryd.prog ext:=by
 intro f args nd v e hn σ A W ha
 unfold ext at e
 split at e
 .rename_i hf
  have:=Nat.eq_of_beq_eq_true hf
  subst this
  split at e
  .rename_i s x s' y s'' c
   obtain ⟨rfl,hd⟩:=rA e hn
   have hd:=of_decide_eq_true hd
   obtain ⟨V,L,hL,rfl,V2,L2,hL2,rfl,V3,L3,hL3,rfl,hL4⟩:=ha
   rw [hL2,hL3,show L3=[] from hL4] at hL
   have hA:A=#[.int .u64 x,.int .u64 y,.int .u64 c]:=by
    apply Array.toList_inj.1; simpa using hL
   subst hA
   exact ⟨_,⟨_,rfl,_,_,rfl,mkInt_rel,_,_,rfl,mkInt_rel,rfl⟩,add64_run x y c hd.1 hd.2.1 hd.2.2.1 hd.2.2.2 W⟩
  .cases e
 .cases e
def Hr:List AV->Option (Nd×AV)
 | [.int s .u64 x]=>some (.p (0<=x/\x<=18446744073709551615),bB s .i64 (64 - (Lib.bitLen x.toNat:Int)))
 | _=>none
def two64:Int:=18446744073709551616
def uh:List AV->Option (Nd×AV)
 | [.int s .u64 x,.int s' .u64 y]=>Fu (s||s') (decide (0<=x/\x<18446744073709551616/\0<=y/\y<18446744073709551616)) (.tuple [bB (s||s') .u64 (x*y / two64),bB (s||s') .u64 (x*y % two64)])
 | _=>none
theorem aa6:PureOk Tryd.prog 93 Hr:=by
 refine yL ⟨_,Tryd.func93,rfl⟩ fun args nd v e hn σ A W ha=>?_
 unfold Hr at e
 split at e
 .rename_i s x
  cases e
  have hd:=hn
  obtain ⟨V,L,hL,rfl,hL2⟩:=ha
  rw [show L=[] from hL2] at hL
  have hA:A=#[.int .u64 x]:=by
   apply Array.toList_inj.1; simpa using hL
  subst hA
  exact ⟨_,mkInt_rel,Tryd.bits_LeadingZeros64 x W hd.1 hd.2⟩
 .cases e
theorem Ht:PureOk Tryd.prog 81 uh:=by
 refine yL ⟨_,Tryd.func81,rfl⟩ fun args nd v e hn σ A W ha=>?_
 unfold uh at e
 split at e
 .rename_i s x s' y
  obtain ⟨rfl,hd⟩:=rA e hn
  obtain ⟨h1,h2,h3,h4⟩:=of_decide_eq_true hd
  obtain ⟨V,L,hL,rfl,V2,L2,hL2,rfl,hL3⟩:=ha
  rw [hL2,show L2=[] from hL3] at hL
  have hA:A=#[.int .u64 x,.int .u64 y]:=by
   apply Array.toList_inj.1; simpa using hL
  subst hA
  refine ⟨.tuple #[.int .u64 (x*y / two64),.int .u64 (x*y % two64)],⟨_,rfl,_,_,rfl,mkInt_rel,_,_,rfl,mkInt_rel,rfl⟩,?_⟩
  have:=Tryd.bits_Mul64 x.toNat y.toNat (by omega) (by omega) W
  rw [Int.toNat_of_nonneg h1,Int.toNat_of_nonneg h3] at this
  have e1:((x.toNat*y.toNat / 18446744073709551616:Nat):Int)=x*y / two64:=by
   rw [Int.natCast_ediv,Int.natCast_mul,Int.toNat_of_nonneg h1,Int.toNat_of_nonneg h3]; rfl
  have e2:((x.toNat*y.toNat % 18446744073709551616:Nat):Int)=x*y % two64:=by
   rw [Int.natCast_emod,Int.natCast_mul,Int.toNat_of_nonneg h1,Int.toNat_of_nonneg h3]; rfl
  rw [e1,e2] at this
  exact this
 .cases e
noncomputable def Xb:List (FuncId×bC):=[(93,Hr),(81,uh)]
theorem Ti:ET Tryd.prog Xb:=by
 intro x hx
 simp only [Xb,List.mem_cons,List.not_mem_nil,or_false] at hx
 rcases hx with rfl|rfl
 .exact aa6
 .exact Ht
noncomputable def cD0:Ctx:=mkC Tryd.prog Xb kT
theorem CG:CtxOk cD0:=yK prog_ok Ti (oK _)
noncomputable def cD:Ctx:={ cD0 with loop:=fun fr a s=>match Nat.beq fr.fn 84 with|true=>uS (run cD0 60) fr a 3 s|false=>none }
theorem aa7:CtxOk cD:=by
 refine ⟨CG.prog,CG.con,CG.ext,fun fr a s q e=>?_,fun _ _ _ _ _ _ _ e=>(by cases e)⟩
 have e:(match Nat.beq fr.fn 84 with|true=>uS (run cD0 60) fr a 3 s|false=>none)=some q:=e
 split at e
 .exact uT (bJ CG 60) 3 s q e
 .cases e
theorem Tj (hi lo y:Int):kL ((run cD 100).call 84 [.int true .u64 hi,.int true .u64 lo,.int true .u64 y] ⟨[],0,1⟩)=some (.p (VH hi lo y),.tuple [.int true .u64 (Tf hi lo y),.int true .u64 (Tg hi lo y)]):=by kernel_rfl
def CJ:List AV->Option (Nd×AV)
 | [.int s .u64 hi,.int s' .u64 lo,.int s'' .u64 y]=>Fu (s||s'||s'') (decide (0<=hi/\hi<y/\y<18446744073709551616/\0<=lo/\lo<18446744073709551616))
   (.tuple [bB (s||s'||s'') .u64 ((hi*two64+lo) / y),bB (s||s'||s'') .u64 ((hi*two64+lo) % y)])
 | _=>none
theorem Xc:PureOk Tryd.prog 84 CJ:=by
 refine M7 (C:=cD) aa7 (fun _=>rfl) (n:=100) (fun args nd v e hn=>?_) ⟨_,Tryd.func84,rfl⟩
 unfold CJ at e
 split at e
 .rename_i s hi s' lo s'' y
  obtain ⟨rfl,hb⟩:=rA e hn
  obtain ⟨h1,h2,h3,h4,h5⟩:=of_decide_eq_true hb
  refine ⟨[.int true .u64 hi,.int true .u64 lo,.int true .u64 y],_,_,fun σ L h=>h,Tj hi lo y,?_⟩
  obtain ⟨p1,p2,p3⟩:=Nt hi.toNat lo.toNat y.toNat (by omega) (by omega) (by omega)
  rw [Int.toNat_of_nonneg h1,Int.toNat_of_nonneg h4,Int.toNat_of_nonneg (show 0<=y by omega)] at p1 p2 p3
  refine ⟨p1,fun τ V hV σ=>?_⟩
  obtain ⟨K,rfl,V1,L1,e1,rfl,V2,L2,e2,rfl,e3⟩:=hV
  rw [show L2=[] from e3] at e2
  rw [e2] at e1
  refine ⟨K,rfl,_,_,e1,?_,_,_,rfl,?_,rfl⟩
  .rw [p2]; exact mkInt_rel
  .rw [p3]; exact mkInt_rel
 .cases e
end Go.Proofs.YtbiiiloimbjpaaaDoor.K
namespace Go.Ar
open Go
def two64:Int:=18446744073709551616
def okF (a:Int):Bool:=decide (-4503599627370496<=a)&&decide (a<=4503599627370496)
def rd (n d:Int) (up:Bool):Int:=bif up then -(-n / d) else n / d
def CK (v:Int):Int:=bif okF v then v else 0
def CL (v:Int):Int:=bif okF v then 0 else 6
def sg (a b:Int):Int:=bif decide (b<0) then -a else a
def okS (a n d:Int):Bool:=okF a&&(decide (-4611686018427387904<=n)&&decide (n<=4611686018427387904)&&decide (1<=d)&&decide (d<=4611686018427387904))
def xC (a:Int):Int:=bif bif decide (a < -4503599627370496) then true else decide (a>4503599627370496) then 2 else 0
def xSz (a:Int):Int:=bif decide (a<0) then IntKind.u64.wrap (IntKind.u64.wrap (IntKind.i64.wrap (0 - IntKind.i64.wrap (a+1)))+1) else IntKind.u64.wrap a
def xHi (p:Int):Int:=p / two64
def xLo (p:Int):Int:=p % two64
def xNo (p d:Int):Bool:=decide (xHi p>=d)
def xN (p d:Int) (up neg:Bool):Int:=bif xNo p d then 0 else
 bif bif !(up==neg) then decide ((xHi p*two64+xLo p) % d>0) else false then IntKind.u64.wrap ((xHi p*two64+xLo p) / d+1) else (xHi p*two64+xLo p) / d
def Nv (p d:Int) (up neg:Bool):Bool:=bif !(bif xNo p d then false else true) then true else decide (xN p d up neg>4503599627370496)
def xV (p d:Int) (up neg:Bool):Int:=bif Nv p d up neg then 0 else bif neg then IntKind.i64.wrap (0 - IntKind.i64.wrap (xN p d up neg)) else IntKind.i64.wrap (xN p d up neg)
def xE (p d:Int) (up neg:Bool):Int:=bif Nv p d up neg then 6 else 0
def Nw (a b:Int):Bool:=!(decide (a<0)==decide (b<0))
def xIn (a b:Int):Prop:=decide (0<=a/\a<18446744073709551616/\0<=b/\b<18446744073709551616)=true
def Ny (p d:Int):Prop:=decide (0<=xHi p/\xHi p<d/\d<18446744073709551616/\0<=xLo p/\xLo p<18446744073709551616)=true
theorem i64w {n:Int} (h0:-9223372036854775808<=n) (h1:n<9223372036854775808):IntKind.i64.wrap n=n:=by rw [IntKind.wrap_i64]; omega
theorem qj {n:Int} (h0:0<=n) (h1:n<18446744073709551616):IntKind.u64.wrap n=n:=by rw [IntKind.wrap_u64]; omega
theorem Hu {a:Int} (h0:-9223372036854775808<=a) (h1:a<9223372036854775808):xSz a=sg a a:=by
 unfold xSz sg
 by_cases h:a<0
 .simp only [h,decide_true,cond_true]
  rw [i64w (n:=a+1) (by omega) (by omega),i64w (n:=0 - (a+1)) (by omega) (by omega),qj (n:=0 - (a+1)) (by omega) (by omega),qj (by omega) (by omega)]
  omega
 .simp only [h,decide_false,cond_false]
  rw [qj (by omega) (by omega)]
theorem KT (a:Int):0<=sg a a:=by
 unfold sg
 by_cases h:a<0
 .simp only [h,decide_true,cond_true]; omega
 .simp only [h,decide_false,cond_false]; omega
theorem dh {a:Int}:okF a=true ↔ -4503599627370496<=a/\a<=4503599627370496:=by simp [okF]
theorem qf {a:Int}:okF a=false ↔ a < -4503599627370496\/4503599627370496<a:=by
 rw [<- Bool.not_eq_true,dh]; omega
theorem VJ (a:Int):xC a=bif okF a then 0 else 2:=by
 unfold xC
 cases h:okF a with
 | true=>
  have:=dh.1 h
  simp [show ¬ a < -4503599627370496 by omega,show ¬ a>4503599627370496 by omega]
 | false=>
  rcases qf.1 h with h|h
  .simp [h]
  .simp [show ¬ a < -4503599627370496 by omega,h]
theorem CO {p d:Int} (hd:0<d):-p / d=-(p / d) - (if 0<p % d then 1 else 0):=by
 have h1:=Int.mul_ediv_add_emod p d
 have h2:=Int.emod_nonneg p (show d≠0 by omega)
 have h3:=Int.emod_lt_of_pos p hd
 split
 .have h4:(-p) / d=-(p / d) - 1/\(-p) % d=d - p % d:=by
   rw [Int.ediv_emod_unique hd]
   refine ⟨?_,by omega,by omega⟩
   rw [Int.mul_sub,Int.mul_neg]
   omega
  exact h4.1
 .have:p % d=0:=by omega
  have h4:(-p) / d=-(p / d)/\(-p) % d=0:=by
   rw [Int.ediv_emod_unique hd]
   refine ⟨?_,by omega,by omega⟩
   rw [Int.mul_neg]
   omega
  omega
theorem aa8 {p d:Int} (hp:0<=p) (hp':p<340282366920938463463374607431768211456) (hd:0<d) (hd':d<18446744073709551616) (up neg:Bool) (n:Int) (hn:n=bif neg then -p else p) (hx:p<18446744073709551615*d\/(!(up==neg))=false):
  xV p d up neg=CK (rd n d up)/\xE p d up neg=CL (rd n d up)/\(xNo p d=false->Ny p d):=by
 have e1:xHi p*two64+xLo p=p:=by unfold xHi xLo; have:=Int.mul_ediv_add_emod p two64; rw [Int.mul_comm] at this; exact this
 have l0:0<=xLo p:=Int.emod_nonneg p (by decide)
 have l1:xLo p<18446744073709551616:=Int.emod_lt_of_pos p (by decide)
 have h0:0<=xHi p:=Int.ediv_nonneg hp (by decide)
 have q0:0<=p / d:=Int.ediv_nonneg hp (by omega)
 have r0:=Int.emod_nonneg p (show d≠0 by omega)
 have rv:rd n d up=bif neg then -(p / d+(if (!(up==neg))=true/\0<p % d then 1 else 0)) else p / d+(if (!(up==neg))=true/\0<p % d then 1 else 0):=by
  subst hn
  unfold rd
  cases neg <;> cases up <;> simp [CO hd] <;> split <;> omega
 by_cases hno:xHi p>=d
 .-- the quotient does not fit
  have e2:xNo p d=true:=by simp [xNo,hno]
  have big:18446744073709551616<=p / d:=by
   rw [Int.le_ediv_iff_mul_le hd]
   have h2:d*two64<=xHi p*two64:=Int.mul_le_mul_of_nonneg_right hno (by decide)
   have h3:(18446744073709551616:Int)*d=d*two64:=by rw [Int.mul_comm]; rfl
   omega
  have hb:Nv p d up neg=true:=by simp [Nv,e2]
  have hf:okF (rd n d up)=false:=by
   rw [qf,rv]
   cases neg <;> simp <;> split <;> omega
  refine ⟨by simp [xV,hb,CK,hf],by simp [xE,hb,CL,hf],fun h=>by rw [e2] at h; cases h⟩
 .have e2:xNo p d=false:=by simp [xNo]; omega
  have hlt:p<d*18446744073709551616:=by
   have h2:(xHi p+1)*two64<=d*two64:=Int.mul_le_mul_of_nonneg_right (by omega) (by decide)
   rw [Int.add_mul] at h2
   unfold two64 at *
   omega
  have q1:p / d<18446744073709551616:=by
   rw [Int.ediv_lt_iff_lt_mul hd]
   rw [Int.mul_comm]; exact hlt
  have ex:xV p d up neg=CK (rd n d up)/\xE p d up neg=CL (rd n d up):=by
   have hN:xN p d up neg=p / d+(if (!(up==neg))=true/\0<p % d then 1 else 0):=by
    unfold xN
    rw [e2,e1]
    cases hu:!(up==neg) with
    | false=>simp
    | true=>
     by_cases hr:0<p % d
     .simp only [cond_true,cond_false,hr,decide_true,gt_iff_lt,and_self,if_true]
      rw [qj (by omega)]
      have:p / d≠18446744073709551615:=by
       intro hq
       have h5:p / d*d<=p:=Int.ediv_mul_le p (by omega)
       rw [hq] at h5
       rcases hx with hx|hx
       .omega
       .rw [hu] at hx; cases hx
      omega
     .simp [hr]
   generalize hk:p / d+(if (!(up==neg))=true/\0<p % d then 1 else 0)=k at hN rv
   have k0:0<=k:=by rw [<- hk]; split <;> omega
   unfold xV xE Nv
   rw [e2,hN,rv]
   by_cases hb:k>4503599627370496
   .have hf:okF (bif neg then -k else k)=false:=by
     rw [qf]
     cases neg <;> simp <;> omega
    simp [hb,CK,CL,hf]
   .have hf:okF (bif neg then -k else k)=true:=by
     rw [dh]
     cases neg <;> simp <;> omega
    simp only [hb,decide_false,cond_true,cond_false,Bool.not_true,CK,CL,hf]
    refine ⟨?_,trivial⟩
    rw [i64w (n:=k) (by omega) (by omega),i64w (n:=0 - k) (by omega) (by omega)]
    cases neg <;> simp
  refine ⟨ex.1,ex.2,fun _=>?_⟩
  unfold Ny
  rw [decide_eq_true_eq]
  exact ⟨h0,by omega,hd',l0,l1⟩
def Hw (a n d:Int):Bool:=bif xC a != 0 then true else bif decide (n < -4611686018427387904) then true else bif decide (n>4611686018427387904) then true else bif decide (d<1) then true else decide (d>4611686018427387904)
def CP (a n d:Int) (up:Bool):Int:=bif Hw a n d then 0 else xV (xSz a*xSz n) (IntKind.u64.wrap d) up (Nw a n)
def jB (a n d:Int) (up:Bool):Int:=bif Hw a n d then 2 else xE (xSz a*xSz n) (IntKind.u64.wrap d) up (Nw a n)
def Xd (a n d:Int):Prop:=(!Hw a n d)=true->(d=d/\n=n)/\d=d/\xIn (xSz a) (xSz n)/\d=d/\((!xNo (xSz a*xSz n) (IntKind.u64.wrap d))=true->Ny (xSz a*xSz n) (IntKind.u64.wrap d))
theorem eH (a:Int):(a<0/\sg a a=-a)\/(0<=a/\sg a a=a):=by
 unfold sg
 by_cases h:a<0
 .left; simp [h]
 .right; simp [h]; omega
theorem Nz (a b:Int):a*b=bif Nw a b then -(sg a a*sg b b) else sg a a*sg b b:=by
 unfold Nw sg
 by_cases h:a<0 <;> by_cases k:b<0 <;> simp [h,k,Int.neg_mul,Int.mul_neg]
theorem NA {p d:Int} (hp:0<=p) (hd':d<18446744073709551616) (h:xNo p d=false):Ny p d:=by
 unfold Ny
 rw [decide_eq_true_eq]
 simp [xNo] at h
 exact ⟨Int.ediv_nonneg hp (by decide),by omega,hd',Int.emod_nonneg p (by decide),Int.emod_lt_of_pos p (by decide)⟩
theorem rC {a b:Int} (ha:0<=a) (ha':a<18446744073709551616) (hb:0<=b) (hb':b<18446744073709551616):xIn a b:=by
 unfold xIn; rw [decide_eq_true_eq]; exact ⟨ha,ha',hb,hb'⟩
theorem NB {a:Int} (h:okF a=true):xSz a=sg a a/\0<=sg a a/\sg a a<=4503599627370496:=by
 have h:=dh.1 h
 refine ⟨Hu (by omega) (by omega),KT a,?_⟩
 rcases eH a with ⟨_,e⟩|⟨_,e⟩ <;> omega
theorem CQ (a n d:Int):Hw a n d=!okS a n d:=by
 unfold Hw okS
 rw [VJ]
 rw [Bool.eq_iff_iff]
 cases okF a with
 | false=>simp
 | true=>
  simp only [cond_true,bne_self_eq_false,cond_false,Bool.true_and,Bool.not_eq_true',Bool.and_eq_false_iff,decide_eq_false_iff_not]
  by_cases h1:n < -4611686018427387904
  .simp [h1]
  .by_cases h2:n>4611686018427387904
   .simp [h1,h2]
   .by_cases h3:d<1
    .simp [h1,h2,h3]
    .simp [h1,h2,h3] <;> omega
theorem Fv (a n d:Int):Xd a n d:=by
 intro h
 rw [CQ,Bool.not_not] at h
 simp only [okS,Bool.and_eq_true,decide_eq_true_eq] at h
 obtain ⟨ha,⟨⟨n1,n2⟩,d1⟩,d2⟩:=h
 obtain ⟨a1,a2,a3⟩:=NB ha
 have e1:xSz n=sg n n:=Hu (by omega) (by omega)
 have e2:=eH n
 rw [a1,e1,qj (n:=d) (by omega) (by omega)]
 refine ⟨⟨rfl,rfl⟩,rfl,rC a2 (by omega) (by omega) (by omega),rfl,fun hn=>?_⟩
 exact NA (Int.mul_nonneg a2 (by omega)) (by omega) (by simpa using hn)
theorem zb (v:Int):(CL v=0/\okF v=true/\CK v=v)\/(CL v=6/\okF v=false/\CK v=0):=by
 unfold CL CK
 cases okF v <;> simp
def sqQ (i r:Int):Int:=IntKind.u64.wrap ↑(BitVec.ofInt IntKind.u64.bits r ||| BitVec.ofInt IntKind.u64.bits (IntKind.u64.wrap (1*2 ^ min (IntKind.i64.wrap (42 - i)).toNat IntKind.u64.bits))).toNat
def Xe (H L t:Int):Bool:=bif decide (xHi (t*t)<H) then true else bif xHi (t*t)==H then decide (xLo (t*t)<=L) else false
def vg (H L i r:Int):Int:=bif Xe H L (sqQ i r) then sqQ i r else r
def lZ (H L:Int):Nat->Int->Int->Int
 | 0,_,r=>r
 | n+1,i,r=>lZ H L n (IntKind.i64.wrap (i+1)) (vg H L i r)
theorem KU (n:Int):0<=IntKind.u64.wrap n/\IntKind.u64.wrap n<18446744073709551616:=by
 rw [IntKind.wrap_u64]; omega
end Go.Ar
namespace Go.Proofs.YtbiiiloimbjpaaaDoor.K
open Go Go.Eng Go.Ar
noncomputable def Xf:List (FuncId×bC):=[(81,uh),(84,CJ)]
theorem Tk:ET Tryd.prog Xf:=by
 intro x hx
 simp only [Xf,List.mem_cons,List.not_mem_nil,or_false] at hx
 rcases hx with rfl|rfl
 .exact Ht
 .exact Xc
noncomputable def c1:Ctx:=mkC Tryd.prog Xf ext
theorem Fw:CtxOk c1:=yK prog_ok Tk ext_ok
theorem zS (a n d:Int):kL ((run c1 300).call 41 [.int true .i64 a,.int true .i64 n,.int true .i64 d] ⟨[],0,1⟩)=some (.p (Xd a n d),.tuple [.int true .i64 (CP a n d false),.int true .i64 (jB a n d false)]):=by kernel_rfl
theorem Fx (a n d:Int):kL ((run c1 300).call 42 [.int true .i64 a,.int true .i64 n,.int true .i64 d] ⟨[],0,1⟩)=some (.p (Xd a n d),.tuple [.int true .i64 (CP a n d true),.int true .i64 (jB a n d true)]):=by kernel_rfl
end Go.Proofs.YtbiiiloimbjpaaaDoor.K
namespace Go.Proofs.YtbiiiloimbjpaaaDoor.K
open Go Go.Eng Go.Ar
noncomputable section
def sqS (up:Bool) (H L:Int):St:=⟨[⟨0,.bool false up⟩,⟨0,.ptr 0 0⟩,⟨0,.tuple []⟩,⟨61,.int false .u64 0⟩,⟨62,.bool false false⟩,⟨63,.int false .u64 0⟩,⟨0,.tuple []⟩,⟨0,.tuple []⟩,⟨64,.int false .i64 0⟩,
 ⟨0,.tuple []⟩,⟨0,.tuple []⟩,⟨0,.tuple []⟩,⟨0,.tuple []⟩,⟨0,.tuple []⟩,⟨0,.tuple []⟩,⟨0,.tuple []⟩,⟨0,.tuple []⟩,⟨0,.tuple []⟩,⟨0,.tuple []⟩,⟨0,.tuple []⟩,⟨0,.tuple []⟩,⟨0,.tuple []⟩,⟨0,.tuple []⟩,⟨0,.tuple []⟩,⟨0,.tuple []⟩,⟨0,.tuple []⟩,⟨0,.tuple []⟩,⟨0,.tuple []⟩,⟨0,.tuple []⟩,⟨0,.tuple []⟩,⟨0,.tuple []⟩,⟨0,.tuple []⟩,⟨0,.tuple []⟩,⟨0,.tuple []⟩],[],
 ⟨[⟨48,.cells [.int true .u64 H,.int true .u64 L]⟩],1,65⟩⟩
def sqP (i r:Int):Patch:=⟨[(5,.int true .u64 r),(8,.int true .i64 i),(6,.any false),(7,.any false),(9,.any false),(10,.any false),(11,.any false),(12,.any false),(13,.any false),(14,.any false),(15,.any false),(16,.any false),(17,.any false),(18,.any false),(19,.any false),(20,.any false),(21,.any false),(22,.any false)],[],[]⟩
def sqO (r:Int):Patch:=⟨[(5,.int true .u64 r),(8,.any false),(6,.any false),(7,.any false),(9,.any false),(10,.any false),(11,.any false),(12,.any false),(13,.any false),(14,.any false),(15,.any false),(16,.any false),(17,.any false),(18,.any false),(19,.any false),(20,.any false),(21,.any false),(22,.any false)],[],[]⟩
def NC:AFr:=⟨69,none⟩
noncomputable def sqA:Code:=iW Tryd.prog 69 0
def sqU (H L:Int):Sum (Int×Int):=
 {
  S:=fun y=>sqP y.1 y.2
  I:=fun y=>0<=y.1/\y.1<=43
  μ:=fun y=>(43 - y.1).toNat
  F:=fun y=>(.exit 0,sqO (lZ H L (43 - y.1).toNat y.1 y.2))
  next:=fun y=>(IntKind.i64.wrap (y.1+1),vg H L y.1 y.2)
  ids:=[]
  X:=fun y _=>some (sqO y.2,[]) }
def aa9 (H L i r:Int):Prop:=
 (decide (i<43)=true->0<=IntKind.i64.wrap (42 - i)/\xIn (sqQ i r) (sqQ i r)/\H=H/\L=L) /\
 ((!decide (i<43))=true->r=r/\(sqU H L).F (i,r)=(.exit 0,sqO r)) /\
 (decide (i<43)=true->(vg H L i r=vg H L i r/\IntKind.i64.wrap (i+1)=IntKind.i64.wrap (i+1)) /\
  (sqU H L).I ((sqU H L).next (i,r))/\(sqU H L).μ ((sqU H L).next (i,r))<(sqU H L).μ (i,r)/\(sqU H L).F ((sqU H L).next (i,r))=(sqU H L).F (i,r))
theorem Xg (up:Bool) (H L i r:Int):dW (sqS up H L) ((sqU H L).way (i,r)) ((run c1 300).code NC sqA (ah (sqS up H L) ((sqU H L).S (i,r))))=some (.p (aa9 H L i r)):=by kernel_rfl
end
end Go.Proofs.YtbiiiloimbjpaaaDoor.K
namespace Go.Ar
open Go
theorem Xh (i k:Nat) (hi:i<=42) (hr:2 ^ (43 - i)*k<2 ^ 43):sqQ (i:Int) ((2 ^ (43 - i)*k:Nat):Int)=((2 ^ (43 - i)*k+2 ^ (42 - i):Nat):Int):=by
 have e1:IntKind.i64.wrap (42 - (i:Int))=((42 - i:Nat):Int):=by rw [i64w (by omega) (by omega)]; omega
 have e2:min (((42 - i:Nat):Int)).toNat IntKind.u64.bits=42 - i:=by
  rw [Int.toNat_natCast]; exact Nat.min_eq_left (Nat.le_trans (Nat.sub_le _ _) (by decide))
 have p1:2 ^ (42 - i)<=2 ^ 42:=Nat.pow_le_pow_right (by decide) (by omega)
 have e3:IntKind.u64.wrap (1*2 ^ (42 - i))=((2 ^ (42 - i):Nat):Int):=by
  rw [Int.one_mul,show (2:Int) ^ (42 - i)=((2 ^ (42 - i):Nat):Int) from (Int.natCast_pow 2 _).symm]
  generalize 2 ^ (42 - i)=P at p1
  exact qj (by omega) (by omega)
 unfold sqQ
 rw [e1,e2,e3]
 rw [Go.Eng.dOr_eq _ _ (by omega) (by omega)]
 congr 1
 rw [<- Nat.two_pow_add_eq_or_of_lt (Nat.pow_lt_pow_right (by decide) (by omega)) k]
theorem Tn (t n:Nat) (ht:t<18446744073709551616):Xe (xHi (n:Int)) (xLo (n:Int)) (t:Int)=decide (t*t<=n):=by
 unfold Xe xHi xLo two64
 have e1:((t:Int)*t) / 18446744073709551616=((t*t / 18446744073709551616:Nat):Int):=by rw [Int.natCast_ediv,Int.natCast_mul]; rfl
 have e2:((t:Int)*t) % 18446744073709551616=((t*t % 18446744073709551616:Nat):Int):=by rw [Int.natCast_emod,Int.natCast_mul]; rfl
 have e3:(n:Int) / 18446744073709551616=((n / 18446744073709551616:Nat):Int):=by rw [Int.natCast_ediv]; rfl
 have e4:(n:Int) % 18446744073709551616=((n % 18446744073709551616:Nat):Int):=by rw [Int.natCast_emod]; rfl
 rw [e1,e2,e3,e4]
 generalize t*t=m
 rw [Bool.eq_iff_iff]
 by_cases h1:m / 18446744073709551616<n / 18446744073709551616
 .have:((m / 18446744073709551616:Nat):Int)<((n / 18446744073709551616:Nat):Int):=by omega
  simp only [this,decide_true,cond_true,true_iff,decide_eq_true_eq]
  omega
 .have:¬ ((m / 18446744073709551616:Nat):Int)<((n / 18446744073709551616:Nat):Int):=by omega
  simp only [this,decide_false,cond_false,decide_eq_true_eq]
  by_cases h2:m / 18446744073709551616=n / 18446744073709551616
  .rw [h2]
   simp only [beq_self_eq_true,cond_true,decide_eq_true_eq]
   omega
  .have:(((m / 18446744073709551616:Nat):Int)==((n / 18446744073709551616:Nat):Int))=false:=by
    rw [beq_eq_false_iff_ne]; omega
   rw [this]
   simp only [cond_false,Bool.false_eq_true,false_iff]
   omega
theorem rD (n:Nat):∀ (m i k:Nat),i+m=43->2 ^ (43 - i)*k<2 ^ 43->(2 ^ (43 - i)*k)*(2 ^ (43 - i)*k)<=n->n<(2 ^ (43 - i)*k+2 ^ (43 - i))*(2 ^ (43 - i)*k+2 ^ (43 - i)) ->
  ∃ r:Nat,lZ (xHi (n:Int)) (xLo (n:Int)) m (i:Int) ((2 ^ (43 - i)*k:Nat):Int)=(r:Int)/\r*r<=n/\n<(r+1)*(r+1)/\r<2 ^ 43
 | 0,i,k,hi,h1,h2,h3=>by
  have:i=43:=by omega
  subst this
  exact ⟨2 ^ (43 - 43)*k,rfl,h2,h3,h1⟩
 | m+1,i,k,hi,h1,h2,h3=>by
  have p:2 ^ (43 - i)=2*2 ^ (43 - (i+1)):=by
   rw [show 43 - i=(43 - (i+1))+1 by omega,Nat.pow_succ]; omega
  have e1:IntKind.i64.wrap ((i:Int)+1)=((i+1:Nat):Int):=by rw [i64w (by omega) (by omega)]; omega
  have e2:=Xh i k (by omega) h1
  rw [show 42 - i=43 - (i+1) by omega] at e2
  simp only [lZ]
  rw [e1]
  unfold vg
  rw [e2]
  generalize hq:2 ^ (43 - (i+1))=q at *
  have hq1:1<=q:=by rw [<- hq]; exact Nat.one_le_two_pow
  have hb:2 ^ (43 - i)*k+q<2 ^ 43:=by
   rw [p]
   have h4:2 ^ (43 - i)*(2 ^ i)=2 ^ 43:=by rw [<- Nat.pow_add]; congr 1; omega
   rw [p] at h4
   have:k<2 ^ i:=by
    rw [p,<- h4] at h1
    exact Nat.lt_of_mul_lt_mul_left h1
   have h5:2*q*(k+1)<=2*q*2 ^ i:=Nat.mul_le_mul_left _ this
   rw [h4,Nat.mul_add] at h5
   omega
  rw [Tn _ n (by omega)]
  by_cases h:(2 ^ (43 - i)*k+q)*(2 ^ (43 - i)*k+q)<=n
  .rw [decide_eq_true h,cond_true]
   have hk:2 ^ (43 - i)*k+q=q*(2*k+1):=by rw [p,Nat.mul_add,Nat.mul_one,<- Nat.mul_assoc,Nat.mul_comm q 2]
   have hs:q*(2*k+1)+q=2 ^ (43 - i)*k+2 ^ (43 - i):=by rw [<- hk,p]; omega
   rw [hk] at h hb ⊢
   have:=rD n m (i+1) (2*k+1) (by omega) (by rw [hq]; exact hb) (by rw [hq]; exact h) (by rw [hq,hs]; exact h3)
   rw [hq] at this
   exact this
  .rw [decide_eq_false h,cond_false]
   have hk:2 ^ (43 - i)*k=q*(2*k):=by rw [p,<- Nat.mul_assoc,Nat.mul_comm q 2]
   rw [hk] at h h1 h2 ⊢
   have:=rD n m (i+1) (2*k) (by omega) (by rw [hq]; exact h1) (by rw [hq]; exact h2) (by rw [hq]; omega)
   rw [hq] at this
   exact this
theorem Tp (a:Nat) (ha:a<=4503599627370496):∃ r:Nat,lZ (xHi (IntKind.u64.wrap a*4294967296)) (xLo (IntKind.u64.wrap a*4294967296)) 43 0 0=(r:Int)/\r*r<=a*4294967296/\a*4294967296<(r+1)*(r+1)/\r<2 ^ 43:=by
 rw [qj (n:=(a:Int)) (by omega) (by omega)]
 have:=rD (a*4294967296) 43 0 0 rfl (by decide) (by omega) (by simp; omega)
 simpa using this
def l6 (a:Int):Int:=IntKind.u64.wrap a*4294967296
def sqR (a:Int):Int:=lZ (xHi (l6 a)) (xLo (l6 a)) 43 0 0
def A8 (a:Int):Bool:=bif xC a != 0 then true else decide (a<0)
def ND (a:Int):Int:=bif !(sqR a*sqR a / two64==xHi (l6 a)&&(sqR a*sqR a % two64==xLo (l6 a)&&true)) then IntKind.u64.wrap (sqR a+1) else sqR a
def vk (a:Int) (up:Bool):Int:=bif A8 a then 0 else bif decide ((bif up then ND a else sqR a)>4503599627370496) then 0 else IntKind.i64.wrap (bif up then ND a else sqR a)
def NE (a:Int) (up:Bool):Int:=bif A8 a then 2 else bif decide ((bif up then ND a else sqR a)>4503599627370496) then 6 else 0
def rtV (a:Int) (up:Bool):Int:=bif up&&!(sqR a*sqR a==a*4294967296) then sqR a+1 else sqR a
def kM (a:Int):Bool:=okF a&&decide (0<=a)
def NF (a:Int) (up:Bool):Int:=bif kM a then rtV a up else 0
def VK (a:Int):Int:=bif kM a then 0 else 2
theorem Fy (a:Int):A8 a=!kM a:=by
 unfold A8 kM
 rw [VJ]
 cases okF a with
 | false=>simp
 | true=>by_cases h:a<0 <;> simp [h] <;> omega
theorem kG {a:Int} (h:kM a=true):0<=sqR a/\sqR a*sqR a<=a*4294967296/\a*4294967296<(sqR a+1)*(sqR a+1)/\sqR a<8796093022208:=by
 simp only [kM,Bool.and_eq_true,decide_eq_true_eq] at h
 obtain ⟨h1,h2⟩:=h
 have h1:=dh.1 h1
 obtain ⟨r,e,r1,r2,r3⟩:=Tp a.toNat (by omega)
 rw [Int.toNat_of_nonneg h2] at e
 have e:sqR a=r:=e
 rw [e]
 have c1:((r*r:Nat):Int)=(r:Int)*r:=Int.natCast_mul r r
 have c2:(((r+1)*(r+1):Nat):Int)=((r:Int)+1)*(r+1):=by rw [Int.natCast_mul]; rfl
 refine ⟨by omega,by omega,by omega,by omega⟩
theorem Jt (a:Int) (up:Bool):vk a up=NF a up/\NE a up=VK a:=by
 unfold vk NE NF VK
 rw [Fy]
 cases h:kM a with
 | false=>simp
 | true=>
  obtain ⟨r0,r1,r2,r3⟩:=kG h
  simp only [kM,Bool.and_eq_true,decide_eq_true_eq] at h
  obtain ⟨h1,h2⟩:=h
  have h1:=dh.1 h1
  have key:(bif up then ND a else sqR a)=rtV a up:=by
   cases up with
   | false=>rfl
   | true=>
    have e0:l6 a=a*4294967296:=by unfold l6; rw [qj (by omega) (by omega)]
    have:(sqR a*sqR a / two64==xHi (l6 a)&&(sqR a*sqR a % two64==xLo (l6 a)&&true))=(sqR a*sqR a==a*4294967296):=by
     rw [e0]
     unfold xHi xLo two64
     rw [Bool.eq_iff_iff]
     simp only [Bool.and_true,Bool.and_eq_true,beq_iff_eq]
     omega
    unfold ND rtV
    rw [this,qj (by omega) (by omega)]
    rfl
  rw [key]
  have hb:0<=rtV a up/\rtV a up<=8796093022208:=by
   unfold rtV
   cases up&&!(sqR a*sqR a==a*4294967296) <;> simp <;> omega
  simp only [Bool.not_true,cond_false,cond_true]
  rw [decide_eq_false (by omega),i64w (by omega) (by omega)]
  exact ⟨rfl,rfl⟩
end Go.Ar
namespace Go.Ar
open Go Go.Eng
noncomputable section
def two (a b:Int):Tm:=.u [.n .i64 a,.n .i64 b]
def CS (up:Bool):bC:=bE [.i .i64,.i .i64,.i .i64] none fun
 | [.n a,.n n,.n d]=>two (CP a n d up) (jB a n d up)
 | _=>.u []
def Ju (up:Bool):bC:=bE [.i .i64] none fun
 | [.n a]=>two (vk a up) (NE a up)
 | _=>.u []
end
end Go.Ar
namespace Go.Proofs.YtbiiiloimbjpaaaDoor.K
open Go Go.Eng Go.Ar
noncomputable section
theorem NG (up:Bool) (H L:Int):fit (sqS up H L) (sqS up H L) (ah (sqS up H L) ((sqU H L).S (0,0))) []=some (.p ((0:Int)=0/\(0:Int)=0)):=by kernel_rfl
theorem aba (H L i r:Int) (h:0<=i/\i<=43):aa9 H L i r:=by
 refine ⟨fun hi=>?_,fun hi=>⟨rfl,?_⟩,fun hi=>⟨⟨rfl,rfl⟩,?_⟩⟩
 .have hi:=of_decide_eq_true hi
  refine ⟨by rw [i64w (by omega) (by omega)]; omega,?_,rfl,rfl⟩
  have:=KU (↑(BitVec.ofInt IntKind.u64.bits r ||| BitVec.ofInt IntKind.u64.bits (IntKind.u64.wrap (1*2 ^ min (IntKind.i64.wrap (42 - i)).toNat IntKind.u64.bits))).toNat)
  exact rC this.1 this.2 this.1 this.2
 .have:i=43:=by simp at hi; omega
  subst this
  rfl
 .have hi:=of_decide_eq_true hi
  have e:IntKind.i64.wrap (i+1)=i+1:=i64w (by omega) (by omega)
  have e2:(43 - i).toNat=(43 - (i+1)).toNat+1:=by omega
  refine ⟨?_,?_,?_⟩
  .show 0<=IntKind.i64.wrap (i+1)/\IntKind.i64.wrap (i+1)<=43
   rw [e]; omega
  .show (43 - IntKind.i64.wrap (i+1)).toNat<(43 - i).toNat
   rw [e]; omega
  .show (Ex.exit 0,sqO (lZ H L (43 - IntKind.i64.wrap (i+1)).toNat (IntKind.i64.wrap (i+1)) (vg H L i r)))=(Ex.exit 0,sqO (lZ H L (43 - i).toNat i r))
   rw [e2,lZ,e]
theorem Tq (up:Bool) (H L:Int):CodeOk c1 NC (.loop sqA) (sqS up H L) ⟨.tt,[⟨.tt,.exit 0,ah (sqS up H L) (sqO (lZ H L 43 0 0))⟩]⟩:=by
 have hF:(sqU H L).F (0,0)=(.exit 0,sqO (lZ H L 43 0 0)):=by
  show (Ex.exit 0,sqO (lZ H L (43 - (0:Int)).toNat 0 0))=_
  rw [show (43 - (0:Int)).toNat=43 from by decide]
 have h0:fO (sqS up H L).hp ((sqU H L).S (0,0)).old=true:=by kernel_rfl
 have h1:(sqU H L).I (0,0):=⟨by decide,by decide⟩
 exact SS (bJ Fw 300) (sqU H L) h1 ⟨_,NG up H L,rfl,rfl⟩ h0 (fun y hy=>⟨_,Xg up H L y.1 y.2,aba H L y.1 y.2 hy⟩) hF
noncomputable def c1s (up:Bool) (a:Int):Ctx:=aZ c1 [bW 69 65 NC sqA (sqS up (xHi (l6 a)) (xLo (l6 a))) (.exit 0) (sqO (lZ (xHi (l6 a)) (xLo (l6 a)) 43 0 0))]
theorem NH (up:Bool) (a:Int):CtxOk (c1s up a):=aO Fw (Tq up _ _) (cz Fw)
def abb (up:Bool) (a:Int):Prop:=At NC NC sqA sqA (sqS up (xHi (l6 a)) (xLo (l6 a))) (sqS up (xHi (l6 a)) (xLo (l6 a)))
def VL (a:Int):Prop:=(!A8 a)=true->xIn (IntKind.u64.wrap a) 4294967296/\abb false a
def VM (a:Int):Prop:=(!A8 a)=true->xIn (IntKind.u64.wrap a) 4294967296/\abb true a/\xIn (sqR a) (sqR a)/\xHi (l6 a)=xHi (l6 a)/\xLo (l6 a)=xLo (l6 a)
theorem Hy (a:Int):kL ((run (c1s false a) 300).call 43 [.int true .i64 a] ⟨[],0,1⟩)=some (.p (VL a),.tuple [.int true .i64 (vk a false),.int true .i64 (NE a false)]):=by kernel_rfl
theorem NI (a:Int):kL ((run (c1s true a) 300).call 44 [.int true .i64 a] ⟨[],0,1⟩)=some (.p (VM a),.tuple [.int true .i64 (vk a true),.int true .i64 (NE a true)]):=by kernel_rfl
theorem A9 (a:Int):VM a:=by
 intro h
 rw [Fy,Bool.not_not] at h
 obtain ⟨r0,r1,r2,r3⟩:=kG h
 simp only [kM,Bool.and_eq_true,decide_eq_true_eq] at h
 have h1:=dh.1 h.1
 rw [qj (n:=a) (by omega) (by omega)]
 exact ⟨rC (by omega) (by omega) (by decide) (by decide),⟨rfl,rfl,rfl⟩,rC (by omega) (by omega) (by omega) (by omega),rfl,rfl⟩
theorem KV (a:Int):VL a:=fun h=>⟨(A9 a h).1,rfl,rfl,rfl⟩
theorem CU:PureOk Tryd.prog 41 (CS false):=by
 refine lw (fun xs hk _=>?_) ⟨_,Tryd.func41,rfl⟩
 obtain ⟨a,_,rfl,h1⟩:=kn hk; obtain ⟨n,_,rfl,h2⟩:=kn h1; obtain ⟨d,_,rfl,h3⟩:=kn h2; obtain rfl:=k0 h3
 exact ⟨c1,300,_,Fw,rfl,fun _=>rfl,rfl,zS a n d,Fv a n d⟩
theorem Hz:PureOk Tryd.prog 42 (CS true):=by
 refine lw (fun xs hk _=>?_) ⟨_,Tryd.func42,rfl⟩
 obtain ⟨a,_,rfl,h1⟩:=kn hk; obtain ⟨n,_,rfl,h2⟩:=kn h1; obtain ⟨d,_,rfl,h3⟩:=kn h2; obtain rfl:=k0 h3
 exact ⟨c1,300,_,Fw,rfl,fun _=>rfl,rfl,Fx a n d,Fv a n d⟩
theorem Fz:PureOk Tryd.prog 43 (Ju false):=by
 refine lw (fun xs hk _=>?_) ⟨_,Tryd.func43,rfl⟩
 obtain ⟨a,_,rfl,h1⟩:=kn hk; obtain rfl:=k0 h1
 exact ⟨c1s false a,300,_,NH false a,rfl,fun _=>rfl,rfl,Hy a,KV a⟩
theorem KW:PureOk Tryd.prog 44 (Ju true):=by
 refine lw (fun xs hk _=>?_) ⟨_,Tryd.func44,rfl⟩
 obtain ⟨a,_,rfl,h1⟩:=kn hk; obtain rfl:=k0 h1
 exact ⟨c1s true a,300,_,NH true a,rfl,fun _=>rfl,rfl,NI a,A9 a⟩
noncomputable def Tt:List (FuncId×bC):=[(41,CS false),(42,CS true),(43,Ju false),(44,Ju true),(81,uh)]
theorem Jv:ET Tryd.prog Tt:=by
 intro x hx
 simp only [Tt,List.mem_cons,List.not_mem_nil,or_false] at hx
 rcases hx with rfl|rfl|rfl|rfl|rfl
 .exact CU
 .exact Hz
 .exact Fz
 .exact KW
 .exact Ht
noncomputable def c2:Ctx:=mkC Tryd.prog Tt ext
theorem FB:CtxOk c2:=yK prog_ok Jv ext_ok
end
end Go.Proofs.YtbiiiloimbjpaaaDoor.K
namespace Go.Ar
open Go
structure Sp where
 lo:Int
 hi:Int
 e:Int
def err (e:Int):Sp:=⟨0,0,e⟩
def bg (a b:Int):Bool:=decide (-4503599627370496<=a)&&(decide (a<=b)&&decide (b<=4503599627370496))
def fe (lo hi:Int):Sp:=bif okF lo&&okF hi then ⟨lo,hi,0⟩ else err 6
def mn (a b:Int):Int:=bif decide (b<a) then b else a
def mx (a b:Int):Int:=bif decide (a<b) then b else a
def CW (a b c d:Int) (r:Sp):Sp:=bif bg a b&&bg c d then r else err 20
def gW (a b c d:Int):Sp:=CW a b c d (fe (a+c) (b+d))
def abL (a b:Int):Int:=mx (mx a (-b)) 0
def abH (a b:Int):Int:=mx b (-a)
def nC (a b:Int):Sp:=bif bg a b then fe (rd (abL a b*abL a b) 4294967296 false) (rd (abH a b*abH a b) 4294967296 true) else err 20
def kU (a b:Int):Sp:=bif bg a b then (bif decide (a<0) then err 2 else ⟨rtV a false,rtV b true,0⟩) else err 20
def okR (n d:Int):Bool:=decide (-4611686018427387904<=n)&&decide (n<=4611686018427387904)&&decide (1<=d)&&decide (d<=4611686018427387904)
def fP (a b n d:Int):Sp:=bif bg a b then (bif okR n d then fe (rd (mn (a*n) (b*n)) d false) (rd (mx (a*n) (b*n)) d true) else err 2) else err 20
def xCS (a b:Int):Int:=bif bif decide (a < -4503599627370496) then true else bif decide (a>b) then true else decide (b>4503599627370496) then 20 else 0
def Jw (a b c d:Int):Int:=bif !(xCS a b != 0)&&!(xCS c d != 0) then 0 else bif xCS a b != 0 then xCS a b else xCS c d
def xTb (l h:Int):Bool:=bif decide (l < -4503599627370496) then true else decide (h>4503599627370496)
def NJ (g l h:Int):Sp:=⟨bif g != 0 then 0 else bif xTb l h then 0 else l,bif g != 0 then 0 else bif xTb l h then 0 else h,bif g != 0 then g else bif xTb l h then 6 else 0⟩
def NK (a b c d:Int):Sp:=NJ (Jw a b c d) (IntKind.i64.wrap (a+c)) (IntKind.i64.wrap (b+d))
def HV (a b:Int):Sp:=
 ⟨bif xCS a b != 0 then 0 else bif decide (a<0) then 0 else bif xTb (vk a false) (vk b true) then 0 else vk a false,
  bif xCS a b != 0 then 0 else bif decide (a<0) then 0 else bif xTb (vk a false) (vk b true) then 0 else vk b true,
  bif xCS a b != 0 then xCS a b else bif decide (a<0) then 2 else bif xTb (vk a false) (vk b true) then 6 else 0⟩
def tL (low lo:Int):Int:=bif decide (low<lo) then low else lo
def tH (low lo hi:Int):Int:=bif decide (low<lo) then hi else hi
def nL (low high lo hi:Int):Int:=bif decide (high>tH low lo hi) then tL low lo else tL low lo
def nH (low high lo hi:Int):Int:=bif decide (high>tH low lo hi) then high else tH low lo hi
def l1 (V:Int->Int->Bool->Int) (a c d:Int):Int:=nL (V a d false) (V a d true) (V a c false) (V a c true)
def h1 (V:Int->Int->Bool->Int) (a c d:Int):Int:=nH (V a d false) (V a d true) (V a c false) (V a c true)
def l2 (V:Int->Int->Bool->Int) (a b c d:Int):Int:=nL (V b c false) (V b c true) (l1 V a c d) (h1 V a c d)
def h2 (V:Int->Int->Bool->Int) (a b c d:Int):Int:=nH (V b c false) (V b c true) (l1 V a c d) (h1 V a c d)
def h3 (V:Int->Int->Bool->Int) (a b c d:Int):Int:=nH (V b d false) (V b d true) (l2 V a b c d) (h2 V a b c d)
def xsA (a b n:Int):Int:=bif decide (n<0) then IntKind.i64.wrap (0 - b) else a
def xsB (a b n:Int):Int:=bif decide (n<0) then IntKind.i64.wrap (0 - a) else b
def xsN (n:Int):Int:=bif decide (n<0) then IntKind.i64.wrap (0 - n) else n
def FC (n:Int):Bool:=bif decide (n<0) then !decide (n < -4611686018427387904) else true
def Ba (a b n d:Int):Bool:=bif jB (xsA a b n) (xsN n) d false != 0 then true else jB (xsB a b n) (xsN n) d true != 0
def jN (a b n d:Int):Sp:=
 ⟨bif xCS a b != 0 then 0 else bif FC n then (bif Ba a b n d then 0 else CP (xsA a b n) (xsN n) d false) else 0,
  bif xCS a b != 0 then 0 else bif FC n then (bif Ba a b n d then 0 else CP (xsB a b n) (xsN n) d true) else 0,
  bif xCS a b != 0 then xCS a b else bif FC n then (bif Ba a b n d then (if jB (xsB a b n) (xsN n) d true>jB (xsA a b n) (xsN n) d false then jB (xsB a b n) (xsN n) d true else jB (xsA a b n) (xsN n) d false) else 0) else 2⟩
theorem aJ {a b:Int}:bg a b=true ↔ -4503599627370496<=a/\a<=b/\b<=4503599627370496:=by simp [bg]
theorem oP (a b:Int):xCS a b=bif bg a b then 0 else 20:=by
 unfold xCS
 cases h:bg a b with
 | true=>
  have:=aJ.1 h
  simp [show ¬ a < -4503599627370496 by omega,show ¬ a>b by omega,show ¬ b>4503599627370496 by omega]
 | false=>
  have:¬ (-4503599627370496<=a/\a<=b/\b<=4503599627370496):=fun k=>by rw [aJ.2 k] at h; cases h
  by_cases h1:a < -4503599627370496
  .simp [h1]
  .by_cases h2:a>b
   .simp [h1,h2]
   .simp [h1,h2,show b>4503599627370496 by omega]
theorem NL (a b c d:Int):Jw a b c d=bif bg a b&&bg c d then 0 else 20:=by
 unfold Jw
 rw [oP,oP]
 cases bg a b <;> cases bg c d <;> rfl
theorem NM {l h:Int} (k:l<=h):xTb l h=!(okF l&&okF h):=by
 unfold xTb okF
 rw [Bool.eq_iff_iff]
 by_cases h1:l < -4503599627370496
 .simp [h1] <;> omega
 .simp [h1] <;> omega
theorem NN (a b c d l h:Int) (k:bg a b=true->bg c d=true->l<=h):NJ (Jw a b c d) l h=CW a b c d (fe l h):=by
 unfold NJ CW
 rw [NL]
 cases h1:bg a b with
 | false=>simp [err]
 | true=>
  cases h2:bg c d with
  | false=>simp [err]
  | true=>
   rw [NM (k h1 h2)]
   unfold fe
   cases okF l&&okF h <;> simp [err]
theorem NP (a b c d:Int):NK a b c d=gW a b c d:=by
 unfold NK gW
 rw [NN]
 .unfold CW
  cases h1:bg a b <;> cases h2:bg c d <;> try rfl
  have:=aJ.1 h1; have:=aJ.1 h2
  rw [i64w (by omega) (by omega),i64w (by omega) (by omega)]
 .intro h1 h2
  have:=aJ.1 h1; have:=aJ.1 h2
  rw [i64w (by omega) (by omega),i64w (by omega) (by omega)]; omega
theorem Bb {a:Int} (h:kM a=true) (up:Bool):0<=rtV a up/\rtV a up<=8796093022208:=by
 obtain ⟨r0,r1,r2,r3⟩:=kG h
 unfold rtV
 cases up&&!(sqR a*sqR a==a*4294967296) <;> simp <;> omega
theorem KX (a b:Int):HV a b=kU a b:=by
 unfold HV kU
 rw [oP]
 cases h1:bg a b with
 | false=>simp [err]
 | true=>
  have h:=aJ.1 h1
  by_cases h2:a<0
  .simp [h2,err]
  .have ha:kM a=true:=by simp [kM,okF]; omega
   have hb:kM b=true:=by simp [kM,okF]; omega
   have ra:=Bb ha false
   have rb:=Bb hb true
   rw [(Jt a false).1,(Jt b true).1]
   unfold NF
   rw [ha,hb]
   have ht:xTb (rtV a false) (rtV b true)=false:=by
    unfold xTb
    rw [decide_eq_false (by omega),decide_eq_false (by omega)]; rfl
   simp [h2,ht]
theorem abd (a b:Int):mn a b<=a/\mn a b<=b/\(mn a b=a\/mn a b=b):=by
 unfold mn
 by_cases h:b<a <;> simp [h] <;> omega
theorem kH (a b:Int):a<=mx a b/\b<=mx a b/\(mx a b=a\/mx a b=b):=by
 unfold mx
 by_cases h:a<b <;> simp [h] <;> omega
theorem VN (n d:Int) (hd:0<d):rd n d false<=rd n d true:=by
 unfold rd
 simp only [cond_true,cond_false]
 have h1:=Int.mul_ediv_add_emod n d
 have h2:=Int.emod_nonneg n (show d≠0 by omega)
 have h3:=Int.emod_lt_of_pos n hd
 have:=CO (p:=n) hd
 rw [this]; split <;> omega
def pwS (v:Int):Int:=IntKind.u64.wrap (if IntKind.i64.wrap (0 - v)>v then IntKind.i64.wrap (0 - v) else v)
def pw2 (v:Int):Int:=1*pwS v
def pw3 (v:Int):Int:=pw2 v % two64
def pw4 (v:Int):Int:=pw3 v+0+0
def pw5 (v:Int):Int:=pw4 v % 18446744073709551616
def pw6 (v:Int):Int:=pw5 v*pwS v
def pw7 (v:Int):Int:=pw6 v % two64
def pw8 (v:Int):Int:=IntKind.u64.wrap (pw2 v / two64+pw4 v / 18446744073709551616)
def pw9 (v:Int):Int:=pw8 v*pwS v
def Tu (v:Int):Int:=pw9 v % two64
def Tv (v:Int):Int:=pw7 v+0+0
def Tw (v:Int):Int:=IntKind.u64.wrap (pw6 v / two64+Tv v / 18446744073709551616)
def Tx (v:Int):Int:=Tu v+Tw v+0
def Ty (v:Int):Int:=Tx v % 18446744073709551616
def Tz:Int:=2 ^ min (Int.ofNat 32).toNat IntKind.u64.bits
def KY (v:Int):Bool:=decide ((Ty v).fdiv Tz>0)
def Xi (v:Int):Int:=IntKind.u64.wrap (pw9 v / two64+Tx v / 18446744073709551616)
def NQ (v:Int):Bool:=decide (Xi v>0)
def TA (v:Int):Int:=Tv v % 18446744073709551616
def HY (v:Int):Int:=bif KY v then 0 else bif NQ v then 0 else
 IntKind.u64.wrap ↑(BitVec.ofInt IntKind.u64.bits ((TA v).fdiv Tz) ||| BitVec.ofInt IntKind.u64.bits (IntKind.u64.wrap (Ty v*Tz))).toNat
def Xj (v:Int):Int:=IntKind.u64.wrap ↑(BitVec.ofInt IntKind.u64.bits (TA v) &&& BitVec.ofInt IntKind.u64.bits 4294967295).toNat
def wE (v:Int):Bool:=bif !(bif KY v then false else bif NQ v then false else true) then true else decide (HY v>4503599627370496)
def pwD (v:Int):Int:=bif wE v then 0 else IntKind.i64.wrap (HY v)
def pwU (v:Int):Int:=bif wE v then 0 else bif bif KY v then false else bif NQ v then false else decide (Xj v>0) then IntKind.i64.wrap (IntKind.i64.wrap (HY v)+1) else IntKind.i64.wrap (HY v)
def pwE (v:Int):Int:=bif wE v then 6 else 0
def TB (x y:Int):Prop:=decide (0<=x/\0<=y/\(0:Int)<=0/\(0:Int)<=1)=true
def pwN (v:Int):Prop:=(xIn 1 (pwS v)/\TB (pw3 v) 0)/\(xIn (pw5 v) (pwS v)/\TB (pw7 v) 0)/\xIn (pw8 v) (pwS v)/\TB (Tu v) (Tw v)
def sqD (v:Int):Int:=bif decide (v*v / 4294967296>4503599627370496) then 0 else rd (v*v) 4294967296 false
def sqU (v:Int):Int:=bif decide (v*v / 4294967296>4503599627370496) then 0 else rd (v*v) 4294967296 true
def sqE (v:Int):Int:=bif decide (v*v / 4294967296>4503599627370496) then 6 else 0
theorem Xk {v:Int} (h:okF v=true):pwS v=sg v v:=by
 have h:=dh.1 h
 unfold pwS
 rw [i64w (n:=0 - v) (by omega) (by omega)]
 rcases eH v with ⟨h1,e⟩|⟨h1,e⟩ <;> rw [e] <;> split <;> rw [qj (by omega) (by omega)] <;> omega
theorem abe (n:Nat) (h:n<18446744073709551616):IntKind.u64.wrap ↑(BitVec.ofInt IntKind.u64.bits (n:Int) &&& BitVec.ofInt IntKind.u64.bits 4294967295).toNat=((n % 4294967296:Nat):Int):=Go.Eng.dLow_eq n h
theorem Xl {v:Int} (h:okF v=true):pwD v=sqD v/\pwU v=sqU v/\pwE v=sqE v/\pwN v:=by
 obtain ⟨_,s1,s2⟩:=NB h
 have e1:=Xk h
 have es:v*v=sg v v*sg v v:=by
  rcases eH v with ⟨_,e⟩|⟨_,e⟩ <;> rw [e]
  rw [Int.neg_mul,Int.mul_neg,Int.neg_neg]
 have hq:sg v v*sg v v<=4503599627370496*4503599627370496:=Int.mul_le_mul s2 s2 s1 (by decide)
 have hq0:0<=sg v v*sg v v:=Int.mul_nonneg s1 s1
 have q2:pw2 v=sg v v:=by unfold pw2; rw [e1]; omega
 have q3:pw3 v=sg v v:=by unfold pw3 two64; rw [q2]; omega
 have q4:pw4 v=sg v v:=by unfold pw4; rw [q3]; omega
 have q5:pw5 v=sg v v:=by unfold pw5; rw [q4]; omega
 have q6:pw6 v=sg v v*sg v v:=by unfold pw6; rw [q5,e1]
 have q8:pw8 v=0:=by unfold pw8 two64; rw [q2,q4,qj] <;> omega
 have q9:pw9 v=0:=by unfold pw9; rw [q8]; omega
 have q10:Tu v=0:=by unfold Tu two64; rw [q9]; rfl
 generalize hP:sg v v*sg v v=P at *
 have q7:pw7 v=P % 18446744073709551616:=by unfold pw7 two64; rw [q6]
 have q11:Tv v=P % 18446744073709551616:=by unfold Tv; rw [q7]; omega
 have q12:Tw v=P / 18446744073709551616:=by unfold Tw two64; rw [q6,q11,qj] <;> omega
 have q13:Tx v=P / 18446744073709551616:=by unfold Tx; rw [q10,q12]; omega
 have q14:Ty v=P / 18446744073709551616:=by unfold Ty; rw [q13]; omega
 have q15:Tz=4294967296:=by decide
 have q16:KY v=decide (4294967296<=P / 18446744073709551616):=by
  unfold KY
  rw [q14,q15,Int.fdiv_eq_ediv_of_nonneg _ (by decide)]
  rw [Bool.eq_iff_iff]; simp only [decide_eq_true_eq]; omega
 have q17:Xi v=0:=by unfold Xi two64; rw [q9,q13,qj] <;> omega
 have q18:NQ v=false:=by unfold NQ; rw [q17]; rfl
 have q19:TA v=P % 18446744073709551616:=by unfold TA; rw [q11]; omega
 have nd:pwN v:=by
  unfold pwN
  rw [e1,q3,q5,q7,q8,q10,q12]
  refine ⟨⟨rC (by omega) (by omega) (by omega) (by omega),?_⟩,⟨rC (by omega) (by omega) (by omega) (by omega),?_⟩,rC (by omega) (by omega) (by omega) (by omega),?_⟩ <;> unfold TB <;> rw [decide_eq_true_eq] <;> omega
 have e21:Xj v=P % 4294967296:=by
  unfold Xj
  rw [q19]
  obtain ⟨n,hn⟩:=Int.eq_ofNat_of_zero_le (show 0<=P % 18446744073709551616 by omega)
  rw [hn,abe n (by omega)]
  omega
 have big:wE v=decide (v*v / 4294967296>4503599627370496)/\(wE v=false->HY v=P / 4294967296/\KY v=false):=by
  unfold wE
  rw [q18,q16]
  by_cases hb:4294967296<=P / 18446744073709551616
  .refine ⟨?_,fun h=>by simp [hb] at h⟩
   rw [es]
   simp [hb]; omega
  .have hor:HY v=P / 4294967296:=by
    unfold HY
    rw [q16,q18,q19,q14,q15,decide_eq_false hb]
    simp only [cond_false]
    rw [Int.fdiv_eq_ediv_of_nonneg _ (by decide),qj (n:=P / 18446744073709551616*4294967296) (by omega) (by omega)]
    obtain ⟨n,hn⟩:=Int.eq_ofNat_of_zero_le (show 0<=P % 18446744073709551616 / 4294967296 by omega)
    obtain ⟨m,hm⟩:=Int.eq_ofNat_of_zero_le (show 0<=P / 18446744073709551616 by omega)
    rw [hn,hm,show (m:Int)*4294967296=((m*4294967296:Nat):Int) by omega,Go.Eng.dOr_eq _ _ (by omega) (by omega)]
    have:n ||| m*4294967296=m*4294967296+n:=by
     rw [Nat.or_comm,Nat.mul_comm]
     exact (Nat.two_pow_add_eq_or_of_lt (i:=32) (show n<2 ^ 32 by omega) m).symm
    rw [this]
    omega
   rw [hor,decide_eq_false hb,es]
   exact ⟨rfl,fun _=>⟨rfl,rfl⟩⟩
 obtain ⟨b1,b2⟩:=big
 refine ⟨?_,?_,?_,nd⟩
 .unfold pwD sqD
  cases hb:wE v with
  | true=>rw [<- b1,hb]; rfl
  | false=>
   rw [<- b1,hb,(b2 hb).1,es]
   rw [hb] at b1
   have b1:=of_decide_eq_false b1.symm
   rw [es] at b1
   simp only [cond_false]
   rw [i64w (by omega) (by omega)]; rfl
 .unfold pwU sqU
  cases hb:wE v with
  | true=>rw [<- b1,hb]; rfl
  | false=>
   obtain ⟨b3,b4⟩:=b2 hb
   rw [<- b1,hb,b3,b4,q18,e21,es]
   rw [hb] at b1
   have b1:=of_decide_eq_false b1.symm
   rw [es] at b1
   simp only [cond_false]
   rw [i64w (n:=P / 4294967296) (by omega) (by omega),i64w (n:=P / 4294967296+1) (by omega) (by omega)]
   unfold rd
   simp only [cond_true]
   by_cases hr:P % 4294967296>0
   .rw [decide_eq_true hr]; simp only [cond_true]; omega
   .rw [decide_eq_false hr]; simp only [cond_false]; omega
 .unfold pwE sqE; rw [b1]
def xaM (a b:Int):Int:=if IntKind.i64.wrap (0 - b)>a then IntKind.i64.wrap (0 - b) else a
def NR (a b:Int):Int:=if 0>xaM a b then 0 else xaM a b
def NS (a b:Int):Int:=if IntKind.i64.wrap (0 - a)>b then IntKind.i64.wrap (0 - a) else b
def xaL (a b:Int):Int:=bif xCS a b != 0 then 0 else bif xTb (NR a b) (NS a b) then 0 else NR a b
def xaH (a b:Int):Int:=bif xCS a b != 0 then 0 else bif xTb (NR a b) (NS a b) then 0 else NS a b
def CX (a b:Int):Bool:=bif sqE (xaL a b) != 0 then true else sqE (xaH a b) != 0
def NT (a b:Int):Sp:=
 ⟨bif xCS a b != 0 then 0 else bif CX a b then 0 else bif xTb (sqD (xaL a b)) (sqU (xaH a b)) then 0 else sqD (xaL a b),
  bif xCS a b != 0 then 0 else bif CX a b then 0 else bif xTb (sqD (xaL a b)) (sqU (xaH a b)) then 0 else sqU (xaH a b),
  bif xCS a b != 0 then xCS a b else bif CX a b then 6 else bif xTb (sqD (xaL a b)) (sqU (xaH a b)) then 6 else 0⟩
def VO (a b:Int):Prop:=(!(xCS a b != 0))=true->okF (xaL a b)=true/\okF (xaH a b)=true
theorem VP {a b:Int} (h:bg a b=true):xaL a b=abL a b/\xaH a b=abH a b/\0<=abL a b/\abL a b<=abH a b/\abH a b<=4503599627370496:=by
 have k:=aJ.1 h
 have l0:NR a b=abL a b:=by
  unfold NR xaM abL mx
  rw [i64w (by omega) (by omega)]
  by_cases h1:a < -b
  .rw [if_pos (show 0 - b>a by omega),decide_eq_true h1]
   simp only [cond_true]
   by_cases h2:-b<0
   .rw [if_pos (by omega),decide_eq_true h2]; rfl
   .rw [if_neg (by omega),decide_eq_false h2]; simp only [cond_false]; omega
  .rw [if_neg (show ¬ 0 - b>a by omega),decide_eq_false h1]
   simp only [cond_false]
   by_cases h2:a<0
   .rw [if_pos (by omega),decide_eq_true h2]; rfl
   .rw [if_neg (by omega),decide_eq_false h2]; rfl
 have h0:NS a b=abH a b:=by
  unfold NS abH mx
  rw [i64w (by omega) (by omega)]
  by_cases h1:b < -a
  .rw [if_pos (show 0 - a>b by omega),decide_eq_true h1]; simp only [cond_true]; omega
  .rw [if_neg (show ¬ 0 - a>b by omega),decide_eq_false h1]; rfl
 have bl:0<=abL a b/\abL a b<=abH a b/\abH a b<=4503599627370496:=by
  unfold abL abH
  have m1:=kH a (-b); have m2:=kH (mx a (-b)) 0; have m3:=kH b (-a)
  omega
 have ht:xTb (abL a b) (abH a b)=false:=by
  unfold xTb; rw [decide_eq_false (by omega),decide_eq_false (by omega)]; rfl
 unfold xaL xaH
 rw [l0,h0,ht,oP,h]
 exact ⟨rfl,rfl,bl⟩
theorem KZ (a b:Int):VO a b:=by
 intro h
 rw [oP] at h
 cases k:bg a b with
 | false=>rw [k] at h; cases h
 | true=>
  obtain ⟨e1,e2,b1,b2,b3⟩:=VP k
  rw [e1,e2,dh,dh]; omega
theorem NU (a b:Int):NT a b=nC a b:=by
 unfold NT nC
 rw [oP]
 cases h:bg a b with
 | false=>simp [err]
 | true=>
  obtain ⟨e1,e2,b1,b2,b3⟩:=VP h
  unfold CX
  rw [e1,e2]
  have q:abL a b*abL a b<=abH a b*abH a b:=Int.mul_le_mul b2 b2 b1 (by omega)
  have q0:0<=abL a b*abL a b:=Int.mul_nonneg b1 b1
  unfold sqE sqD sqU fe
  generalize hP:abL a b*abL a b=P at *
  generalize hQ:abH a b*abH a b=Q at *
  have u1:rd P 4294967296 false=P / 4294967296:=rfl
  have u2:rd Q 4294967296 true=Q / 4294967296+(if 0<Q % 4294967296 then 1 else 0):=by
   unfold rd; simp only [cond_true]; rw [CO (by decide)]; omega
  have okl:okF (rd P 4294967296 false)=!decide (P / 4294967296>4503599627370496):=by
   rw [u1]; unfold okF
   rw [decide_eq_true (show (-4503599627370496:Int)<=P / 4294967296 by omega),Bool.true_and,Bool.eq_iff_iff]
   simp only [decide_eq_true_eq,Bool.not_eq_true',decide_eq_false_iff_not]; omega
  cases hp:decide (P / 4294967296>4503599627370496) with
  | true=>rw [okl,hp]; simp [err]
  | false=>
   have hp':=of_decide_eq_false hp
   cases hq:decide (Q / 4294967296>4503599627370496) with
   | true=>
    have hq':=of_decide_eq_true hq
    have:okF (rd Q 4294967296 true)=false:=by rw [qf,u2]; split <;> omega
    rw [this]; simp [err]
   | false=>
    have hq':=of_decide_eq_false hq
    simp only [cond_false,cond_true,bne_self_eq_false]
    rw [NM (by rw [u1,u2]; split <;> omega)]
    cases okF (rd P 4294967296 false)&&okF (rd Q 4294967296 true) <;> simp [err]
theorem NV {x n d:Int} (hx:okF x=true) (hn:0<=n) (hr:okR n d=true) (hb:sg x x*n<18446744073709551615*d) (up:Bool):CP x n d up=CK (rd (x*n) d up)/\jB x n d up=CL (rd (x*n) d up):=by
 obtain ⟨a1,a2,a3⟩:=NB hx
 simp only [okR,Bool.and_eq_true,decide_eq_true_eq] at hr
 obtain ⟨⟨⟨n1,n2⟩,d1⟩,d2⟩:=hr
 have en:xSz n=n:=by rw [Hu (by omega) (by omega)]; rcases eH n with ⟨_,e⟩|⟨_,e⟩ <;> omega
 have esn:sg n n=n:=by rcases eH n with ⟨_,e⟩|⟨_,e⟩ <;> omega
 have ed:IntKind.u64.wrap d=d:=qj (by omega) (by omega)
 have ok:Hw x n d=false:=by
  rw [CQ]; unfold okS; rw [hx,decide_eq_true n1,decide_eq_true n2,decide_eq_true d1,decide_eq_true d2]; rfl
 have hm:sg x x*n<=4503599627370496*4611686018427387904:=Int.mul_le_mul a3 n2 hn (by decide)
 obtain ⟨v,e,_⟩:=aa8 (p:=sg x x*n) (d:=d) (Int.mul_nonneg a2 hn) (by omega) (by omega) (by omega) up (Nw x n) (x*n) (by have:=Nz x n; rw [esn] at this; exact this) (.inl hb)
 unfold CP jB
 rw [ok,a1,en,ed]
 exact ⟨v,e⟩
theorem NW {x n d:Int} (h:okR n d=false) (up:Bool):jB x n d up=2:=by
 unfold jB
 have:Hw x n d=true:=by
  rw [CQ]; unfold okS okR at *; rw [h,Bool.and_false]; rfl
 rw [this]; rfl
theorem HZ (a b n d:Int) (hb:bg a b=true->okR n d=true->abH a b*sg n n<18446744073709551615*d):jN a b n d=fP a b n d:=by
 unfold jN fP
 rw [oP]
 cases h:bg a b with
 | false=>simp [err]
 | true=>
  have k:=aJ.1 h
  cases hr:okR n d with
  | false=>
   have hx:FC n=true->Ba a b n d=true/\jB (xsA a b n) (xsN n) d false=2/\jB (xsB a b n) (xsN n) d true=2:=by
    intro ho
    have hr2:okR (xsN n) d=false:=by
     unfold xsN
     by_cases hn:n<0
     .simp only [FC,hn,decide_true,cond_true,Bool.not_eq_true',decide_eq_false_iff_not] at ho
      rw [decide_eq_true hn,cond_true,i64w (by omega) (by omega)]
      simp only [okR,Bool.and_eq_false_iff,decide_eq_false_iff_not] at hr ⊢
      omega
     .rw [decide_eq_false hn]; exact hr
    have e1:=NW (x:=xsA a b n) hr2 false
    have e2:=NW (x:=xsB a b n) hr2 true
    exact ⟨by unfold Ba; rw [e1]; rfl,e1,e2⟩
   cases ho:FC n with
   | false=>simp [err]
   | true=>
    obtain ⟨h1,h2,h3⟩:=hx ho
    simp [h1,h2,h3,err]
  | true=>
   have hb:=hb h hr
   have hr':=hr
   simp only [okR,Bool.and_eq_true,decide_eq_true_eq] at hr'
   obtain ⟨⟨⟨n1,n2⟩,d1⟩,d2⟩:=hr'
   have ho:FC n=true:=by
    unfold FC
    by_cases hn:n<0
    .rw [decide_eq_true hn,decide_eq_false (by omega)]; rfl
    .rw [decide_eq_false hn]; rfl
   have m3:=kH b (-a)
   have core:∀ (x y m:Int),0<=m->m<=4611686018427387904->okF x=true->okF y=true->x<=y->sg x x<=abH a b->sg y y<=abH a b->abH a b*m<18446744073709551615*d ->
     (⟨bif (bif jB x m d false != 0 then true else jB y m d true != 0) then 0 else CP x m d false,bif (bif jB x m d false != 0 then true else jB y m d true != 0) then 0 else CP y m d true,
      bif (bif jB x m d false != 0 then true else jB y m d true != 0) then (if jB y m d true>jB x m d false then jB y m d true else jB x m d false) else 0⟩:Sp)=fe (rd (x*m) d false) (rd (y*m) d true):=by
    intro x y m m0 m1 hx hy hxy sx sy hbm
    have hr2:okR m d=true:=by simp [okR]; omega
    have bx:sg x x*m<18446744073709551615*d:=Int.lt_of_le_of_lt (Int.mul_le_mul_of_nonneg_right sx m0) hbm
    have by':sg y y*m<18446744073709551615*d:=Int.lt_of_le_of_lt (Int.mul_le_mul_of_nonneg_right sy m0) hbm
    obtain ⟨v1,e1⟩:=NV hx m0 hr2 bx false
    obtain ⟨v2,e2⟩:=NV hy m0 hr2 by' true
    rw [v1,e1,v2,e2]
    unfold fe
    rcases zb (rd (x*m) d false) with ⟨p1,p2,p3⟩|⟨p1,p2,p3⟩ <;> rcases zb (rd (y*m) d true) with ⟨q1,q2,q3⟩|⟨q1,q2,q3⟩ <;> rw [p1,p2,p3,q1,q2,q3] <;> rfl
   unfold Ba
   rw [ho]
   simp only [bne_self_eq_false,cond_false,cond_true]
   by_cases hn:n<0
   .have ea:xsA a b n=-b:=by unfold xsA; rw [decide_eq_true hn,cond_true,i64w (by omega) (by omega)]; omega
    have eb:xsB a b n=-a:=by unfold xsB; rw [decide_eq_true hn,cond_true,i64w (by omega) (by omega)]; omega
    have en:xsN n=-n:=by unfold xsN; rw [decide_eq_true hn,cond_true,i64w (by omega) (by omega)]; omega
    have esn:sg n n=-n:=by rcases eH n with ⟨_,e⟩|⟨_,e⟩ <;> omega
    rw [esn] at hb
    rw [ea,eb,en]
    rw [core (-b) (-a) (-n) (by omega) (by omega) (dh.2 (by omega)) (dh.2 (by omega)) (by omega)
     (by unfold abH; rcases eH (-b) with ⟨_,e⟩|⟨_,e⟩ <;> omega) (by unfold abH; rcases eH (-a) with ⟨_,e⟩|⟨_,e⟩ <;> omega) hb]
    have hmul:b*n<=a*n:=Int.mul_le_mul_of_nonpos_right k.2.1 (by omega)
    have e1:mn (a*n) (b*n)=b*n:=by
     unfold mn; by_cases h2:b*n<a*n
     .rw [decide_eq_true h2]; rfl
     .rw [decide_eq_false h2]; simp only [cond_false]; omega
    have e2:mx (a*n) (b*n)=a*n:=by
     unfold mx; rw [decide_eq_false (by omega)]; rfl
    rw [e1,e2,Int.neg_mul_neg,Int.neg_mul_neg]
   .have ea:xsA a b n=a:=by unfold xsA; rw [decide_eq_false hn]; rfl
    have eb:xsB a b n=b:=by unfold xsB; rw [decide_eq_false hn]; rfl
    have en:xsN n=n:=by unfold xsN; rw [decide_eq_false hn]; rfl
    have esn:sg n n=n:=by rcases eH n with ⟨_,e⟩|⟨_,e⟩ <;> omega
    rw [esn] at hb
    rw [ea,eb,en]
    rw [core a b n (by omega) n2 (dh.2 (by omega)) (dh.2 (by omega)) k.2.1
     (by unfold abH; rcases eH a with ⟨_,e⟩|⟨_,e⟩ <;> omega) (by unfold abH; rcases eH b with ⟨_,e⟩|⟨_,e⟩ <;> omega) hb]
    have hmul:a*n<=b*n:=Int.mul_le_mul_of_nonneg_right k.2.1 (by omega)
    have e1:mn (a*n) (b*n)=a*n:=by
     unfold mn; rw [decide_eq_false (by omega)]; rfl
    have e2:mx (a*n) (b*n)=b*n:=by
     unfold mx; by_cases h2:a*n<b*n
     .rw [decide_eq_true h2]; rfl
     .rw [decide_eq_false h2]; simp only [cond_false]; omega
    rw [e1,e2]
end Go.Ar
namespace Go.Ar
open Go Go.Eng
end Go.Ar
namespace Go.Ar
open Go Go.Eng
noncomputable section
def shS:Sh:=.a [.i .i64,.i .i64]
def qm (s:Sp):Tm:=.u [.a [.n .i64 s.lo,.n .i64 s.hi],.n .i64 s.e]
def NY (F:Int->Int->Int->Int->Sp):bC:=bE [shS,shS] none fun
 | [.n a,.n b,.n c,.n d]=>qm (F a b c d)
 | _=>.u []
def sUn (F:Int->Int->Sp):bC:=bE [shS] none fun
 | [.n a,.n b]=>qm (F a b)
 | _=>.u []
def sSc (F:Int->Int->Int->Int->Sp):bC:=bE [shS,.i .i64,.i .i64] none fun
 | [.n a,.n b,.n n,.n d]=>qm (F a b n d)
 | _=>.u []
def NZ (a b:Int):Int:=bif bg a b then 0 else 20
def TC:bC:=bE [shS] none fun
 | [.n a,.n b]=>.n .i64 (NZ a b)
 | _=>.u []
def abf:bC:=bE [.i .i64,.c (.int false .i64 2)] (some fun
 | [.n v]=>okF v
 | _=>false) fun
 | [.n v]=>.u [.n .i64 (sqD v),.n .i64 (sqU v),.n .i64 (sqE v)]
 | _=>.u []
end
end Go.Ar
namespace Go.Proofs.YtbiiiloimbjpaaaDoor.K
open Go Go.Eng Go.Ar
noncomputable section
theorem TD (a b:Int):kL ((run c2 300).call 40 [.agg [.int true .i64 a,.int true .i64 b]] ⟨[],0,1⟩)=some (.tt,.int true .i64 (xCS a b)):=by kernel_rfl
theorem TE (a b c d:Int):kL ((run c2 300).call 25 [.agg [.int true .i64 a,.int true .i64 b],.agg [.int true .i64 c,.int true .i64 d]] ⟨[],0,1⟩)=some (.tt,(qm (NK a b c d)).av true):=by kernel_rfl
theorem N7 (a b:Int):kL ((run c2 300).call 28 [.agg [.int true .i64 a,.int true .i64 b]] ⟨[],0,1⟩)=some (.tt,(qm (HV a b)).av true):=by kernel_rfl
theorem K3 (a b n d:Int):kL ((run c2 300).call 27 [.agg [.int true .i64 a,.int true .i64 b],.int true .i64 n,.int true .i64 d] ⟨[],0,1⟩)=some (.tt,(qm (jN a b n d)).av true):=by kernel_rfl
theorem TG (v:Int):kL ((run c2 300).call 51 [.int true .i64 v,.int false .i64 2] ⟨[],0,1⟩)=some (.p (pwN v),.tuple [.int true .i64 (pwD v),.int true .i64 (pwU v),.int true .i64 (pwE v)]):=by kernel_rfl
theorem Xm:PureOk Tryd.prog 51 abf:=by
 refine lw (fun xs hk hN=>?_) ⟨_,Tryd.func51,rfl⟩
 obtain ⟨v,_,rfl,h1⟩:=kn hk; obtain rfl:=k0 h1
 obtain ⟨e1,e2,e3,hn⟩:=Xl hN
 have:=TG v
 rw [e1,e2,e3] at this
 exact ⟨c2,300,_,FB,rfl,fun _=>rfl,rfl,this,hn⟩
noncomputable def abg:List (FuncId×bC):=(51,abf) :: Tt
theorem TH:ET Tryd.prog abg:=fun x hx=>by
 rcases List.mem_cons.1 hx with rfl|hx
 .exact Xm
 .exact Jv x hx
noncomputable def c3:Ctx:=mkC Tryd.prog abg ext
theorem abh:CtxOk c3:=yK prog_ok TH ext_ok
theorem TI (a b:Int):kL ((run c3 300).call 26 [.agg [.int true .i64 a,.int true .i64 b]] ⟨[],0,1⟩)=some (.p (VO a b),(qm (NT a b)).av true):=by kernel_rfl
theorem Jy:PureOk Tryd.prog 40 TC:=by
 refine lw (fun xs hk _=>?_) ⟨_,Tryd.func40,rfl⟩
 obtain ⟨a,_,rfl,h1⟩:=kn hk; obtain ⟨b,_,rfl,h2⟩:=kn h1; obtain rfl:=k0 h2
 have:=TD a b
 rw [oP] at this
 exact ⟨c2,300,_,FB,rfl,fun _=>rfl,rfl,this,trivial⟩
theorem Jz:PureOk Tryd.prog 25 (NY gW):=by
 refine lw (fun xs hk _=>?_) ⟨_,Tryd.func25,rfl⟩
 obtain ⟨a,_,rfl,h1⟩:=kn hk; obtain ⟨b,_,rfl,h2⟩:=kn h1; obtain ⟨c,_,rfl,h3⟩:=kn h2; obtain ⟨d,_,rfl,h4⟩:=kn h3; obtain rfl:=k0 h4
 exact ⟨c2,300,_,FB,rfl,fun _=>rfl,rfl,(TE a b c d).trans (by rw [NP]),trivial⟩
theorem FD:PureOk Tryd.prog 28 (sUn kU):=by
 refine lw (fun xs hk _=>?_) ⟨_,Tryd.func28,rfl⟩
 obtain ⟨a,_,rfl,h1⟩:=kn hk; obtain ⟨b,_,rfl,h2⟩:=kn h1; obtain rfl:=k0 h2
 exact ⟨c2,300,_,FB,rfl,fun _=>rfl,rfl,(N7 a b).trans (by rw [KX]),trivial⟩
theorem JA:PureOk Tryd.prog 26 (sUn nC):=by
 refine lw (fun xs hk _=>?_) ⟨_,Tryd.func26,rfl⟩
 obtain ⟨a,_,rfl,h1⟩:=kn hk; obtain ⟨b,_,rfl,h2⟩:=kn h1; obtain rfl:=k0 h2
 exact ⟨c3,300,_,abh,rfl,fun _=>rfl,rfl,(TI a b).trans (by rw [NU]),KZ a b⟩
theorem Bc:PureOk Tryd.prog 27 (sSc jN):=by
 refine lw (fun xs hk _=>?_) ⟨_,Tryd.func27,rfl⟩
 obtain ⟨a,_,rfl,h1⟩:=kn hk; obtain ⟨b,_,rfl,h2⟩:=kn h1; obtain ⟨n,_,rfl,h3⟩:=kn h2; obtain ⟨d,_,rfl,h4⟩:=kn h3; obtain rfl:=k0 h4
 exact ⟨c2,300,_,FB,rfl,fun _=>rfl,rfl,K3 a b n d,trivial⟩
noncomputable def c0:Ctx:=mkC Tryd.prog [] ext
noncomputable def adl:List (FuncId×bC):=[]
noncomputable def c4:Ctx:=mkC Tryd.prog adl ext
noncomputable def abj:List (FuncId×bC):=[]
noncomputable def c5:Ctx:=mkC Tryd.prog abj ext
noncomputable def adm:List (FuncId×bC):=abj
noncomputable def c6:Ctx:=mkC Tryd.prog adm ext
end
end Go.Proofs.YtbiiiloimbjpaaaDoor.K
namespace Go.Ar
open Go Go.Eng
end Go.Ar
namespace Go.Proofs.YtbiiiloimbjpaaaDoor.K
open Go Go.Eng Go.Ar
noncomputable section
end
end Go.Proofs.YtbiiiloimbjpaaaDoor.K
namespace Go.Ar
open Go
end Go.Ar
namespace Go.Vc
open Go Go.Eng Go.Ar
structure VF where
 ad:Int->Int->Int->Int->Sp
 su:Int->Int->Int->Int->Sp
 mu:Int->Int->Int->Int->Sp
 di:Int->Int->Int->Int->Sp
 sc:Int->Int->Int->Int->Sp
 sq:Int->Int->Sp
 rt:Int->Int->Sp
 ng:Int->Int->Sp
 ck:Int->Int->Int
 ok:Int->Int->Bool
structure Ve where
 a:Int
 b:Int
 c:Int
 d:Int
 e:Int
 f:Int
section
variable (F:VF) (v:Ve)
def f3 (a b c:Int):Int:=bif a != 0||!(a != 0)&&(b != 0||!(b != 0)&&c != 0) then bif a != 0 then a else bif b != 0 then b else c else 0
end
structure VF.law (F:VF):Prop where
 ck:∀ a b,F.ck a b=bif F.ok a b then 0 else 20
 z:F.ok 0 0=true
section
variable (F:VF) (v w:Ve) (X Y Z:Sp)
end
structure VF.law2 (F:VF):Prop extends F.law where
 ad:∀ a b c d,((F.ad a b c d).e==0)=false->(F.ad a b c d).lo=0/\(F.ad a b c d).hi=0
 ng:∀ a b,(F.ng a b).e=bif F.ok a b then 0 else 20
end Go.Vc
namespace Go.Proofs.YtbiiiloimbjpaaaDoor.K
open Go Go.Eng Go.Ar Go.Vc
noncomputable section
end
end Go.Proofs.YtbiiiloimbjpaaaDoor.K
namespace Go.Vc
open Go Go.Eng Go.Ar
structure MF where
 dt:Ve->Ve->Sp
 o:Int->Int->Bool
structure Mat where
 x:Ve
 y:Ve
 z:Ve
def MF.ok (F:MF) (v:Ve):Bool:=bif F.o v.a v.b then bif F.o v.c v.d then F.o v.e v.f else false else false
def g3 (a b c:Int):Bool:=!(a != 0)&&(!(b != 0)&&!(c != 0))
def e3 (a b c:Int):Int:=bif g3 a b c then 0 else bif !(a != 0)&&(!(b != 0)&&c != 0||b != 0) then bif !(b != 0)&&c != 0 then c else b else a
section
variable (F:MF) (m:Mat) (v:Ve)
end
structure TF where
 tv:Mat->Ve->Ve
 te:Mat->Ve->Int
 cm:Mat->Int
section
variable (T:TF) (a b:Mat)
end
section
variable (F:MF) (a b:Mat)
end
end Go.Vc
namespace Go.Proofs.YtbiiiloimbjpaaaDoor.K
open Go Go.Eng Go.Ar Go.Vc
noncomputable section
end
end Go.Proofs.YtbiiiloimbjpaaaDoor.K
namespace Go.Vc
open Go Go.Eng Go.Ar
end Go.Vc
namespace Go.Proofs.YtbiiiloimbjpaaaDoor.K
open Go Go.Eng Go.Ar Go.Vc
noncomputable section
end
end Go.Proofs.YtbiiiloimbjpaaaDoor.K
namespace Go.Dg
def val:List Int->Int
 | []=>0
 | x :: l=>x+1000000000*val l
def Dig (xs:List Int):Prop:=∀ x∈xs,0<=x/\x<1000000000
def pw:Nat->Int
 | 0=>1
 | n+1=>(1000000000:Int)*pw n
theorem pw_pos:∀ n,0<pw n
 | 0=>by decide
 | n+1=>Int.mul_pos (by decide) (pw_pos n)
theorem vo:∀ m n,pw (m+n)=pw m*pw n
 | 0,n=>by simp [pw]
 | m+1,n=>by rw [Nat.succ_add]; simp only [pw]; rw [vo m n,Int.mul_assoc]
theorem jO:Dig []:=fun _ h=>by cases h
theorem bO {x:Int} {l:List Int}:Dig (x :: l) ↔ (0<=x/\x<1000000000)/\Dig l:=by
 constructor
 .intro h; exact ⟨h x (by simp),fun y hy=>h y (by simp [hy])⟩
 .rintro ⟨h1,h2⟩ y hy
  rcases List.mem_cons.1 hy with rfl|hy
  .exact h1
  .exact h2 y hy
theorem JB {l m:List Int}:Dig (l++m) ↔ Dig l/\Dig m:=by
 constructor
 .intro h; exact ⟨fun y hy=>h y (by simp [hy]),fun y hy=>h y (by simp [hy])⟩
 .rintro ⟨h1,h2⟩ y hy
  rcases List.mem_append.1 hy with hy|hy
  .exact h1 y hy
  .exact h2 y hy
theorem Dig.take {l:List Int} (h:Dig l) (n:Nat):Dig (l.take n):=fun x hx=>h x (List.mem_of_mem_take hx)
theorem Dig.drop {l:List Int} (h:Dig l) (n:Nat):Dig (l.drop n):=fun x hx=>h x (List.mem_of_mem_drop hx)
theorem Dig.get {l:List Int} (h:Dig l) (i:Nat):0<=l.getD i 0/\l.getD i 0<1000000000:=by
 rw [List.getD_eq_getElem?_getD]
 cases e:l[i]? with
 | none=>exact ⟨Int.le_refl _,by decide⟩
 | some x=>exact h x (List.mem_of_getElem? e)
theorem Dig.set {l:List Int} (h:Dig l) (i:Nat) {x:Int} (hx:0<=x/\x<1000000000):Dig (l.set i x):=fun y hy=>by
 rcases List.mem_or_eq_of_mem_set hy with h1|rfl
 .exact h y h1
 .exact hx
theorem CY:∀ (l m:List Int),val (l++m)=val l+pw l.length*val m
 | [],m=>by simp [val,pw]
 | x :: l,m=>by
  simp only [List.cons_append,val,List.length_cons,pw]
  rw [CY l m,Int.mul_add,Int.mul_assoc]; omega
theorem aA:∀ {l:List Int},Dig l->0<=val l
 | [],_=>Int.le_refl _
 | x :: l,h=>by
  have h:=bO.1 h
  have:=aA h.2
  simp only [val]
  omega
theorem fQ:∀ {l:List Int},Dig l->val l<pw l.length
 | [],_=>by decide
 | x :: l,h=>by
  have h:=bO.1 h
  have:=fQ h.2
  simp only [val,List.length_cons,pw]
  have h3:(1000000000:Int)*val l+1000000000<=1000000000*pw l.length:=by
   have:(1000000000:Int)*(val l+1)<=1000000000*pw l.length:=Int.mul_le_mul_of_nonneg_left (by omega) (by decide)
   rw [Int.mul_add] at this
   simpa using this
  have:=h.1.2
  omega
theorem kV:∀ (l:List Int) (i:Nat) (x:Int),i<l.length->val (l.set i x)=val l+pw i*(x - l.getD i 0)
 | [],i,x,h=>by simp at h
 | y :: l,0,x,h=>by simp [val,pw]; omega
 | y :: l,i+1,x,h=>by
  simp only [List.set_cons_succ,val,pw,List.getD_cons_succ]
  rw [kV l i x (by simpa using h),Int.mul_add,Int.mul_assoc]
  omega
theorem FE:∀ n,val (List.replicate n 0)=0
 | 0=>rfl
 | n+1=>by simp [List.replicate_succ,val,FE n]
theorem N8 (n:Nat):Dig (List.replicate n 0):=fun x hx=>by
 obtain rfl:=List.eq_of_mem_replicate hx
 decide
theorem dG {l:List Int} {n:Nat} (h:n<l.length):val (l.take (n+1))=val (l.take n)+pw n*l.getD n 0:=by
 rw [List.take_add_one,List.getElem?_eq_getElem h,CY,List.length_take,Nat.min_eq_left (by omega),List.getD_eq_getElem?_getD,List.getElem?_eq_getElem h]
 simp [val]
def aa (n:Nat):List Int:=
 if h:n=0 then [] else ((n % 1000000000:Nat):Int) :: aa (n / 1000000000)
termination_by n
decreasing_by exact Nat.div_lt_self (Nat.pos_of_ne_zero h) (by decide)
theorem dQ:aa 0=[]:=by rw [aa]; simp
theorem fE {n:Nat} (h:n≠0):aa n=((n % 1000000000:Nat):Int) :: aa (n / 1000000000):=by rw [aa]; simp [h]
theorem ui (n:Nat):val (aa n)=n:=by
 induction n using Nat.strongRecOn with
 | _ n ih=>
  by_cases h:n=0
  .subst h; rw [dQ]; rfl
  .rw [fE h,val,ih _ (Nat.div_lt_self (Nat.pos_of_ne_zero h) (by decide))]
   omega
theorem aH (n:Nat):Dig (aa n):=by
 induction n using Nat.strongRecOn with
 | _ n ih=>
  by_cases h:n=0
  .subst h; rw [dQ]; exact jO
  .rw [fE h]
   exact bO.2 ⟨by omega,ih _ (Nat.div_lt_self (Nat.pos_of_ne_zero h) (by decide))⟩
def Top (l:List Int):Prop:=l=[]\/l.getD (l.length - 1) 0≠0
theorem ze {x y:Int} {l:List Int}:Top (x :: y :: l) ↔ Top (y :: l):=by
 constructor
 .intro h
  rcases h with h|h
  .cases h
  .exact .inr (by simpa using h)
 .intro h
  rcases h with h|h
  .cases h
  .exact .inr (by simpa using h)
theorem Xn {l:List Int}:Dig l->Top l->l≠[]->val l≠0:=by
 induction l with
 | nil=>intro _ _ h; exact absurd rfl h
 | cons x l ih=>
  intro hd ht _
  have h:=bO.1 hd
  have h2:=aA h.2
  simp only [val]
  cases l with
  | nil=>
   rcases ht with ht|ht
   .cases ht
   .have:x≠0:=by simpa using ht
    simp only [val]; omega
  | cons y l=>
   have:=ih h.2 (ze.1 ht) (by simp)
   omega
theorem fF:∀ {l:List Int},Dig l->Top l->aa (val l).toNat=l
 | [],_,_=>dQ
 | x :: l,hd,ht=>by
  have h:=bO.1 hd
  have h2:=aA h.2
  have h0:val (x :: l)≠0:=Xn hd ht (by simp)
  have h1:0<=val (x :: l):=aA hd
  have ht':Top l:=by
   cases l with
   | nil=>exact .inl rfl
   | cons y l=>exact ze.1 ht
  rw [fE (by omega)]
  simp only [val] at h1 ⊢
  have e1:(x+1000000000*val l).toNat % 1000000000=x.toNat:=by omega
  have e2:(x+1000000000*val l).toNat / 1000000000=(val l).toNat:=by omega
  rw [e1,e2,fF h.2 ht',Int.toNat_of_nonneg h.1.1]
theorem kI (n:Nat):Top (aa n):=by
 induction n using Nat.strongRecOn with
 | _ n ih=>
  by_cases h:n=0
  .subst h; rw [dQ]; exact .inl rfl
  .by_cases h2:n / 1000000000=0
   .rw [fE h,h2,dQ]
    right
    simp
    omega
   .have:=ih (n / 1000000000) (Nat.div_lt_self (Nat.pos_of_ne_zero h) (by decide))
    rw [fE h]
    rw [fE h2] at this ⊢
    exact ze.2 this
theorem CZ {n:Nat} (h:n≠0):0<(aa n).length:=by rw [fE h]; simp
def tl (l:List Int):Nat->Nat
 | 0=>0
 | n+1=>if l.getD n 0=0 then tl l n else n+1
theorem VQ (l:List Int):∀ n,tl l n<=n
 | 0=>Nat.le_refl _
 | n+1=>by
  simp only [tl]
  split
  .exact Nat.le_succ_of_le (VQ l n)
  .exact Nat.le_refl _
theorem N9 {l:List Int}:∀ {n},n<=l.length->val (l.take (tl l n))=val (l.take n)
 | 0,_=>rfl
 | n+1,h=>by
  simp only [tl]
  split
  .rename_i h0
   rw [N9 (by omega),dG (by omega),h0]
   simp
  .rfl
theorem Oa {l:List Int}:∀ {n},n<=l.length->Top (l.take (tl l n))
 | 0,_=>.inl rfl
 | n+1,h=>by
  simp only [tl]
  split
  .exact Oa (by omega)
  .rename_i h0
   right
   rw [List.length_take,Nat.min_eq_left (by omega)]
   simpa [List.getD_eq_getElem?_getD,List.getElem?_take] using h0
theorem TJ {l:List Int} (h:Dig l):l.take (tl l l.length)=aa (val l).toNat:=by
 have h1:=fF (h.take (tl l l.length)) (Oa (Nat.le_refl _))
 rw [N9 (Nat.le_refl _),List.take_length] at h1
 exact h1.symm
def uj (a b:List Int):Nat->Bool
 | 0=>false
 | n+1=>if a.getD n 0=b.getD n 0 then uj a b n else decide (a.getD n 0<b.getD n 0)
theorem Be {a b:List Int} (ha:Dig a) (hb:Dig b):∀ {n:Nat},n<=a.length->n<=b.length->(uj a b n=true ↔ val (a.take n)<val (b.take n))
 | 0,_,_=>by simp [uj,val]
 | n+1,h1,h2=>by
  have ih:=Be ha hb (n:=n) (by omega) (by omega)
  simp only [uj]
  rw [dG (by omega),dG (by omega)]
  split
  .rename_i he
   rw [ih,he]
   omega
  .rename_i he
   have x1:=fQ (ha.take n)
   have x2:=fQ (hb.take n)
   have y1:=aA (ha.take n)
   have y2:=aA (hb.take n)
   rw [List.length_take,Nat.min_eq_left (by omega)] at x1 x2
   have hp:=pw_pos n
   simp only [decide_eq_true_eq]
   constructor
   .intro hlt
    have:pw n*(a.getD n 0+1)<=pw n*b.getD n 0:=Int.mul_le_mul_of_nonneg_left (by omega) (by omega)
    rw [Int.mul_add] at this
    omega
   .intro hlt
    rcases (show a.getD n 0<b.getD n 0\/b.getD n 0<=a.getD n 0 by omega) with h|h
    .exact h
    .have:pw n*(b.getD n 0+1)<=pw n*a.getD n 0:=Int.mul_le_mul_of_nonneg_left (by omega) (by omega)
     rw [Int.mul_add] at this
     omega
theorem jP {m n:Nat} (h:m<=n):pw m<=pw n:=by
 obtain ⟨k,rfl⟩:=Nat.le.dest h
 rw [vo]
 have h1:=pw_pos m
 have h2:=pw_pos k
 calc pw m=pw m*1:=(Int.mul_one _).symm
  _<=pw m*pw k:=Int.mul_le_mul_of_nonneg_left h2 (Int.le_of_lt h1)
theorem H5 {l:List Int} (h:Dig l) (ht:Top l) (hne:l≠[]):pw (l.length - 1)<=val l:=by
 have hpos:0<l.length:=List.length_pos_iff.2 hne
 have h1:val l=val (l.take (l.length - 1))+pw (l.length - 1)*l.getD (l.length - 1) 0:=by
  have:=dG (l:=l) (n:=l.length - 1) (by omega)
  rw [show l.length - 1+1=l.length by omega,List.take_length] at this
  exact this
 have h2:=aA (h.take (l.length - 1))
 have h3:1<=l.getD (l.length - 1) 0:=by
  rcases ht with ht|ht
  .exact absurd ht hne
  .have:=h.get (l.length - 1); omega
 have h4:pw (l.length - 1)*1<=pw (l.length - 1)*l.getD (l.length - 1) 0:=Int.mul_le_mul_of_nonneg_left h3 (Int.le_of_lt (pw_pos _))
 omega
theorem zf {a b:List Int} (ha:Dig a) (hb:Dig b) (tb:Top b) (h:a.length<b.length):val a<val b:=by
 have h1:=fQ ha
 have h2:=H5 hb tb (by rintro rfl; simp at h)
 have h3:=jP (show a.length<=b.length - 1 by omega)
 omega
def JC (a b:List Int):Bool:=if a.length=b.length then uj a b a.length else decide (a.length<b.length)
theorem Bf {a b:List Int} (ha:Dig a) (hb:Dig b) (ta:Top a) (tb:Top b):JC a b=true ↔ val a<val b:=by
 unfold JC
 split
 .rename_i h
  rw [Be ha hb (Nat.le_refl _) (by omega),List.take_length,h,List.take_length]
 .rename_i h
  simp only [decide_eq_true_eq]
  constructor
  .exact fun hl=>zf ha hb tb hl
  .intro hv
   rcases Nat.lt_or_ge a.length b.length with h1|h1
   .exact h1
   .have:=zf hb ha ta (by omega)
    omega
def fr (x:Int):Int:=if x.tmod (1000000000:Int)<0 then x.tmod (1000000000:Int)+1000000000 else x.tmod (1000000000:Int)
end Go.Dg
namespace Go.Dg
open Go Go.Eng
theorem bt {p:Prop} [Decidable p] {b:Bool}:(bif decide p then b else false)=true ↔ p/\b=true:=by
 by_cases h:p <;> simp [h]
theorem nbt {p:Prop} [Decidable p] {b:Bool}:(!bif decide p then b else false)=true ↔ (p->b=false):=by
 by_cases h:p <;> simp [h]
theorem eb {x y:Int}:(x==y)=true ↔ x=y:=⟨eq_of_beq,fun h=>by rw [h]; exact beq_self_eq_true y⟩
theorem neb {x y:Int}:(x==y)=false ↔ x≠y:=by
 constructor
 .intro h e; rw [eb.2 e] at h; cases h
 .intro h
  cases e:(x==y) with
  | false=>rfl
  | true=>exact absurd (eb.1 e) h
theorem dt {p:Prop} [Decidable p]:decide p=true ↔ p:=decide_eq_true_iff
theorem ndt {p:Prop} [Decidable p]:(!decide p)=true ↔ ¬p:=by by_cases h:p <;> simp [h]
def Sm (d:List Int):Prop:=d.length<=500000
theorem Sm.le {d:List Int} (h:Sm d):d.length<=500000:=h
theorem iw {n:Int} (h0:-9223372036854775808<=n) (h1:n<9223372036854775808):IntKind.i64.wrap n=n:=Go.Ar.i64w h0 h1
end Go.Dg
namespace Go.Proofs.YtbiiiloimbjpaaaDoor.K
open Go Go.Eng
noncomputable section
noncomputable def cL:Ctx:=mkN Tryd.prog (fun _=>none) hG0 [] [] kT
def tlI (d:List Int) (y:Int):Int:=(Go.Dg.tl d y.toNat:Nat)
end
end Go.Proofs.YtbiiiloimbjpaaaDoor.K
namespace Go.Proofs.YtbiiiloimbjpaaaDoor.K
open Go Go.Eng Go.Dg
noncomputable section
theorem gQ:CtxOk cL:=oN prog_ok (oK _) (fun x h=>by cases h) (fun x h=>by cases h)
theorem FH {d:List Int} {i:Int} (h:0<i):tlI d i=if d.getD (i - 1).toNat 0=0 then tlI d (i - 1) else i:=by
 unfold tlI
 obtain ⟨n,rfl⟩:∃ n:Nat,i=(n+1:Nat):=⟨(i - 1).toNat,by omega⟩
 have e1:((n+1:Nat):Int).toNat=n+1:=by omega
 have e2:(((n+1:Nat):Int) - 1).toNat=n:=by omega
 rw [e1,e2]
 simp only [tl]
 split <;> rfl
theorem Ob (d:List Int):0<=tlI d d.length/\tlI d d.length<=d.length:=by
 have:=VQ d d.length
 unfold tlI
 rw [show ((d.length:Int)).toNat=d.length by omega]
 omega
theorem Oc {d:List Int} (h:Dig d):d.take (tlI d d.length).toNat=aa (val d).toNat:=by
 rw [<- TJ h]
 have e:(tlI d d.length).toNat=tl d d.length:=by
  unfold tlI
  rw [show ((d.length:Int)).toNat=d.length by omega]
  omega
 rw [e]
end
end Go.Proofs.YtbiiiloimbjpaaaDoor.K
namespace Go.Dg
def K4 (a b:List Int):Nat->Bool
 | 0=>false
 | n+1=>if a.getD n 0=b.getD n 0 then K4 a b n else true
def vv (a b:List Int) (i:Int):Bool:=K4 a b (i+1).toNat
theorem FI {a b:List Int} {i:Int} (h:0<=i):vv a b i=if a.getD i.toNat 0=b.getD i.toNat 0 then vv a b (i - 1) else true:=by
 unfold vv
 rw [show (i+1).toNat=i.toNat+1 by omega,show (i - 1+1).toNat=i.toNat by omega,K4]
theorem FJ {x y:Int}:(x != y)=true ↔ x≠y:=by simp
theorem JD {x y:Int}:(x != y)=false ↔ x=y:=by simp
theorem adn {x y:Int}:(!x != y)=true ↔ x=y:=by
 have:(!x != y)=(x==y):=by simp [bne]
 rw [this]; exact eb
theorem VR {p:Prop} [Decidable p] {b:Bool}:(decide p&&b)=true ↔ p/\b=true:=by
 by_cases h:p <;> simp [h]
end Go.Dg
namespace Go.Dg
open Go.Eng
def okL (neg:Bool) (d:List Int):Prop:=Dig d/\Top d/\(neg=true->d≠[])/\Sm d
def zv (neg:Bool) (d:List Int):Int:=bif neg then -val d else val d
theorem okL.digs_eq {neg:Bool} {d:List Int} (h:okL neg d):aa (zv neg d).natAbs=d:=by
 have h0:=aA h.1
 have e:(zv neg d).natAbs=(val d).toNat:=by
  cases neg <;> simp [zv] <;> omega
 rw [e,fF h.1 h.2.1]
theorem okL.nil {neg:Bool} {d:List Int} (h:okL neg d):d=[] ↔ zv neg d=0:=by
 constructor
 .rintro rfl; cases neg <;> rfl
 .intro e
  rw [<- h.digs_eq,e]; exact dQ
theorem FK {n k:Nat} (h:(n:Int)<pw k):(aa n).length<=k:=by
 rcases Nat.lt_or_ge k (aa n).length with h1|h1
 .have:=H5 (aH n) (kI n) (by intro e; rw [e] at h1; simp at h1)
  rw [ui] at this
  have:=jP (show k<=(aa n).length - 1 by omega)
  omega
 .exact h1
end Go.Dg
namespace Go.Dg
open Go Go.Eng
end Go.Dg
namespace Go.Dg
end Go.Dg
namespace Go.Dg
open Go Go.Eng
def aV:Nat->Int->List Int
 | 0,_=>[]
 | n+1,v=>v % 1000000000 :: aV n (v / 1000000000)
theorem df:∀ (n:Nat) (v:Int),(aV n v).length=n
 | 0,_=>rfl
 | n+1,v=>by simp [aV,df n]
theorem jv:∀ (n:Nat) (v:Int),Dig (aV n v)
 | 0,_=>jO
 | n+1,v=>bO.2 ⟨by omega,jv n _⟩
theorem kJ:∀ {n:Nat} {v:Int},0<=v->v<pw n->val (aV n v)=v
 | 0,v,h0,h1=>by
  have:pw 0=1:=rfl
  simp only [aV,val]; omega
 | n+1,v,h0,h1=>by
  simp only [aV,val]
  have h2:pw (n+1)=1000000000*pw n:=rfl
  rw [kJ (by omega) (by omega)]
  omega
theorem JE:∀ {d:List Int},Dig d->d=aV d.length (val d)
 | [],_=>rfl
 | x :: l,h=>by
  have h:=bO.1 h
  simp only [List.length_cons,aV,val]
  rw [show (x+1000000000*val l) % (1000000000:Int)=x by omega,show (x+1000000000*val l) / (1000000000:Int)=val l by omega,<- JE h.2]
theorem FL:∀ n,List.replicate n (0:Int)=aV n 0
 | 0=>rfl
 | n+1=>by simp [List.replicate_succ,aV,<- FL n]
theorem oQ {d:List Int} (h:Dig d) {n:Nat} {v:Int} (hl:d.length=n) (hv:val d=v):d=aV n v:=by
 subst hl hv; exact JE h
theorem ndf {p:Prop} [Decidable p] (h:¬p):decide p=false:=decide_eq_false h
theorem FM:∀ (n:Nat) (v:Int) (i:Nat),i<n->(aV n v).getD i 0=v / pw i % (1000000000:Int)
 | 0,_,_,h=>by omega
 | n+1,v,0,_=>by simp [aV,pw]
 | n+1,v,i+1,h=>by
  simp only [aV,List.getD_cons_succ]
  rw [FM n _ i (by omega),Int.ediv_ediv_of_nonneg (by decide)]
  rfl
structure OkQ (p q:Bool) (n d:List Int):Prop where
 hn:okL p n
 hd:okL q d
 hq:q=false
 ne:d≠[]
 ln:n.length<=600
 ld:d.length<=600
 cop:Int.gcd (zv p n) (zv q d)=1
theorem TK {x y:Int} {k l:Nat} (hx:(x.natAbs:Int)<pw k) (hy:(y.natAbs:Int)<pw l):((x*y).natAbs:Int)<pw (k+l):=by
 rw [Int.natAbs_mul,vo,Int.natCast_mul]
 have h0:(0:Int)<=x.natAbs:=by omega
 have h1:(0:Int)<=y.natAbs:=by omega
 have h2:=pw_pos k
 calc (x.natAbs:Int)*y.natAbs<=x.natAbs*pw l:=Int.mul_le_mul_of_nonneg_left (by omega) h0
  _<pw k*pw l:=Int.mul_lt_mul_of_pos_right hx (pw_pos l)
theorem len_mul {x y:Int} {k l:Nat} (hx:(x.natAbs:Int)<pw k) (hy:(y.natAbs:Int)<pw l):(aa (x*y).natAbs).length<=k+l:=FK (TK hx hy)
end Go.Dg
namespace Go.Dg
theorem jQ (n:Nat):pw (n+1)=1000000000*pw n:=rfl
end Go.Dg
namespace Go.Dg
open Go Go.Eng
theorem FN {a:List Int} {i:Nat} (h:i<a.length):val (a.drop i)=a.getD i 0+1000000000*val (a.drop (i+1)):=by
 rw [List.drop_eq_getElem_cons h]
 show a[i]+1000000000*val (a.drop (i+1))=_
 congr 1
 simp [List.getD_eq_getElem?_getD,List.getElem?_eq_getElem h]
theorem getD_set {l:List Int} {i j:Nat} {x:Int} (h:i≠j):(l.set i x).getD j 0=l.getD j 0:=by
 simp [List.getD_eq_getElem?_getD,List.getElem?_set_ne h]
theorem gq {l:List Int} {i:Nat} {x:Int} (h:i<l.length):(l.set i x).getD i 0=x:=by
 simp [List.getD_eq_getElem?_getD,h]
structure PaI (a:List Int) (n i r:Int) (d:List Int):Prop where
 l:d.length=a.length
 dg:Dig d
 i0:-1<=i
 i1:i<a.length
 z:∀ j:Nat,(j:Int)<=i->d.getD j 0=0
 v:val d*n+pw (i+1).toNat*r=pw (i+1).toNat*val (a.drop (i+1).toNat)
 r0:0<=r
 r1:r<n
theorem PaI.start {a:List Int} {n:Int} (hn:0<n):PaI a n (a.length - 1) 0 (List.replicate a.length 0):=by
 refine ⟨by simp,N8 _,by omega,by omega,fun j hj=>?_,?_,Int.le_refl _,hn⟩
 .simp [List.getD_eq_getElem?_getD,List.getElem?_replicate]
  split <;> rfl
 .rw [FE,show ((a.length:Int) - 1+1).toNat=a.length by omega,List.drop_length]
  simp [val]
theorem PaI.step {a:List Int} {n i r:Int} {d:List Int} (ha:Dig a) (h:PaI a n i r d) (hi:0<=i):PaI a n (i - 1) ((r*1000000000+a.getD i.toNat 0).tmod n) (d.set i.toNat ((r*1000000000+a.getD i.toNat 0).tdiv n)):=by
 obtain ⟨l,dg,i0,i1,z,v,r0,r1⟩:=h
 have ga:=ha.get i.toNat
 have m0:0<=r*1000000000+a.getD i.toNat 0:=by omega
 have hn:0<n:=by omega
 have eq1:(r*1000000000+a.getD i.toNat 0).tmod n=(r*1000000000+a.getD i.toNat 0) % n:=Int.tmod_eq_emod_of_nonneg m0
 have eq2:(r*1000000000+a.getD i.toNat 0).tdiv n=(r*1000000000+a.getD i.toNat 0) / n:=Int.tdiv_eq_ediv_of_nonneg m0
 rw [eq1,eq2]
 have q0:0<=(r*1000000000+a.getD i.toNat 0) / n:=Int.ediv_nonneg m0 (by omega)
 have q1:(r*1000000000+a.getD i.toNat 0) / n<1000000000:=by
  apply Int.ediv_lt_of_lt_mul hn
  have:(r+1)*1000000000<=n*1000000000:=Int.mul_le_mul_of_nonneg_right (by omega) (by decide)
  omega
 have hil:i.toNat<d.length:=by omega
 have e0:(i - 1+1).toNat=i.toNat:=by omega
 have e1:(i+1).toNat=i.toNat+1:=by omega
 have ed:=Int.mul_ediv_add_emod (r*1000000000+a.getD i.toNat 0) n
 refine ⟨by simp [l],dg.set _ ⟨q0,q1⟩,by omega,by omega,fun j hj=>?_,?_,Int.emod_nonneg _ (by omega),Int.emod_lt_of_pos _ hn⟩
 .rw [getD_set (by omega)]
  exact z j (by omega)
 .rw [e0,kV _ _ _ hil,z i.toNat (by omega),FN (by omega)]
  rw [e1,jQ] at v
  generalize (r*1000000000+a.getD i.toNat 0) / n=q at *
  generalize (r*1000000000+a.getD i.toNat 0) % n=r' at *
  generalize val (a.drop (i.toNat+1))=V at *
  generalize a.getD i.toNat 0=x at *
  generalize pw i.toNat=p at *
  generalize val d=D at *
  grind
theorem PaI.fin {a:List Int} {n i r:Int} {d:List Int} (h:PaI a n i r d) (hi:¬ 0<=i):i=-1/\r=val a % n/\d=aV a.length (val a / n):=by
 obtain ⟨l,dg,i0,i1,z,v,r0,r1⟩:=h
 have e:i=-1:=by omega
 subst e
 have v:val d*n+1*r=1*val (a.drop 0):=v
 rw [List.drop_zero] at v
 have h1:val a / n=val d:=by
  rw [show val a=r+val d*n by omega,Int.add_mul_ediv_right _ _ (by omega),Int.ediv_eq_zero_of_lt r0 r1]
  omega
 have h2:val a % n=r:=by
  rw [show val a=r+val d*n by omega,Int.add_mul_emod_self_right]
  exact Int.emod_eq_of_lt r0 r1
 exact ⟨rfl,h2.symm,oQ dg l h1.symm⟩
end Go.Dg
namespace Go.Proofs.YtbiiiloimbjpaaaDoor.K
open Go Go.Eng Go.Dg
noncomputable section
def zA (a:List Int) (n:Int):List AV:=[.lslice 0 a.length,.int true .i64 n]
def zH (a:List Int):Hp:=fC true hG0 [(.i64,a)]
def FO:AFr:=⟨87,none⟩
noncomputable def Od:Code:=iW Tryd.prog 87 0
noncomputable def zg (a:List Int) (n:Int):St:=ug cL 300 87 (zA a n) (zH a)
def H6 (i r:Int) (d:List Int):Patch:=⟨(7,.int true .i64 r) :: (8,.int true .i64 i) :: fA 15 20,[(1,.ints .i64 d)],[]⟩
def vw (a:List Int) (n:Int):SumL (Int×Int×List Int):=
 {
  S:=fun (i,r,d)=>H6 i r d
  I:=fun (i,r,d)=>PaI a n i r d
  μ:=fun (i,_,_)=>(i+1).toNat
  F:=fun _=>(.exit 0,H6 (-1) (val a % n) (aV a.length (val a / n)))
  next:=fun (i,r,d)=>(i - 1,(r*1000000000+a.getD i.toNat 0).tmod n,d.set i.toNat ((r*1000000000+a.getD i.toNat 0).tdiv n))
  ids:=fun _=>[]
  X:=fun (i,r,d) _=>some (H6 i r d,[]) }
def C8 (a:List Int) (n:Int):Prop:=((0:Int)=0/\IntKind.i64.wrap ((↑a.length:Int) - (1:Int))=(↑a.length:Int) - (1:Int))/\List.replicate (↑a.length:Int).toNat (0:Int)=List.replicate a.length (0:Int)
theorem K5 (a:List Int) (n:Int):fit (zg a n) (zg a n) (ah (zg a n) ((vw a n).S (a.length - 1,0,List.replicate a.length 0))) ([])=some (.p (C8 a n)):=by kernel_rfl
def H7 (a:List Int) (n i r:Int) (d:List Int):Prop:=(decide (i>=0)=true->(((0:Int)<=i/\i<(↑a.length:Int))/\i.toNat<a.length)/\n≠0/\n≠0/\((0:Int)<=i/\i<(↑a.length:Int))/\((0:Int)+i).toNat<d.length)/\((!decide (i>=0))=true->((r=r/\i=i)/\d=d)/\(vw a n).F (i,r,d)=(Ex.exit (0:Nat),H6 i r d))/\(decide (i>=0)=true->(((IntKind.i64.wrap (IntKind.i64.wrap (r*1000000000)+a.getD i.toNat (0:Int))).tmod n=(r*1000000000+a.getD i.toNat (0:Int)).tmod n/\IntKind.i64.wrap (i - (1:Int))=i - (1:Int))/\d.set ((0:Int)+i).toNat (IntKind.i64.wrap ((IntKind.i64.wrap (IntKind.i64.wrap (r*1000000000)+a.getD i.toNat (0:Int))).tdiv n))=d.set i.toNat ((r*1000000000+a.getD i.toNat (0:Int)).tdiv n))/\(vw a n).I ((vw a n).next (i,r,d))/\(vw a n).μ ((vw a n).next (i,r,d))<(vw a n).μ (i,r,d)/\(vw a n).F ((vw a n).next (i,r,d))=(vw a n).F (i,r,d))
theorem TL (a:List Int) (n i r:Int) (d:List Int):dW (zg a n) ((vw a n).way ((i,r,d))) ((run cL 300).code FO Od (ah (zg a n) ((vw a n).S (i,r,d))))=some (.p (H7 a n i r d)):=by kernel_rfl
theorem Oe {a:List Int} {n:Int} (ha:Dig a) (la:Sm a) (h0:1<=n) (h1:n<=1000000000):CodeOk cL FO (.loop Od) (zg a n) ⟨.tt,[⟨.tt,.exit 0,ah (zg a n) (H6 (-1) (val a % n) (aV a.length (val a / n)))⟩]⟩:=by
 have la:=la.le
 refine lW (bJ gQ 300) (vw a n) (y0:=((a.length:Int) - 1,0,List.replicate a.length 0)) (PaI.start (by omega)) ⟨_,K5 a n,⟨⟨rfl,iw (by omega) (by omega)⟩,by rw [show ((a.length:Int)).toNat=a.length by omega]⟩⟩ (by kernel_rfl) (fun y hy=>?_) rfl
 obtain ⟨i,r,d⟩:=y
 have hI:PaI a n i r d:=hy
 obtain ⟨l,dg,i0,i1,z,v,r0,r1⟩:=id hI
 refine ⟨_,TL a n i r d,fun h=>?_,fun h=>⟨⟨⟨rfl,rfl⟩,rfl⟩,?_⟩,fun h=>?_⟩
 .have h:i>=0:=dt.1 h
  exact ⟨⟨⟨by omega,i1⟩,by omega⟩,by omega,by omega,⟨by omega,i1⟩,by omega⟩
 .obtain ⟨e1,e2,e3⟩:=hI.fin (ndt.1 h)
  show (Ex.exit 0,H6 (-1) (val a % n) (aV a.length (val a / n)))=_
  rw [e1,e2,<- e3]
 .have h:i>=0:=dt.1 h
  have g:=ha.get i.toNat
  have e1:IntKind.i64.wrap (r*1000000000)=r*1000000000:=iw (by omega) (by omega)
  have e2:IntKind.i64.wrap (r*1000000000+a.getD i.toNat 0)=r*1000000000+a.getD i.toNat 0:=iw (by omega) (by omega)
  have m0:0<=r*1000000000+a.getD i.toNat 0:=by omega
  have e3:IntKind.i64.wrap ((r*1000000000+a.getD i.toNat 0).tdiv n)=(r*1000000000+a.getD i.toNat 0).tdiv n:=by
   rw [Int.tdiv_eq_ediv_of_nonneg m0]
   have:=Int.ediv_nonneg m0 (show 0<=n by omega)
   have:=Int.ediv_le_self n m0
   exact iw (by omega) (by omega)
  refine ⟨⟨⟨by rw [e1,e2],iw (by omega) (by omega)⟩,by rw [e1,e2,e3,show ((0:Int)+i).toNat=i.toNat by omega]⟩,hI.step ha h,?_,rfl⟩
  show (i - 1+1).toNat<(i+1).toNat
  omega
def jR:AFr:=⟨86,none⟩
noncomputable def trA:Code:=iW Tryd.prog 86 0
def trP (id:Nat) (y:Int):Patch:=⟨(0,.islice true id 0 y) :: fA 3 17,[],[]⟩
def trU (id:Nat) (d:List Int) (N:Int):SumL Int:=
 {
  S:=fun y=>trP id y
  I:=fun y=>0<=y/\y<=N
  μ:=fun y=>y.toNat
  F:=fun y=>(.exit 0,trP id (tlI d y))
  next:=fun y=>y - 1
  ids:=fun _=>[]
  X:=fun y _=>some (trP id y,[]) }
def trN (id:Nat) (d:List Int) (N y:Int):Prop:=((decide (y>0)=true->((0:Int)<=IntKind.i64.wrap (y - (1:Int))/\IntKind.i64.wrap (y - (1:Int))<y)/\((0:Int)+IntKind.i64.wrap (y - (1:Int))).toNat<d.length)/\((bif decide (y>0) then d.getD ((0:Int)+IntKind.i64.wrap (y - (1:Int))).toNat (0:Int)==0 else false)=true->(0:Int)<=0/\(0:Int)<=IntKind.i64.wrap (y - (1:Int))/\IntKind.i64.wrap (y - (1:Int))<=y))/\((!bif decide (y>0) then d.getD ((0:Int)+IntKind.i64.wrap (y - (1:Int))).toNat (0:Int)==0 else false)=true->((0:Int)=0/\y=y)/\(trU id d N).F y=(Ex.exit (0:Nat),trP id y))/\((bif decide (y>0) then d.getD ((0:Int)+IntKind.i64.wrap (y - (1:Int))).toNat (0:Int)==0 else false)=true->((0:Int)+0=0/\IntKind.i64.wrap (y - (1:Int)) - (0:Int)=(trU id d N).next y)/\(trU id d N).I ((trU id d N).next y)/\(trU id d N).μ ((trU id d N).next y)<(trU id d N).μ y/\(trU id d N).F ((trU id d N).next y)=(trU id d N).F y)
theorem Xo {id:Nat} {d:List Int} {N y:Int} (hN:N=d.length) (ld:Sm d) (h0:0<=y) (h1:y<=N):trN id d N y:=by
 have ld:=ld.le
 have ez:∀ z:Int,(0+z).toNat=z.toNat:=fun z=>by rw [Int.zero_add]
 refine ⟨⟨fun h=>?_,fun h=>?_⟩,fun h=>⟨⟨rfl,rfl⟩,?_⟩,fun h=>?_⟩
 .have h:=of_decide_eq_true h
  rw [iw (by omega) (by omega)]
  omega
 .obtain ⟨h2,_⟩:=bt.1 h
  rw [iw (by omega) (by omega)]
  omega
 .show (Ex.exit 0,trP id (tlI d y))=_
  have h:=nbt.1 h
  by_cases h2:0<y
  .have h3:=neb.1 (h h2)
   rw [iw (by omega) (by omega),ez] at h3
   rw [FH h2,if_neg h3]
  .have:y=0:=by omega
   subst this; rfl
 .obtain ⟨h2,h3⟩:=bt.1 h
  have h2:0<y:=h2
  have h3:=eb.1 h3
  rw [iw (by omega) (by omega),ez] at h3
  rw [iw (by omega) (by omega)]
  refine ⟨⟨rfl,by show y - 1 - 0=y - 1; omega⟩,?_,?_,?_⟩
  .show 0<=y - 1/\y - 1<=N
   omega
  .show (y - 1).toNat<y.toNat
   omega
  .show (Ex.exit 0,trP id (tlI d (y - 1)))=(Ex.exit 0,trP id (tlI d y))
   rw [FH h2,if_pos h3]
theorem wX {S:St} {id:Nat} {d:List Int} {N:Int} (hN:N=d.length) (ld:Sm d) (hs:fit S S (ah S ((trU id d N).S N)) []=some (.p ((0:Int)=0/\N=N))) (ho:fO S.hp (((trU id d N).S N).old)=true)
  (hb:∀ y,dW S ((trU id d N).way y) ((run cL 300).code jR trA (ah S ((trU id d N).S y)))=some (.p (trN id d N y))):CodeOk cL jR (.loop trA) S ⟨.tt,[⟨.tt,.exit 0,ah S (trP id (tlI d N))⟩]⟩:=
 lW (bJ gQ 300) (trU id d N) (y0:=N) ⟨by omega,by omega⟩ ⟨_,hs,rfl,rfl⟩ ho (fun y hy=>⟨_,hb y,Xo hN ld hy.1 hy.2⟩) rfl
noncomputable def ptS (a d:List Int) (N:Int):St:=ug cL 300 86 [.islice true 1 0 N] ⟨[⟨14,.ints .i64 d⟩,⟨0,.rows .i64 a⟩],2,17⟩
theorem Og (a d:List Int) (N:Int):fit (ptS a d N) (ptS a d N) (ah (ptS a d N) ((trU 1 d N).S N)) []=some (.p ((0:Int)=0/\N=N)):=by kernel_rfl
theorem TM (a d:List Int) (N y:Int):dW (ptS a d N) ((trU 1 d N).way y) ((run cL 300).code jR trA (ah (ptS a d N) ((trU 1 d N).S y)))=some (.p (trN 1 d N y)):=by kernel_rfl
theorem TN (a:List Int) {d:List Int} {N:Int} (hN:N=d.length) (ld:Sm d):CodeOk cL jR (.loop trA) (ptS a d N) ⟨.tt,[⟨.tt,.exit 0,ah (ptS a d N) (trP 1 (tlI d N))⟩]⟩:=wX hN ld (Og a d N) (by kernel_rfl) (fun y=>TM a d N y)
noncomputable def cPt (a:List Int) (n:Int):Ctx:=aZ cL [bW 87 (zg a n).hp.clock FO Od (zg a n) (.exit 0) (H6 (-1) (val a % n) (aV a.length (val a / n))),bW 86 20 jR trA (ptS a (aV a.length (val a / n)) a.length) (.exit 0) (trP 1 (tlI (aV a.length (val a / n)) a.length))]
theorem Xp {a:List Int} {n:Int} (ha:Dig a) (la:Sm a) (h0:1<=n) (h1:n<=1000000000):CtxOk (cPt a n):=
 aO gQ (Oe ha la h0 h1) (aO gQ (TN a (df _ _ ▸ rfl) (by show (aV _ _).length<=500000; rw [df]; exact la)) (cz gQ))
def TP (a:List Int) (n:Int):Prop:=(((↑a.length:Int)=(↑a.length:Int)/\(0:Int)<=(↑a.length:Int)/\(↑a.length:Int)<=1048576)/\At (FO) (FO) (Od) (Od) (zg a n) (zg a n)/\At (jR) (jR) (trA) (trA) (ptS a (aV a.length (val a / n)) a.length) (ptS a (aV a.length (val a / n)) a.length))
def Xq (a:List Int) (n:Int):AV:=(AV.tuple [AV.islice true 1 (0:Int) (tlI (aV a.length (val a / n)) (↑a.length:Int)),AV.int true IntKind.i64 (val a % n)])
def Xr (a:List Int) (n:Int):Hp:=⟨[{ wr:=14,body:=ABody.ints IntKind.i64 (aV a.length (val a / n)) },{ wr:=(0:Nat),body:=ABody.rows IntKind.i64 a }],2,26⟩
theorem ado (a:List Int) (n:Int):(run (cPt a n) 300).call 87 (zA a n) (zH a)=some ⟨.p (TP a n),[⟨.tt,Xq a n,Xr a n⟩]⟩:=by kernel_rfl
def Xt:List Nu->List (List Int)->Option (Prop×To)
 | [.n n],[a]=>some (Dig a/\a.length<=500000/\1<=n/\n<=1000000000,.tu [.li false (aa (val a / n).toNat),.nu .i64 (val a % n)])
 | _,_=>none
theorem Xu {a:List Int} {n:Int} (ha:Dig a) (h0:1<=n):val (aV a.length (val a / n))=val a / n:=by
 have h1:=aA ha
 have h2:=fQ ha
 have h3:=Int.ediv_le_self n h1
 exact kJ (Int.ediv_nonneg h1 (by omega)) (by omega)
theorem JF {d:List Int} {N:Int} (h:Dig d) (hN:N=d.length):List.take (tlI d N).toNat (List.drop (Int.toNat 0) d)=aa (val d).toNat:=by
 rw [show Int.toNat 0=0 from rfl,List.drop_zero,hN]
 exact Oc h
theorem part_ok:NOk Tryd.prog (fun _=>none) hG0 87 (eG hG0 .i64 [.li,.nu (.i .i64)] Xt):=by
 refine fD (fun xs ys p t e h=>?_) ⟨_,Tryd.func87,rfl⟩
 unfold Xt at e
 split at e
 .rename_i n a
  cases e
  obtain ⟨ha,la,h0,h1⟩:=h
  refine ⟨cPt a n,300,zA a n,_,_,_,_,_,Xp ha la h0 h1,rfl,rfl,⟨rfl,⟨rfl,rfl⟩,trivial⟩,ado a n,rfl,⟨⟨rfl,by omega,by omega⟩,⟨rfl,rfl,rfl⟩,⟨rfl,rfl,rfl⟩⟩,rfl,rfl,?_⟩
  have hl:=Ob (aV a.length (val a / n))
  rw [df] at hl
  refine ⟨⟨⟨by omega,by omega,by rw [df]; omega⟩,?_⟩,rfl⟩
  show List.take _ (List.drop _ (aV a.length (val a / n)))=aa (val a / n).toNat
  rw [JF (jv _ _) (by rw [df]),Xu ha h0]
 .cases e
end
end Go.Proofs.YtbiiiloimbjpaaaDoor.K
namespace Go.Dg
open Go Go.Eng
theorem Bg {n j k:Nat} {v:Int} (h0:0<=v) (h:v<pw k) (hj:k<=j):(aV n v).getD j 0=0:=by
 rcases Nat.lt_or_ge j n with h1|h1
 .rw [FM n v j h1]
  have:=jP hj
  rw [Int.ediv_eq_zero_of_lt h0 (by omega)]
  rfl
 .rw [List.getD_eq_getElem?_getD,List.getElem?_eq_none (by rw [df]; exact h1)]
  rfl
theorem C9:∀ {d:List Int} {k:Nat},Dig d->(∀ j,k<=j->d.getD j 0=0)->val d<pw k
 | [],k,_,_=>pw_pos k
 | x :: l,0,h,z=>by
  have h':=bO.1 h
  have z0:x=0:=z 0 (Nat.le_refl _)
  have:=C9 (k:=0) h'.2 (fun j _=>z (j+1) (by omega))
  have e:pw 0=1:=rfl
  show x+1000000000*val l<pw 0
  omega
 | x :: l,k+1,h,z=>by
  have h':=bO.1 h
  have:=C9 (k:=k) h'.2 (fun j hj=>z (j+1) (by omega))
  rw [jQ]
  show x+1000000000*val l<_
  omega
def tmV (a b:List Int) (i:Int):Int:=val (a.take i.toNat)*val b
theorem H8 {a b:List Int} (ha:Dig a) (hb:Dig b) {i:Int} (h0:0<=i) (h1:i<=a.length):0<=tmV a b i/\tmV a b i<pw (i.toNat+b.length):=by
 have t0:=aA (ha.take i.toNat)
 have t1:=fQ (ha.take i.toNat)
 have b0:=aA hb
 have b1:=fQ hb
 rw [List.length_take,Nat.min_eq_left (by omega)] at t1
 refine ⟨Int.mul_nonneg t0 b0,?_⟩
 rw [vo]
 have p:=pw_pos i.toNat
 calc val (a.take i.toNat)*val b<=pw i.toNat*val b:=Int.mul_le_mul_of_nonneg_right (by omega) b0
  _<pw i.toNat*pw b.length:=Int.mul_lt_mul_of_pos_left b1 p
structure TmI (a b:List Int) (i k c:Int) (d:List Int):Prop where
 l:d.length=a.length+b.length
 dg:Dig d
 k0:0<=k
 k1:k<=b.length
 c0:0<=c
 c1:c<1000000000
 v:val d+pw (i.toNat+k.toNat)*c=tmV a b i+pw i.toNat*(a.getD i.toNat 0*val (b.take k.toNat))
 z:∀ j:Nat,i.toNat+b.length<=j->d.getD j 0=0
theorem TmI.start {a b:List Int} (ha:Dig a) (hb:Dig b) {i:Int} (h0:0<=i) (h1:i<a.length):TmI a b i 0 0 (aV (a.length+b.length) (tmV a b i)):=by
 obtain ⟨t0,t1⟩:=H8 ha hb h0 (Int.le_of_lt h1)
 have t2:=jP (show i.toNat+b.length<=a.length+b.length by omega)
 refine ⟨df _ _,jv _ _,Int.le_refl _,by omega,Int.le_refl _,by decide,?_,fun j hj=>Bg t0 t1 hj⟩
 rw [kJ t0 (by omega)]
 simp [val]
theorem TmI.num {a b:List Int} (ha:Dig a) (hb:Dig b) {i k c:Int} {d:List Int} (h:TmI a b i k c d) (hk:k<b.length):0<=a.getD i.toNat 0*b.getD k.toNat 0/\a.getD i.toNat 0*b.getD k.toNat 0<=999999998000000001/\0<=d.getD (i.toNat+k.toNat) 0/\d.getD (i.toNat+k.toNat) 0<1000000000:=by
 have g1:=ha.get i.toNat
 have g2:=hb.get k.toNat
 have g3:=h.dg.get (i.toNat+k.toNat)
 refine ⟨Int.mul_nonneg g1.1 g2.1,?_,g3⟩
 exact Int.mul_le_mul (show a.getD i.toNat 0<=999999999 by omega) (show b.getD k.toNat 0<=999999999 by omega) g2.1 (by decide)
theorem TmI.step {a b:List Int} (ha:Dig a) (hb:Dig b) {i k c:Int} {d:List Int} (h:TmI a b i k c d) (hi:i<a.length) (hk:k<b.length):
  TmI a b i (k+1) ((d.getD (i.toNat+k.toNat) 0+a.getD i.toNat 0*b.getD k.toNat 0+c).tdiv 1000000000) (d.set (i.toNat+k.toNat) ((d.getD (i.toNat+k.toNat) 0+a.getD i.toNat 0*b.getD k.toNat 0+c).tmod 1000000000)):=by
 obtain ⟨m0,m1,m2,m3⟩:=h.num ha hb hk
 obtain ⟨l,dg,k0,k1,c0,c1,v,z⟩:=h
 have n0:0<=d.getD (i.toNat+k.toNat) 0+a.getD i.toNat 0*b.getD k.toNat 0+c:=by omega
 rw [Int.tdiv_eq_ediv_of_nonneg n0,Int.tmod_eq_emod_of_nonneg n0]
 have ek:(k+1).toNat=k.toNat+1:=by omega
 have hl:i.toNat+k.toNat<d.length:=by omega
 refine ⟨by simp [l],dg.set _ (by omega),by omega,by omega,by omega,by omega,?_,fun j hj=>?_⟩
 .rw [ek,kV _ _ _ hl,dG (by omega),<- Nat.add_assoc,jQ]
  have ed:=Int.mul_ediv_add_emod (d.getD (i.toNat+k.toNat) 0+a.getD i.toNat 0*b.getD k.toNat 0+c) 1000000000
  rw [vo] at v ⊢
  generalize (d.getD (i.toNat+k.toNat) 0+a.getD i.toNat 0*b.getD k.toNat 0+c) / 1000000000=Q at *
  generalize (d.getD (i.toNat+k.toNat) 0+a.getD i.toNat 0*b.getD k.toNat 0+c) % 1000000000=R at *
  generalize d.getD (i.toNat+k.toNat) 0=x at *
  generalize a.getD i.toNat 0=y at *
  generalize b.getD k.toNat 0=w at *
  generalize pw i.toNat=p at *
  generalize pw k.toNat=q at *
  generalize tmV a b i=V at *
  generalize val (b.take k.toNat)=u at *
  generalize val d=D at *
  grind
 .rw [getD_set (by omega)]
  exact z j hj
def tmW (a b:List Int) (i:Int):Int:=tmV a b i+pw i.toNat*(a.getD i.toNat 0*val b)
theorem Xv {a b:List Int} {i:Int} (h0:0<=i) (h1:i<a.length):tmW a b i=tmV a b (i+1):=by
 unfold tmW tmV
 rw [show (i+1).toNat=i.toNat+1 by omega,dG (by omega)]
 grind
theorem TmI.fin {a b:List Int} {i k c:Int} {d:List Int} (h:TmI a b i k c d) (hk:¬ k<b.length):k=b.length/\c=tmW a b i / pw (i.toNat+b.length)/\d=aV (a.length+b.length) (tmW a b i % pw (i.toNat+b.length)):=by
 obtain ⟨l,dg,k0,k1,c0,c1,v,z⟩:=h
 have e:k=b.length:=by omega
 subst e
 have d0:=aA dg
 have d1:=C9 dg z
 have p:=pw_pos (i.toNat+b.length)
 rw [show ((b.length:Int)).toNat=b.length by omega,List.take_length] at v
 have hW:tmW a b i=val d+pw (i.toNat+b.length)*c:=v.symm
 refine ⟨rfl,?_,oQ dg l ?_⟩
 .rw [hW,Int.add_mul_ediv_left _ _ (by omega),Int.ediv_eq_zero_of_lt d0 d1]; omega
 .rw [hW,Int.add_mul_emod_self_left,Int.emod_eq_of_lt d0 d1]
theorem Xw {a b:List Int} (ha:Dig a) (hb:Dig b) {i:Int} (h0:0<=i) (h1:i<a.length):
  (aV (a.length+b.length) (tmW a b i % pw (i.toNat+b.length))).set (i.toNat+b.length) (tmW a b i / pw (i.toNat+b.length))=aV (a.length+b.length) (tmV a b (i+1)):=by
 obtain ⟨t0,t1⟩:=H8 ha hb (show 0<=i+1 by omega) (show i+1<=a.length by omega)
 have p:=pw_pos (i.toNat+b.length)
 rw [Xv h0 h1]
 rw [show (i+1).toNat+b.length=(i.toNat+b.length)+1 by omega,jQ] at t1
 have m0:=Int.emod_nonneg (tmV a b (i+1)) (show pw (i.toNat+b.length)≠0 by omega)
 have m1:=Int.emod_lt_of_pos (tmV a b (i+1)) p
 have m2:=jP (show i.toNat+b.length<=a.length+b.length by omega)
 have q0:=Int.ediv_nonneg t0 (show 0<=pw (i.toNat+b.length) by omega)
 have q1:tmV a b (i+1) / pw (i.toNat+b.length)<1000000000:=Int.ediv_lt_of_lt_mul p (by omega)
 have ed:=Int.mul_ediv_add_emod (tmV a b (i+1)) (pw (i.toNat+b.length))
 apply oQ ((jv _ _).set _ ⟨q0,q1⟩)
 .rw [List.length_set,df]
 .rw [kV _ _ _ (by rw [df]; omega),Bg m0 m1 (Nat.le_refl _),kJ m0 (by omega)]
  rw [Int.sub_zero]
  omega
theorem Xx {a b:List Int} (ha:Dig a) (hb:Dig b):val (aV (a.length+b.length) (tmV a b a.length))=val a*val b:=by
 obtain ⟨t0,t1⟩:=H8 ha hb (show 0<=(a.length:Int) by omega) (Int.le_refl _)
 rw [show ((a.length:Int)).toNat=a.length by omega] at t1
 rw [kJ t0 t1]
 unfold tmV
 rw [show ((a.length:Int)).toNat=a.length by omega,List.take_length]
end Go.Dg
namespace Go.Proofs.YtbiiiloimbjpaaaDoor.K
open Go Go.Eng Go.Dg
noncomputable section
def zB (a b:List Int):List AV:=[.lslice 0 a.length,.lslice 1 b.length]
def zG (a b:List Int):Hp:=fC true hG0 [(.i64,a),(.i64,b)]
def wJ:AFr:=⟨72,none⟩
noncomputable def H9:Code:=iW Tryd.prog 72 0
noncomputable def Oh:Code:=iW Tryd.prog 72 1
noncomputable def toS (a b:List Int):St:=ug cL 300 72 (zB a b) (zG a b)
def tmL (a b:List Int):Nat:=a.length+b.length
def toP (i:Int) (d:List Int):Patch:=⟨fA 6 6++(20,.int true .i64 i) :: fA 21 41,[(2,.ints .i64 d)],[]⟩
def toU (a b:List Int):SumL Int:=
 {
  S:=fun i=>toP i (aV (tmL a b) (tmV a b i))
  I:=fun i=>0<=i/\i<=a.length
  μ:=fun i=>(a.length - i).toNat
  F:=fun _=>(.exit 0,toP a.length (aV (tmL a b) (tmV a b a.length)))
  next:=fun i=>i+1
  ids:=fun _=>[]
  X:=fun i _=>some (toP i (aV (tmL a b) (tmV a b i)),[]) }
noncomputable def zh (a b:List Int) (i:Int):St:=adk cL 300 wJ H9 (ah (toS a b) ((toU a b).S i))
def tiP (k c:Int) (d:List Int):Patch:=⟨(8,.int true .i64 c) :: fA 9 3++(27,.int true .i64 k) :: fA 28 26,[(2,.ints .i64 d)],[]⟩
def tiX (a b:List Int) (i:Int):Patch:=tiP b.length (tmW a b i / pw (i.toNat+b.length)) (aV (tmL a b) (tmW a b i % pw (i.toNat+b.length)))
def tiU (a b:List Int) (i:Int):SumL (Int×Int×List Int):=
 {
  S:=fun (k,c,d)=>tiP k c d
  I:=fun (k,c,d)=>TmI a b i k c d
  μ:=fun (k,_,_)=>(b.length - k).toNat
  F:=fun _=>(.exit 2,tiX a b i)
  next:=fun (k,c,d)=>(k+1,(d.getD (i.toNat+k.toNat) 0+a.getD i.toNat 0*b.getD k.toNat 0+c).tdiv 1000000000,d.set (i.toNat+k.toNat) ((d.getD (i.toNat+k.toNat) 0+a.getD i.toNat 0*b.getD k.toNat 0+c).tmod 1000000000))
  ids:=fun _=>[]
  X:=fun (k,c,d) _=>some (tiP k c d,[]) }
noncomputable def Xy (a b:List Int) (i:Int):Ctx:=aZ cL [bW 72 (zh a b i).hp.clock wJ Oh (zh a b i) (.exit 2) (tiX a b i)]
def hZ (l:List (Nat×AV)):Nat->Nat->Option AV:=fun _ t=>match l with
 | []=>none
 | x :: l=>match Nat.beq t x.1 with
  | true=>some x.2
  | false=>hZ l 0 t
termination_by structural l
noncomputable def cHz (t:Nat):Ctx:=gz cL (hZ [(t,.bool false false)])
theorem Xz (t:Nat):CtxOk (cHz t):=cO gQ _
def FP (a b:List Int):Prop:=(0:Int)=0/\List.replicate (IntKind.i64.wrap ((↑a.length:Int)+(↑b.length:Int))).toNat (0:Int)=aV (tmL a b) (tmV a b (0:Int))
theorem Oi (a b:List Int):fit (toS a b) (toS a b) (ah (toS a b) ((toU a b).S 0)) ([])=some (.p (FP a b)):=by kernel_rfl
def FQ (a b:List Int) (i:Int):Prop:=((0:Int)=0/\(0:Int)=0)/\aV (tmL a b) (tmV a b i)=aV (tmL a b) (tmV a b i)
theorem Oj (a b:List Int) (i:Int):fit (zh a b i) (zh a b i) (ah (zh a b i) ((tiU a b i).S (0,0,aV (tmL a b) (tmV a b i)))) ([])=some (.p (FQ a b i)):=by kernel_rfl
def Ia (a b:List Int) (i k c:Int) (d:List Int):Prop:=(decide (k<(↑b.length:Int))=true->(((0:Int)<=k/\k<(↑b.length:Int))/\k.toNat<b.length)/\(((0:Int)<=IntKind.i64.wrap (i+k)/\IntKind.i64.wrap (i+k)<IntKind.i64.wrap ((↑a.length:Int)+(↑b.length:Int)))/\((0:Int)+IntKind.i64.wrap (i+k)).toNat<d.length)/\((0:Int)<=IntKind.i64.wrap (i+k)/\IntKind.i64.wrap (i+k)<IntKind.i64.wrap ((↑a.length:Int)+(↑b.length:Int)))/\((0:Int)+IntKind.i64.wrap (i+k)).toNat<d.length)/\((!decide (k<(↑b.length:Int)))=true->((c=c/\k=k)/\d=d)/\(tiU a b i).F (k,c,d)=(Ex.exit (2:Nat),tiP k c d))/\(decide (k<(↑b.length:Int))=true->((IntKind.i64.wrap ((IntKind.i64.wrap (IntKind.i64.wrap (d.getD ((0:Int)+IntKind.i64.wrap (i+k)).toNat (0:Int)+IntKind.i64.wrap (a.getD i.toNat (0:Int)*b.getD k.toNat (0:Int)))+c)).tdiv (1000000000:Int))=(d.getD (i.toNat+k.toNat) (0:Int)+a.getD i.toNat (0:Int)*b.getD k.toNat (0:Int)+c).tdiv (1000000000:Int)/\IntKind.i64.wrap (k+1)=k+1)/\d.set ((0:Int)+IntKind.i64.wrap (i+k)).toNat ((IntKind.i64.wrap (IntKind.i64.wrap (d.getD ((0:Int)+IntKind.i64.wrap (i+k)).toNat (0:Int)+IntKind.i64.wrap (a.getD i.toNat (0:Int)*b.getD k.toNat (0:Int)))+c)).tmod (1000000000:Int))=d.set (i.toNat+k.toNat) ((d.getD (i.toNat+k.toNat) (0:Int)+a.getD i.toNat (0:Int)*b.getD k.toNat (0:Int)+c).tmod (1000000000:Int)))/\(tiU a b i).I ((tiU a b i).next (k,c,d))/\(tiU a b i).μ ((tiU a b i).next (k,c,d))<(tiU a b i).μ (k,c,d)/\(tiU a b i).F ((tiU a b i).next (k,c,d))=(tiU a b i).F (k,c,d))
theorem TQ (a b:List Int) (i k c:Int) (d:List Int):dW (zh a b i) ((tiU a b i).way ((k,c,d))) ((run cL 300).code wJ Oh (ah (zh a b i) ((tiU a b i).S (k,c,d))))=some (.p (Ia a b i k c d)):=by kernel_rfl
def Ib (a b:List Int) (i:Int):Prop:=(decide (i<(↑a.length:Int))=true->(((0:Int)<=i/\i<(↑a.length:Int))/\i.toNat<a.length)/\At (wJ) (wJ) (Oh) (Oh) (zh a b i) (zh a b i)/\((0:Int)<=IntKind.i64.wrap (i+(↑b.length:Int))/\IntKind.i64.wrap (i+(↑b.length:Int))<IntKind.i64.wrap ((↑a.length:Int)+(↑b.length:Int)))/\((0:Int)+IntKind.i64.wrap (i+(↑b.length:Int))).toNat<(aV (tmL a b) (tmW a b i % pw (i.toNat+b.length))).length)/\((!decide (i<(↑a.length:Int)))=true->(i=i/\aV (tmL a b) (tmV a b i)=aV (tmL a b) (tmV a b i))/\(toU a b).F i=(Ex.exit (0:Nat),toP i (aV (tmL a b) (tmV a b i))))/\(decide (i<(↑a.length:Int))=true->(IntKind.i64.wrap (i+1)=(toU a b).next i/\(aV (tmL a b) (tmW a b i % pw (i.toNat+b.length))).set ((0:Int)+IntKind.i64.wrap (i+(↑b.length:Int))).toNat (tmW a b i / pw (i.toNat+b.length))=aV (tmL a b) (tmV a b ((toU a b).next i)))/\(toU a b).I ((toU a b).next i)/\(toU a b).μ ((toU a b).next i)<(toU a b).μ i/\(toU a b).F ((toU a b).next i)=(toU a b).F i)
theorem TR (a b:List Int) (i:Int):dW (toS a b) ((toU a b).way (i)) ((run (Xy a b i) 300).code wJ H9 (ah (toS a b) ((toU a b).S i)))=some (.p (Ib a b i)):=by kernel_rfl
def K6 (a b:List Int) (i:Int):Prop:=decide (i<(↑a.length:Int))=false/\(true=true->(i=i/\aV (tmL a b) (tmV a b i)=aV (tmL a b) (tmV a b i))/\(toU a b).F i=(Ex.exit (0:Nat),toP i (aV (tmL a b) (tmV a b i))))
theorem XA (a b:List Int) (i:Int):dW (toS a b) ((toU a b).way (i)) ((run (cHz 21) 300).code wJ H9 (ah (toS a b) ((toU a b).S i)))=some (.p (K6 a b i)):=by kernel_rfl
theorem Ol {a b:List Int} (ha:Dig a) (hb:Dig b) (hl:a.length+b.length<=500000) {i:Int} (h0:0<=i) (h1:i<a.length):CodeOk cL wJ (.loop Oh) (zh a b i) ⟨.tt,[⟨.tt,.exit 2,ah (zh a b i) (tiX a b i)⟩]⟩:=by
 refine lW (bJ gQ 300) (tiU a b i) (y0:=(0,0,aV (tmL a b) (tmV a b i))) (TmI.start ha hb h0 h1) ⟨_,Oj a b i,⟨rfl,rfl⟩,rfl⟩ (by kernel_rfl) (fun y hy=>?_) rfl
 obtain ⟨k,c,d⟩:=y
 have hI:TmI a b i k c d:=hy
 obtain ⟨l,dg,k0,k1,c0,c1,v,z⟩:=id hI
 have eL:IntKind.i64.wrap ((a.length:Int)+b.length)=a.length+b.length:=iw (by omega) (by omega)
 have e1:IntKind.i64.wrap (i+k)=i+k:=iw (by omega) (by omega)
 have e2:(0+(i+k)).toNat=i.toNat+k.toNat:=by omega
 refine ⟨_,TQ a b i k c d,fun h=>?_,fun h=>⟨⟨⟨rfl,rfl⟩,rfl⟩,?_⟩,fun h=>?_⟩
 .have h:=dt.1 h
  rw [e1,eL,e2]
  exact ⟨⟨⟨k0,h⟩,by omega⟩,⟨⟨by omega,by omega⟩,by omega⟩,⟨by omega,by omega⟩,by omega⟩
 .obtain ⟨f1,f2,f3⟩:=hI.fin (ndt.1 h)
  show (Ex.exit 2,tiX a b i)=(Ex.exit 2,tiP k c d)
  unfold tiX tmL
  rw [f1,f2,<- f3]
 .have h:=dt.1 h
  obtain ⟨m0,m1,m2,m3⟩:=hI.num ha hb h
  rw [e1,e2]
  have e3:IntKind.i64.wrap (a.getD i.toNat 0*b.getD k.toNat 0)=a.getD i.toNat 0*b.getD k.toNat 0:=iw (by omega) (by omega)
  rw [e3]
  have e4:IntKind.i64.wrap (d.getD (i.toNat+k.toNat) 0+a.getD i.toNat 0*b.getD k.toNat 0)=d.getD (i.toNat+k.toNat) 0+a.getD i.toNat 0*b.getD k.toNat 0:=iw (by omega) (by omega)
  rw [e4]
  have e5:IntKind.i64.wrap (d.getD (i.toNat+k.toNat) 0+a.getD i.toNat 0*b.getD k.toNat 0+c)=d.getD (i.toNat+k.toNat) 0+a.getD i.toNat 0*b.getD k.toNat 0+c:=iw (by omega) (by omega)
  rw [e5]
  have st:=hI.step ha hb h1 h
  have e6:IntKind.i64.wrap ((d.getD (i.toNat+k.toNat) 0+a.getD i.toNat 0*b.getD k.toNat 0+c).tdiv 1000000000)=(d.getD (i.toNat+k.toNat) 0+a.getD i.toNat 0*b.getD k.toNat 0+c).tdiv 1000000000:=by
   have:=st.c0
   have:=st.c1
   exact iw (by omega) (by omega)
  refine ⟨⟨⟨e6,iw (by omega) (by omega)⟩,rfl⟩,st,?_,rfl⟩
  show (b.length - (k+1)).toNat<(b.length - k).toNat
  omega
theorem TS {a b:List Int} (ha:Dig a) (hb:Dig b) (hl:a.length+b.length<=500000) {i:Int} (h0:0<=i) (h1:i<a.length):CtxOk (Xy a b i):=aO gQ (Ol ha hb hl h0 h1) (cz gQ)
theorem TU {a b:List Int} (ha:Dig a) (hb:Dig b) (hl:a.length+b.length<=500000):CodeOk cL wJ (.loop H9) (toS a b) ⟨.tt,[⟨.tt,.exit 0,ah (toS a b) (toP a.length (aV (tmL a b) (tmV a b a.length)))⟩]⟩:=by
 have eL:IntKind.i64.wrap ((a.length:Int)+b.length)=a.length+b.length:=iw (by omega) (by omega)
 refine lX (toU a b) (y0:=0) ⟨by omega,by omega⟩ ⟨_,Oi a b,rfl,?_⟩ (by kernel_rfl) (fun i hi=>?_) rfl
 .rw [eL,show ((a.length:Int)+b.length).toNat=tmL a b by unfold tmL; omega,FL]
  congr 1
  unfold tmV
  simp [val]
 obtain ⟨i0,i1⟩:=(show 0<=i/\i<=a.length from hi)
 by_cases hlt:i<a.length
 .have e1:IntKind.i64.wrap (i+b.length)=i+b.length:=iw (by omega) (by omega)
  have e2:(0+(i+(b.length:Int))).toNat=i.toNat+b.length:=by omega
  refine ⟨Xy a b i,300,TS ha hb hl i0 hlt,rfl,rfl,_,TR a b i,fun h=>?_,fun h=>absurd hlt (ndt.1 h),fun h=>⟨⟨iw (by omega) (by omega),?_⟩,?_,?_,rfl⟩⟩
  .rw [e1,eL,e2]
   refine ⟨⟨⟨i0,hlt⟩,by omega⟩,⟨rfl,rfl,rfl⟩,⟨by omega,by omega⟩,?_⟩
   rw [df]; unfold tmL; omega
  .rw [e1,e2]
   exact Xw ha hb i0 hlt
  .show 0<=i+1/\i+1<=a.length
   omega
  .show (a.length - (i+1)).toNat<(a.length - i).toNat
   omega
 .obtain rfl:i=a.length:=by omega
  exact ⟨cHz 21,300,Xz 21,rfl,rfl,_,XA a b a.length,ndf hlt,fun _=>⟨⟨rfl,rfl⟩,rfl⟩⟩
noncomputable def ttS (a b d:List Int) (N:Int):St:=ug cL 300 86 [.islice true 2 0 N] ⟨[⟨14,.ints .i64 d⟩,⟨0,.rows .i64 b⟩,⟨0,.rows .i64 a⟩],3,17⟩
theorem Om (a b d:List Int) (N:Int):fit (ttS a b d N) (ttS a b d N) (ah (ttS a b d N) ((trU 2 d N).S N)) []=some (.p ((0:Int)=0/\N=N)):=by kernel_rfl
theorem TV (a b d:List Int) (N y:Int):dW (ttS a b d N) ((trU 2 d N).way y) ((run cL 300).code jR trA (ah (ttS a b d N) ((trU 2 d N).S y)))=some (.p (trN 2 d N y)):=by kernel_rfl
theorem TW (a b:List Int) {d:List Int} {N:Int} (hN:N=d.length) (ld:Sm d):CodeOk cL jR (.loop trA) (ttS a b d N) ⟨.tt,[⟨.tt,.exit 0,ah (ttS a b d N) (trP 2 (tlI d N))⟩]⟩:=wX hN ld (Om a b d N) (by kernel_rfl) (fun y=>TV a b d N y)
def tmN (a b:List Int):Int:=IntKind.i64.wrap ((a.length:Int)+b.length)
def tmD (a b:List Int):List Int:=aV (tmL a b) (tmV a b a.length)
noncomputable def cTt (a b:List Int):Ctx:=aZ cL [bW 72 (toS a b).hp.clock wJ H9 (toS a b) (.exit 0) (toP a.length (tmD a b)),bW 86 20 jR trA (ttS a b (tmD a b) (tmN a b)) (.exit 0) (trP 2 (tlI (tmD a b) (tmN a b)))]
theorem JG {a b:List Int} (hl:a.length+b.length<=500000):tmN a b=(tmD a b).length:=by
 unfold tmN tmD tmL
 rw [iw (by omega) (by omega),df]; omega
theorem XB {a b:List Int} (ha:Dig a) (hb:Dig b) (hl:a.length+b.length<=500000):CtxOk (cTt a b):=
 aO gQ (TU ha hb hl) (aO gQ (TW a b (JG hl) (by show (tmD a b).length<=500000; unfold tmD tmL; rw [df]; exact hl)) (cz gQ))
def TY (a b:List Int):Prop:=((IntKind.i64.wrap ((↑a.length:Int)+(↑b.length:Int))=IntKind.i64.wrap ((↑a.length:Int)+(↑b.length:Int))/\(0:Int)<=IntKind.i64.wrap ((↑a.length:Int)+(↑b.length:Int))/\IntKind.i64.wrap ((↑a.length:Int)+(↑b.length:Int))<=1048576)/\At (wJ) (wJ) (H9) (H9) (toS a b) (toS a b)/\At (jR) (jR) (trA) (trA) (ttS a b (tmD a b) (tmN a b)) (ttS a b (tmD a b) (tmN a b)))
def XC (a b:List Int):AV:=(AV.islice true 2 (0:Int) (tlI (tmD a b) (tmN a b)))
def XD (a b:List Int):Hp:=⟨[{ wr:=14,body:=ABody.ints IntKind.i64 (tmD a b) },{ wr:=(0:Nat),body:=ABody.rows IntKind.i64 b },{ wr:=(0:Nat),body:=ABody.rows IntKind.i64 a }],3,24⟩
theorem adp (a b:List Int):(run (cTt a b) 300).call 72 (zB a b) (zG a b)=some ⟨.p (TY a b),[⟨.tt,XC a b,XD a b⟩]⟩:=by kernel_rfl
def XE:List Nu->List (List Int)->Option (Prop×To)
 | [],[a,b]=>some (Dig a/\Dig b/\a.length+b.length<=500000,.li false (aa (val a*val b).toNat))
 | _,_=>none
theorem Da {d:List Int} {N v:Int} (h:Dig d) (hN:N=d.length) (hv:val d=v):((0:Int)<=0/\0<=tlI d N/\0+tlI d N<=d.length)/\List.take (tlI d N).toNat (List.drop (Int.toNat 0) d)=aa v.toNat:=by
 have hl:=Ob d
 rw [JF h hN,hv,hN]
 exact ⟨⟨by omega,by omega,by omega⟩,rfl⟩
theorem Oo:NOk Tryd.prog (fun _=>none) hG0 72 (eG hG0 .i64 [.li,.li] XE):=by
 refine fD (fun xs ys p t e h=>?_) ⟨_,Tryd.func72,rfl⟩
 unfold XE at e
 split at e
 .rename_i a b
  cases e
  obtain ⟨ha,hb,hl⟩:=h
  have eN:tmN a b=a.length+b.length:=iw (by omega) (by omega)
  exact ⟨cTt a b,300,zB a b,_,_,_,_,_,XB ha hb hl,rfl,rfl,⟨rfl,rfl,trivial⟩,adp a b,rfl,⟨⟨rfl,by show 0<=tmN a b; omega,by show tmN a b<=_; omega⟩,⟨rfl,rfl,rfl⟩,⟨rfl,rfl,rfl⟩⟩,rfl,rfl,Da (jv _ _) (JG hl) (Xx ha hb)⟩
 .cases e
end
end Go.Proofs.YtbiiiloimbjpaaaDoor.K
