/- What is proved: TurnProducts returns true, whatever the input (part 8). No conditions beyond those of the row. -/
import Derived.Test.YtmnhhlnbfkfkaaaGreatPF
import Derived.Test.YtmnhhlnbfkfkaaaGreatPG
import Derived.Shelf.Small.Bits
import Derived.Shelf.Strconv.Itoa0
import Derived.Shelf.Bits.Mul64
import Derived.Test.YtmnhhlnbfkfkaaaGreatProg
import Derived.Laws.Externs
import Derived.KernelRfl
import Derived.Laws.BitsLemmas
set_option linter.unusedVariables false
set_option linter.unusedSimpArgs false
set_option linter.unusedSectionVars false
/-
 DERIVED: THE SHELF's CONTRACTS AT THIS DUMP, IN PLAIN WORDS (tools/lay-plain.mjs out of 'TryzShelf.lean', which tools/lay-shelf.mjs wrote): THE SAME DECLARATIONS UNDER THE SAME NAMES: 'import', 'namespace', 'open', 'def', 'theorem' AND NOTHING ELSE: no command of the shelf's: FOR A HAND-IN. Each laying: the table of numbers ('.._ren') and one theorem, a field a fact of the dump's own or the kernel's comparison; each contract: ONE APPLICATION.
-/
namespace Go.Proofs
open Go.Shelf
def Tryz.lays134_ren:Go.Shelf.Ren:=⟨fun|134=>149|129=>150|n=>n,fun|53=>138|3=>3|4=>4|46=>23|5=>5|9=>9|n=>n,fun|n=>n⟩
theorem Tryz.lays134:Go.Proofs.Lays.n134 Tryz.prog Tryz.lays134_ren:={
 mixed:=by kernel_rfl
 f129:=Tryz.func150.trans (congrArg some (by kernel_rfl))
 f134:=Tryz.func149.trans (congrArg some (by kernel_rfl))
 t3:=Tryz.underlying3
 a3:=Tryz.isAgg3
 z3:=Tryz.sizeOf3
 v3:=Tryz.zeroValue3
 t4:=Tryz.underlying4
 a4:=Tryz.isAgg4
 z4:=Tryz.sizeOf4
 v4:=Tryz.zeroValue4
 t5:=Tryz.underlying5
 a5:=Tryz.isAgg5
 z5:=Tryz.sizeOf5
 v5:=Tryz.zeroValue5
 t9:=Tryz.underlying9
 a9:=Tryz.isAgg9
 z9:=Tryz.sizeOf9
 v9:=Tryz.zeroValue9
 t46:=Tryz.underlying23
 a46:=Tryz.isAgg23
 z46:=Tryz.sizeOf23
 v46:=Tryz.zeroValue23
 t53:=Tryz.underlying138
 a53:=Tryz.isAgg138
 z53:=Tryz.sizeOf138
 v53:=Tryz.zeroValue138 }
theorem Tryz.bits_LeadingZeros64 (x:Int) (w:World) (h0:0<=x) (h1:x<=18446744073709551615):
  Calls Tryz.prog 149 #[.int .u64 x] w fun e w'=>e=.returned (.int .i64 (64 - (Lib.bitLen x.toNat:Int)))/\w'=w:=Any.bits_LeadingZeros64 Tryz.lays134 x w h0 h1
def Tryz.lays264_ren:Go.Shelf.Ren:=⟨fun|264=>140|n=>n,fun|53=>138|46=>23|n=>n,fun|n=>n⟩
theorem Tryz.lays264:Go.Proofs.Lays.n264 Tryz.prog Tryz.lays264_ren:={
 mixed:=by kernel_rfl
 f264:=Tryz.func140.trans (congrArg some (by kernel_rfl))
 t46:=Tryz.underlying23
 a46:=Tryz.isAgg23
 z46:=Tryz.sizeOf23
 v46:=Tryz.zeroValue23
 t53:=Tryz.underlying138
 a53:=Tryz.isAgg138
 z53:=Tryz.sizeOf138
 v53:=Tryz.zeroValue138 }
open Go.RowKit Go.Lib in
theorem Tryz.bits_Mul64 (x y:Nat) (hx:x<18446744073709551616) (hy:y<18446744073709551616) (w:World):
  Calls Tryz.prog 140 #[.int .u64 x,.int .u64 y] w fun e w'=>e=.returned (.tuple #[.int .u64 ((x*y / 18446744073709551616:Nat):Int),.int .u64 ((x*y % 18446744073709551616:Nat):Int)])/\w'=w:=Any.bits_Mul64 Tryz.lays264 x y hx hy w
end Go.Proofs
namespace Go.Proofs.YtmnhhlnbfkfkaaaGreat.K
open Go Go.Eng
theorem Gl:(Tryz.prog.funcs.toList.all fun fn=>!(fn.name=="runtime.NumGoroutine"))=true:=by kernel_rfl
theorem aM:ProgOk Tryz.prog:=by
 refine ⟨fun f fn h _=>?_,by kernel_rfl⟩
 have h1:fn∈Tryz.prog.funcs.toList:=by
  rw [Array.mem_toList_iff]
  exact Array.mem_of_getElem? h
 have:=List.all_eq_true.1 Gl fn h1
 simpa using this
theorem mkInt_rel {σ:Sg} {s:Bool} {k:IntKind} {n:Int}:VRel σ (bX s k n) (.int k n):=by
 cases s with
 | true=>rfl
 | false=>
  unfold bX kP
  cases n with
  | ofNat m=>cases m <;> rfl
  | negSucc m=>cases m <;> rfl
def Ay (s b:Bool) (v:AV):Option (Nd×AV):=
 match s with
 | true=>some (.p (b=true),v)
 | false=>match b with
  | true=>some (.tt,v)
  | false=>none
theorem nQ {s b:Bool} {v w:AV} {nd:Nd} (e:Ay s b v=some (nd,w)) (hn:nd.val):w=v/\b=true:=by
 unfold Ay at e
 split at e
 .cases e; exact ⟨rfl,hn⟩
 .split at e
  .cases e; exact ⟨rfl,rfl⟩
  .cases e
def ext (f:FuncId) (args:List AV):Option (Nd×AV):=
 match Nat.beq f 141 with
 | true=>match args with
  | [.int s .u64 x,.int s' .u64 y,.int s'' .u64 c]=>Ay (s||s'||s'') (decide (0<=x/\0<=y/\0<=c/\c<=1)) (.tuple [bX (s||s'||s'') .u64 ((x+y+c) % 18446744073709551616),bX (s||s'||s'') .u64 ((x+y+c) / 18446744073709551616)])
  | _=>none
 | false=>none
theorem Gm (x y c:Int) (hx:0<=x) (hy:0<=y) (hc0:0<=c) (hc:c<=1) (w:World):
  (callFunc 141 #[.int .u64 x,.int .u64 y,.int .u64 c]).run Tryz.prog w=.ok (.value (.tuple #[.int .u64 ((x+y+c) % 18446744073709551616),.int .u64 ((x+y+c) / 18446744073709551616)])) w:=by
 rw [run_callFunc_extern Tryz.func141 (by kernel_rfl) (by kernel_rfl) (by kernel_rfl) (e:=add64Entry) (by kernel_rfl),run_add64 x y c hx hy hc0 hc]
 rfl
theorem cB:Es Tryz.prog ext:=by
 intro f args nd v e hn σ A W ha
 unfold ext at e
 split at e
 .rename_i hf
  have:=Nat.eq_of_beq_eq_true hf
  subst this
  split at e
  .rename_i s x s' y s'' c
   obtain ⟨rfl,hd⟩:=nQ e hn
   have hd:=of_decide_eq_true hd
   obtain ⟨V,L,hL,rfl,V2,L2,hL2,rfl,V3,L3,hL3,rfl,hL4⟩:=ha
   rw [hL2,hL3,show L3=[] from hL4] at hL
   have hA:A=#[.int .u64 x,.int .u64 y,.int .u64 c]:=by
    apply Array.toList_inj.1; simpa using hL
   subst hA
   exact ⟨_,⟨_,rfl,_,_,rfl,mkInt_rel,_,_,rfl,mkInt_rel,rfl⟩,Gm x y c hd.1 hd.2.1 hd.2.2.1 hd.2.2.2 W⟩
  .cases e
 .cases e
def Cv:List AV->Option (Nd×AV)
 | [.int s .u64 x]=>some (.p (0<=x/\x<=18446744073709551615),bX s .i64 (64 - (Lib.bitLen x.toNat:Int)))
 | _=>none
def two64:Int:=18446744073709551616
def o7:List AV->Option (Nd×AV)
 | [.int s .u64 x,.int s' .u64 y]=>Ay (s||s') (decide (0<=x/\x<18446744073709551616/\0<=y/\y<18446744073709551616)) (.tuple [bX (s||s') .u64 (x*y / two64),bX (s||s') .u64 (x*y % two64)])
 | _=>none
theorem X9:PureOk Tryz.prog 149 Cv:=by
 refine ui ⟨_,Tryz.func149,rfl⟩ fun args nd v e hn σ A W ha=>?_
 unfold Cv at e
 split at e
 .rename_i s x
  cases e
  have hd:=hn
  obtain ⟨V,L,hL,rfl,hL2⟩:=ha
  rw [show L=[] from hL2] at hL
  have hA:A=#[.int .u64 x]:=by
   apply Array.toList_inj.1; simpa using hL
  subst hA
  exact ⟨_,mkInt_rel,Tryz.bits_LeadingZeros64 x W hd.1 hd.2⟩
 .cases e
theorem Cw:PureOk Tryz.prog 140 o7:=by
 refine ui ⟨_,Tryz.func140,rfl⟩ fun args nd v e hn σ A W ha=>?_
 unfold o7 at e
 split at e
 .rename_i s x s' y
  obtain ⟨rfl,hd⟩:=nQ e hn
  obtain ⟨h1,h2,h3,h4⟩:=of_decide_eq_true hd
  obtain ⟨V,L,hL,rfl,V2,L2,hL2,rfl,hL3⟩:=ha
  rw [hL2,show L2=[] from hL3] at hL
  have hA:A=#[.int .u64 x,.int .u64 y]:=by
   apply Array.toList_inj.1; simpa using hL
  subst hA
  refine ⟨.tuple #[.int .u64 (x*y / two64),.int .u64 (x*y % two64)],⟨_,rfl,_,_,rfl,mkInt_rel,_,_,rfl,mkInt_rel,rfl⟩,?_⟩
  have:=Tryz.bits_Mul64 x.toNat y.toNat (by omega) (by omega) W
  rw [Int.toNat_of_nonneg h1,Int.toNat_of_nonneg h3] at this
  have e1:((x.toNat*y.toNat / 18446744073709551616:Nat):Int)=x*y / two64:=by
   rw [Int.natCast_ediv,Int.natCast_mul,Int.toNat_of_nonneg h1,Int.toNat_of_nonneg h3]; rfl
  have e2:((x.toNat*y.toNat % 18446744073709551616:Nat):Int)=x*y % two64:=by
   rw [Int.natCast_emod,Int.natCast_mul,Int.toNat_of_nonneg h1,Int.toNat_of_nonneg h3]; rfl
  rw [e1,e2] at this
  exact this
 .cases e
noncomputable def TH:List (FuncId×aK):=[(149,Cv),(140,o7)]
theorem Oa:fA Tryz.prog TH:=by
 intro x hx
 simp only [TH,List.mem_cons,List.not_mem_nil,or_false] at hx
 rcases hx with rfl|rfl
 .exact X9
 .exact Cw
noncomputable def cD0:Ctx:=mkC Tryz.prog TH dK
theorem xJ:CtxOk cD0:=ct aM Oa (cw _)
noncomputable def cD:Ctx:={ cD0 with loop:=fun fr a s=>match Nat.beq fr.fn 148 with|true=>xD (run cD0 60) fr a 3 s|false=>none }
theorem Ya:CtxOk cD:=by
 refine ⟨xJ.prog,xJ.con,xJ.ext,fun fr a s q e=>?_,fun _ _ _ _ _ _ _ e=>(by cases e)⟩
 have e:(match Nat.beq fr.fn 148 with|true=>xD (run cD0 60) fr a 3 s|false=>none)=some q:=e
 split at e
 .exact vP (aQ xJ 60) 3 s q e
 .cases e
theorem Ob (hi lo y:Int):bb ((run cD 100).call 148 [.int true .u64 hi,.int true .u64 lo,.int true .u64 y] ⟨[],0,1⟩)=some (.p (SG hi lo y),.tuple [.int true .u64 (N8 hi lo y),.int true .u64 (N9 hi lo y)]):=by kernel_rfl
def xK:List AV->Option (Nd×AV)
 | [.int s .u64 hi,.int s' .u64 lo,.int s'' .u64 y]=>Ay (s||s'||s'') (decide (0<=hi/\hi<y/\y<18446744073709551616/\0<=lo/\lo<18446744073709551616))
   (.tuple [bX (s||s'||s'') .u64 ((hi*two64+lo) / y),bX (s||s'||s'') .u64 ((hi*two64+lo) % y)])
 | _=>none
theorem TI:PureOk Tryz.prog 148 xK:=by
 refine IL (C:=cD) Ya (fun _=>rfl) (n:=100) (fun args nd v e hn=>?_) ⟨_,Tryz.func148,rfl⟩
 unfold xK at e
 split at e
 .rename_i s hi s' lo s'' y
  obtain ⟨rfl,hb⟩:=nQ e hn
  obtain ⟨h1,h2,h3,h4,h5⟩:=of_decide_eq_true hb
  refine ⟨[.int true .u64 hi,.int true .u64 lo,.int true .u64 y],_,_,fun σ L h=>h,Ob hi lo y,?_⟩
  obtain ⟨p1,p2,p3⟩:=I8 hi.toNat lo.toNat y.toNat (by omega) (by omega) (by omega)
  rw [Int.toNat_of_nonneg h1,Int.toNat_of_nonneg h4,Int.toNat_of_nonneg (show 0<=y by omega)] at p1 p2 p3
  refine ⟨p1,fun τ V hV σ=>?_⟩
  obtain ⟨K,rfl,V1,L1,e1,rfl,V2,L2,e2,rfl,e3⟩:=hV
  rw [show L2=[] from e3] at e2
  rw [e2] at e1
  refine ⟨K,rfl,_,_,e1,?_,_,_,rfl,?_,rfl⟩
  .rw [p2]; exact mkInt_rel
  .rw [p3]; exact mkInt_rel
 .cases e
end Go.Proofs.YtmnhhlnbfkfkaaaGreat.K
namespace Go.Ar
open Go
def two64:Int:=18446744073709551616
def okF (a:Int):Bool:=decide (-4503599627370496<=a)&&decide (a<=4503599627370496)
def rd (n d:Int) (up:Bool):Int:=bif up then -(-n / d) else n / d
def bR (v:Int):Int:=bif okF v then v else 0
def eq (v:Int):Int:=bif okF v then 0 else 6
def mulV (a b:Int) (up:Bool):Int:=bif okF a&&okF b then bR (rd (a*b) 4294967296 up) else 0
def sg (a b:Int):Int:=bif decide (b<0) then -a else a
def xC (a:Int):Int:=bif bif decide (a < -4503599627370496) then true else decide (a>4503599627370496) then 2 else 0
def Az (a b:Int):Int:=bif !(xC a != 0)&&!(xC b != 0) then 0 else bif xC a != 0 then xC a else xC b
def xSz (a:Int):Int:=bif decide (a<0) then IntKind.u64.wrap (IntKind.u64.wrap (IntKind.i64.wrap (0 - IntKind.i64.wrap (a+1)))+1) else IntKind.u64.wrap a
def xHi (p:Int):Int:=p / two64
def xLo (p:Int):Int:=p % two64
def xNo (p d:Int):Bool:=decide (xHi p>=d)
def xN (p d:Int) (up neg:Bool):Int:=bif xNo p d then 0 else
 bif bif !(up==neg) then decide ((xHi p*two64+xLo p) % d>0) else false then IntKind.u64.wrap ((xHi p*two64+xLo p) / d+1) else (xHi p*two64+xLo p) / d
def Gn (p d:Int) (up neg:Bool):Bool:=bif !(bif xNo p d then false else true) then true else decide (xN p d up neg>4503599627370496)
def xV (p d:Int) (up neg:Bool):Int:=bif Gn p d up neg then 0 else bif neg then IntKind.i64.wrap (0 - IntKind.i64.wrap (xN p d up neg)) else IntKind.i64.wrap (xN p d up neg)
def xE (p d:Int) (up neg:Bool):Int:=bif Gn p d up neg then 6 else 0
def jE (a b:Int):Bool:=!(decide (a<0)==decide (b<0))
def xIn (a b:Int):Prop:=decide (0<=a/\a<18446744073709551616/\0<=b/\b<18446744073709551616)=true
def Cx (p d:Int):Prop:=decide (0<=xHi p/\xHi p<d/\d<18446744073709551616/\0<=xLo p/\xLo p<18446744073709551616)=true
theorem i64w {n:Int} (h0:-9223372036854775808<=n) (h1:n<9223372036854775808):IntKind.i64.wrap n=n:=by rw [IntKind.wrap_i64]; omega
theorem fQ {n:Int} (h0:0<=n) (h1:n<18446744073709551616):IntKind.u64.wrap n=n:=by rw [IntKind.wrap_u64]; omega
theorem TJ {a:Int} (h0:-9223372036854775808<=a) (h1:a<9223372036854775808):xSz a=sg a a:=by
 unfold xSz sg
 by_cases h:a<0
 .simp only [h,decide_true,cond_true]
  rw [i64w (n:=a+1) (by omega) (by omega),i64w (n:=0 - (a+1)) (by omega) (by omega),fQ (n:=0 - (a+1)) (by omega) (by omega),fQ (by omega) (by omega)]
  omega
 .simp only [h,decide_false,cond_false]
  rw [fQ (by omega) (by omega)]
theorem Gp (a:Int):0<=sg a a:=by
 unfold sg
 by_cases h:a<0
 .simp only [h,decide_true,cond_true]; omega
 .simp only [h,decide_false,cond_false]; omega
theorem bM {a:Int}:okF a=true ↔ -4503599627370496<=a/\a<=4503599627370496:=by simp [okF]
theorem gB {a:Int}:okF a=false ↔ a < -4503599627370496\/4503599627370496<a:=by
 rw [<- Bool.not_eq_true,bM]; omega
theorem I9 (a:Int):xC a=bif okF a then 0 else 2:=by
 unfold xC
 cases h:okF a with
 | true=>
  have:=bM.1 h
  simp [show ¬ a < -4503599627370496 by omega,show ¬ a>4503599627370496 by omega]
 | false=>
  rcases gB.1 h with h|h
  .simp [h]
  .simp [show ¬ a < -4503599627370496 by omega,h]
theorem ED (a b:Int):Az a b=bif okF a&&okF b then 0 else 2:=by
 unfold Az
 rw [I9,I9]
 cases okF a <;> cases okF b <;> rfl
theorem o8 {p d:Int} (hd:0<d):-p / d=-(p / d) - (if 0<p % d then 1 else 0):=by
 have h1:=Int.mul_ediv_add_emod p d
 have h2:=Int.emod_nonneg p (show d≠0 by omega)
 have h3:=Int.emod_lt_of_pos p hd
 split
 .have h4:(-p) / d=-(p / d) - 1/\(-p) % d=d - p % d:=by
   rw [Int.ediv_emod_unique hd]
   refine ⟨?_,by omega,by omega⟩
   rw [Int.mul_sub,Int.mul_neg]
   omega
  exact h4.1
 .have:p % d=0:=by omega
  have h4:(-p) / d=-(p / d)/\(-p) % d=0:=by
   rw [Int.ediv_emod_unique hd]
   refine ⟨?_,by omega,by omega⟩
   rw [Int.mul_neg]
   omega
  omega
theorem SI {p d:Int} (hp:0<=p) (hp':p<340282366920938463463374607431768211456) (hd:0<d) (hd':d<18446744073709551616) (up neg:Bool) (n:Int) (hn:n=bif neg then -p else p) (hx:p<18446744073709551615*d\/(!(up==neg))=false):
  xV p d up neg=bR (rd n d up)/\xE p d up neg=eq (rd n d up)/\(xNo p d=false->Cx p d):=by
 have e1:xHi p*two64+xLo p=p:=by unfold xHi xLo; have:=Int.mul_ediv_add_emod p two64; rw [Int.mul_comm] at this; exact this
 have l0:0<=xLo p:=Int.emod_nonneg p (by decide)
 have l1:xLo p<18446744073709551616:=Int.emod_lt_of_pos p (by decide)
 have h0:0<=xHi p:=Int.ediv_nonneg hp (by decide)
 have q0:0<=p / d:=Int.ediv_nonneg hp (by omega)
 have r0:=Int.emod_nonneg p (show d≠0 by omega)
 have rv:rd n d up=bif neg then -(p / d+(if (!(up==neg))=true/\0<p % d then 1 else 0)) else p / d+(if (!(up==neg))=true/\0<p % d then 1 else 0):=by
  subst hn
  unfold rd
  cases neg <;> cases up <;> simp [o8 hd] <;> split <;> omega
 by_cases hno:xHi p>=d
 .-- the quotient does not fit
  have e2:xNo p d=true:=by simp [xNo,hno]
  have big:18446744073709551616<=p / d:=by
   rw [Int.le_ediv_iff_mul_le hd]
   have h2:d*two64<=xHi p*two64:=Int.mul_le_mul_of_nonneg_right hno (by decide)
   have h3:(18446744073709551616:Int)*d=d*two64:=by rw [Int.mul_comm]; rfl
   omega
  have hb:Gn p d up neg=true:=by simp [Gn,e2]
  have hf:okF (rd n d up)=false:=by
   rw [gB,rv]
   cases neg <;> simp <;> split <;> omega
  refine ⟨by simp [xV,hb,bR,hf],by simp [xE,hb,eq,hf],fun h=>by rw [e2] at h; cases h⟩
 .have e2:xNo p d=false:=by simp [xNo]; omega
  have hlt:p<d*18446744073709551616:=by
   have h2:(xHi p+1)*two64<=d*two64:=Int.mul_le_mul_of_nonneg_right (by omega) (by decide)
   rw [Int.add_mul] at h2
   unfold two64 at *
   omega
  have q1:p / d<18446744073709551616:=by
   rw [Int.ediv_lt_iff_lt_mul hd]
   rw [Int.mul_comm]; exact hlt
  have ex:xV p d up neg=bR (rd n d up)/\xE p d up neg=eq (rd n d up):=by
   have hN:xN p d up neg=p / d+(if (!(up==neg))=true/\0<p % d then 1 else 0):=by
    unfold xN
    rw [e2,e1]
    cases hu:!(up==neg) with
    | false=>simp
    | true=>
     by_cases hr:0<p % d
     .simp only [cond_true,cond_false,hr,decide_true,gt_iff_lt,and_self,if_true]
      rw [fQ (by omega)]
      have:p / d≠18446744073709551615:=by
       intro hq
       have h5:p / d*d<=p:=Int.ediv_mul_le p (by omega)
       rw [hq] at h5
       rcases hx with hx|hx
       .omega
       .rw [hu] at hx; cases hx
      omega
     .simp [hr]
   generalize hk:p / d+(if (!(up==neg))=true/\0<p % d then 1 else 0)=k at hN rv
   have k0:0<=k:=by rw [<- hk]; split <;> omega
   unfold xV xE Gn
   rw [e2,hN,rv]
   by_cases hb:k>4503599627370496
   .have hf:okF (bif neg then -k else k)=false:=by
     rw [gB]
     cases neg <;> simp <;> omega
    simp [hb,bR,eq,hf]
   .have hf:okF (bif neg then -k else k)=true:=by
     rw [bM]
     cases neg <;> simp <;> omega
    simp only [hb,decide_false,cond_true,cond_false,Bool.not_true,bR,eq,hf]
    refine ⟨?_,trivial⟩
    rw [i64w (n:=k) (by omega) (by omega),i64w (n:=0 - k) (by omega) (by omega)]
    cases neg <;> simp
  refine ⟨ex.1,ex.2,fun _=>?_⟩
  unfold Cx
  rw [decide_eq_true_eq]
  exact ⟨h0,by omega,hd',l0,l1⟩
theorem TK {p d:Int} (hp:0<=p) (hd:0<d) (hd':d<18446744073709551616) (neg:Bool) (n:Int) (hn:n=bif neg then -p else p) (hx:18446744073709551615*d<=p):
  xE p d neg neg=6/\(∀ up,eq (rd n d up)=6)/\(xNo p d=false->Cx p d):=by
 have e1:xHi p*two64+xLo p=p:=by unfold xHi xLo; have:=Int.mul_ediv_add_emod p two64; rw [Int.mul_comm] at this; exact this
 have l0:0<=xLo p:=Int.emod_nonneg p (by decide)
 have l1:xLo p<18446744073709551616:=Int.emod_lt_of_pos p (by decide)
 have h0:0<=xHi p:=Int.ediv_nonneg hp (by decide)
 have q0:18446744073709551615<=p / d:=by rw [Int.le_ediv_iff_mul_le hd]; exact hx
 refine ⟨?_,fun up=>?_,fun h=>?_⟩
 .unfold xE Gn xN
  cases h:xNo p d with
  | true=>simp
  | false=>
   rw [e1]
   simp only [beq_self_eq_true,Bool.not_true,Bool.not_false,cond_true,cond_false]
   rw [decide_eq_true (by omega)]; rfl
 .have hf:okF (rd n d up)=false:=by
   rw [gB]
   subst hn
   unfold rd
   cases neg <;> cases up <;> simp [o8 hd] <;> (try split) <;> omega
  simp [eq,hf]
 .unfold Cx
  rw [decide_eq_true_eq]
  refine ⟨h0,?_,hd',l0,l1⟩
  simp [xNo] at h
  omega
def lL (a b:Int) (up:Bool):Int:=bif Az a b != 0 then 0 else xV (xSz a*xSz b) 4294967296 up (jE a b)
def jF (a b:Int) (up:Bool):Int:=bif Az a b != 0 then Az a b else xE (xSz a*xSz b) 4294967296 up (jE a b)
def Ja (a b:Int):Prop:=(!(Az a b != 0))=true->b=b/\xIn (xSz a) (xSz b)/\((!xNo (xSz a*xSz b) 4294967296)=true->Cx (xSz a*xSz b) 4294967296)
theorem uy (a:Int):(a<0/\sg a a=-a)\/(0<=a/\sg a a=a):=by
 unfold sg
 by_cases h:a<0
 .left; simp [h]
 .right; simp [h]; omega
theorem AA (a b:Int):a*b=bif jE a b then -(sg a a*sg b b) else sg a a*sg b b:=by
 unfold jE sg
 by_cases h:a<0 <;> by_cases k:b<0 <;> simp [h,k,Int.neg_mul,Int.mul_neg]
theorem Jb {p d:Int} (hp:0<=p) (hd':d<18446744073709551616) (h:xNo p d=false):Cx p d:=by
 unfold Cx
 rw [decide_eq_true_eq]
 simp [xNo] at h
 exact ⟨Int.ediv_nonneg hp (by decide),by omega,hd',Int.emod_nonneg p (by decide),Int.emod_lt_of_pos p (by decide)⟩
theorem Oc {a b:Int} (h:(!(Az a b != 0))=true):okF a=true/\okF b=true:=by
 rw [ED] at h
 cases ha:okF a <;> cases hb:okF b <;> simp [ha,hb] at h ⊢
theorem nR {a b:Int} (ha:0<=a) (ha':a<18446744073709551616) (hb:0<=b) (hb':b<18446744073709551616):xIn a b:=by
 unfold xIn; rw [decide_eq_true_eq]; exact ⟨ha,ha',hb,hb'⟩
theorem uz {a:Int} (h:okF a=true):xSz a=sg a a/\0<=sg a a/\sg a a<=4503599627370496:=by
 have h:=bM.1 h
 refine ⟨TJ (by omega) (by omega),Gp a,?_⟩
 rcases uy a with ⟨_,e⟩|⟨_,e⟩ <;> omega
theorem v7 (a b:Int):Ja a b:=by
 intro h
 obtain ⟨ha,hb⟩:=Oc h
 obtain ⟨a1,a2,a3⟩:=uz ha
 obtain ⟨b1,b2,b3⟩:=uz hb
 rw [a1,b1]
 refine ⟨rfl,nR a2 (by omega) b2 (by omega),fun hn=>?_⟩
 exact Jb (Int.mul_nonneg a2 b2) (by decide) (by simpa using hn)
theorem Jc {p d:Int} (hp:0<=p) (hp':p<340282366920938463463374607431768211456) (hd:0<d) (hd':d<18446744073709551616) (neg:Bool) (n:Int) (hn:n=bif neg then -p else p):
  ((xE p d false neg=0/\xE p d true neg=0) ↔ (eq (rd n d false)=0/\eq (rd n d true)=0)) /\
  (eq (rd n d false)=0->eq (rd n d true)=0->xV p d false neg=rd n d false/\xV p d true neg=rd n d true):=by
 by_cases hx:p<18446744073709551615*d
 .obtain ⟨f1,f2,_⟩:=SI hp hp' hd hd' false neg n hn (.inl hx)
  obtain ⟨t1,t2,_⟩:=SI hp hp' hd hd' true neg n hn (.inl hx)
  rw [f2,t2,f1,t1]
  refine ⟨Iff.rfl,fun h1 h2=>?_⟩
  unfold eq at h1 h2
  unfold bR
  cases e1:okF (rd n d false) <;> cases e2:okF (rd n d true) <;> simp_all
 .obtain ⟨h1,h2,_⟩:=TK hp hd hd' neg n hn (by omega)
  refine ⟨⟨fun ⟨h3,h4⟩=>?_,fun ⟨h3,_⟩=>?_⟩,fun h3=>?_⟩
  .cases neg <;> omega
  .rw [h2] at h3; omega
  .rw [h2] at h3; omega
theorem uA (v:Int):(eq v=0/\okF v=true/\bR v=v)\/(eq v=6/\okF v=false/\bR v=0):=by
 unfold eq bR
 cases okF v <;> simp
def sqQ (i r:Int):Int:=IntKind.u64.wrap ↑(BitVec.ofInt IntKind.u64.bits r ||| BitVec.ofInt IntKind.u64.bits (IntKind.u64.wrap (1*2 ^ min (IntKind.i64.wrap (42 - i)).toNat IntKind.u64.bits))).toNat
def TL (H L t:Int):Bool:=bif decide (xHi (t*t)<H) then true else bif xHi (t*t)==H then decide (xLo (t*t)<=L) else false
def qt (H L i r:Int):Int:=bif TL H L (sqQ i r) then sqQ i r else r
def jG (H L:Int):Nat->Int->Int->Int
 | 0,_,r=>r
 | n+1,i,r=>jG H L n (IntKind.i64.wrap (i+1)) (qt H L i r)
theorem Gq (n:Int):0<=IntKind.u64.wrap n/\IntKind.u64.wrap n<18446744073709551616:=by
 rw [IntKind.wrap_u64]; omega
end Go.Ar
namespace Go.Proofs.YtmnhhlnbfkfkaaaGreat.K
open Go Go.Eng Go.Ar
noncomputable def TM:List (FuncId×aK):=[(140,o7),(148,xK)]
theorem Od:fA Tryz.prog TM:=by
 intro x hx
 simp only [TM,List.mem_cons,List.not_mem_nil,or_false] at hx
 rcases hx with rfl|rfl
 .exact Cw
 .exact TI
noncomputable def c1:Ctx:=mkC Tryz.prog TM ext
theorem AB:CtxOk c1:=ct aM Od cB
theorem AC (a b:Int):bb ((run c1 300).call 125 [.int true .i64 a,.int true .i64 b] ⟨[],0,1⟩)=some (.p (Ja a b),.tuple [.int true .i64 (lL a b false),.int true .i64 (jF a b false)]):=by kernel_rfl
theorem Gr (a b:Int):bb ((run c1 300).call 126 [.int true .i64 a,.int true .i64 b] ⟨[],0,1⟩)=some (.p (Ja a b),.tuple [.int true .i64 (lL a b true),.int true .i64 (jF a b true)]):=by kernel_rfl
end Go.Proofs.YtmnhhlnbfkfkaaaGreat.K
namespace Go.Proofs.YtmnhhlnbfkfkaaaGreat.K
open Go Go.Eng Go.Ar
noncomputable section
def sqS (up:Bool) (H L:Int):St:=⟨[⟨0,.bool false up⟩,⟨0,.ptr 0 0⟩,⟨0,.tuple []⟩,⟨61,.int false .u64 0⟩,⟨62,.bool false false⟩,⟨63,.int false .u64 0⟩,⟨0,.tuple []⟩,⟨0,.tuple []⟩,⟨64,.int false .i64 0⟩,
 ⟨0,.tuple []⟩,⟨0,.tuple []⟩,⟨0,.tuple []⟩,⟨0,.tuple []⟩,⟨0,.tuple []⟩,⟨0,.tuple []⟩,⟨0,.tuple []⟩,⟨0,.tuple []⟩,⟨0,.tuple []⟩,⟨0,.tuple []⟩,⟨0,.tuple []⟩,⟨0,.tuple []⟩,⟨0,.tuple []⟩,⟨0,.tuple []⟩,⟨0,.tuple []⟩,⟨0,.tuple []⟩,⟨0,.tuple []⟩,⟨0,.tuple []⟩,⟨0,.tuple []⟩,⟨0,.tuple []⟩,⟨0,.tuple []⟩,⟨0,.tuple []⟩,⟨0,.tuple []⟩,⟨0,.tuple []⟩,⟨0,.tuple []⟩],[],
 ⟨[⟨48,.cells [.int true .u64 H,.int true .u64 L]⟩],1,65⟩⟩
def sqP (i r:Int):Patch:=⟨[(5,.int true .u64 r),(8,.int true .i64 i),(6,.any false),(7,.any false),(9,.any false),(10,.any false),(11,.any false),(12,.any false),(13,.any false),(14,.any false),(15,.any false),(16,.any false),(17,.any false),(18,.any false),(19,.any false),(20,.any false),(21,.any false),(22,.any false)],[],[]⟩
def sqO (r:Int):Patch:=⟨[(5,.int true .u64 r),(8,.any false),(6,.any false),(7,.any false),(9,.any false),(10,.any false),(11,.any false),(12,.any false),(13,.any false),(14,.any false),(15,.any false),(16,.any false),(17,.any false),(18,.any false),(19,.any false),(20,.any false),(21,.any false),(22,.any false)],[],[]⟩
def Jd:AFr:=⟨133,none⟩
noncomputable def sqA:Code:=bJ Tryz.prog 133 0
def sqU (H L:Int):Sum (Int×Int):=
 {
  S:=fun y=>sqP y.1 y.2
  I:=fun y=>0<=y.1/\y.1<=43
  μ:=fun y=>(43 - y.1).toNat
  F:=fun y=>(.exit 0,sqO (jG H L (43 - y.1).toNat y.1 y.2))
  next:=fun y=>(IntKind.i64.wrap (y.1+1),qt H L y.1 y.2)
  ids:=[]
  X:=fun y _=>some (sqO y.2,[]) }
def Yb (H L i r:Int):Prop:=
 (decide (i<43)=true->0<=IntKind.i64.wrap (42 - i)/\xIn (sqQ i r) (sqQ i r)/\H=H/\L=L) /\
 ((!decide (i<43))=true->r=r/\(sqU H L).F (i,r)=(.exit 0,sqO r)) /\
 (decide (i<43)=true->(qt H L i r=qt H L i r/\IntKind.i64.wrap (i+1)=IntKind.i64.wrap (i+1)) /\
  (sqU H L).I ((sqU H L).next (i,r))/\(sqU H L).μ ((sqU H L).next (i,r))<(sqU H L).μ (i,r)/\(sqU H L).F ((sqU H L).next (i,r))=(sqU H L).F (i,r))
theorem TN (up:Bool) (H L i r:Int):aW (sqS up H L) ((sqU H L).way (i,r)) ((run c1 300).code Jd sqA (ac (sqS up H L) ((sqU H L).S (i,r))))=some (.p (Yb H L i r)):=by kernel_rfl
end
end Go.Proofs.YtmnhhlnbfkfkaaaGreat.K
namespace Go.Ar
open Go
theorem TO (i k:Nat) (hi:i<=42) (hr:2 ^ (43 - i)*k<2 ^ 43):sqQ (i:Int) ((2 ^ (43 - i)*k:Nat):Int)=((2 ^ (43 - i)*k+2 ^ (42 - i):Nat):Int):=by
 have e1:IntKind.i64.wrap (42 - (i:Int))=((42 - i:Nat):Int):=by rw [i64w (by omega) (by omega)]; omega
 have e2:min (((42 - i:Nat):Int)).toNat IntKind.u64.bits=42 - i:=by
  rw [Int.toNat_natCast]; exact Nat.min_eq_left (Nat.le_trans (Nat.sub_le _ _) (by decide))
 have p1:2 ^ (42 - i)<=2 ^ 42:=Nat.pow_le_pow_right (by decide) (by omega)
 have e3:IntKind.u64.wrap (1*2 ^ (42 - i))=((2 ^ (42 - i):Nat):Int):=by
  rw [Int.one_mul,show (2:Int) ^ (42 - i)=((2 ^ (42 - i):Nat):Int) from (Int.natCast_pow 2 _).symm]
  generalize 2 ^ (42 - i)=P at p1
  exact fQ (by omega) (by omega)
 unfold sqQ
 rw [e1,e2,e3]
 rw [Go.Eng.dOr_eq _ _ (by omega) (by omega)]
 congr 1
 rw [<- Nat.two_pow_add_eq_or_of_lt (Nat.pow_lt_pow_right (by decide) (by omega)) k]
theorem Oe (t n:Nat) (ht:t<18446744073709551616):TL (xHi (n:Int)) (xLo (n:Int)) (t:Int)=decide (t*t<=n):=by
 unfold TL xHi xLo two64
 have e1:((t:Int)*t) / 18446744073709551616=((t*t / 18446744073709551616:Nat):Int):=by rw [Int.natCast_ediv,Int.natCast_mul]; rfl
 have e2:((t:Int)*t) % 18446744073709551616=((t*t % 18446744073709551616:Nat):Int):=by rw [Int.natCast_emod,Int.natCast_mul]; rfl
 have e3:(n:Int) / 18446744073709551616=((n / 18446744073709551616:Nat):Int):=by rw [Int.natCast_ediv]; rfl
 have e4:(n:Int) % 18446744073709551616=((n % 18446744073709551616:Nat):Int):=by rw [Int.natCast_emod]; rfl
 rw [e1,e2,e3,e4]
 generalize t*t=m
 rw [Bool.eq_iff_iff]
 by_cases h1:m / 18446744073709551616<n / 18446744073709551616
 .have:((m / 18446744073709551616:Nat):Int)<((n / 18446744073709551616:Nat):Int):=by omega
  simp only [this,decide_true,cond_true,true_iff,decide_eq_true_eq]
  omega
 .have:¬ ((m / 18446744073709551616:Nat):Int)<((n / 18446744073709551616:Nat):Int):=by omega
  simp only [this,decide_false,cond_false,decide_eq_true_eq]
  by_cases h2:m / 18446744073709551616=n / 18446744073709551616
  .rw [h2]
   simp only [beq_self_eq_true,cond_true,decide_eq_true_eq]
   omega
  .have:(((m / 18446744073709551616:Nat):Int)==((n / 18446744073709551616:Nat):Int))=false:=by
    rw [beq_eq_false_iff_ne]; omega
   rw [this]
   simp only [cond_false,Bool.false_eq_true,false_iff]
   omega
theorem nU (n:Nat):∀ (m i k:Nat),i+m=43->2 ^ (43 - i)*k<2 ^ 43->(2 ^ (43 - i)*k)*(2 ^ (43 - i)*k)<=n->n<(2 ^ (43 - i)*k+2 ^ (43 - i))*(2 ^ (43 - i)*k+2 ^ (43 - i)) ->
  ∃ r:Nat,jG (xHi (n:Int)) (xLo (n:Int)) m (i:Int) ((2 ^ (43 - i)*k:Nat):Int)=(r:Int)/\r*r<=n/\n<(r+1)*(r+1)/\r<2 ^ 43
 | 0,i,k,hi,h1,h2,h3=>by
  have:i=43:=by omega
  subst this
  exact ⟨2 ^ (43 - 43)*k,rfl,h2,h3,h1⟩
 | m+1,i,k,hi,h1,h2,h3=>by
  have p:2 ^ (43 - i)=2*2 ^ (43 - (i+1)):=by
   rw [show 43 - i=(43 - (i+1))+1 by omega,Nat.pow_succ]; omega
  have e1:IntKind.i64.wrap ((i:Int)+1)=((i+1:Nat):Int):=by rw [i64w (by omega) (by omega)]; omega
  have e2:=TO i k (by omega) h1
  rw [show 42 - i=43 - (i+1) by omega] at e2
  simp only [jG]
  rw [e1]
  unfold qt
  rw [e2]
  generalize hq:2 ^ (43 - (i+1))=q at *
  have hq1:1<=q:=by rw [<- hq]; exact Nat.one_le_two_pow
  have hb:2 ^ (43 - i)*k+q<2 ^ 43:=by
   rw [p]
   have h4:2 ^ (43 - i)*(2 ^ i)=2 ^ 43:=by rw [<- Nat.pow_add]; congr 1; omega
   rw [p] at h4
   have:k<2 ^ i:=by
    rw [p,<- h4] at h1
    exact Nat.lt_of_mul_lt_mul_left h1
   have h5:2*q*(k+1)<=2*q*2 ^ i:=Nat.mul_le_mul_left _ this
   rw [h4,Nat.mul_add] at h5
   omega
  rw [Oe _ n (by omega)]
  by_cases h:(2 ^ (43 - i)*k+q)*(2 ^ (43 - i)*k+q)<=n
  .rw [decide_eq_true h,cond_true]
   have hk:2 ^ (43 - i)*k+q=q*(2*k+1):=by rw [p,Nat.mul_add,Nat.mul_one,<- Nat.mul_assoc,Nat.mul_comm q 2]
   have hs:q*(2*k+1)+q=2 ^ (43 - i)*k+2 ^ (43 - i):=by rw [<- hk,p]; omega
   rw [hk] at h hb ⊢
   have:=nU n m (i+1) (2*k+1) (by omega) (by rw [hq]; exact hb) (by rw [hq]; exact h) (by rw [hq,hs]; exact h3)
   rw [hq] at this
   exact this
  .rw [decide_eq_false h,cond_false]
   have hk:2 ^ (43 - i)*k=q*(2*k):=by rw [p,<- Nat.mul_assoc,Nat.mul_comm q 2]
   rw [hk] at h h1 h2 ⊢
   have:=nU n m (i+1) (2*k) (by omega) (by rw [hq]; exact h1) (by rw [hq]; exact h2) (by rw [hq]; omega)
   rw [hq] at this
   exact this
theorem Of (a:Nat) (ha:a<=4503599627370496):∃ r:Nat,jG (xHi (IntKind.u64.wrap a*4294967296)) (xLo (IntKind.u64.wrap a*4294967296)) 43 0 0=(r:Int)/\r*r<=a*4294967296/\a*4294967296<(r+1)*(r+1)/\r<2 ^ 43:=by
 rw [fQ (n:=(a:Int)) (by omega) (by omega)]
 have:=nU (a*4294967296) 43 0 0 rfl (by decide) (by omega) (by simp; omega)
 simpa using this
def jH (a:Int):Int:=IntKind.u64.wrap a*4294967296
def sqR (a:Int):Int:=jG (xHi (jH a)) (xLo (jH a)) 43 0 0
def v8 (a:Int):Bool:=bif xC a != 0 then true else decide (a<0)
def Je (a:Int):Int:=bif !(sqR a*sqR a / two64==xHi (jH a)&&(sqR a*sqR a % two64==xLo (jH a)&&true)) then IntKind.u64.wrap (sqR a+1) else sqR a
def qu (a:Int) (up:Bool):Int:=bif v8 a then 0 else bif decide ((bif up then Je a else sqR a)>4503599627370496) then 0 else IntKind.i64.wrap (bif up then Je a else sqR a)
def Jf (a:Int) (up:Bool):Int:=bif v8 a then 2 else bif decide ((bif up then Je a else sqR a)>4503599627370496) then 6 else 0
def rtV (a:Int) (up:Bool):Int:=bif up&&!(sqR a*sqR a==a*4294967296) then sqR a+1 else sqR a
def o9 (a:Int):Bool:=okF a&&decide (0<=a)
def Jg (a:Int) (up:Bool):Int:=bif o9 a then rtV a up else 0
def SJ (a:Int):Int:=bif o9 a then 0 else 2
theorem AD (a:Int):v8 a=!o9 a:=by
 unfold v8 o9
 rw [I9]
 cases okF a with
 | false=>simp
 | true=>by_cases h:a<0 <;> simp [h] <;> omega
theorem uB {a:Int} (h:o9 a=true):0<=sqR a/\sqR a*sqR a<=a*4294967296/\a*4294967296<(sqR a+1)*(sqR a+1)/\sqR a<8796093022208:=by
 simp only [o9,Bool.and_eq_true,decide_eq_true_eq] at h
 obtain ⟨h1,h2⟩:=h
 have h1:=bM.1 h1
 obtain ⟨r,e,r1,r2,r3⟩:=Of a.toNat (by omega)
 rw [Int.toNat_of_nonneg h2] at e
 have e:sqR a=r:=e
 rw [e]
 have c1:((r*r:Nat):Int)=(r:Int)*r:=Int.natCast_mul r r
 have c2:(((r+1)*(r+1):Nat):Int)=((r:Int)+1)*(r+1):=by rw [Int.natCast_mul]; rfl
 refine ⟨by omega,by omega,by omega,by omega⟩
theorem EF (a:Int) (up:Bool):qu a up=Jg a up/\Jf a up=SJ a:=by
 unfold qu Jf Jg SJ
 rw [AD]
 cases h:o9 a with
 | false=>simp
 | true=>
  obtain ⟨r0,r1,r2,r3⟩:=uB h
  simp only [o9,Bool.and_eq_true,decide_eq_true_eq] at h
  obtain ⟨h1,h2⟩:=h
  have h1:=bM.1 h1
  have key:(bif up then Je a else sqR a)=rtV a up:=by
   cases up with
   | false=>rfl
   | true=>
    have e0:jH a=a*4294967296:=by unfold jH; rw [fQ (by omega) (by omega)]
    have:(sqR a*sqR a / two64==xHi (jH a)&&(sqR a*sqR a % two64==xLo (jH a)&&true))=(sqR a*sqR a==a*4294967296):=by
     rw [e0]
     unfold xHi xLo two64
     rw [Bool.eq_iff_iff]
     simp only [Bool.and_true,Bool.and_eq_true,beq_iff_eq]
     omega
    unfold Je rtV
    rw [this,fQ (by omega) (by omega)]
    rfl
  rw [key]
  have hb:0<=rtV a up/\rtV a up<=8796093022208:=by
   unfold rtV
   cases up&&!(sqR a*sqR a==a*4294967296) <;> simp <;> omega
  simp only [Bool.not_true,cond_false,cond_true]
  rw [decide_eq_false (by omega),i64w (by omega) (by omega)]
  exact ⟨rfl,rfl⟩
end Go.Ar
namespace Go.Ar
open Go Go.Eng
noncomputable section
def two (a b:Int):Tm:=.u [.n .i64 a,.n .i64 b]
def Og (up:Bool):aK:=a8 [.i .i64,.i .i64] none fun
 | [.n a,.n b]=>two (lL a b up) (jF a b up)
 | _=>.u []
def EG (up:Bool):aK:=a8 [.i .i64] none fun
 | [.n a]=>two (qu a up) (Jf a up)
 | _=>.u []
end
end Go.Ar
namespace Go.Proofs.YtmnhhlnbfkfkaaaGreat.K
open Go Go.Eng Go.Ar
noncomputable section
theorem Jh (up:Bool) (H L:Int):fit (sqS up H L) (sqS up H L) (ac (sqS up H L) ((sqU H L).S (0,0))) []=some (.p ((0:Int)=0/\(0:Int)=0)):=by kernel_rfl
theorem Yc (H L i r:Int) (h:0<=i/\i<=43):Yb H L i r:=by
 refine ⟨fun hi=>?_,fun hi=>⟨rfl,?_⟩,fun hi=>⟨⟨rfl,rfl⟩,?_⟩⟩
 .have hi:=of_decide_eq_true hi
  refine ⟨by rw [i64w (by omega) (by omega)]; omega,?_,rfl,rfl⟩
  have:=Gq (↑(BitVec.ofInt IntKind.u64.bits r ||| BitVec.ofInt IntKind.u64.bits (IntKind.u64.wrap (1*2 ^ min (IntKind.i64.wrap (42 - i)).toNat IntKind.u64.bits))).toNat)
  exact nR this.1 this.2 this.1 this.2
 .have:i=43:=by simp at hi; omega
  subst this
  rfl
 .have hi:=of_decide_eq_true hi
  have e:IntKind.i64.wrap (i+1)=i+1:=i64w (by omega) (by omega)
  have e2:(43 - i).toNat=(43 - (i+1)).toNat+1:=by omega
  refine ⟨?_,?_,?_⟩
  .show 0<=IntKind.i64.wrap (i+1)/\IntKind.i64.wrap (i+1)<=43
   rw [e]; omega
  .show (43 - IntKind.i64.wrap (i+1)).toNat<(43 - i).toNat
   rw [e]; omega
  .show (Ex.exit 0,sqO (jG H L (43 - IntKind.i64.wrap (i+1)).toNat (IntKind.i64.wrap (i+1)) (qt H L i r)))=(Ex.exit 0,sqO (jG H L (43 - i).toNat i r))
   rw [e2,jG,e]
theorem Oh (up:Bool) (H L:Int):CodeOk c1 Jd (.loop sqA) (sqS up H L) ⟨.tt,[⟨.tt,.exit 0,ac (sqS up H L) (sqO (jG H L 43 0 0))⟩]⟩:=by
 have hF:(sqU H L).F (0,0)=(.exit 0,sqO (jG H L 43 0 0)):=by
  show (Ex.exit 0,sqO (jG H L (43 - (0:Int)).toNat 0 0))=_
  rw [show (43 - (0:Int)).toNat=43 from by decide]
 have h0:dU (sqS up H L).hp ((sqU H L).S (0,0)).old=true:=by kernel_rfl
 have h1:(sqU H L).I (0,0):=⟨by decide,by decide⟩
 exact NZ (aQ AB 300) (sqU H L) h1 ⟨_,Jh up H L,rfl,rfl⟩ h0 (fun y hy=>⟨_,TN up H L y.1 y.2,Yc H L y.1 y.2 hy⟩) hF
noncomputable def c1s (up:Bool) (a:Int):Ctx:=aw c1 [aR 133 65 Jd sqA (sqS up (xHi (jH a)) (xLo (jH a))) (.exit 0) (sqO (jG (xHi (jH a)) (xLo (jH a)) 43 0 0))]
theorem Ji (up:Bool) (a:Int):CtxOk (c1s up a):=ak AB (Oh up _ _) (aq AB)
def Yd (up:Bool) (a:Int):Prop:=At Jd Jd sqA sqA (sqS up (xHi (jH a)) (xLo (jH a))) (sqS up (xHi (jH a)) (xLo (jH a)))
def SK (a:Int):Prop:=(!v8 a)=true->xIn (IntKind.u64.wrap a) 4294967296/\Yd false a
def SL (a:Int):Prop:=(!v8 a)=true->xIn (IntKind.u64.wrap a) 4294967296/\Yd true a/\xIn (sqR a) (sqR a)/\xHi (jH a)=xHi (jH a)/\xLo (jH a)=xLo (jH a)
theorem Cy (a:Int):bb ((run (c1s false a) 300).call 94 [.int true .i64 a] ⟨[],0,1⟩)=some (.p (SK a),.tuple [.int true .i64 (qu a false),.int true .i64 (Jf a false)]):=by kernel_rfl
theorem Jj (a:Int):bb ((run (c1s true a) 300).call 95 [.int true .i64 a] ⟨[],0,1⟩)=some (.p (SL a),.tuple [.int true .i64 (qu a true),.int true .i64 (Jf a true)]):=by kernel_rfl
theorem wc (a:Int):SL a:=by
 intro h
 rw [AD,Bool.not_not] at h
 obtain ⟨r0,r1,r2,r3⟩:=uB h
 simp only [o9,Bool.and_eq_true,decide_eq_true_eq] at h
 have h1:=bM.1 h.1
 rw [fQ (n:=a) (by omega) (by omega)]
 exact ⟨nR (by omega) (by omega) (by decide) (by decide),⟨rfl,rfl,rfl⟩,nR (by omega) (by omega) (by omega) (by omega),rfl,rfl⟩
theorem Gs (a:Int):SK a:=fun h=>⟨(wc a h).1,rfl,rfl,rfl⟩
theorem Cz:PureOk Tryz.prog 125 (Og false):=by
 refine bp (fun xs hk _=>?_) ⟨_,Tryz.func125,rfl⟩
 obtain ⟨a,_,rfl,h1⟩:=kn hk; obtain ⟨b,_,rfl,h2⟩:=kn h1; obtain rfl:=k0 h2
 exact ⟨c1,300,_,AB,rfl,fun _=>rfl,rfl,AC a b,v7 a b⟩
theorem Jk:PureOk Tryz.prog 126 (Og true):=by
 refine bp (fun xs hk _=>?_) ⟨_,Tryz.func126,rfl⟩
 obtain ⟨a,_,rfl,h1⟩:=kn hk; obtain ⟨b,_,rfl,h2⟩:=kn h1; obtain rfl:=k0 h2
 exact ⟨c1,300,_,AB,rfl,fun _=>rfl,rfl,Gr a b,v7 a b⟩
theorem AE:PureOk Tryz.prog 94 (EG false):=by
 refine bp (fun xs hk _=>?_) ⟨_,Tryz.func94,rfl⟩
 obtain ⟨a,_,rfl,h1⟩:=kn hk; obtain rfl:=k0 h1
 exact ⟨c1s false a,300,_,Ji false a,rfl,fun _=>rfl,rfl,Cy a,Gs a⟩
theorem Gt:PureOk Tryz.prog 95 (EG true):=by
 refine bp (fun xs hk _=>?_) ⟨_,Tryz.func95,rfl⟩
 obtain ⟨a,_,rfl,h1⟩:=kn hk; obtain rfl:=k0 h1
 exact ⟨c1s true a,300,_,Ji true a,rfl,fun _=>rfl,rfl,Jj a,wc a⟩
noncomputable def Oi:List (FuncId×aK):=[(125,Og false),(126,Og true),(94,EG false),(95,EG true),(140,o7)]
theorem EH:fA Tryz.prog Oi:=by
 intro x hx
 simp only [Oi,List.mem_cons,List.not_mem_nil,or_false] at hx
 rcases hx with rfl|rfl|rfl|rfl|rfl
 .exact Cz
 .exact Jk
 .exact AE
 .exact Gt
 .exact Cw
noncomputable def c2:Ctx:=mkC Tryz.prog Oi ext
theorem wd:CtxOk c2:=ct aM EH cB
end
end Go.Proofs.YtmnhhlnbfkfkaaaGreat.K
namespace Go.Ar
open Go
structure Sp where
 lo:Int
 hi:Int
 e:Int
def err (e:Int):Sp:=⟨0,0,e⟩
def aZ (a b:Int):Bool:=decide (-4503599627370496<=a)&&(decide (a<=b)&&decide (b<=4503599627370496))
def fB (lo hi:Int):Sp:=bif okF lo&&okF hi then ⟨lo,hi,0⟩ else err 6
def mn (a b:Int):Int:=bif decide (b<a) then b else a
def mx (a b:Int):Int:=bif decide (a<b) then b else a
def kJ (a b c d:Int) (r:Sp):Sp:=bif aZ a b&&aZ c d then r else err 20
def nV (a b c d:Int):Sp:=kJ a b c d (fB (a+c) (b+d))
def abu (a b c d:Int):Sp:=kJ a b c d (fB (a - d) (b - c))
def jk (a b:Int):Sp:=bif aZ a b then ⟨-b,-a,0⟩ else err 20
def m6 (F:Int->Int->Bool->Int) (a b c d:Int):Sp:=
 fB (mn (mn (mn (F a c false) (F a d false)) (F b c false)) (F b d false)) (mx (mx (mx (F a c true) (F a d true)) (F b c true)) (F b d true))
def mF (x y:Int) (up:Bool):Int:=rd (x*y) 4294967296 up
def dF (x y:Int) (up:Bool):Int:=rd (sg (x*4294967296) y) (sg y y) up
def cA (a b c d:Int):Sp:=kJ a b c d (m6 mF a b c d)
def abv (a b c d:Int):Sp:=kJ a b c d (bif decide (c<=0)&&decide (0<=d) then err 7 else m6 dF a b c d)
def abL (a b:Int):Int:=mx (mx a (-b)) 0
def abH (a b:Int):Int:=mx b (-a)
def Oj (a b:Int):Sp:=bif aZ a b then fB (rd (abL a b*abL a b) 4294967296 false) (rd (abH a b*abH a b) 4294967296 true) else err 20
def EI (a b:Int):Sp:=bif aZ a b then (bif decide (a<0) then err 2 else ⟨rtV a false,rtV b true,0⟩) else err 20
def okR (n d:Int):Bool:=decide (-4611686018427387904<=n)&&decide (n<=4611686018427387904)&&decide (1<=d)&&decide (d<=4611686018427387904)
def TP (a b n d:Int):Sp:=bif aZ a b then (bif okR n d then fB (rd (mn (a*n) (b*n)) d false) (rd (mx (a*n) (b*n)) d true) else err 2) else err 20
def xCS (a b:Int):Int:=bif bif decide (a < -4503599627370496) then true else bif decide (a>b) then true else decide (b>4503599627370496) then 20 else 0
def rE (a b c d:Int):Int:=bif !(xCS a b != 0)&&!(xCS c d != 0) then 0 else bif xCS a b != 0 then xCS a b else xCS c d
def xTb (l h:Int):Bool:=bif decide (l < -4503599627370496) then true else decide (h>4503599627370496)
def AG (g l h:Int):Sp:=⟨bif g != 0 then 0 else bif xTb l h then 0 else l,bif g != 0 then 0 else bif xTb l h then 0 else h,bif g != 0 then g else bif xTb l h then 6 else 0⟩
def Jl (a b c d:Int):Sp:=AG (rE a b c d) (IntKind.i64.wrap (a+c)) (IntKind.i64.wrap (b+d))
def CA (a b:Int):Sp:=
 ⟨bif xCS a b != 0 then 0 else bif decide (a<0) then 0 else bif xTb (qu a false) (qu b true) then 0 else qu a false,
  bif xCS a b != 0 then 0 else bif decide (a<0) then 0 else bif xTb (qu a false) (qu b true) then 0 else qu b true,
  bif xCS a b != 0 then xCS a b else bif decide (a<0) then 2 else bif xTb (qu a false) (qu b true) then 6 else 0⟩
def tL (low lo:Int):Int:=bif decide (low<lo) then low else lo
def tH (low lo hi:Int):Int:=bif decide (low<lo) then hi else hi
def nL (low high lo hi:Int):Int:=bif decide (high>tH low lo hi) then tL low lo else tL low lo
def nH (low high lo hi:Int):Int:=bif decide (high>tH low lo hi) then high else tH low lo hi
def l1 (V:Int->Int->Bool->Int) (a c d:Int):Int:=nL (V a d false) (V a d true) (V a c false) (V a c true)
def h1 (V:Int->Int->Bool->Int) (a c d:Int):Int:=nH (V a d false) (V a d true) (V a c false) (V a c true)
def l2 (V:Int->Int->Bool->Int) (a b c d:Int):Int:=nL (V b c false) (V b c true) (l1 V a c d) (h1 V a c d)
def h2 (V:Int->Int->Bool->Int) (a b c d:Int):Int:=nH (V b c false) (V b c true) (l1 V a c d) (h1 V a c d)
def l3 (V:Int->Int->Bool->Int) (a b c d:Int):Int:=nL (V b d false) (V b d true) (l2 V a b c d) (h2 V a b c d)
def h3 (V:Int->Int->Bool->Int) (a b c d:Int):Int:=nH (V b d false) (V b d true) (l2 V a b c d) (h2 V a b c d)
def nW (E:Int->Int->Bool->Int) (x y:Int):Bool:=bif E x y false != 0 then true else E x y true != 0
def ok4 (E:Int->Int->Bool->Int) (a b c d:Int):Bool:=(!nW E a c&&!nW E a d)&&(!nW E b c&&!nW E b d)
def bL (V E:Int->Int->Bool->Int) (a b c d:Int):Int:=bif ok4 E a b c d then (bif xTb (l3 V a b c d) (h3 V a b c d) then 0 else l3 V a b c d) else 0
def bH (V E:Int->Int->Bool->Int) (a b c d:Int):Int:=bif ok4 E a b c d then (bif xTb (l3 V a b c d) (h3 V a b c d) then 0 else h3 V a b c d) else 0
def bE (V E:Int->Int->Bool->Int) (a b c d:Int):Int:=bif ok4 E a b c d then (bif xTb (l3 V a b c d) (h3 V a b c d) then 6 else 0) else 6
def Jm (a b c d:Int):Sp:=⟨bif rE a b c d != 0 then 0 else bL lL jF a b c d,bif rE a b c d != 0 then 0 else bH lL jF a b c d,bif rE a b c d != 0 then rE a b c d else bE lL jF a b c d⟩
theorem bQ {a b:Int}:aZ a b=true ↔ -4503599627370496<=a/\a<=b/\b<=4503599627370496:=by simp [aZ]
theorem lM (a b:Int):xCS a b=bif aZ a b then 0 else 20:=by
 unfold xCS
 cases h:aZ a b with
 | true=>
  have:=bQ.1 h
  simp [show ¬ a < -4503599627370496 by omega,show ¬ a>b by omega,show ¬ b>4503599627370496 by omega]
 | false=>
  have:¬ (-4503599627370496<=a/\a<=b/\b<=4503599627370496):=fun k=>by rw [bQ.2 k] at h; cases h
  by_cases h1:a < -4503599627370496
  .simp [h1]
  .by_cases h2:a>b
   .simp [h1,h2]
   .simp [h1,h2,show b>4503599627370496 by omega]
theorem AH (a b c d:Int):rE a b c d=bif aZ a b&&aZ c d then 0 else 20:=by
 unfold rE
 rw [lM,lM]
 cases aZ a b <;> cases aZ c d <;> rfl
theorem xL {l h:Int} (k:l<=h):xTb l h=!(okF l&&okF h):=by
 unfold xTb okF
 rw [Bool.eq_iff_iff]
 by_cases h1:l < -4503599627370496
 .simp [h1] <;> omega
 .simp [h1] <;> omega
theorem Jn (a b c d l h:Int) (k:aZ a b=true->aZ c d=true->l<=h):AG (rE a b c d) l h=kJ a b c d (fB l h):=by
 unfold AG kJ
 rw [AH]
 cases h1:aZ a b with
 | false=>simp [err]
 | true=>
  cases h2:aZ c d with
  | false=>simp [err]
  | true=>
   rw [xL (k h1 h2)]
   unfold fB
   cases okF l&&okF h <;> simp [err]
theorem Jo (a b c d:Int):Jl a b c d=nV a b c d:=by
 unfold Jl nV
 rw [Jn]
 .unfold kJ
  cases h1:aZ a b <;> cases h2:aZ c d <;> try rfl
  have:=bQ.1 h1; have:=bQ.1 h2
  rw [i64w (by omega) (by omega),i64w (by omega) (by omega)]
 .intro h1 h2
  have:=bQ.1 h1; have:=bQ.1 h2
  rw [i64w (by omega) (by omega),i64w (by omega) (by omega)]; omega
theorem we {a:Int} (h:o9 a=true) (up:Bool):0<=rtV a up/\rtV a up<=8796093022208:=by
 obtain ⟨r0,r1,r2,r3⟩:=uB h
 unfold rtV
 cases up&&!(sqR a*sqR a==a*4294967296) <;> simp <;> omega
theorem Gu (a b:Int):CA a b=EI a b:=by
 unfold CA EI
 rw [lM]
 cases h1:aZ a b with
 | false=>simp [err]
 | true=>
  have h:=bQ.1 h1
  by_cases h2:a<0
  .simp [h2,err]
  .have ha:o9 a=true:=by simp [o9,okF]; omega
   have hb:o9 b=true:=by simp [o9,okF]; omega
   have ra:=we ha false
   have rb:=we hb true
   rw [(EF a false).1,(EF b true).1]
   unfold Jg
   rw [ha,hb]
   have ht:xTb (rtV a false) (rtV b true)=false:=by
    unfold xTb
    rw [decide_eq_false (by omega),decide_eq_false (by omega)]; rfl
   simp [h2,ht]
theorem wf (low high lo hi:Int):nL low high lo hi=mn lo low:=by
 unfold nL tL mn
 cases decide (high>tH low lo hi) <;> rfl
theorem wg (low high lo hi:Int):nH low high lo hi=mx hi high:=by
 unfold nH tH mx
 cases decide (low<lo) <;> rfl
theorem pc (a b:Int):mn a b<=a/\mn a b<=b/\(mn a b=a\/mn a b=b):=by
 unfold mn
 by_cases h:b<a <;> simp [h] <;> omega
theorem kH (a b:Int):a<=mx a b/\b<=mx a b/\(mx a b=a\/mx a b=b):=by
 unfold mx
 by_cases h:a<b <;> simp [h] <;> omega
theorem Jp (n d:Int) (hd:0<d):rd n d false<=rd n d true:=by
 unfold rd
 simp only [cond_true,cond_false]
 have h1:=Int.mul_ediv_add_emod n d
 have h2:=Int.emod_nonneg n (show d≠0 by omega)
 have h3:=Int.emod_lt_of_pos n hd
 have:=o8 (p:=n) hd
 rw [this]; split <;> omega
theorem AI (V E F:Int->Int->Bool->Int) (a b c d:Int) (hF:∀ x y,(x=a\/x=b)->(y=c\/y=d)->F x y false<=F x y true)
  (hE:∀ x y,(x=a\/x=b)->(y=c\/y=d)->(nW E x y=!(okF (F x y false)&&okF (F x y true))/\(nW E x y=false->V x y false=F x y false/\V x y true=F x y true))):
  (⟨bL V E a b c d,bH V E a b c d,bE V E a b c d⟩:Sp)=m6 F a b c d:=by
 obtain ⟨e1,v1⟩:=hE a c (.inl rfl) (.inl rfl)
 obtain ⟨e2,v2⟩:=hE a d (.inl rfl) (.inr rfl)
 obtain ⟨e3,v3⟩:=hE b c (.inr rfl) (.inl rfl)
 obtain ⟨e4,v4⟩:=hE b d (.inr rfl) (.inr rfl)
 have f1:=hF a c (.inl rfl) (.inl rfl)
 have f2:=hF a d (.inl rfl) (.inr rfl)
 have f3:=hF b c (.inr rfl) (.inl rfl)
 have f4:=hF b d (.inr rfl) (.inr rfl)
 unfold bL bH bE
 cases hk:ok4 E a b c d with
 | false=>
  have:(okF (mn (mn (mn (F a c false) (F a d false)) (F b c false)) (F b d false))&&okF (mx (mx (mx (F a c true) (F a d true)) (F b c true)) (F b d true)))=false:=by
   cases hh:okF (mn (mn (mn (F a c false) (F a d false)) (F b c false)) (F b d false))&&okF (mx (mx (mx (F a c true) (F a d true)) (F b c true)) (F b d true)) with
   | false=>rfl
   | true=>
    simp only [Bool.and_eq_true,bM] at hh
    have m1:=pc (F a c false) (F a d false); have m2:=pc (mn (F a c false) (F a d false)) (F b c false); have m3:=pc (mn (mn (F a c false) (F a d false)) (F b c false)) (F b d false)
    have n1:=kH (F a c true) (F a d true); have n2:=kH (mx (F a c true) (F a d true)) (F b c true); have n3:=kH (mx (mx (F a c true) (F a d true)) (F b c true)) (F b d true)
    have g:∀ x y,F x y false<=F x y true->-4503599627370496<=F x y false->F x y true<=4503599627370496->(okF (F x y false)&&okF (F x y true))=true:=by
     intro x y k1 k2 k3
     rw [Bool.and_eq_true,bM,bM]; omega
    unfold ok4 at hk
    rw [e1,e2,e3,e4,g a c f1 (by omega) (by omega),g a d f2 (by omega) (by omega),g b c f3 (by omega) (by omega),g b d f4 (by omega) (by omega)] at hk
    cases hk
  unfold m6 fB
  rw [this]; rfl
 | true=>
  unfold ok4 at hk
  simp only [Bool.and_eq_true,Bool.not_eq_true'] at hk
  obtain ⟨⟨k1,k2⟩,k3,k4⟩:=hk
  obtain ⟨a1,a2⟩:=v1 k1; obtain ⟨b1,b2⟩:=v2 k2; obtain ⟨c1,c2⟩:=v3 k3; obtain ⟨d1,d2⟩:=v4 k4
  have el:l3 V a b c d=mn (mn (mn (F a c false) (F a d false)) (F b c false)) (F b d false):=by
   unfold l3 l2 l1; rw [wf,wf,wf,a1,b1,c1,d1]
  have eh:h3 V a b c d=mx (mx (mx (F a c true) (F a d true)) (F b c true)) (F b d true):=by
   unfold h3 h2 h1; rw [wg,wg,wg,a2,b2,c2,d2]
  rw [el,eh]
  have m1:=pc (F a c false) (F a d false); have m2:=pc (mn (F a c false) (F a d false)) (F b c false); have m3:=pc (mn (mn (F a c false) (F a d false)) (F b c false)) (F b d false)
  have n1:=kH (F a c true) (F a d true); have n2:=kH (mx (F a c true) (F a d true)) (F b c true); have n3:=kH (mx (mx (F a c true) (F a d true)) (F b c true)) (F b d true)
  rw [xL (by omega)]
  unfold m6 fB
  simp only [cond_true]
  cases okF (mn (mn (mn (F a c false) (F a d false)) (F b c false)) (F b d false))&&okF (mx (mx (mx (F a c true) (F a d true)) (F b c true)) (F b d true)) <;> rfl
theorem pe {e f:Int->Int->Bool->Int} {F:Int->Int->Bool->Int} {x y:Int} (h:(e x y false=0/\e x y true=0) ↔ (eq (F x y false)=0/\eq (F x y true)=0)):nW e x y=!(okF (F x y false)&&okF (F x y true)):=by
 unfold nW
 rcases uA (F x y false) with ⟨p1,p2,_⟩|⟨p1,p2,_⟩ <;> rcases uA (F x y true) with ⟨q1,q2,_⟩|⟨q1,q2,_⟩ <;> rw [p1,q1] at h <;> rw [p2,q2]
 .have:=h.2 ⟨rfl,rfl⟩; simp [this.1,this.2]
 all_goals
  simp only [Bool.and_true,Bool.and_false,Bool.not_false,Bool.false_and]
  by_cases h0:e x y false=0
  .by_cases h1:e x y true=0
   .have:=h.1 ⟨h0,h1⟩; omega
   .simp [h0,h1]
  .simp [h0]
theorem CB {x y:Int} (hx:okF x=true) (hy:okF y=true):nW jF x y=!(okF (mF x y false)&&okF (mF x y true))/\(nW jF x y=false->lL x y false=mF x y false/\lL x y true=mF x y true):=by
 obtain ⟨a1,a2,a3⟩:=uz hx
 obtain ⟨b1,b2,b3⟩:=uz hy
 have hb:sg x x*sg y y<=4503599627370496*4503599627370496:=Int.mul_le_mul a3 b3 b2 (by decide)
 obtain ⟨p1,p2⟩:=Jc (p:=sg x x*sg y y) (d:=4294967296) (Int.mul_nonneg a2 b2) (by omega) (by decide) (by decide) (jE x y) (x*y) (AA x y)
 have e0:Az x y=0:=by rw [ED,hx,hy]; rfl
 have eE:∀ up,jF x y up=xE (sg x x*sg y y) 4294967296 up (jE x y):=fun up=>by unfold jF; rw [e0,a1,b1]; rfl
 have eV:∀ up,lL x y up=xV (sg x x*sg y y) 4294967296 up (jE x y):=fun up=>by unfold lL; rw [e0,a1,b1]; rfl
 have key:=pe (e:=jF) (f:=jF) (F:=mF) (x:=x) (y:=y) (by rw [eE,eE]; exact p1)
 refine ⟨key,fun h=>?_⟩
 rw [key] at h
 simp only [Bool.not_eq_false',Bool.and_eq_true] at h
 rw [eV,eV]
 refine p2 ?_ ?_
 .unfold eq; rw [show rd (x*y) 4294967296 false=mF x y false from rfl,h.1]; rfl
 .unfold eq; rw [show rd (x*y) 4294967296 true=mF x y true from rfl,h.2]; rfl
theorem mD {a b:Int} (h:aZ a b=true):okF a=true/\okF b=true:=by
 have:=bQ.1 h
 exact ⟨bM.2 (by omega),bM.2 (by omega)⟩
theorem Jq (a b c d:Int):Jm a b c d=cA a b c d:=by
 unfold Jm cA kJ
 rw [AH]
 cases h1:aZ a b with
 | false=>simp [err]
 | true=>
  cases h2:aZ c d with
  | false=>simp [err]
  | true=>
   obtain ⟨ha,hb⟩:=mD h1
   obtain ⟨hc,hd⟩:=mD h2
   rw [<- AI lL jF mF a b c d (fun x y _ _=>Jp _ _ (by decide)) fun x y hx hy=>CB (by rcases hx with rfl|rfl <;> assumption) (by rcases hy with rfl|rfl <;> assumption)]
   rfl
def pwS (v:Int):Int:=IntKind.u64.wrap (if IntKind.i64.wrap (0 - v)>v then IntKind.i64.wrap (0 - v) else v)
def pw2 (v:Int):Int:=1*pwS v
def pw3 (v:Int):Int:=pw2 v % two64
def pw4 (v:Int):Int:=pw3 v+0+0
def pw5 (v:Int):Int:=pw4 v % 18446744073709551616
def pw6 (v:Int):Int:=pw5 v*pwS v
def pw7 (v:Int):Int:=pw6 v % two64
def pw8 (v:Int):Int:=IntKind.u64.wrap (pw2 v / two64+pw4 v / 18446744073709551616)
def pw9 (v:Int):Int:=pw8 v*pwS v
def Ok (v:Int):Int:=pw9 v % two64
def Ol (v:Int):Int:=pw7 v+0+0
def Om (v:Int):Int:=IntKind.u64.wrap (pw6 v / two64+Ol v / 18446744073709551616)
def On (v:Int):Int:=Ok v+Om v+0
def Oo (v:Int):Int:=On v % 18446744073709551616
def Oq:Int:=2 ^ min (Int.ofNat 32).toNat IntKind.u64.bits
def Gv (v:Int):Bool:=decide ((Oo v).fdiv Oq>0)
def TQ (v:Int):Int:=IntKind.u64.wrap (pw9 v / two64+On v / 18446744073709551616)
def Jr (v:Int):Bool:=decide (TQ v>0)
def Ot (v:Int):Int:=Ol v % 18446744073709551616
def CC (v:Int):Int:=bif Gv v then 0 else bif Jr v then 0 else
 IntKind.u64.wrap ↑(BitVec.ofInt IntKind.u64.bits ((Ot v).fdiv Oq) ||| BitVec.ofInt IntKind.u64.bits (IntKind.u64.wrap (Oo v*Oq))).toNat
def TR (v:Int):Int:=IntKind.u64.wrap ↑(BitVec.ofInt IntKind.u64.bits (Ot v) &&& BitVec.ofInt IntKind.u64.bits 4294967295).toNat
def rF (v:Int):Bool:=bif !(bif Gv v then false else bif Jr v then false else true) then true else decide (CC v>4503599627370496)
def pwD (v:Int):Int:=bif rF v then 0 else IntKind.i64.wrap (CC v)
def pwU (v:Int):Int:=bif rF v then 0 else bif bif Gv v then false else bif Jr v then false else decide (TR v>0) then IntKind.i64.wrap (IntKind.i64.wrap (CC v)+1) else IntKind.i64.wrap (CC v)
def pwE (v:Int):Int:=bif rF v then 6 else 0
def Ou (x y:Int):Prop:=decide (0<=x/\0<=y/\(0:Int)<=0/\(0:Int)<=1)=true
def pwN (v:Int):Prop:=(xIn 1 (pwS v)/\Ou (pw3 v) 0)/\(xIn (pw5 v) (pwS v)/\Ou (pw7 v) 0)/\xIn (pw8 v) (pwS v)/\Ou (Ok v) (Om v)
def sqD (v:Int):Int:=bif decide (v*v / 4294967296>4503599627370496) then 0 else rd (v*v) 4294967296 false
def sqU (v:Int):Int:=bif decide (v*v / 4294967296>4503599627370496) then 0 else rd (v*v) 4294967296 true
def sqE (v:Int):Int:=bif decide (v*v / 4294967296>4503599627370496) then 6 else 0
theorem TS {v:Int} (h:okF v=true):pwS v=sg v v:=by
 have h:=bM.1 h
 unfold pwS
 rw [i64w (n:=0 - v) (by omega) (by omega)]
 rcases uy v with ⟨h1,e⟩|⟨h1,e⟩ <;> rw [e] <;> split <;> rw [fQ (by omega) (by omega)] <;> omega
theorem Ye (n:Nat) (h:n<18446744073709551616):IntKind.u64.wrap ↑(BitVec.ofInt IntKind.u64.bits (n:Int) &&& BitVec.ofInt IntKind.u64.bits 4294967295).toNat=((n % 4294967296:Nat):Int):=Go.Eng.dLow_eq n h
theorem TU {v:Int} (h:okF v=true):pwD v=sqD v/\pwU v=sqU v/\pwE v=sqE v/\pwN v:=by
 obtain ⟨_,s1,s2⟩:=uz h
 have e1:=TS h
 have es:v*v=sg v v*sg v v:=by
  rcases uy v with ⟨_,e⟩|⟨_,e⟩ <;> rw [e]
  rw [Int.neg_mul,Int.mul_neg,Int.neg_neg]
 have hq:sg v v*sg v v<=4503599627370496*4503599627370496:=Int.mul_le_mul s2 s2 s1 (by decide)
 have hq0:0<=sg v v*sg v v:=Int.mul_nonneg s1 s1
 have q2:pw2 v=sg v v:=by unfold pw2; rw [e1]; omega
 have q3:pw3 v=sg v v:=by unfold pw3 two64; rw [q2]; omega
 have q4:pw4 v=sg v v:=by unfold pw4; rw [q3]; omega
 have q5:pw5 v=sg v v:=by unfold pw5; rw [q4]; omega
 have q6:pw6 v=sg v v*sg v v:=by unfold pw6; rw [q5,e1]
 have q8:pw8 v=0:=by unfold pw8 two64; rw [q2,q4,fQ] <;> omega
 have q9:pw9 v=0:=by unfold pw9; rw [q8]; omega
 have q10:Ok v=0:=by unfold Ok two64; rw [q9]; rfl
 generalize hP:sg v v*sg v v=P at *
 have q7:pw7 v=P % 18446744073709551616:=by unfold pw7 two64; rw [q6]
 have q11:Ol v=P % 18446744073709551616:=by unfold Ol; rw [q7]; omega
 have q12:Om v=P / 18446744073709551616:=by unfold Om two64; rw [q6,q11,fQ] <;> omega
 have q13:On v=P / 18446744073709551616:=by unfold On; rw [q10,q12]; omega
 have q14:Oo v=P / 18446744073709551616:=by unfold Oo; rw [q13]; omega
 have q15:Oq=4294967296:=by decide
 have q16:Gv v=decide (4294967296<=P / 18446744073709551616):=by
  unfold Gv
  rw [q14,q15,Int.fdiv_eq_ediv_of_nonneg _ (by decide)]
  rw [Bool.eq_iff_iff]; simp only [decide_eq_true_eq]; omega
 have q17:TQ v=0:=by unfold TQ two64; rw [q9,q13,fQ] <;> omega
 have q18:Jr v=false:=by unfold Jr; rw [q17]; rfl
 have q19:Ot v=P % 18446744073709551616:=by unfold Ot; rw [q11]; omega
 have nd:pwN v:=by
  unfold pwN
  rw [e1,q3,q5,q7,q8,q10,q12]
  refine ⟨⟨nR (by omega) (by omega) (by omega) (by omega),?_⟩,⟨nR (by omega) (by omega) (by omega) (by omega),?_⟩,nR (by omega) (by omega) (by omega) (by omega),?_⟩ <;> unfold Ou <;> rw [decide_eq_true_eq] <;> omega
 have e21:TR v=P % 4294967296:=by
  unfold TR
  rw [q19]
  obtain ⟨n,hn⟩:=Int.eq_ofNat_of_zero_le (show 0<=P % 18446744073709551616 by omega)
  rw [hn,Ye n (by omega)]
  omega
 have big:rF v=decide (v*v / 4294967296>4503599627370496)/\(rF v=false->CC v=P / 4294967296/\Gv v=false):=by
  unfold rF
  rw [q18,q16]
  by_cases hb:4294967296<=P / 18446744073709551616
  .refine ⟨?_,fun h=>by simp [hb] at h⟩
   rw [es]
   simp [hb]; omega
  .have hor:CC v=P / 4294967296:=by
    unfold CC
    rw [q16,q18,q19,q14,q15,decide_eq_false hb]
    simp only [cond_false]
    rw [Int.fdiv_eq_ediv_of_nonneg _ (by decide),fQ (n:=P / 18446744073709551616*4294967296) (by omega) (by omega)]
    obtain ⟨n,hn⟩:=Int.eq_ofNat_of_zero_le (show 0<=P % 18446744073709551616 / 4294967296 by omega)
    obtain ⟨m,hm⟩:=Int.eq_ofNat_of_zero_le (show 0<=P / 18446744073709551616 by omega)
    rw [hn,hm,show (m:Int)*4294967296=((m*4294967296:Nat):Int) by omega,Go.Eng.dOr_eq _ _ (by omega) (by omega)]
    have:n ||| m*4294967296=m*4294967296+n:=by
     rw [Nat.or_comm,Nat.mul_comm]
     exact (Nat.two_pow_add_eq_or_of_lt (i:=32) (show n<2 ^ 32 by omega) m).symm
    rw [this]
    omega
   rw [hor,decide_eq_false hb,es]
   exact ⟨rfl,fun _=>⟨rfl,rfl⟩⟩
 obtain ⟨b1,b2⟩:=big
 refine ⟨?_,?_,?_,nd⟩
 .unfold pwD sqD
  cases hb:rF v with
  | true=>rw [<- b1,hb]; rfl
  | false=>
   rw [<- b1,hb,(b2 hb).1,es]
   rw [hb] at b1
   have b1:=of_decide_eq_false b1.symm
   rw [es] at b1
   simp only [cond_false]
   rw [i64w (by omega) (by omega)]; rfl
 .unfold pwU sqU
  cases hb:rF v with
  | true=>rw [<- b1,hb]; rfl
  | false=>
   obtain ⟨b3,b4⟩:=b2 hb
   rw [<- b1,hb,b3,b4,q18,e21,es]
   rw [hb] at b1
   have b1:=of_decide_eq_false b1.symm
   rw [es] at b1
   simp only [cond_false]
   rw [i64w (n:=P / 4294967296) (by omega) (by omega),i64w (n:=P / 4294967296+1) (by omega) (by omega)]
   unfold rd
   simp only [cond_true]
   by_cases hr:P % 4294967296>0
   .rw [decide_eq_true hr]; simp only [cond_true]; omega
   .rw [decide_eq_false hr]; simp only [cond_false]; omega
 .unfold pwE sqE; rw [b1]
def xaM (a b:Int):Int:=if IntKind.i64.wrap (0 - b)>a then IntKind.i64.wrap (0 - b) else a
def Js (a b:Int):Int:=if 0>xaM a b then 0 else xaM a b
def Jt (a b:Int):Int:=if IntKind.i64.wrap (0 - a)>b then IntKind.i64.wrap (0 - a) else b
def xaL (a b:Int):Int:=bif xCS a b != 0 then 0 else bif xTb (Js a b) (Jt a b) then 0 else Js a b
def xaH (a b:Int):Int:=bif xCS a b != 0 then 0 else bif xTb (Js a b) (Jt a b) then 0 else Jt a b
def xM (a b:Int):Bool:=bif sqE (xaL a b) != 0 then true else sqE (xaH a b) != 0
def Ju (a b:Int):Sp:=
 ⟨bif xCS a b != 0 then 0 else bif xM a b then 0 else bif xTb (sqD (xaL a b)) (sqU (xaH a b)) then 0 else sqD (xaL a b),
  bif xCS a b != 0 then 0 else bif xM a b then 0 else bif xTb (sqD (xaL a b)) (sqU (xaH a b)) then 0 else sqU (xaH a b),
  bif xCS a b != 0 then xCS a b else bif xM a b then 6 else bif xTb (sqD (xaL a b)) (sqU (xaH a b)) then 6 else 0⟩
def SM (a b:Int):Prop:=(!(xCS a b != 0))=true->okF (xaL a b)=true/\okF (xaH a b)=true
theorem SN {a b:Int} (h:aZ a b=true):xaL a b=abL a b/\xaH a b=abH a b/\0<=abL a b/\abL a b<=abH a b/\abH a b<=4503599627370496:=by
 have k:=bQ.1 h
 have l0:Js a b=abL a b:=by
  unfold Js xaM abL mx
  rw [i64w (by omega) (by omega)]
  by_cases h1:a < -b
  .rw [if_pos (show 0 - b>a by omega),decide_eq_true h1]
   simp only [cond_true]
   by_cases h2:-b<0
   .rw [if_pos (by omega),decide_eq_true h2]; rfl
   .rw [if_neg (by omega),decide_eq_false h2]; simp only [cond_false]; omega
  .rw [if_neg (show ¬ 0 - b>a by omega),decide_eq_false h1]
   simp only [cond_false]
   by_cases h2:a<0
   .rw [if_pos (by omega),decide_eq_true h2]; rfl
   .rw [if_neg (by omega),decide_eq_false h2]; rfl
 have h0:Jt a b=abH a b:=by
  unfold Jt abH mx
  rw [i64w (by omega) (by omega)]
  by_cases h1:b < -a
  .rw [if_pos (show 0 - a>b by omega),decide_eq_true h1]; simp only [cond_true]; omega
  .rw [if_neg (show ¬ 0 - a>b by omega),decide_eq_false h1]; rfl
 have bl:0<=abL a b/\abL a b<=abH a b/\abH a b<=4503599627370496:=by
  unfold abL abH
  have m1:=kH a (-b); have m2:=kH (mx a (-b)) 0; have m3:=kH b (-a)
  omega
 have ht:xTb (abL a b) (abH a b)=false:=by
  unfold xTb; rw [decide_eq_false (by omega),decide_eq_false (by omega)]; rfl
 unfold xaL xaH
 rw [l0,h0,ht,lM,h]
 exact ⟨rfl,rfl,bl⟩
theorem Gw (a b:Int):SM a b:=by
 intro h
 rw [lM] at h
 cases k:aZ a b with
 | false=>rw [k] at h; cases h
 | true=>
  obtain ⟨e1,e2,b1,b2,b3⟩:=SN k
  rw [e1,e2,bM,bM]; omega
theorem Jv (a b:Int):Ju a b=Oj a b:=by
 unfold Ju Oj
 rw [lM]
 cases h:aZ a b with
 | false=>simp [err]
 | true=>
  obtain ⟨e1,e2,b1,b2,b3⟩:=SN h
  unfold xM
  rw [e1,e2]
  have q:abL a b*abL a b<=abH a b*abH a b:=Int.mul_le_mul b2 b2 b1 (by omega)
  have q0:0<=abL a b*abL a b:=Int.mul_nonneg b1 b1
  unfold sqE sqD sqU fB
  generalize hP:abL a b*abL a b=P at *
  generalize hQ:abH a b*abH a b=Q at *
  have u1:rd P 4294967296 false=P / 4294967296:=rfl
  have u2:rd Q 4294967296 true=Q / 4294967296+(if 0<Q % 4294967296 then 1 else 0):=by
   unfold rd; simp only [cond_true]; rw [o8 (by decide)]; omega
  have okl:okF (rd P 4294967296 false)=!decide (P / 4294967296>4503599627370496):=by
   rw [u1]; unfold okF
   rw [decide_eq_true (show (-4503599627370496:Int)<=P / 4294967296 by omega),Bool.true_and,Bool.eq_iff_iff]
   simp only [decide_eq_true_eq,Bool.not_eq_true',decide_eq_false_iff_not]; omega
  cases hp:decide (P / 4294967296>4503599627370496) with
  | true=>rw [okl,hp]; simp [err]
  | false=>
   have hp':=of_decide_eq_false hp
   cases hq:decide (Q / 4294967296>4503599627370496) with
   | true=>
    have hq':=of_decide_eq_true hq
    have:okF (rd Q 4294967296 true)=false:=by rw [gB,u2]; split <;> omega
    rw [this]; simp [err]
   | false=>
    have hq':=of_decide_eq_false hq
    simp only [cond_false,cond_true,bne_self_eq_false]
    rw [xL (by rw [u1,u2]; split <;> omega)]
    cases okF (rd P 4294967296 false)&&okF (rd Q 4294967296 true) <;> simp [err]
end Go.Ar
namespace Go.Ar
open Go Go.Eng
theorem Ov {p d:Int} (hd:0<d) (up neg:Bool):rd (bif neg then -p else p) d up=bif neg then -(p / d+(if (!(up==neg))=true/\0<p % d then 1 else 0)) else p / d+(if (!(up==neg))=true/\0<p % d then 1 else 0):=by
 unfold rd
 cases neg <;> cases up <;> simp [o8 hd] <;> split <;> omega
theorem Ow {k:Int} (h0:0<=k) (h1:k<=9223372036854775807) (neg:Bool) (v:Int) (hv:v=bif neg then -k else k):
  (bif decide (k>4503599627370496) then 0 else bif neg then IntKind.i64.wrap (0 - IntKind.i64.wrap k) else IntKind.i64.wrap k)=bR v/\(bif decide (k>4503599627370496) then false else true)=okF v:=by
 subst hv
 by_cases hb:k>4503599627370496
 .have hf:okF (bif neg then -k else k)=false:=by
   rw [gB]; cases neg <;> simp <;> omega
  simp [hb,bR,hf]
 .have hf:okF (bif neg then -k else k)=true:=by
   rw [bM]; cases neg <;> simp <;> omega
  simp only [hb,decide_false,cond_false,bR,hf,cond_true]
  refine ⟨?_,trivial⟩
  rw [i64w (n:=k) (by omega) (by omega),i64w (n:=0 - k) (by omega) (by omega)]
  cases neg <;> simp
def rmA (x:Int):Int:=IntKind.u64.wrap (x.tdiv 67108864)
def rmL (x:Int):Int:=x.tmod 67108864
def rmH (x y:Int):Int:=IntKind.u64.wrap (rmA x*rmA y)
def rmM (x y:Int):Int:=IntKind.u64.wrap (IntKind.u64.wrap (rmA x*rmL y)+IntKind.u64.wrap (rmL x*rmA y))
def rmR (x y:Int):Int:=IntKind.u64.wrap (IntKind.u64.wrap ((rmM x y).tmod 64*67108864)+IntKind.u64.wrap (rmL x*rmL y))
def rmN (x y:Int):Int:=IntKind.u64.wrap (IntKind.u64.wrap (IntKind.u64.wrap (rmH x y*1048576)+IntKind.u64.wrap ((rmM x y).tdiv 64))+IntKind.u64.wrap ((rmR x y).tdiv 4294967296))
def rmK (x y:Int) (up neg:Bool):Int:=bif bif decide ((rmR x y).tmod 4294967296>0) then !(up==neg) else false then IntKind.u64.wrap (rmN x y+1) else rmN x y
def EJ (a b:Int) (up:Bool):Int:=bif decide (rmH (xSz a) (xSz b)>=8589934592) then 0 else bif decide (rmK (xSz a) (xSz b) up (jE a b)>4503599627370496) then 0 else
 bif jE a b then IntKind.i64.wrap (0 - IntKind.i64.wrap (rmK (xSz a) (xSz b) up (jE a b))) else IntKind.i64.wrap (rmK (xSz a) (xSz b) up (jE a b))
def EK (a b:Int) (up:Bool):Bool:=bif decide (rmH (xSz a) (xSz b)>=8589934592) then false else bif decide (rmK (xSz a) (xSz b) up (jE a b)>4503599627370496) then false else true
theorem AJ {a b:Int} (ha:okF a=true) (hb:okF b=true) (up:Bool):EJ a b up=bR (mF a b up)/\EK a b up=okF (mF a b up):=by
 obtain ⟨a1,a2,a3⟩:=uz ha
 obtain ⟨b1,b2,b3⟩:=uz hb
 have hs:=AA a b
 unfold EJ EK mF
 rw [a1,b1]
 generalize sg a a=x at *
 generalize sg b b=y at *
 have tx:x.tdiv 67108864=x / 67108864:=Int.tdiv_eq_ediv_of_nonneg a2
 have ty:y.tdiv 67108864=y / 67108864:=Int.tdiv_eq_ediv_of_nonneg b2
 have mx':x.tmod 67108864=x % 67108864:=Int.tmod_eq_emod_of_nonneg a2
 have my':y.tmod 67108864=y % 67108864:=Int.tmod_eq_emod_of_nonneg b2
 obtain ⟨xh,hxh⟩:∃ xh,xh=x / 67108864:=⟨_,rfl⟩
 obtain ⟨xl,hxl⟩:∃ xl,xl=x % 67108864:=⟨_,rfl⟩
 obtain ⟨yh,hyh⟩:∃ yh,yh=y / 67108864:=⟨_,rfl⟩
 obtain ⟨yl,hyl⟩:∃ yl,yl=y % 67108864:=⟨_,rfl⟩
 have eAx:rmA x=xh:=by unfold rmA; rw [tx,fQ (by omega) (by omega)]; exact hxh.symm
 have eAy:rmA y=yh:=by unfold rmA; rw [ty,fQ (by omega) (by omega)]; exact hyh.symm
 have eLx:rmL x=xl:=by unfold rmL; rw [mx']; exact hxl.symm
 have eLy:rmL y=yl:=by unfold rmL; rw [my']; exact hyl.symm
 have bx:0<=xh/\xh<=67108864:=by omega
 have by':0<=yh/\yh<=67108864:=by omega
 have bxl:0<=xl/\xl<=67108863:=by omega
 have byl:0<=yl/\yl<=67108863:=by omega
 have p1:xh*yh<=67108864*67108864:=Int.mul_le_mul bx.2 by'.2 by'.1 (by decide)
 have p2:xh*yl<=67108864*67108863:=Int.mul_le_mul bx.2 byl.2 byl.1 (by decide)
 have p3:xl*yh<=67108863*67108864:=Int.mul_le_mul bxl.2 by'.2 by'.1 (by decide)
 have p4:xl*yl<=67108863*67108863:=Int.mul_le_mul bxl.2 byl.2 byl.1 (by decide)
 have z1:0<=xh*yh:=Int.mul_nonneg bx.1 by'.1
 have z2:0<=xh*yl:=Int.mul_nonneg bx.1 byl.1
 have z3:0<=xl*yh:=Int.mul_nonneg bxl.1 by'.1
 have z4:0<=xl*yl:=Int.mul_nonneg bxl.1 byl.1
 have hP:x*y=xh*yh*4503599627370496+(xh*yl+xl*yh)*67108864+xl*yl:=by
  have ex:x=xh*67108864+xl:=by omega
  have ey:y=yh*67108864+yl:=by omega
  rw [ex,ey,Int.add_mul,Int.mul_add,Int.mul_add]
  have c1:xh*67108864*(yh*67108864)=xh*yh*4503599627370496:=by
   rw [Int.mul_assoc,Int.mul_left_comm 67108864 yh,<- Int.mul_assoc]
   rfl
  have c2:xh*67108864*yl=xh*yl*67108864:=by rw [Int.mul_assoc,Int.mul_comm 67108864 yl,<- Int.mul_assoc]
  have c3:xl*(yh*67108864)=xl*yh*67108864:=by rw [Int.mul_assoc]
  rw [c1,c2,c3,Int.add_mul]
  omega
 have eH:rmH x y=xh*yh:=by unfold rmH; rw [eAx,eAy,fQ (by omega) (by omega)]
 have eM:rmM x y=xh*yl+xl*yh:=by
  unfold rmM; rw [eAx,eAy,eLx,eLy,fQ (n:=xh*yl) (by omega) (by omega),fQ (n:=xl*yh) (by omega) (by omega),fQ (by omega) (by omega)]
 obtain ⟨hi,hhi⟩:∃ hi,hi=xh*yh:=⟨_,rfl⟩
 obtain ⟨mid,hmid⟩:∃ mid,mid=xh*yl+xl*yh:=⟨_,rfl⟩
 obtain ⟨low,hlow⟩:∃ low,low=xl*yl:=⟨_,rfl⟩
 rw [<- hhi,<- hmid,<- hlow] at hP
 rw [<- hhi] at eH p1 z1
 rw [<- hmid] at eM
 have bm:0<=mid/\mid<=67108864*67108863+67108863*67108864:=by omega
 have bl:0<=low/\low<=67108863*67108863:=by omega
 have eR:rmR x y=mid % 64*67108864+low:=by
  unfold rmR
  rw [eM,eLx,eLy,<- hlow,Int.tmod_eq_emod_of_nonneg bm.1,fQ (n:=mid % 64*67108864) (by omega) (by omega),fQ (n:=low) (by omega) (by omega),fQ (by omega) (by omega)]
 obtain ⟨left,hleft⟩:∃ left,left=mid % 64*67108864+low:=⟨_,rfl⟩
 rw [<- hleft] at eR
 have bleft:0<=left/\left<9007199254740992:=by omega
 have hp0:0<=x*y:=by omega
 have hdiv:x*y / 4294967296=hi*1048576+mid / 64+left / 4294967296:=by omega
 have hmod:x*y % 4294967296=left % 4294967296:=by omega
 have rv:=Ov (p:=x*y) (d:=4294967296) (by decide) up (jE a b)
 rw [<- hs] at rv
 rw [eH]
 by_cases hbig:hi>=8589934592
 .have hf:okF (rd (a*b) 4294967296 up)=false:=by
   rw [gB,rv,hdiv]
   cases jE a b <;> simp <;> split <;> omega
  rw [decide_eq_true hbig]
  simp [bR,hf]
 .rw [decide_eq_false hbig]
  simp only [cond_false]
  have eN:rmN x y=hi*1048576+mid / 64+left / 4294967296:=by
   unfold rmN
   rw [eH,eM,eR,Int.tdiv_eq_ediv_of_nonneg bm.1,Int.tdiv_eq_ediv_of_nonneg bleft.1]
   rw [fQ (n:=hi*1048576) (by omega) (by omega),fQ (n:=mid / 64) (by omega) (by omega),fQ (n:=left / 4294967296) (by omega) (by omega),fQ (n:=hi*1048576+mid / 64) (by omega) (by omega),fQ (by omega) (by omega)]
  have hk:rmK x y up (jE a b)=x*y / 4294967296+(if (!(up==jE a b))=true/\0<x*y % 4294967296 then 1 else 0):=by
   unfold rmK
   rw [eN,eR,hdiv,hmod,Int.tmod_eq_emod_of_nonneg bleft.1]
   cases hu:!(up==jE a b) with
   | false=>cases decide (left % 4294967296>0) <;> simp
   | true=>
    by_cases hr:left % 4294967296>0
    .rw [decide_eq_true hr]
     simp only [cond_true,true_and]
     rw [if_pos (by omega),fQ (by omega) (by omega)]
    .rw [decide_eq_false hr]
     simp only [cond_false,true_and]
     rw [if_neg (by omega)]; omega
  have hb:0<=rmK x y up (jE a b)/\rmK x y up (jE a b)<=9223372036854775807:=by rw [hk,hdiv]; split <;> omega
  exact Ow hb.1 hb.2 (jE a b) _ (by rw [rv,hk])
def rRt (x:Int):Bool:=bif decide (x>=-4503599627370496) then decide (x<=4503599627370496) else false
theorem Jw (x:Int):rRt x=okF x:=by
 unfold rRt okF
 by_cases h:x>=-4503599627370496
 .rw [decide_eq_true h]; rfl
 .rw [decide_eq_false h]; rfl
end Go.Ar
namespace Go.Ar
open Go Go.Eng
noncomputable section
def shS:Sh:=.a [.i .i64,.i .i64]
def qv (s:Sp):Tm:=.u [.a [.n .i64 s.lo,.n .i64 s.hi],.n .i64 s.e]
def AK (F:Int->Int->Int->Int->Sp):aK:=a8 [shS,shS] none fun
 | [.n a,.n b,.n c,.n d]=>qv (F a b c d)
 | _=>.u []
def sUn (F:Int->Int->Sp):aK:=a8 [shS] none fun
 | [.n a,.n b]=>qv (F a b)
 | _=>.u []
def Yf (a b:Int):Int:=bif aZ a b then 0 else 20
def abw:aK:=a8 [shS] none fun
 | [.n a,.n b]=>.n .i64 (Yf a b)
 | _=>.u []
def Yg:aK:=a8 [.i .i64,.c (.int false .i64 2)] (some fun
 | [.n v]=>okF v
 | _=>false) fun
 | [.n v]=>.u [.n .i64 (sqD v),.n .i64 (sqU v),.n .i64 (sqE v)]
 | _=>.u []
def EM (up:Bool):aK:=a8 [.i .i64,.i .i64,.c (.bool false up)] (some fun
 | [.n a,.n b]=>okF a&&okF b
 | _=>false) fun
 | [.n a,.n b]=>.u [.n .i64 (bR (mF a b up)),.t (okF (mF a b up))]
 | _=>.u []
def orS (s t:aK):aK:=fun args=>match s args with
 | some x=>some x
 | none=>t args
theorem TV {P:Program} {f:FuncId} {s t:aK} (hs:PureOk P f s) (ht:PureOk P f t):PureOk P f (orS s t):=by
 refine ⟨hs.fn,fun args nd v e=>?_⟩
 unfold orS at e
 split at e
 .rename_i x hx
  cases e
  exact hs.run args nd v hx
 .exact ht.run args nd v e
end
end Go.Ar
namespace Go.Proofs.YtmnhhlnbfkfkaaaGreat.K
open Go Go.Eng Go.Ar
noncomputable section
theorem Ox (a b:Int):bb ((run c2 300).call 68 [.agg [.int true .i64 a,.int true .i64 b]] ⟨[],0,1⟩)=some (.tt,.int true .i64 (xCS a b)):=by kernel_rfl
theorem Oy (a b c d:Int):bb ((run c2 300).call 96 [.agg [.int true .i64 a,.int true .i64 b],.agg [.int true .i64 c,.int true .i64 d]] ⟨[],0,1⟩)=some (.tt,(qv (Jl a b c d)).av true):=by kernel_rfl
theorem Oz (a b c d:Int):bb ((run c2 300).call 110 [.agg [.int true .i64 a,.int true .i64 b],.agg [.int true .i64 c,.int true .i64 d]] ⟨[],0,1⟩)=some (.tt,(qv (Jm a b c d)).av true):=by kernel_rfl
theorem Jx (a b:Int):bb ((run c2 300).call 72 [.agg [.int true .i64 a,.int true .i64 b]] ⟨[],0,1⟩)=some (.tt,(qv (CA a b)).av true):=by kernel_rfl
theorem OA (v:Int):bb ((run c2 300).call 113 [.int true .i64 v,.int false .i64 2] ⟨[],0,1⟩)=some (.p (pwN v),.tuple [.int true .i64 (pwD v),.int true .i64 (pwU v),.int true .i64 (pwE v)]):=by kernel_rfl
theorem TW:PureOk Tryz.prog 113 Yg:=by
 refine bp (fun xs hk hN=>?_) ⟨_,Tryz.func113,rfl⟩
 obtain ⟨v,_,rfl,h1⟩:=kn hk; obtain rfl:=k0 h1
 obtain ⟨e1,e2,e3,hn⟩:=TU hN
 have:=OA v
 rw [e1,e2,e3] at this
 exact ⟨c2,300,_,wd,rfl,fun _=>rfl,rfl,this,hn⟩
noncomputable def Yh:List (FuncId×aK):=(113,Yg) :: Oi
theorem OB:fA Tryz.prog Yh:=fun x hx=>by
 rcases List.mem_cons.1 hx with rfl|hx
 .exact TW
 .exact EH x hx
noncomputable def c3:Ctx:=mkC Tryz.prog Yh ext
theorem Yi:CtxOk c3:=ct aM OB cB
theorem OC (a b:Int):bb ((run c3 300).call 71 [.agg [.int true .i64 a,.int true .i64 b]] ⟨[],0,1⟩)=some (.p (SM a b),(qv (Ju a b)).av true):=by kernel_rfl
theorem OD:PureOk Tryz.prog 68 abw:=by
 refine bp (fun xs hk _=>?_) ⟨_,Tryz.func68,rfl⟩
 obtain ⟨a,_,rfl,h1⟩:=kn hk; obtain ⟨b,_,rfl,h2⟩:=kn h1; obtain rfl:=k0 h2
 have:=Ox a b
 rw [lM] at this
 exact ⟨c2,300,_,wd,rfl,fun _=>rfl,rfl,this,trivial⟩
theorem OE:PureOk Tryz.prog 96 (AK nV):=by
 refine bp (fun xs hk _=>?_) ⟨_,Tryz.func96,rfl⟩
 obtain ⟨a,_,rfl,h1⟩:=kn hk; obtain ⟨b,_,rfl,h2⟩:=kn h1; obtain ⟨c,_,rfl,h3⟩:=kn h2; obtain ⟨d,_,rfl,h4⟩:=kn h3; obtain rfl:=k0 h4
 exact ⟨c2,300,_,wd,rfl,fun _=>rfl,rfl,(Oy a b c d).trans (by rw [Jo]),trivial⟩
theorem OF:PureOk Tryz.prog 110 (AK cA):=by
 refine bp (fun xs hk _=>?_) ⟨_,Tryz.func110,rfl⟩
 obtain ⟨a,_,rfl,h1⟩:=kn hk; obtain ⟨b,_,rfl,h2⟩:=kn h1; obtain ⟨c,_,rfl,h3⟩:=kn h2; obtain ⟨d,_,rfl,h4⟩:=kn h3; obtain rfl:=k0 h4
 exact ⟨c2,300,_,wd,rfl,fun _=>rfl,rfl,(Oz a b c d).trans (by rw [Jq]),trivial⟩
theorem Jy:PureOk Tryz.prog 72 (sUn EI):=by
 refine bp (fun xs hk _=>?_) ⟨_,Tryz.func72,rfl⟩
 obtain ⟨a,_,rfl,h1⟩:=kn hk; obtain ⟨b,_,rfl,h2⟩:=kn h1; obtain rfl:=k0 h2
 exact ⟨c2,300,_,wd,rfl,fun _=>rfl,rfl,(Jx a b).trans (by rw [Gu]),trivial⟩
theorem OG:PureOk Tryz.prog 71 (sUn Oj):=by
 refine bp (fun xs hk _=>?_) ⟨_,Tryz.func71,rfl⟩
 obtain ⟨a,_,rfl,h1⟩:=kn hk; obtain ⟨b,_,rfl,h2⟩:=kn h1; obtain rfl:=k0 h2
 exact ⟨c3,300,_,Yi,rfl,fun _=>rfl,rfl,(OC a b).trans (by rw [Jv]),Gw a b⟩
noncomputable def c0:Ctx:=mkC Tryz.prog [] ext
theorem Yj:CtxOk c0:=ct aM (fun _ h=>by cases h) cB
noncomputable def Yk:List (FuncId×aK):=[]
theorem OH:fA Tryz.prog Yk:=by
 intro x hx
 cases hx
noncomputable def c4:Ctx:=mkC Tryz.prog Yk ext
theorem SO:CtxOk c4:=ct aM OH cB
theorem Gx (a b:Int):bb ((run c4 300).call 88 [.int true .i64 a,.int true .i64 b,.bool false false] ⟨[],0,1⟩)=some (.tt,.tuple [.int true .i64 (EJ a b false),.bool true (EK a b false)]):=by kernel_rfl
theorem Gy (a b:Int):bb ((run c4 300).call 88 [.int true .i64 a,.int true .i64 b,.bool false true] ⟨[],0,1⟩)=some (.tt,.tuple [.int true .i64 (EJ a b true),.bool true (EK a b true)]):=by kernel_rfl
theorem Jz:PureOk Tryz.prog 88 (EM false):=by
 refine bp (fun xs hk hN=>?_) ⟨_,Tryz.func88,rfl⟩
 obtain ⟨a,_,rfl,h1⟩:=kn hk; obtain ⟨b,_,rfl,h2⟩:=kn h1; obtain rfl:=k0 h2
 have hN:(okF a&&okF b)=true:=hN
 simp only [Bool.and_eq_true] at hN
 obtain ⟨l1,l2⟩:=AJ hN.1 hN.2 false
 exact ⟨c4,300,_,SO,rfl,fun _=>rfl,rfl,(Gx a b).trans (by rw [l1,l2]; rfl),trivial⟩
theorem JA:PureOk Tryz.prog 88 (EM true):=by
 refine bp (fun xs hk hN=>?_) ⟨_,Tryz.func88,rfl⟩
 obtain ⟨a,_,rfl,h1⟩:=kn hk; obtain ⟨b,_,rfl,h2⟩:=kn h1; obtain rfl:=k0 h2
 have hN:(okF a&&okF b)=true:=hN
 simp only [Bool.and_eq_true] at hN
 obtain ⟨l1,l2⟩:=AJ hN.1 hN.2 true
 exact ⟨c4,300,_,SO,rfl,fun _=>rfl,rfl,(Gy a b).trans (by rw [l1,l2]; rfl),trivial⟩
noncomputable def TX:List (FuncId×aK):=[(88,orS (EM false) (EM true))]
theorem OI:fA Tryz.prog TX:=by
 intro x hx
 simp only [TX,List.mem_cons,List.not_mem_nil,or_false] at hx
 rcases hx with rfl
 .exact TV Jz JA
def ndD:Nat->Int->Prop
 | 0,v=>decide (v>0)=false
 | k+1,v=>decide (v>0)=true/\ndD k (IntKind.i64.wrap (v.tdiv 65536))
theorem nd0 {v:Int} (h:v=0):ndD 0 v:=by subst h; rfl
noncomputable def Yl:List (FuncId×aK):=TX
theorem OJ:fA Tryz.prog Yl:=OI
noncomputable def c6:Ctx:=mkC Tryz.prog Yl ext
theorem EN:CtxOk c6:=ct aM OJ cB
end
end Go.Proofs.YtmnhhlnbfkfkaaaGreat.K
namespace Go.Ar
open Go Go.Eng
def rR (a b:Int):Bool:=bif rRt a then (bif rRt b then decide (a<=b) else false) else false
def rG (a b c d:Int):Bool:=bif !rR a b then true else !rR c d
def JB (g:Bool) (bad:Bool) (l h:Int):Sp:=⟨bif g then 0 else bif bad then 0 else l,bif g then 0 else bif bad then 0 else h,bif g then 20 else bif bad then 6 else 0⟩
def JC (a b c d:Int):Sp:=JB (rG a b c d) (!rR (IntKind.i64.wrap (a+c)) (IntKind.i64.wrap (b+d))) (IntKind.i64.wrap (a+c)) (IntKind.i64.wrap (b+d))
def JD (x y:Int):Int:=if y<x then y else x
def JE (x y:Int):Int:=if y>x then y else x
def Gz (F:Int->Int->Bool->Int) (x y:Int):Bool:=bif okF (F x y false) then okF (F x y true) else false
def JF (F:Int->Int->Bool->Int) (a b c d:Int):Bool:=bif bif bif Gz F a c then Gz F a d else false then Gz F b c else false then Gz F b d else false
def rLo (F:Int->Int->Bool->Int) (a b c d:Int):Int:=JD (JD (JD (bR (F a c false)) (bR (F a d false))) (bR (F b c false))) (bR (F b d false))
def rHi (F:Int->Int->Bool->Int) (a b c d:Int):Int:=JE (JE (JE (bR (F a c true)) (bR (F a d true))) (bR (F b c true))) (bR (F b d true))
def AL (F:Int->Int->Bool->Int) (a b c d:Int):Bool:=bif !JF F a b c d then true else !rR (rLo F a b c d) (rHi F a b c d)
def JG (a b c d:Int):Sp:=JB (rG a b c d) (AL mF a b c d) (rLo mF a b c d) (rHi mF a b c d)
theorem rH (a b:Int):rR a b=aZ a b:=by
 unfold rR
 rw [Jw,Jw]
 unfold okF aZ
 by_cases h1:-4503599627370496<=a <;> by_cases h2:a<=b <;> by_cases h3:b<=4503599627370496 <;> simp [h1,h2,h3] <;> omega
theorem EO {l h:Int} (k:l<=h):rR l h=(okF l&&okF h):=by
 rw [rH]
 unfold okF aZ
 rw [Bool.eq_iff_iff]
 simp
 omega
theorem GA (a b c d l h:Int) (bad:Bool) (k:aZ a b=true->aZ c d=true->bad=!(okF l&&okF h)):JB (rG a b c d) bad l h=kJ a b c d (fB l h):=by
 unfold JB rG kJ
 rw [rH,rH]
 cases h1:aZ a b with
 | false=>simp [err]
 | true=>
  cases h2:aZ c d with
  | false=>simp [err]
  | true=>
   rw [k h1 h2]
   unfold fB
   cases okF l&&okF h <;> simp [err]
theorem JH (a b c d:Int):JC a b c d=nV a b c d:=by
 unfold JC nV
 rw [GA]
 .unfold kJ
  cases h1:aZ a b <;> cases h2:aZ c d <;> try rfl
  have:=bQ.1 h1; have:=bQ.1 h2
  rw [i64w (by omega) (by omega),i64w (by omega) (by omega)]
 .intro h1 h2
  have:=bQ.1 h1; have:=bQ.1 h2
  rw [EO]
  rw [i64w (by omega) (by omega),i64w (by omega) (by omega)]; omega
theorem mE (x y:Int):JD x y=mn x y:=by
 unfold JD mn; by_cases h:y<x <;> simp [h]
theorem mG (x y:Int):JE x y=mx x y:=by
 unfold JE mx; by_cases h:x<y <;> simp [h]
theorem mH {v:Int} (h:okF v=true):bR v=v:=by unfold bR; rw [h]; rfl
theorem TY (F:Int->Int->Bool->Int) (a b c d:Int) (hF:∀ x y,(x=a\/x=b)->(y=c\/y=d)->F x y false<=F x y true):
  (⟨bif AL F a b c d then 0 else rLo F a b c d,bif AL F a b c d then 0 else rHi F a b c d,bif AL F a b c d then 6 else 0⟩:Sp)=m6 F a b c d:=by
 rw [<- AI (fun x y up=>bR (F x y up)) (fun x y up=>eq (F x y up)) F a b c d hF fun x y _ _=>⟨pe (f:=fun x y up=>eq (F x y up)) Iff.rfl,fun hb=>?_⟩]
 .have hfit:∀ x y,Gz F x y=!nW (fun x y up=>eq (F x y up)) x y:=by
   intro x y
   rw [pe (e:=fun x y up=>eq (F x y up)) (f:=fun x y up=>eq (F x y up)) (F:=F) Iff.rfl,Bool.not_not]
   unfold Gz
   cases okF (F x y false) <;> rfl
  have hfits:JF F a b c d=ok4 (fun x y up=>eq (F x y up)) a b c d:=by
   unfold JF ok4
   rw [hfit,hfit,hfit,hfit]
   cases nW (fun x y up=>eq (F x y up)) a c <;> cases nW (fun x y up=>eq (F x y up)) a d <;> cases nW (fun x y up=>eq (F x y up)) b c <;> cases nW (fun x y up=>eq (F x y up)) b d <;> rfl
  have el:rLo F a b c d=l3 (fun x y up=>bR (F x y up)) a b c d:=by
   unfold rLo l3 l2 l1; rw [wf,wf,wf,mE,mE,mE]
  have eh:rHi F a b c d=h3 (fun x y up=>bR (F x y up)) a b c d:=by
   unfold rHi h3 h2 h1; rw [wg,wg,wg,mG,mG,mG]
  unfold bL bH bE AL
  rw [hfits,<- el,<- eh]
  cases hk:ok4 (fun x y up=>eq (F x y up)) a b c d with
  | false=>rfl
  | true=>
   have hle:rLo F a b c d<=rHi F a b c d:=by
    unfold ok4 at hk
    simp only [Bool.and_eq_true] at hk
    have h1:=hk.1.1
    rw [pe (e:=fun x y up=>eq (F x y up)) (f:=fun x y up=>eq (F x y up)) (F:=F) Iff.rfl,Bool.not_not,Bool.and_eq_true] at h1
    have h2:=hF a c (.inl rfl) (.inl rfl)
    have m1:=pc (bR (F a c false)) (bR (F a d false)); have m2:=pc (mn (bR (F a c false)) (bR (F a d false))) (bR (F b c false)); have m3:=pc (mn (mn (bR (F a c false)) (bR (F a d false))) (bR (F b c false))) (bR (F b d false))
    have n1:=kH (bR (F a c true)) (bR (F a d true)); have n2:=kH (mx (bR (F a c true)) (bR (F a d true))) (bR (F b c true)); have n3:=kH (mx (mx (bR (F a c true)) (bR (F a d true))) (bR (F b c true))) (bR (F b d true))
    rw [mH h1.1] at m1 m2 m3
    rw [mH h1.2] at n1 n2 n3
    unfold rLo rHi
    rw [mE,mE,mE,mG,mG,mG,mH h1.1,mH h1.2]
    omega
   have ht:(!rR (rLo F a b c d) (rHi F a b c d))=xTb (rLo F a b c d) (rHi F a b c d):=by rw [EO hle,xL hle]
   simp only [Bool.not_true,cond_false,cond_true,ht]
 .rw [pe (e:=fun x y up=>eq (F x y up)) (f:=fun x y up=>eq (F x y up)) (F:=F) Iff.rfl] at hb
  simp only [Bool.not_eq_false',Bool.and_eq_true] at hb
  exact ⟨mH hb.1,mH hb.2⟩
theorem JI (a b c d:Int):JG a b c d=cA a b c d:=by
 unfold JG cA kJ JB rG
 rw [rH,rH]
 cases h1:aZ a b with
 | false=>simp [err]
 | true=>
  cases h2:aZ c d with
  | false=>simp [err]
  | true=>
   rw [<- TY mF a b c d fun x y _ _=>Jp _ _ (by decide)]
   rfl
def Ym (G:Int->Int->Bool) (F:Int->Int->Bool->Int) (a b c d:Int):Prop:=
 (d=d/\c=c/\d=d/\c=c)/\(((G a c=true/\G a c=true)/\(G a d=true/\G a d=true)/\(G b c=true/\G b c=true)/\(G b d=true/\G b d=true)) /\
  (bR (F a c true)=bR (F a c true)/\bR (F a d true)=bR (F a d true)/\bR (F b c true)=bR (F b c true)/\bR (F b d true)=bR (F b d true)))
def SP (a b c d:Int):Prop:=(!rG a b c d)=true->Ym (fun x y=>okF x&&okF y) mF a b c d
theorem OK {a b c d:Int} (h:(!rG a b c d)=true):(okF a=true/\okF b=true/\a<=b)/\okF c=true/\okF d=true/\c<=d:=by
 unfold rG at h
 rw [rH,rH] at h
 cases h1:aZ a b with
 | false=>rw [h1] at h; cases h
 | true=>
  rw [h1] at h
  cases h2:aZ c d with
  | false=>rw [h2] at h; cases h
  | true=>
   have k1:=mD h1; have k2:=mD h2
   have l1:a<=b:=by unfold aZ at h1; simp at h1; omega
   have l2:c<=d:=by unfold aZ at h2; simp at h2; omega
   exact ⟨⟨k1.1,k1.2,l1⟩,k2.1,k2.2,l2⟩
theorem JJ (a b c d:Int):SP a b c d:=by
 intro h
 obtain ⟨⟨h1,h2,_⟩,h3,h4,_⟩:=OK h
 unfold Ym
 simp [h1,h2,h3,h4]
end Go.Ar
namespace Go.Proofs.YtmnhhlnbfkfkaaaGreat.K
open Go Go.Eng Go.Ar
noncomputable section
theorem JK (a b c d:Int):bb ((run c6 300).call 91 [.agg [.int true .i64 a,.int true .i64 b],.agg [.int true .i64 c,.int true .i64 d]] ⟨[],0,1⟩)=some (.tt,(qv (JC a b c d)).av true):=by kernel_rfl
theorem JL (a b c d:Int):bb ((run c6 300).call 64 [.agg [.int true .i64 a,.int true .i64 b],.agg [.int true .i64 c,.int true .i64 d]] ⟨[],0,1⟩)=some (.p (SP a b c d),(qv (JG a b c d)).av true):=by kernel_rfl
theorem OL:PureOk Tryz.prog 91 (AK nV):=by
 refine bp (fun xs hk _=>?_) ⟨_,Tryz.func91,rfl⟩
 obtain ⟨a,_,rfl,h1⟩:=kn hk; obtain ⟨b,_,rfl,h2⟩:=kn h1; obtain ⟨c,_,rfl,h3⟩:=kn h2; obtain ⟨d,_,rfl,h4⟩:=kn h3; obtain rfl:=k0 h4
 exact ⟨c6,300,_,EN,rfl,fun _=>rfl,rfl,(JK a b c d).trans (by rw [JH]),trivial⟩
theorem OM:PureOk Tryz.prog 64 (AK cA):=by
 refine bp (fun xs hk _=>?_) ⟨_,Tryz.func64,rfl⟩
 obtain ⟨a,_,rfl,h1⟩:=kn hk; obtain ⟨b,_,rfl,h2⟩:=kn h1; obtain ⟨c,_,rfl,h3⟩:=kn h2; obtain ⟨d,_,rfl,h4⟩:=kn h3; obtain rfl:=k0 h4
 exact ⟨c6,300,_,EN,rfl,fun _=>rfl,rfl,(JL a b c d).trans (by rw [JI]),JJ a b c d⟩
end
end Go.Proofs.YtmnhhlnbfkfkaaaGreat.K
namespace Go.Ar
open Go
def JM (a b:Int):Sp:=AG (xCS a b) (IntKind.i64.wrap (0 - b)) (IntKind.i64.wrap (0 - a))
theorem JN (a b:Int):JM a b=jk a b:=by
 unfold JM jk AG
 rw [lM]
 cases h:aZ a b with
 | false=>simp [err]
 | true=>
  have:=bQ.1 h
  rw [i64w (by omega) (by omega),i64w (by omega) (by omega)]
  have hb:xTb (0 - b) (0 - a)=false:=by
   unfold xTb
   rw [decide_eq_false (show ¬ (0 - b < -4503599627370496) by omega),decide_eq_false (show ¬ (0 - a>4503599627370496) by omega)]
   rfl
  rw [hb]
  simp
def JO (a b:Int):Sp:=⟨bif !rR a b then 0 else IntKind.i64.wrap (0 - b),bif !rR a b then 0 else IntKind.i64.wrap (0 - a),bif !rR a b then 20 else 0⟩
theorem JP (a b:Int):JO a b=jk a b:=by
 unfold JO jk
 rw [rH]
 cases h:aZ a b with
 | false=>rfl
 | true=>
  have:=bQ.1 h
  rw [i64w (by omega) (by omega),i64w (by omega) (by omega)]
  simp
end Go.Ar
namespace Go.Vc
open Go Go.Eng Go.Ar
structure VF where
 ad:Int->Int->Int->Int->Sp
 su:Int->Int->Int->Int->Sp
 mu:Int->Int->Int->Int->Sp
 di:Int->Int->Int->Int->Sp
 sc:Int->Int->Int->Int->Sp
 sq:Int->Int->Sp
 rt:Int->Int->Sp
 ng:Int->Int->Sp
 ck:Int->Int->Int
 ok:Int->Int->Bool
noncomputable def vf0:VF:=⟨nV,abu,cA,abv,TP,Oj,EI,jk,Yf,aZ⟩
structure Ve where
 a:Int
 b:Int
 c:Int
 d:Int
 e:Int
 f:Int
def Ve.cells (v:Ve):List AV:=[.int true .i64 v.a,.int true .i64 v.b,.int true .i64 v.c,.int true .i64 v.d,.int true .i64 v.e,.int true .i64 v.f]
section
variable (F:VF) (v:Ve)
def fe (x y:Int):Int:=bif x==0 then y else x
def uZ:Bool:=!(v.a==0&&(v.b==0&&(v.c==0&&(v.d==0&&(v.e==0&&(v.f==0&&true))))))
def vCk:Int:=fe (fe (F.ck v.a v.b) (F.ck v.c v.d)) (F.ck v.e v.f)
def vC0:Int:=bif uZ v then vCk F v else 0
def f3 (a b c:Int):Int:=bif a != 0||!(a != 0)&&(b != 0||!(b != 0)&&c != 0) then bif a != 0 then a else bif b != 0 then b else c else 0
def wOk:Bool:=!bif F.ok v.a v.b then bif F.ok v.c v.d then F.ok v.e v.f else false else false
end
structure VF.law (F:VF):Prop where
 ck:∀ a b,F.ck a b=bif F.ok a b then 0 else 20
 z:F.ok 0 0=true
theorem pf:vf0.law:=⟨fun _ _=>rfl,by decide⟩
theorem CD {F:VF} (h:F.law) (v:Ve):vC0 F v=bif wOk F v then 20 else 0:=by
 unfold vC0 vCk wOk fe
 simp only [h.ck]
 cases hz:uZ v with
 | true=>cases F.ok v.a v.b <;> cases F.ok v.c v.d <;> cases F.ok v.e v.f <;> rfl
 | false=>
  unfold uZ at hz
  simp only [Bool.and_true,Bool.not_eq_false',Bool.and_eq_true,beq_iff_eq] at hz
  obtain ⟨h1,h2,h3,h4,h5,h6⟩:=hz
  rw [h1,h2,h3,h4,h5,h6,h.z]
  rfl
theorem Yn (a b c:Int):f3 a b c=fe (fe a b) c:=by
 unfold f3 fe
 simp only [bne]
 cases h1:a==0 with
 | true=>
  cases h2:b==0 with
  | true=>
   have:=beq_iff_eq.1 h1
   have:=beq_iff_eq.1 h2
   subst this
   cases h3:c==0 with
   | true=>have:=beq_iff_eq.1 h3; subst this; rfl
   | false=>simp
  | false=>simp [h2]
 | false=>simp [h1]
section
variable (F:VF) (v w:Ve) (X Y Z:Sp)
def bCk:Int:=bif uZ w then fe (fe (fe (vC0 F v) (F.ck w.a w.b)) (F.ck w.c w.d)) (F.ck w.e w.f) else vC0 F v
def tE (k:Int):Int:=fe (fe (fe k X.e) Y.e) Z.e
def tI (e x:Int):Int:=bif e != 0 then 0 else x
def tO (e:Int):Int:=bif e != 0 then e else 0
def z3 {β:Type} (f:Int->Int->Int->Int->Sp) (w:Ve) (x:Sp->Sp->Sp->β):β:=x (f v.a v.b w.a w.b) (f v.c v.d w.c w.d) (f v.e v.f w.e w.f)
def AM (f:Int->Int->Int->Int->Sp):Int:=z3 v f w fun X Y Z=>tE X Y Z (bCk F v w)
def dA:Sp:=F.ad (F.mu v.a v.b w.a w.b).lo (F.mu v.a v.b w.a w.b).hi (F.mu v.c v.d w.c w.d).lo (F.mu v.c v.d w.c w.d).hi
def dB:Sp:=F.ad (dA F v w).lo (dA F v w).hi (F.mu v.e v.f w.e w.f).lo (F.mu v.e v.f w.e w.f).hi
def dE:Int:=fe (fe (AM F v w F.mu) (dA F v w).e) (dB F v w).e
def e9:Sp:=⟨tI (dE F v w) (dB F v w).lo,tI (dE F v w) (dB F v w).hi,tO (dE F v w)⟩
def veP (v:Ve):Prop:=v.a=v.a/\v.b=v.b/\v.c=v.c/\v.d=v.d/\v.e=v.e/\v.f=v.f
def veQ (v:Ve):Prop:=(v.a=v.a/\v.b=v.b)/\(v.c=v.c/\v.d=v.d)/\v.e=v.e/\v.f=v.f
def vnD (w:Ve):Prop:=((uZ v=true->veQ v)/\(uZ w=true->veQ w))/\((F.mu v.e v.f w.e w.f).lo=(F.mu v.e v.f w.e w.f).lo/\(F.mu v.e v.f w.e w.f).hi=(F.mu v.e v.f w.e w.f).hi)/\((dE F v w != 0)=true->dE F v w=dE F v w)
theorem Yo {F:VF} {v w:Ve}:vnD F v w:=by unfold vnD veQ; simp only [and_self,implies_true]
def r7:Bool:=bif wOk F v then true else wOk F w
def rD (x y z:Int):Int:=bif r7 F v w then x else bif z3 v F.mu w (fun X Y Z=>f3 X.e Y.e Z.e) != 0 then y else bif (dA F v w).e != 0 then z else 0
def TZ:Sp:=⟨bif r7 F v w then 0 else bif z3 v F.mu w (fun X Y Z=>f3 X.e Y.e Z.e) != 0 then 0 else bif (dA F v w).e != 0 then 0 else (dB F v w).lo,bif r7 F v w then 0 else bif z3 v F.mu w (fun X Y Z=>f3 X.e Y.e Z.e) != 0 then 0 else bif (dA F v w).e != 0 then 0 else (dB F v w).hi,bif r7 F v w then 20 else bif z3 v F.mu w (fun X Y Z=>f3 X.e Y.e Z.e) != 0 then z3 v F.mu w (fun X Y Z=>f3 X.e Y.e Z.e) else bif (dA F v w).e != 0 then (dA F v w).e else (dB F v w).e⟩
end
theorem Yp (X Y Z:Sp) (b:Bool):tE X Y Z (bif b then 20 else 0)=bif b then 20 else f3 X.e Y.e Z.e:=by
 rw [Yn]
 cases b with
 | true=>rfl
 | false=>rfl
theorem xO {F:VF} (h:F.law) (v w:Ve):bCk F v w=bif r7 F v w then 20 else 0:=by
 have h1:=CD h v
 have h2:=CD h w
 unfold bCk r7
 rw [h1]
 unfold vC0 at h2
 cases hv:wOk F v with
 | true=>cases uZ w <;> rfl
 | false=>
  have h3:fe (fe (fe (bif false then (20:Int) else 0) (F.ck w.a w.b)) (F.ck w.c w.d)) (F.ck w.e w.f)=vCk F w:=rfl
  rw [h3]
  exact h2
structure VF.law2 (F:VF):Prop extends F.law where
 ad:∀ a b c d,((F.ad a b c d).e==0)=false->(F.ad a b c d).lo=0/\(F.ad a b c d).hi=0
 ng:∀ a b,(F.ng a b).e=bif F.ok a b then 0 else 20
theorem T4 {F:VF} (h:F.law2) (v w:Ve):e9 F v w=TZ F v w:=by
 have h1:AM F v w F.mu=bif r7 F v w then 20 else z3 v F.mu w fun X Y Z=>f3 X.e Y.e Z.e:=by
  unfold AM z3
  rw [xO h.tolaw]
  exact Yp _ _ _ _
 unfold e9 dE TZ
 rw [h1]
 generalize hz:(z3 v F.mu w fun X Y Z=>f3 X.e Y.e Z.e)=q
 have hB:=h.ad (dA F v w).lo (dA F v w).hi (F.mu v.e v.f w.e w.f).lo (F.mu v.e v.f w.e w.f).hi
 have hB:((dB F v w).e==0)=false->(dB F v w).lo=0/\(dB F v w).hi=0:=hB
 generalize dB F v w=B at hB ⊢
 generalize (dA F v w).e=a
 cases r7 F v w with
 | true=>rfl
 | false=>
  show (⟨tI (fe (fe q a) B.e) B.lo,tI (fe (fe q a) B.e) B.hi,tO (fe (fe q a) B.e)⟩:Sp)=⟨bif q != 0 then 0 else bif a != 0 then 0 else B.lo,bif q != 0 then 0 else bif a != 0 then 0 else B.hi,bif q != 0 then q else bif a != 0 then a else B.e⟩
  unfold tI tO fe
  cases hq:q==0 with
  | false=>simp only [bne,hq,Bool.not_false,cond_true,cond_false]
  | true=>
   cases ha:a==0 with
   | false=>simp only [bne,hq,ha,Bool.not_false,Bool.not_true,cond_true,cond_false]
   | true=>
    cases hb:B.e==0 with
    | false=>
     obtain ⟨e1,e2⟩:=hB hb
     simp only [bne,hq,ha,hb,e1,e2,Bool.not_false,Bool.not_true,cond_true,cond_false]
    | true=>
     have:=beq_iff_eq.1 hb
     simp only [bne,hq,ha,this,beq_self_eq_true,Bool.not_true,cond_true,cond_false]
theorem JQ:vf0.law2:=by
 refine { pf with ad:=fun a b c d=>?_,ng:=fun a b=>?_ }
 .show ((nV a b c d).e==0)=false->_
  show _->(nV a b c d).lo=0/\(nV a b c d).hi=0
  unfold nV kJ fB
  cases aZ a b&&aZ c d with
  | false=>exact fun _=>⟨rfl,rfl⟩
  | true=>
   cases okF (a+c)&&okF (b+d) with
   | false=>exact fun _=>⟨rfl,rfl⟩
   | true=>exact fun h=>by cases h
 .show (jk a b).e=bif aZ a b then 0 else 20
  unfold jk
  cases aZ a b <;> rfl
end Go.Vc
namespace Go.Proofs.YtmnhhlnbfkfkaaaGreat.K
open Go Go.Eng Go.Ar Go.Vc
noncomputable section
def rOk (a b:Int):Bool:=bif bif decide (a>=-4503599627370496) then decide (a<=4503599627370496) else false then bif bif decide (b>=-4503599627370496) then decide (b<=4503599627370496) else false then decide (a<=b) else false else false
theorem T5 (a b:Int):rOk a b=aZ a b:=by
 unfold rOk aZ
 have e1:∀ z:Int,decide (z>=-4503599627370496)=decide (-4503599627370496<=z):=fun _=>rfl
 simp only [e1]
 cases h1:decide (-4503599627370496<=a) <;> cases h2:decide (a<=4503599627370496) <;> cases h3:decide (-4503599627370496<=b) <;> cases h4:decide (b<=4503599627370496) <;> cases h5:decide (a<=b) <;> first|rfl|(simp only [decide_eq_true_eq,decide_eq_false_iff_not] at h1 h2 h3 h4 h5; omega)
def sOk:aK:=a8 [shS] none fun
 | [.n a,.n b]=>.t (aZ a b)
 | _=>.u []
theorem CE (a b:Int):bb ((run c6 300).call 61 [.agg [.int true .i64 a,.int true .i64 b]] ⟨[],0,1⟩)=some (.tt,.bool true (rOk a b)):=by kernel_rfl
theorem GB:PureOk Tryz.prog 61 sOk:=by
 refine bp (fun xs hk _=>?_) ⟨_,Tryz.func61,rfl⟩
 obtain ⟨a,_,rfl,h1⟩:=kn hk; obtain ⟨b,_,rfl,h2⟩:=kn h1; obtain rfl:=k0 h2
 have:=CE a b
 rw [T5] at this
 exact ⟨c6,300,_,EN,rfl,fun _=>rfl,rfl,this,trivial⟩
theorem JR (a b:Int):bb ((run c2 300).call 62 [.agg [.int true .i64 a,.int true .i64 b]] ⟨[],0,1⟩)=some (.tt,(qv (JM a b)).av true):=by kernel_rfl
theorem JS (a b:Int):bb ((run c6 300).call 31 [.agg [.int true .i64 a,.int true .i64 b]] ⟨[],0,1⟩)=some (.tt,(qv (JO a b)).av true):=by kernel_rfl
theorem EP:PureOk Tryz.prog 62 (sUn jk):=by
 refine bp (fun xs hk _=>?_) ⟨_,Tryz.func62,rfl⟩
 obtain ⟨a,_,rfl,h1⟩:=kn hk; obtain ⟨b,_,rfl,h2⟩:=kn h1; obtain rfl:=k0 h2
 exact ⟨c2,300,_,wd,rfl,fun _=>rfl,rfl,(JR a b).trans (by rw [JN]),trivial⟩
theorem xP:PureOk Tryz.prog 31 (sUn jk):=by
 refine bp (fun xs hk _=>?_) ⟨_,Tryz.func31,rfl⟩
 obtain ⟨a,_,rfl,h1⟩:=kn hk; obtain ⟨b,_,rfl,h2⟩:=kn h1; obtain rfl:=k0 h2
 exact ⟨c6,300,_,EN,rfl,fun _=>rfl,rfl,(JS a b).trans (by rw [JP]),trivial⟩
def abx (F:VF):aK:=a8 [shS] none fun
 | [.n a,.n b]=>.n .i64 (F.ck a b)
 | _=>.u []
def aby (F:VF):aK:=a8 [shS] none fun
 | [.n a,.n b]=>.t (F.ok a b)
 | _=>.u []
noncomputable def CF (F:VF):List (FuncId×aK):=[(96,AK F.ad),(110,AK F.mu),(71,sUn F.sq),(72,sUn F.rt),(62,sUn F.ng),(68,abx F)]
theorem GC:fA Tryz.prog (CF vf0):=by
 intro x hx
 simp only [CF,List.mem_cons,List.not_mem_nil,or_false] at hx
 rcases hx with rfl|rfl|rfl|rfl|rfl|rfl
 .exact OE
 .exact OF
 .exact OG
 .exact Jy
 .exact EP
 .exact OD
noncomputable def CG (F:VF):List (FuncId×aK):=[(91,AK F.ad),(64,AK F.mu),(31,sUn F.ng),(61,aby F)]
theorem GD:fA Tryz.prog (CG vf0):=by
 intro x hx
 simp only [CG,List.mem_cons,List.not_mem_nil,or_false] at hx
 rcases hx with rfl|rfl|rfl|rfl
 .exact OL
 .exact OM
 .exact xP
 .exact GB
noncomputable def JT (F:VF):Ctx:=mkC Tryz.prog (CF F) ext
theorem EQ:CtxOk (JT vf0):=ct aM GC cB
noncomputable def JU (F:VF):Ctx:=mkC Tryz.prog (CG F) ext
theorem ER:CtxOk (JU vf0):=ct aM GD cB
def shV:Sh:=.a [.i .i64,.i .i64,.i .i64,.i .i64,.i .i64,.i .i64]
def sVD (D:Ve->Ve->Sp):aK:=a8 [shV,shV] none fun
 | [.n a,.n b,.n c,.n d,.n e,.n f,.n a1,.n b1,.n c1,.n d1,.n e1,.n f1]=>qv (D ⟨a,b,c,d,e,f⟩ ⟨a1,b1,c1,d1,e1,f1⟩)
 | _=>.u []
theorem kVV {xs:List Nu} (hk:xs.map Nu.isN=Sh.kindsL [shV,shV]):∃ a b c d e f a1 b1 c1 d1 e1 f1,xs=[.n a,.n b,.n c,.n d,.n e,.n f,.n a1,.n b1,.n c1,.n d1,.n e1,.n f1]:=by
 obtain ⟨a,_,rfl,h1⟩:=kn hk; obtain ⟨b,_,rfl,h2⟩:=kn h1; obtain ⟨c,_,rfl,h3⟩:=kn h2; obtain ⟨d,_,rfl,h4⟩:=kn h3; obtain ⟨e,_,rfl,h5⟩:=kn h4; obtain ⟨f,_,rfl,h6⟩:=kn h5; obtain ⟨a1,_,rfl,h7⟩:=kn h6; obtain ⟨b1,_,rfl,h8⟩:=kn h7; obtain ⟨c1,_,rfl,h9⟩:=kn h8; obtain ⟨d1,_,rfl,h10⟩:=kn h9; obtain ⟨e1,_,rfl,h11⟩:=kn h10; obtain ⟨f1,_,rfl,h12⟩:=kn h11; obtain rfl:=k0 h12
 exact ⟨a,b,c,d,e,f,a1,b1,c1,d1,e1,f1,rfl⟩
theorem JV (F:VF) (v w:Ve):bb ((run (JT F) 3000).call 42 [.agg v.cells,.agg w.cells] ⟨[],0,1⟩)=some (.p (vnD F v w),(qv (e9 F v w)).av true):=by kernel_rfl
theorem JW (F:VF) (v w:Ve):bb ((run (JU F) 3000).call 38 [.agg v.cells,.agg w.cells] ⟨[],0,1⟩)=some (.tt,(qv (TZ F v w)).av true):=by kernel_rfl
theorem OO:PureOk Tryz.prog 42 (sVD (e9 vf0)):=by
 refine bp (fun xs hk _=>?_) ⟨_,Tryz.func42,rfl⟩
 obtain ⟨a,b,c,d,e,f,a1,b1,c1,d1,e1,f1,rfl⟩:=kVV hk
 exact ⟨JT vf0,3000,_,EQ,rfl,fun _=>rfl,rfl,JV vf0 ⟨a,b,c,d,e,f⟩ ⟨a1,b1,c1,d1,e1,f1⟩,Yo⟩
theorem OP:PureOk Tryz.prog 38 (sVD (e9 vf0)):=by
 refine bp (fun xs hk _=>?_) ⟨_,Tryz.func38,rfl⟩
 obtain ⟨a,b,c,d,e,f,a1,b1,c1,d1,e1,f1,rfl⟩:=kVV hk
 have r:=JW vf0 ⟨a,b,c,d,e,f⟩ ⟨a1,b1,c1,d1,e1,f1⟩
 rw [<- T4 JQ] at r
 exact ⟨JU vf0,3000,_,ER,rfl,fun _=>rfl,rfl,r,trivial⟩
theorem JX (F:VF) (v:Ve):bb ((run (JT F) 3000).call 40 [.agg v.cells] ⟨[],0,1⟩)=some (.p (uZ v=true->(v.a=v.a/\v.b=v.b)/\(v.c=v.c/\v.d=v.d)/\v.e=v.e/\v.f=v.f),(Tm.n .i64 (vC0 F v)).av true):=by kernel_rfl
end
end Go.Proofs.YtmnhhlnbfkfkaaaGreat.K
namespace Go.Vc
open Go Go.Eng Go.Ar
structure MF where
 dt:Ve->Ve->Sp
 o:Int->Int->Bool
structure Mat where
 x:Ve
 y:Ve
 z:Ve
def Mat.cells (m:Mat):List AV:=m.x.cells++m.y.cells++m.z.cells
def MF.ok (F:MF) (v:Ve):Bool:=bif F.o v.a v.b then bif F.o v.c v.d then F.o v.e v.f else false else false
def ax (m:Mat):Mat:=⟨⟨m.x.a,m.x.b,m.y.a,m.y.b,m.z.a,m.z.b⟩,⟨m.x.c,m.x.d,m.y.c,m.y.d,m.z.c,m.z.d⟩,⟨m.x.e,m.x.f,m.y.e,m.y.f,m.z.e,m.z.f⟩⟩
def ck (F:MF) (v:Ve):Int:=bif F.ok v then 0 else 20
def ckM (F:MF) (m:Mat):Int:=bif ck F m.x != 0||!(ck F m.x != 0)&&(ck F m.y != 0||!(ck F m.y != 0)&&ck F m.z != 0) then bif ck F m.x != 0 then ck F m.x else bif ck F m.y != 0 then ck F m.y else ck F m.z else 0
def okM (F:MF) (m:Mat):Bool:=bif F.ok m.x then bif F.ok m.y then F.ok m.z else false else false
def g3 (a b c:Int):Bool:=!(a != 0)&&(!(b != 0)&&!(c != 0))
def e3 (a b c:Int):Int:=bif g3 a b c then 0 else bif !(a != 0)&&(!(b != 0)&&c != 0||b != 0) then bif !(b != 0)&&c != 0 then c else b else a
def OQ (F:MF) (m:Mat) (v:Ve):Bool:=bif ckM F m != 0 then true else ck F v != 0
def AN (F:MF) (m:Mat) (v:Ve):Bool:=bif !okM F m then true else !F.ok v
section
variable (F:MF) (m:Mat) (v:Ve)
def tg:Bool:=g3 (F.dt m.x v).e (F.dt m.y v).e (F.dt m.z v).e
def pI (x:Int):Int:=bif !OQ F m v then bif tg F m v then x else 0 else 0
def rtI (x:Int):Int:=bif AN F m v then 0 else bif tg F m v then x else 0
def OR:Ve:=⟨pI F m v (F.dt m.x v).lo,pI F m v (F.dt m.x v).hi,pI F m v (F.dt m.y v).lo,pI F m v (F.dt m.y v).hi,pI F m v (F.dt m.z v).lo,pI F m v (F.dt m.z v).hi⟩
def tuV:Ve:=⟨rtI F m v (F.dt m.x v).lo,rtI F m v (F.dt m.x v).hi,rtI F m v (F.dt m.y v).lo,rtI F m v (F.dt m.y v).hi,rtI F m v (F.dt m.z v).lo,rtI F m v (F.dt m.z v).hi⟩
def OS:Int:=bif !OQ F m v then e3 (F.dt m.x v).e (F.dt m.y v).e (F.dt m.z v).e else 20
def tuO:Int:=bif AN F m v then 20 else e3 (F.dt m.x v).e (F.dt m.y v).e (F.dt m.z v).e
end
theorem xQ (F:MF) (m:Mat):ckM F m=bif okM F m then 0 else 20:=by
 unfold ckM okM ck
 cases F.ok m.x <;> cases F.ok m.y <;> cases F.ok m.z <;> rfl
theorem ES (F:MF) (m:Mat) (v:Ve):OQ F m v=AN F m v:=by
 unfold OQ AN
 rw [xQ]
 unfold ck
 cases okM F m <;> cases F.ok v <;> rfl
theorem ET (F:MF) (m:Mat) (v:Ve):OR F m v=tuV F m v/\OS F m v=tuO F m v:=by
 have e:∀ x,pI F m v x=rtI F m v x:=fun x=>by
  unfold pI rtI
  rw [ES]
  cases AN F m v <;> rfl
 refine ⟨?_,?_⟩
 .unfold OR tuV
  simp only [e]
 .unfold OS tuO
  rw [ES]
  cases AN F m v <;> rfl
theorem veP_t (v:Ve):veP v:=⟨rfl,rfl,rfl,rfl,rfl,rfl⟩
def maP (m:Mat):Prop:=m.x.a=m.x.a/\m.x.b=m.x.b/\m.x.c=m.x.c/\m.x.d=m.x.d/\m.x.e=m.x.e/\m.x.f=m.x.f/\m.y.a=m.y.a/\m.y.b=m.y.b/\m.y.c=m.y.c/\m.y.d=m.y.d/\m.y.e=m.y.e/\m.y.f=m.y.f/\m.z.a=m.z.a/\m.z.b=m.z.b/\m.z.c=m.z.c/\m.z.d=m.z.d/\m.z.e=m.z.e/\m.z.f=m.z.f
theorem fR (m:Mat):maP m:=⟨rfl,rfl,rfl,rfl,rfl,rfl,rfl,rfl,rfl,rfl,rfl,rfl,rfl,rfl,rfl,rfl,rfl,rfl⟩
structure TF where
 tv:Mat->Ve->Ve
 te:Mat->Ve->Int
 cm:Mat->Int
def f3b (a b c:Int):Bool:=!(a != 0)&&(!(b != 0)&&c != 0||b != 0)||a != 0
def er3 (a b c:Int):Int:=bif !(a != 0)&&(!(b != 0)&&c != 0||b != 0) then bif !(b != 0)&&c != 0 then c else b else a
section
variable (T:TF) (a b:Mat)
def pmB:Bool:=bif T.cm ⟨a.x,a.y,a.z⟩ != 0 then true else T.cm ⟨b.x,b.y,b.z⟩ != 0
def pmG:Bool:=g3 (T.te (ax b) a.x) (T.te (ax b) a.y) (T.te (ax b) a.z)
def pmV (v:Ve):Ve:=⟨bif !pmB T a b then bif pmG T a b then v.a else 0 else 0,bif !pmB T a b then bif pmG T a b then v.b else 0 else 0,bif !pmB T a b then bif pmG T a b then v.c else 0 else 0,bif !pmB T a b then bif pmG T a b then v.d else 0 else 0,bif !pmB T a b then bif pmG T a b then v.e else 0 else 0,bif !pmB T a b then bif pmG T a b then v.f else 0 else 0⟩
def AO:Mat:=⟨pmV T a b (T.tv (ax b) a.x),pmV T a b (T.tv (ax b) a.y),pmV T a b (T.tv (ax b) a.z)⟩
def EU:Int:=bif !pmB T a b then e3 (T.te (ax b) a.x) (T.te (ax b) a.y) (T.te (ax b) a.z) else 20
def pmN:Prop:=(!pmB T a b)=true->veP a.x/\((!(T.te (ax b) a.x != 0))=true->veP a.y/\((!(T.te (ax b) a.y != 0))=true->veP a.z))
end
theorem Yq (T:TF) (a b:Mat):pmN T a b:=fun _=>⟨veP_t _,fun _=>⟨veP_t _,fun _=>veP_t _⟩⟩
section
variable (F:MF) (a b:Mat)
def rmB:Bool:=bif !okM F a then true else !okM F b
def rg (r:Ve):Bool:=g3 (F.dt r (ax b).x).e (F.dt r (ax b).y).e (F.dt r (ax b).z).e
def rf (r:Ve):Bool:=f3b (F.dt r (ax b).x).e (F.dt r (ax b).y).e (F.dt r (ax b).z).e
def re (r:Ve):Int:=er3 (F.dt r (ax b).x).e (F.dt r (ax b).y).e (F.dt r (ax b).z).e
def rmG:Bool:=rg F b a.x&&(rg F b a.y&&rg F b a.z)
def rmI (x:Int):Int:=bif rmB F a b then 0 else bif rmG F a b then x else 0
def rmV (r:Ve):Ve:=⟨rmI F a b (F.dt r (ax b).x).lo,rmI F a b (F.dt r (ax b).x).hi,rmI F a b (F.dt r (ax b).y).lo,rmI F a b (F.dt r (ax b).y).hi,rmI F a b (F.dt r (ax b).z).lo,rmI F a b (F.dt r (ax b).z).hi⟩
def mulV:Mat:=⟨rmV F a b a.x,rmV F a b a.y,rmV F a b a.z⟩
def mN:Int:=bif rmB F a b then 20 else bif rmG F a b then 0 else bif rg F b a.x&&(rg F b a.y&&rf F b a.z||rf F b a.y) then bif rg F b a.y&&rf F b a.z then re F b a.z else re F b a.y else re F b a.x
def EW (r:Ve):Prop:=veP r/\((!((F.dt r (ax b).x).e != 0))=true->veP r/\((!((F.dt r (ax b).y).e != 0))=true->veP r))
def rmN:Prop:=(!rmB F a b)=true->EW F b a.x/\(rg F b a.x=true->EW F b a.y/\(rg F b a.y=true->EW F b a.z))
end
theorem Yr (F:MF) (a b:Mat):rmN F a b:=
 have h:∀ r,EW F b r:=fun r=>⟨veP_t r,fun _=>⟨veP_t r,fun _=>veP_t r⟩⟩
 fun _=>⟨h _,fun _=>⟨h _,fun _=>h _⟩⟩
theorem JY (a b c:Int):f3b a b c=!g3 a b c:=by
 unfold f3b g3
 cases a != 0 <;> cases b != 0 <;> cases c != 0 <;> rfl
theorem JZ (a b c:Int):e3 a b c=bif g3 a b c then 0 else er3 a b c:=rfl
theorem EX (a b c:Int):(e3 a b c != 0)=!g3 a b c:=by
 unfold e3 g3
 cases h1:a != 0 <;> cases h2:b != 0 <;> cases h3:c != 0 <;> simp [h1,h2,h3]
theorem J0 (F:MF) (b:Mat):okM F (ax b)=okM F b:=by
 unfold okM MF.ok ax
 cases F.o b.x.a b.x.b <;> cases F.o b.x.c b.x.d <;> cases F.o b.x.e b.x.f <;> cases F.o b.y.a b.y.b <;> cases F.o b.y.c b.y.d <;> cases F.o b.y.e b.y.f <;> cases F.o b.z.a b.z.b <;> cases F.o b.z.c b.z.d <;> cases F.o b.z.e b.z.f <;> rfl
def qw (F:MF):TF:=⟨tuV F,tuO F,ckM F⟩
theorem T6 {F:MF} (hc:∀ v w,F.dt v w=F.dt w v) (a b:Mat):AO (qw F) a b=mulV F a b/\EU (qw F) a b=mN F a b:=by
 have eB:pmB (qw F) a b=rmB F a b:=by
  show (bif ckM F a != 0 then true else ckM F b != 0)=_
  rw [xQ,xQ]
  unfold rmB
  cases okM F a <;> cases okM F b <;> rfl
 cases hB:rmB F a b with
 | true=>
  have e1:pmB (qw F) a b=true:=by rw [eB,hB]
  refine ⟨?_,?_⟩
  .unfold AO mulV pmV rmV rmI
   rw [e1,hB]; rfl
  .unfold EU mN
   rw [e1,hB]; rfl
 | false=>
  have e1:pmB (qw F) a b=false:=by rw [eB,hB]
  have hh:okM F a=true/\okM F b=true:=by
   unfold rmB at hB
   cases ha:okM F a <;> cases hb:okM F b <;> rw [ha,hb] at hB <;> first|exact ⟨rfl,rfl⟩|cases hB
  have hr:F.ok a.x=true/\F.ok a.y=true/\F.ok a.z=true:=by
   have:=hh.1
   unfold okM at this
   cases h1:F.ok a.x <;> cases h2:F.ok a.y <;> cases h3:F.ok a.z <;> rw [h1,h2,h3] at this <;> first|exact ⟨rfl,rfl,rfl⟩|cases this
  have bd:∀ r,F.ok r=true->AN F (ax b) r=false:=fun r h=>by
   unfold AN
   rw [J0,hh.2,h]; rfl
  have te:∀ r,F.ok r=true->(qw F).te (ax b) r=e3 (F.dt r (ax b).x).e (F.dt r (ax b).y).e (F.dt r (ax b).z).e:=fun r h=>by
   show tuO F (ax b) r=_
   unfold tuO
   rw [bd r h,hc _ r,hc _ r,hc _ r]; rfl
  have nz:∀ r,F.ok r=true->((qw F).te (ax b) r != 0)=!rg F b r:=fun r h=>by
   rw [te r h,EX]; rfl
  have eG:pmG (qw F) a b=rmG F a b:=by
   unfold pmG g3 rmG
   rw [nz _ hr.1,nz _ hr.2.1,nz _ hr.2.2,Bool.not_not,Bool.not_not,Bool.not_not]
  refine ⟨?_,?_⟩
  .cases hG:rmG F a b with
   | false=>
    rw [hG] at eG
    unfold AO mulV pmV rmV rmI
    rw [e1,hB,eG,hG]; rfl
   | true=>
    have hG0:=hG
    rw [hG] at eG
    unfold rmG at hG
    simp only [Bool.and_eq_true] at hG
    have tv:∀ r,F.ok r=true->rg F b r=true->(qw F).tv (ax b) r=⟨(F.dt r (ax b).x).lo,(F.dt r (ax b).x).hi,(F.dt r (ax b).y).lo,(F.dt r (ax b).y).hi,(F.dt r (ax b).z).lo,(F.dt r (ax b).z).hi⟩:=fun r h hg=>by
     show tuV F (ax b) r=_
     have htg:tg F (ax b) r=true:=by
      unfold tg
      rw [hc _ r,hc _ r,hc _ r]; exact hg
     unfold tuV rtI
     rw [bd r h,htg,hc _ r,hc _ r,hc _ r]; rfl
    unfold AO mulV
    rw [tv _ hr.1 hG.1,tv _ hr.2.1 hG.2.1,tv _ hr.2.2 hG.2.2]
    unfold pmV rmV rmI
    rw [e1,hB,eG,hG0]; rfl
  .unfold EU mN
   rw [e1,hB]
   show e3 _ _ _=bif rmG F a b then 0 else _
   rw [te _ hr.1,te _ hr.2.1,te _ hr.2.2]
   have n1:=EX (F.dt a.x (ax b).x).e (F.dt a.x (ax b).y).e (F.dt a.x (ax b).z).e
   have n2:=EX (F.dt a.y (ax b).x).e (F.dt a.y (ax b).y).e (F.dt a.y (ax b).z).e
   have n3:=EX (F.dt a.z (ax b).x).e (F.dt a.z (ax b).y).e (F.dt a.z (ax b).z).e
   have f1:=JY (F.dt a.y (ax b).x).e (F.dt a.y (ax b).y).e (F.dt a.y (ax b).z).e
   have f2:=JY (F.dt a.z (ax b).x).e (F.dt a.z (ax b).y).e (F.dt a.z (ax b).z).e
   have d1:=JZ (F.dt a.x (ax b).x).e (F.dt a.x (ax b).y).e (F.dt a.x (ax b).z).e
   have d2:=JZ (F.dt a.y (ax b).x).e (F.dt a.y (ax b).y).e (F.dt a.y (ax b).z).e
   have d3:=JZ (F.dt a.z (ax b).x).e (F.dt a.z (ax b).y).e (F.dt a.z (ax b).z).e
   unfold rmG rf rg re
   rw [f1,f2]
   generalize e3 (F.dt a.x (ax b).x).e (F.dt a.x (ax b).y).e (F.dt a.x (ax b).z).e=E1 at *
   generalize e3 (F.dt a.y (ax b).x).e (F.dt a.y (ax b).y).e (F.dt a.y (ax b).z).e=E2 at *
   generalize e3 (F.dt a.z (ax b).x).e (F.dt a.z (ax b).y).e (F.dt a.z (ax b).z).e=E3 at *
   generalize g3 (F.dt a.x (ax b).x).e (F.dt a.x (ax b).y).e (F.dt a.x (ax b).z).e=G1 at *
   generalize g3 (F.dt a.y (ax b).x).e (F.dt a.y (ax b).y).e (F.dt a.y (ax b).z).e=G2 at *
   generalize g3 (F.dt a.z (ax b).x).e (F.dt a.z (ax b).y).e (F.dt a.z (ax b).z).e=G3 at *
   unfold e3 g3
   rw [n1,n2,n3]
   cases G1 <;> cases G2 <;> cases G3 <;> simp only [cond_true,cond_false] at d1 d2 d3 <;> simp [d1,d2,d3]
end Go.Vc
namespace Go.Proofs.YtmnhhlnbfkfkaaaGreat.K
open Go Go.Eng Go.Ar Go.Vc
noncomputable section
def sVO (O:Ve->Bool):aK:=a8 [shV] none fun
 | [.n a,.n b,.n c,.n d,.n e,.n f]=>.t (O ⟨a,b,c,d,e,f⟩)
 | _=>.u []
def sVC (C:Ve->Int):aK:=a8 [shV] none fun
 | [.n a,.n b,.n c,.n d,.n e,.n f]=>.n .i64 (C ⟨a,b,c,d,e,f⟩)
 | _=>.u []
theorem kV {xs:List Nu} (hk:xs.map Nu.isN=Sh.kindsL [shV]):∃ a b c d e f,xs=[.n a,.n b,.n c,.n d,.n e,.n f]:=by
 obtain ⟨a,_,rfl,h1⟩:=kn hk; obtain ⟨b,_,rfl,h2⟩:=kn h1; obtain ⟨c,_,rfl,h3⟩:=kn h2; obtain ⟨d,_,rfl,h4⟩:=kn h3; obtain ⟨e,_,rfl,h5⟩:=kn h4; obtain ⟨f,_,rfl,h6⟩:=kn h5; obtain rfl:=k0 h6
 exact ⟨a,b,c,d,e,f,rfl⟩
def mf0:MF:=⟨e9 vf0,aZ⟩
theorem J1:PureOk Tryz.prog 40 (sVC (ck mf0)):=by
 refine bp (fun xs hk _=>?_) ⟨_,Tryz.func40,rfl⟩
 obtain ⟨a,b,c,d,e,f,rfl⟩:=kV hk
 have r:=JX vf0 ⟨a,b,c,d,e,f⟩
 have e:vC0 vf0 ⟨a,b,c,d,e,f⟩=ck mf0 ⟨a,b,c,d,e,f⟩:=by
  rw [CD pf]
  show (bif !(MF.ok mf0 ⟨a,b,c,d,e,f⟩) then (20:Int) else 0)=bif MF.ok mf0 ⟨a,b,c,d,e,f⟩ then 0 else 20
  cases MF.ok mf0 ⟨a,b,c,d,e,f⟩ <;> rfl
 rw [e] at r
 exact ⟨JT vf0,3000,_,EQ,rfl,fun _=>rfl,rfl,r,fun _=>⟨⟨rfl,rfl⟩,⟨rfl,rfl⟩,rfl,rfl⟩⟩
theorem OT (F:VF) (v:Ve):bb ((run (JU F) 3000).call 43 [.agg v.cells] ⟨[],0,1⟩)=some (.tt,(Tm.t (bif F.ok v.a v.b then bif F.ok v.c v.d then F.ok v.e v.f else false else false)).av true):=by kernel_rfl
theorem T7:PureOk Tryz.prog 43 (sVO (MF.ok mf0)):=by
 refine bp (fun xs hk _=>?_) ⟨_,Tryz.func43,rfl⟩
 obtain ⟨a,b,c,d,e,f,rfl⟩:=kV hk
 exact ⟨JU vf0,3000,_,ER,rfl,fun _=>rfl,rfl,OT vf0 ⟨a,b,c,d,e,f⟩,trivial⟩
def CH (F:MF):List (FuncId×aK):=[(42,sVD F.dt),(40,sVC (ck F))]
def CI (F:MF):List (FuncId×aK):=[(38,sVD F.dt),(43,sVO F.ok)]
theorem GE:fA Tryz.prog (CH mf0):=by
 intro x hx
 simp only [CH,List.mem_cons,List.not_mem_nil,or_false] at hx
 rcases hx with rfl|rfl
 .exact OO
 .exact J1
theorem GF:fA Tryz.prog (CI mf0):=by
 intro x hx
 simp only [CI,List.mem_cons,List.not_mem_nil,or_false] at hx
 rcases hx with rfl|rfl
 .exact OP
 .exact T7
def CJ (F:MF):Ctx:=mkC Tryz.prog (CH F) ext
def xR (F:MF):Ctx:=mkC Tryz.prog (CI F) ext
theorem xS:CtxOk (CJ mf0):=ct aM GE cB
theorem sA:CtxOk (xR mf0):=ct aM GF cB
def shM:Sh:=.a [.i .i64,.i .i64,.i .i64,.i .i64,.i .i64,.i .i64,.i .i64,.i .i64,.i .i64,.i .i64,.i .i64,.i .i64,.i .i64,.i .i64,.i .i64,.i .i64,.i .i64,.i .i64]
def AP (v:Ve) (e:Int):Tm:=.u [.a [.n .i64 v.a,.n .i64 v.b,.n .i64 v.c,.n .i64 v.d,.n .i64 v.e,.n .i64 v.f],.n .i64 e]
def sMC (C:Mat->Int):aK:=a8 [shM] none fun
 | [.n a,.n b,.n c,.n d,.n e,.n f,.n g,.n h,.n i,.n j,.n k,.n l,.n m,.n n,.n o,.n p,.n q,.n r]=>.n .i64 (C ⟨⟨a,b,c,d,e,f⟩,⟨g,h,i,j,k,l⟩,⟨m,n,o,p,q,r⟩⟩)
 | _=>.u []
def sMV (V:Mat->Ve->Ve) (E:Mat->Ve->Int):aK:=a8 [shM,shV] none fun
 | [.n a,.n b,.n c,.n d,.n e,.n f,.n g,.n h,.n i,.n j,.n k,.n l,.n m,.n n,.n o,.n p,.n q,.n r,.n a1,.n b1,.n c1,.n d1,.n e1,.n f1]=>AP (V ⟨⟨a,b,c,d,e,f⟩,⟨g,h,i,j,k,l⟩,⟨m,n,o,p,q,r⟩⟩ ⟨a1,b1,c1,d1,e1,f1⟩) (E ⟨⟨a,b,c,d,e,f⟩,⟨g,h,i,j,k,l⟩,⟨m,n,o,p,q,r⟩⟩ ⟨a1,b1,c1,d1,e1,f1⟩)
 | _=>.u []
theorem k6 {xs:List Nu} {K:List Nat} (hk:xs.map Nu.isN=0 :: 0 :: 0 :: 0 :: 0 :: 0 :: K):∃ (v:Ve) (ys:List Nu),xs=.n v.a :: .n v.b :: .n v.c :: .n v.d :: .n v.e :: .n v.f :: ys/\ys.map Nu.isN=K:=by
 obtain ⟨a,_,rfl,h1⟩:=kn hk; obtain ⟨b,_,rfl,h2⟩:=kn h1; obtain ⟨c,_,rfl,h3⟩:=kn h2; obtain ⟨d,_,rfl,h4⟩:=kn h3; obtain ⟨e,_,rfl,h5⟩:=kn h4; obtain ⟨f,ys,rfl,h6⟩:=kn h5
 exact ⟨⟨a,b,c,d,e,f⟩,ys,rfl,h6⟩
theorem GG (F:MF) (m:Mat) (v:Ve):bb ((run (CJ F) 3000).call 20 [.agg m.cells,.agg v.cells] ⟨[],0,1⟩)=some (.tt,(AP (OR F m v) (OS F m v)).av true):=by kernel_rfl
theorem GH (F:MF) (m:Mat) (v:Ve):bb ((run (xR F) 3000).call 21 [.agg m.cells,.agg v.cells] ⟨[],0,1⟩)=some (.tt,(AP (tuV F m v) (tuO F m v)).av true):=by kernel_rfl
theorem GI (F:MF) (m:Mat) (v:Ve):bb ((run (CJ F) 3000).call 22 [.agg m.cells,.agg v.cells] ⟨[],0,1⟩)=some (.p (veP v),(AP (OR F (ax m) v) (OS F (ax m) v)).av true):=by kernel_rfl
theorem GJ (F:MF) (m:Mat) (v:Ve):bb ((run (xR F) 3000).call 23 [.agg m.cells,.agg v.cells] ⟨[],0,1⟩)=some (.p ((veP v/\maP m/\maP m)/\(veP v/\maP m)/\veP v),(AP (tuV F (ax m) v) (tuO F (ax m) v)).av true):=by kernel_rfl
theorem CK (F:MF) (m:Mat):bb ((run (CJ F) 3000).call 17 [.agg m.cells] ⟨[],0,1⟩)=some (.tt,(Tm.n .i64 (ckM F m)).av true):=by kernel_rfl
theorem CL (F:MF) (m:Mat):bb ((run (xR F) 3000).call 18 [.agg m.cells] ⟨[],0,1⟩)=some (.tt,(Tm.n .i64 (bif !okM F m then 20 else 0)).av true):=by kernel_rfl
theorem uC:PureOk Tryz.prog 20 (sMV (tuV mf0) (tuO mf0)):=by
 refine bp (fun xs hk _=>?_) ⟨_,Tryz.func20,rfl⟩
 obtain ⟨a,_,rfl,h1⟩:=k6 hk; obtain ⟨b,_,rfl,h2⟩:=k6 h1; obtain ⟨c,_,rfl,h3⟩:=k6 h2; obtain ⟨v,_,rfl,h4⟩:=k6 h3; obtain rfl:=k0 h4
 have r:=GG mf0 ⟨a,b,c⟩ v
 rw [(ET _ _ _).1,(ET _ _ _).2] at r
 exact ⟨CJ mf0,3000,_,xS,rfl,fun _=>rfl,rfl,r,trivial⟩
theorem J2:PureOk Tryz.prog 21 (sMV (tuV mf0) (tuO mf0)):=by
 refine bp (fun xs hk _=>?_) ⟨_,Tryz.func21,rfl⟩
 obtain ⟨a,_,rfl,h1⟩:=k6 hk; obtain ⟨b,_,rfl,h2⟩:=k6 h1; obtain ⟨c,_,rfl,h3⟩:=k6 h2; obtain ⟨v,_,rfl,h4⟩:=k6 h3; obtain rfl:=k0 h4
 exact ⟨xR mf0,3000,_,sA,rfl,fun _=>rfl,rfl,GH mf0 ⟨a,b,c⟩ v,trivial⟩
theorem AQ:PureOk Tryz.prog 22 (sMV (fun m=>tuV mf0 (ax m)) (fun m=>tuO mf0 (ax m))):=by
 refine bp (fun xs hk _=>?_) ⟨_,Tryz.func22,rfl⟩
 obtain ⟨a,_,rfl,h1⟩:=k6 hk; obtain ⟨b,_,rfl,h2⟩:=k6 h1; obtain ⟨c,_,rfl,h3⟩:=k6 h2; obtain ⟨v,_,rfl,h4⟩:=k6 h3; obtain rfl:=k0 h4
 have r:=GI mf0 ⟨a,b,c⟩ v
 rw [(ET _ _ _).1,(ET _ _ _).2] at r
 exact ⟨CJ mf0,3000,_,xS,rfl,fun _=>rfl,rfl,r,veP_t v⟩
theorem J3:PureOk Tryz.prog 23 (sMV (fun m=>tuV mf0 (ax m)) (fun m=>tuO mf0 (ax m))):=by
 refine bp (fun xs hk _=>?_) ⟨_,Tryz.func23,rfl⟩
 obtain ⟨a,_,rfl,h1⟩:=k6 hk; obtain ⟨b,_,rfl,h2⟩:=k6 h1; obtain ⟨c,_,rfl,h3⟩:=k6 h2; obtain ⟨v,_,rfl,h4⟩:=k6 h3; obtain rfl:=k0 h4
 exact ⟨xR mf0,3000,_,sA,rfl,fun _=>rfl,rfl,GJ mf0 ⟨a,b,c⟩ v,⟨veP_t v,fR _,fR _⟩,⟨veP_t v,fR _⟩,veP_t v⟩
theorem wh:PureOk Tryz.prog 17 (sMC (ckM mf0)):=by
 refine bp (fun xs hk _=>?_) ⟨_,Tryz.func17,rfl⟩
 obtain ⟨a,_,rfl,h1⟩:=k6 hk; obtain ⟨b,_,rfl,h2⟩:=k6 h1; obtain ⟨c,_,rfl,h3⟩:=k6 h2; obtain rfl:=k0 h3
 exact ⟨CJ mf0,3000,_,xS,rfl,fun _=>rfl,rfl,CK mf0 ⟨a,b,c⟩,trivial⟩
theorem GK:PureOk Tryz.prog 18 (sMC (ckM mf0)):=by
 refine bp (fun xs hk _=>?_) ⟨_,Tryz.func18,rfl⟩
 obtain ⟨a,_,rfl,h1⟩:=k6 hk; obtain ⟨b,_,rfl,h2⟩:=k6 h1; obtain ⟨c,_,rfl,h3⟩:=k6 h2; obtain rfl:=k0 h3
 have r:=CL mf0 ⟨a,b,c⟩
 have e:(bif !okM mf0 ⟨a,b,c⟩ then (20:Int) else 0)=ckM mf0 ⟨a,b,c⟩:=by rw [xQ]; cases okM mf0 ⟨a,b,c⟩ <;> rfl
 rw [e] at r
 exact ⟨xR mf0,3000,_,sA,rfl,fun _=>rfl,rfl,r,trivial⟩
end
end Go.Proofs.YtmnhhlnbfkfkaaaGreat.K
namespace Go.Vc
open Go Go.Eng Go.Ar
theorem mn_eq (a b:Int):mn a b=if b<a then b else a:=by
 unfold mn; by_cases h:b<a <;> simp [h]
theorem mx_eq (a b:Int):mx a b=if a<b then b else a:=by
 unfold mx; by_cases h:a<b <;> simp [h]
theorem T8 (p q r s:Int):mn (mn (mn p q) r) s=mn (mn (mn p r) q) s:=by
 simp only [mn_eq]
 repeat' split
 all_goals omega
theorem T9 (p q r s:Int):mx (mx (mx p q) r) s=mx (mx (mx p r) q) s:=by
 simp only [mx_eq]
 repeat' split
 all_goals omega
theorem wi (a b c d:Int):cA a b c d=cA c d a b:=by
 unfold cA kJ m6 mF
 rw [Int.mul_comm c a,Int.mul_comm c b,Int.mul_comm d a,Int.mul_comm d b,T8 (Ar.rd (a*c) 4294967296 false),T9 (Ar.rd (a*c) 4294967296 true),Bool.and_comm]
theorem GL (v w:Ve):AM vf0 v w vf0.mu=AM vf0 w v vf0.mu:=by
 have e:∀ a b c d,vf0.mu a b c d=vf0.mu c d a b:=wi
 have hb:r7 vf0 v w=r7 vf0 w v:=by
  unfold r7
  cases wOk vf0 v <;> cases wOk vf0 w <;> rfl
 unfold AM z3
 rw [xO pf,xO pf,hb,e v.a,e v.c,e v.e]
theorem J4 (v w:Ve):e9 vf0 v w=e9 vf0 w v:=by
 have e:∀ a b c d,vf0.mu a b c d=vf0.mu c d a b:=wi
 have hA:dA vf0 v w=dA vf0 w v:=by
  unfold dA
  rw [e v.a,e v.c]
 have hB:dB vf0 v w=dB vf0 w v:=by
  unfold dB
  rw [hA,e v.e]
 have hE:dE vf0 v w=dE vf0 w v:=by
  unfold dE
  rw [GL,hA,hB]
 unfold e9
 rw [hE,hB]
end Go.Vc
namespace Go.Proofs.YtmnhhlnbfkfkaaaGreat.K
open Go Go.Eng Go.Ar Go.Vc
noncomputable section
def CM (T:TF):List (FuncId×aK):=[(20,sMV T.tv T.te),(17,sMC T.cm)]
theorem GM:fA Tryz.prog (CM (qw mf0)):=by
 intro x hx
 simp only [CM,List.mem_cons,List.not_mem_nil,or_false] at hx
 rcases hx with rfl|rfl
 .exact uC
 .exact wh
def Ua (T:TF):Ctx:=mkC Tryz.prog (CM T) ext
theorem OU:CtxOk (Ua (qw mf0)):=ct aM GM cB
def pg (m:Mat) (e:Int):Tm:=.u [.a [.n .i64 m.x.a,.n .i64 m.x.b,.n .i64 m.x.c,.n .i64 m.x.d,.n .i64 m.x.e,.n .i64 m.x.f,.n .i64 m.y.a,.n .i64 m.y.b,.n .i64 m.y.c,.n .i64 m.y.d,.n .i64 m.y.e,.n .i64 m.y.f,.n .i64 m.z.a,.n .i64 m.z.b,.n .i64 m.z.c,.n .i64 m.z.d,.n .i64 m.z.e,.n .i64 m.z.f],.n .i64 e]
def gVe:List Nu->Ve×List Nu
 | .n a :: .n b :: .n c :: .n d :: .n e :: .n f :: l=>(⟨a,b,c,d,e,f⟩,l)
 | l=>(⟨0,0,0,0,0,0⟩,l)
def gMa (l:List Nu):Mat×List Nu:=(⟨(gVe l).1,(gVe (gVe l).2).1,(gVe (gVe (gVe l).2).2).1⟩,(gVe (gVe (gVe l).2).2).2)
def sMM (V:Mat->Mat->Mat) (E:Mat->Mat->Int):aK:=a8 [shM,shM] none fun xs=>pg (V (gMa xs).1 (gMa (gMa xs).2).1) (E (gMa xs).1 (gMa (gMa xs).2).1)
theorem J5 (T:TF) (a b:Mat):bb ((run (Ua T) 3000).call 15 [.agg a.cells,.agg b.cells] ⟨[],0,1⟩)=some (.p (pmN T a b),(pg (AO T a b) (EU T a b)).av true):=by kernel_rfl
theorem GN (F:MF) (a b:Mat):bb ((run (xR F) 3000).call 16 [.agg a.cells,.agg b.cells] ⟨[],0,1⟩)=some (.p (rmN F a b),(pg (mulV F a b) (mN F a b)).av true):=by kernel_rfl
theorem EY:PureOk Tryz.prog 15 (sMM (mulV mf0) (mN mf0)):=by
 refine bp (fun xs hk _=>?_) ⟨_,Tryz.func15,rfl⟩
 obtain ⟨a,_,rfl,h1⟩:=k6 hk; obtain ⟨b,_,rfl,h2⟩:=k6 h1; obtain ⟨c,_,rfl,h3⟩:=k6 h2; obtain ⟨a1,_,rfl,h4⟩:=k6 h3; obtain ⟨b1,_,rfl,h5⟩:=k6 h4; obtain ⟨c1,_,rfl,h6⟩:=k6 h5; obtain rfl:=k0 h6
 have r:=J5 (qw mf0) ⟨a,b,c⟩ ⟨a1,b1,c1⟩
 have e:=T6 (F:=mf0) J4 ⟨a,b,c⟩ ⟨a1,b1,c1⟩
 rw [e.1,e.2] at r
 exact ⟨Ua (qw mf0),3000,_,OU,rfl,fun _=>rfl,rfl,r,Yq _ _ _⟩
theorem AR:PureOk Tryz.prog 16 (sMM (mulV mf0) (mN mf0)):=by
 refine bp (fun xs hk _=>?_) ⟨_,Tryz.func16,rfl⟩
 obtain ⟨a,_,rfl,h1⟩:=k6 hk; obtain ⟨b,_,rfl,h2⟩:=k6 h1; obtain ⟨c,_,rfl,h3⟩:=k6 h2; obtain ⟨a1,_,rfl,h4⟩:=k6 h3; obtain ⟨b1,_,rfl,h5⟩:=k6 h4; obtain ⟨c1,_,rfl,h6⟩:=k6 h5; obtain rfl:=k0 h6
 exact ⟨xR mf0,3000,_,sA,rfl,fun _=>rfl,rfl,GN mf0 ⟨a,b,c⟩ ⟨a1,b1,c1⟩,Yr _ _ _⟩
end
end Go.Proofs.YtmnhhlnbfkfkaaaGreat.K
