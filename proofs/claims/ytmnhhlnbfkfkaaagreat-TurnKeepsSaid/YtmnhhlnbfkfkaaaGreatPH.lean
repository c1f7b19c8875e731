/- What is proved: TurnKeeps returns true, whatever the input (part 8). No conditions beyond those of the row. -/
import Derived.Test.YtmnhhlnbfkfkaaaGreatPF
import Derived.Test.YtmnhhlnbfkfkaaaGreatPG
import Derived.Shelf.Small.Bits
import Derived.Shelf.Strconv.Itoa0
import Derived.Shelf.Bits.Mul64
import Derived.Test.YtmnhhlnbfkfkaaaGreatProg
import Derived.Laws.Externs
import Derived.KernelRfl
import Derived.Laws.BitsLemmas
set_option linter.unusedVariables false
set_option linter.unusedSimpArgs false
set_option linter.unusedSectionVars false
/-
 DERIVED: THE SHELF's CONTRACTS AT THIS DUMP, IN PLAIN WORDS (tools/lay-plain.mjs out of 'TryzShelf.lean', which tools/lay-shelf.mjs wrote): THE SAME DECLARATIONS UNDER THE SAME NAMES: 'import', 'namespace', 'open', 'def', 'theorem' AND NOTHING ELSE: no command of the shelf's: FOR A HAND-IN. Each laying: the table of numbers ('.._ren') and one theorem, a field a fact of the dump's own or the kernel's comparison; each contract: ONE APPLICATION.
-/
namespace Go.Proofs
open Go.Shelf
def Tryz.lays134_ren:Go.Shelf.Ren:=⟨fun|134=>149|129=>150|n=>n,fun|53=>138|3=>3|4=>4|46=>23|5=>5|9=>9|n=>n,fun|n=>n⟩
theorem Tryz.lays134:Go.Proofs.Lays.n134 Tryz.prog Tryz.lays134_ren:={
 mixed:=by kernel_rfl
 f129:=Tryz.func150.trans (congrArg some (by kernel_rfl))
 f134:=Tryz.func149.trans (congrArg some (by kernel_rfl))
 t3:=Tryz.underlying3
 a3:=Tryz.isAgg3
 z3:=Tryz.sizeOf3
 v3:=Tryz.zeroValue3
 t4:=Tryz.underlying4
 a4:=Tryz.isAgg4
 z4:=Tryz.sizeOf4
 v4:=Tryz.zeroValue4
 t5:=Tryz.underlying5
 a5:=Tryz.isAgg5
 z5:=Tryz.sizeOf5
 v5:=Tryz.zeroValue5
 t9:=Tryz.underlying9
 a9:=Tryz.isAgg9
 z9:=Tryz.sizeOf9
 v9:=Tryz.zeroValue9
 t46:=Tryz.underlying23
 a46:=Tryz.isAgg23
 z46:=Tryz.sizeOf23
 v46:=Tryz.zeroValue23
 t53:=Tryz.underlying138
 a53:=Tryz.isAgg138
 z53:=Tryz.sizeOf138
 v53:=Tryz.zeroValue138 }
theorem Tryz.bits_LeadingZeros64 (x:Int) (w:World) (h0:0<=x) (h1:x<=18446744073709551615):
  Calls Tryz.prog 149 #[.int .u64 x] w fun e w'=>e=.returned (.int .i64 (64 - (Lib.bitLen x.toNat:Int)))/\w'=w:=Any.bits_LeadingZeros64 Tryz.lays134 x w h0 h1
def Tryz.lays264_ren:Go.Shelf.Ren:=⟨fun|264=>140|n=>n,fun|53=>138|46=>23|n=>n,fun|n=>n⟩
theorem Tryz.lays264:Go.Proofs.Lays.n264 Tryz.prog Tryz.lays264_ren:={
 mixed:=by kernel_rfl
 f264:=Tryz.func140.trans (congrArg some (by kernel_rfl))
 t46:=Tryz.underlying23
 a46:=Tryz.isAgg23
 z46:=Tryz.sizeOf23
 v46:=Tryz.zeroValue23
 t53:=Tryz.underlying138
 a53:=Tryz.isAgg138
 z53:=Tryz.sizeOf138
 v53:=Tryz.zeroValue138 }
open Go.RowKit Go.Lib in
theorem Tryz.bits_Mul64 (x y:Nat) (hx:x<18446744073709551616) (hy:y<18446744073709551616) (w:World):
  Calls Tryz.prog 140 #[.int .u64 x,.int .u64 y] w fun e w'=>e=.returned (.tuple #[.int .u64 ((x*y / 18446744073709551616:Nat):Int),.int .u64 ((x*y % 18446744073709551616:Nat):Int)])/\w'=w:=Any.bits_Mul64 Tryz.lays264 x y hx hy w
end Go.Proofs
namespace Go.Proofs.YtmnhhlnbfkfkaaaGreat.K
open Go Go.Eng
theorem Oa:(Tryz.prog.funcs.toList.all fun fn=>!(fn.name=="runtime.NumGoroutine"))=true:=by kernel_rfl
theorem dL:ProgOk Tryz.prog:=by
 refine ⟨fun f fn h _=>?_,by kernel_rfl⟩
 have h1:fn∈Tryz.prog.funcs.toList:=by
  rw [Array.mem_toList_iff]
  exact Array.mem_of_getElem? h
 have:=List.all_eq_true.1 Oa fn h1
 simpa using this
theorem mkInt_rel {σ:Sg} {s:Bool} {k:IntKind} {n:Int}:VRel σ (bP s k n) (.int k n):=by
 cases s with
 | true=>rfl
 | false=>
  unfold bP pM
  cases n with
  | ofNat m=>cases m <;> rfl
  | negSucc m=>cases m <;> rfl
def Ip (s b:Bool) (v:AV):Option (Nd×AV):=
 match s with
 | true=>some (.p (b=true),v)
 | false=>match b with
  | true=>some (.tt,v)
  | false=>none
theorem uu {s b:Bool} {v w:AV} {nd:Nd} (e:Ip s b v=some (nd,w)) (hn:nd.val):w=v/\b=true:=by
 unfold Ip at e
 split at e
 .cases e; exact ⟨rfl,hn⟩
 .split at e
  .cases e; exact ⟨rfl,rfl⟩
  .cases e
def ext (f:FuncId) (args:List AV):Option (Nd×AV):=
 match Nat.beq f 141 with
 | true=>match args with
  | [.int s .u64 x,.int s' .u64 y,.int s'' .u64 c]=>Ip (s||s'||s'') (decide (0<=x/\0<=y/\0<=c/\c<=1)) (.tuple [bP (s||s'||s'') .u64 ((x+y+c) % 18446744073709551616),bP (s||s'||s'') .u64 ((x+y+c) / 18446744073709551616)])
  | _=>none
 | false=>none
theorem Ob (x y c:Int) (hx:0<=x) (hy:0<=y) (hc0:0<=c) (hc:c<=1) (w:World):
  (callFunc 141 #[.int .u64 x,.int .u64 y,.int .u64 c]).run Tryz.prog w=.ok (.value (.tuple #[.int .u64 ((x+y+c) % 18446744073709551616),.int .u64 ((x+y+c) / 18446744073709551616)])) w:=by
 rw [run_callFunc_extern Tryz.func141 (by kernel_rfl) (by kernel_rfl) (by kernel_rfl) (e:=add64Entry) (by kernel_rfl),run_add64 x y c hx hy hc0 hc]
 rfl
theorem jF:LW Tryz.prog ext:=by
 intro f args nd v e hn σ A W ha
 unfold ext at e
 split at e
 .rename_i hf
  have:=Nat.eq_of_beq_eq_true hf
  subst this
  split at e
  .rename_i s x s' y s'' c
   obtain ⟨rfl,hd⟩:=uu e hn
   have hd:=of_decide_eq_true hd
   obtain ⟨V,L,hL,rfl,V2,L2,hL2,rfl,V3,L3,hL3,rfl,hL4⟩:=ha
   rw [hL2,hL3,show L3=[] from hL4] at hL
   have hA:A=#[.int .u64 x,.int .u64 y,.int .u64 c]:=by
    apply Array.toList_inj.1; simpa using hL
   subst hA
   exact ⟨_,⟨_,rfl,_,_,rfl,mkInt_rel,_,_,rfl,mkInt_rel,rfl⟩,Ob x y c hd.1 hd.2.1 hd.2.2.1 hd.2.2.2 W⟩
  .cases e
 .cases e
def J3:List AV->Option (Nd×AV)
 | [.int s .u64 x]=>some (.p (0<=x/\x<=18446744073709551615),bP s .i64 (64 - (Lib.bitLen x.toNat:Int)))
 | _=>none
def two64:Int:=18446744073709551616
def vU:List AV->Option (Nd×AV)
 | [.int s .u64 x,.int s' .u64 y]=>Ip (s||s') (decide (0<=x/\x<18446744073709551616/\0<=y/\y<18446744073709551616)) (.tuple [bP (s||s') .u64 (x*y / two64),bP (s||s') .u64 (x*y % two64)])
 | _=>none
theorem acf:PureOk Tryz.prog 149 J3:=by
 refine AZ ⟨_,Tryz.func149,rfl⟩ fun args nd v e hn σ A W ha=>?_
 unfold J3 at e
 split at e
 .rename_i s x
  cases e
  have hd:=hn
  obtain ⟨V,L,hL,rfl,hL2⟩:=ha
  rw [show L=[] from hL2] at hL
  have hA:A=#[.int .u64 x]:=by
   apply Array.toList_inj.1; simpa using hL
  subst hA
  exact ⟨_,mkInt_rel,Tryz.bits_LeadingZeros64 x W hd.1 hd.2⟩
 .cases e
theorem J4:PureOk Tryz.prog 140 vU:=by
 refine AZ ⟨_,Tryz.func140,rfl⟩ fun args nd v e hn σ A W ha=>?_
 unfold vU at e
 split at e
 .rename_i s x s' y
  obtain ⟨rfl,hd⟩:=uu e hn
  obtain ⟨h1,h2,h3,h4⟩:=of_decide_eq_true hd
  obtain ⟨V,L,hL,rfl,V2,L2,hL2,rfl,hL3⟩:=ha
  rw [hL2,show L2=[] from hL3] at hL
  have hA:A=#[.int .u64 x,.int .u64 y]:=by
   apply Array.toList_inj.1; simpa using hL
  subst hA
  refine ⟨.tuple #[.int .u64 (x*y / two64),.int .u64 (x*y % two64)],⟨_,rfl,_,_,rfl,mkInt_rel,_,_,rfl,mkInt_rel,rfl⟩,?_⟩
  have:=Tryz.bits_Mul64 x.toNat y.toNat (by omega) (by omega) W
  rw [Int.toNat_of_nonneg h1,Int.toNat_of_nonneg h3] at this
  have e1:((x.toNat*y.toNat / 18446744073709551616:Nat):Int)=x*y / two64:=by
   rw [Int.natCast_ediv,Int.natCast_mul,Int.toNat_of_nonneg h1,Int.toNat_of_nonneg h3]; rfl
  have e2:((x.toNat*y.toNat % 18446744073709551616:Nat):Int)=x*y % two64:=by
   rw [Int.natCast_emod,Int.natCast_mul,Int.toNat_of_nonneg h1,Int.toNat_of_nonneg h3]; rfl
  rw [e1,e2] at this
  exact this
 .cases e
noncomputable def Zo:List (FuncId×aM):=[(149,J3),(140,vU)]
theorem Vq:pq Tryz.prog Zo:=by
 intro x hx
 simp only [Zo,List.mem_cons,List.not_mem_nil,or_false] at hx
 rcases hx with rfl|rfl
 .exact acf
 .exact J4
noncomputable def cD0:Ctx:=mkC Tryz.prog Zo lH
theorem EW:CtxOk cD0:=jd dL Vq (qD _)
noncomputable def cD:Ctx:={ cD0 with loop:=fun fr a s=>match Nat.beq fr.fn 148 with|true=>EO (run cD0 60) fr a 3 s|false=>none }
theorem acg:CtxOk cD:=by
 refine ⟨EW.prog,EW.con,EW.ext,fun fr a s q e=>?_,fun _ _ _ _ _ _ _ e=>(by cases e)⟩
 have e:(match Nat.beq fr.fn 148 with|true=>EO (run cD0 60) fr a 3 s|false=>none)=some q:=e
 split at e
 .exact CW (bR EW 60) 3 s q e
 .cases e
theorem Vr (hi lo y:Int):fF ((run cD 100).call 148 [.int true .u64 hi,.int true .u64 lo,.int true .u64 y] ⟨[],0,1⟩)=some (.p (Yr hi lo y),.tuple [.int true .u64 (Vo hi lo y),.int true .u64 (Vp hi lo y)]):=by kernel_rfl
def EX:List AV->Option (Nd×AV)
 | [.int s .u64 hi,.int s' .u64 lo,.int s'' .u64 y]=>Ip (s||s'||s'') (decide (0<=hi/\hi<y/\y<18446744073709551616/\0<=lo/\lo<18446744073709551616))
   (.tuple [bP (s||s'||s'') .u64 ((hi*two64+lo) / y),bP (s||s'||s'') .u64 ((hi*two64+lo) % y)])
 | _=>none
theorem div_ok:PureOk Tryz.prog 148 EX:=by
 refine Qk (C:=cD) acg (fun _=>rfl) (n:=100) (fun args nd v e hn=>?_) ⟨_,Tryz.func148,rfl⟩
 unfold EX at e
 split at e
 .rename_i s hi s' lo s'' y
  obtain ⟨rfl,hb⟩:=uu e hn
  obtain ⟨h1,h2,h3,h4,h5⟩:=of_decide_eq_true hb
  refine ⟨[.int true .u64 hi,.int true .u64 lo,.int true .u64 y],_,_,fun σ L h=>h,Vr hi lo y,?_⟩
  obtain ⟨p1,p2,p3⟩:=QF hi.toNat lo.toNat y.toNat (by omega) (by omega) (by omega)
  rw [Int.toNat_of_nonneg h1,Int.toNat_of_nonneg h4,Int.toNat_of_nonneg (show 0<=y by omega)] at p1 p2 p3
  refine ⟨p1,fun τ V hV σ=>?_⟩
  obtain ⟨K,rfl,V1,L1,e1,rfl,V2,L2,e2,rfl,e3⟩:=hV
  rw [show L2=[] from e3] at e2
  rw [e2] at e1
  refine ⟨K,rfl,_,_,e1,?_,_,_,rfl,?_,rfl⟩
  .rw [p2]; exact mkInt_rel
  .rw [p3]; exact mkInt_rel
 .cases e
end Go.Proofs.YtmnhhlnbfkfkaaaGreat.K
namespace Go.Ar
open Go
def two64:Int:=18446744073709551616
def okF (a:Int):Bool:=decide (-4503599627370496<=a)&&decide (a<=4503599627370496)
def rd (n d:Int) (up:Bool):Int:=bif up then -(-n / d) else n / d
def Bj (v:Int):Int:=bif okF v then v else 0
def nC (v:Int):Int:=bif okF v then 0 else 6
def mulV (a b:Int) (up:Bool):Int:=bif okF a&&okF b then Bj (rd (a*b) 4294967296 up) else 0
def sg (a b:Int):Int:=bif decide (b<0) then -a else a
def okS (a n d:Int):Bool:=okF a&&(decide (-4611686018427387904<=n)&&decide (n<=4611686018427387904)&&decide (1<=d)&&decide (d<=4611686018427387904))
def xC (a:Int):Int:=bif bif decide (a < -4503599627370496) then true else decide (a>4503599627370496) then 2 else 0
def Iq (a b:Int):Int:=bif !(xC a != 0)&&!(xC b != 0) then 0 else bif xC a != 0 then xC a else xC b
def xSz (a:Int):Int:=bif decide (a<0) then IntKind.u64.wrap (IntKind.u64.wrap (IntKind.i64.wrap (0 - IntKind.i64.wrap (a+1)))+1) else IntKind.u64.wrap a
def xHi (p:Int):Int:=p / two64
def xLo (p:Int):Int:=p % two64
def xNo (p d:Int):Bool:=decide (xHi p>=d)
def xN (p d:Int) (up neg:Bool):Int:=bif xNo p d then 0 else
 bif bif !(up==neg) then decide ((xHi p*two64+xLo p) % d>0) else false then IntKind.u64.wrap ((xHi p*two64+xLo p) / d+1) else (xHi p*two64+xLo p) / d
def Oc (p d:Int) (up neg:Bool):Bool:=bif !(bif xNo p d then false else true) then true else decide (xN p d up neg>4503599627370496)
def xV (p d:Int) (up neg:Bool):Int:=bif Oc p d up neg then 0 else bif neg then IntKind.i64.wrap (0 - IntKind.i64.wrap (xN p d up neg)) else IntKind.i64.wrap (xN p d up neg)
def xE (p d:Int) (up neg:Bool):Int:=bif Oc p d up neg then 6 else 0
def Ch (a b:Int):Bool:=!(decide (a<0)==decide (b<0))
def xIn (a b:Int):Prop:=decide (0<=a/\a<18446744073709551616/\0<=b/\b<18446744073709551616)=true
def J5 (p d:Int):Prop:=decide (0<=xHi p/\xHi p<d/\d<18446744073709551616/\0<=xLo p/\xLo p<18446744073709551616)=true
theorem i64w {n:Int} (h0:-9223372036854775808<=n) (h1:n<9223372036854775808):IntKind.i64.wrap n=n:=by rw [IntKind.wrap_i64]; omega
theorem uw {n:Int} (h0:0<=n) (h1:n<18446744073709551616):IntKind.u64.wrap n=n:=by rw [IntKind.wrap_u64]; omega
theorem QG {a:Int} (h0:-9223372036854775808<=a) (h1:a<9223372036854775808):xSz a=sg a a:=by
 unfold xSz sg
 by_cases h:a<0
 .simp only [h,decide_true,cond_true]
  rw [i64w (n:=a+1) (by omega) (by omega),i64w (n:=0 - (a+1)) (by omega) (by omega),uw (n:=0 - (a+1)) (by omega) (by omega),uw (by omega) (by omega)]
  omega
 .simp only [h,decide_false,cond_false]
  rw [uw (by omega) (by omega)]
theorem Od (a:Int):0<=sg a a:=by
 unfold sg
 by_cases h:a<0
 .simp only [h,decide_true,cond_true]; omega
 .simp only [h,decide_false,cond_false]; omega
theorem aG {a:Int}:okF a=true ↔ -4503599627370496<=a/\a<=4503599627370496:=by simp [okF]
theorem nD {a:Int}:okF a=false ↔ a < -4503599627370496\/4503599627370496<a:=by
 rw [<- Bool.not_eq_true,aG]; omega
theorem Me (a:Int):xC a=bif okF a then 0 else 2:=by
 unfold xC
 cases h:okF a with
 | true=>
  have:=aG.1 h
  simp [show ¬ a < -4503599627370496 by omega,show ¬ a>4503599627370496 by omega]
 | false=>
  rcases nD.1 h with h|h
  .simp [h]
  .simp [show ¬ a < -4503599627370496 by omega,h]
theorem Mf (a b:Int):Iq a b=bif okF a&&okF b then 0 else 2:=by
 unfold Iq
 rw [Me,Me]
 cases okF a <;> cases okF b <;> rfl
theorem zz {p d:Int} (hd:0<d):-p / d=-(p / d) - (if 0<p % d then 1 else 0):=by
 have h1:=Int.mul_ediv_add_emod p d
 have h2:=Int.emod_nonneg p (show d≠0 by omega)
 have h3:=Int.emod_lt_of_pos p hd
 split
 .have h4:(-p) / d=-(p / d) - 1/\(-p) % d=d - p % d:=by
   rw [Int.ediv_emod_unique hd]
   refine ⟨?_,by omega,by omega⟩
   rw [Int.mul_sub,Int.mul_neg]
   omega
  exact h4.1
 .have:p % d=0:=by omega
  have h4:(-p) / d=-(p / d)/\(-p) % d=0:=by
   rw [Int.ediv_emod_unique hd]
   refine ⟨?_,by omega,by omega⟩
   rw [Int.mul_neg]
   omega
  omega
theorem QH {p d:Int} (hp:0<=p) (hp':p<340282366920938463463374607431768211456) (hd:0<d) (hd':d<18446744073709551616) (up neg:Bool) (n:Int) (hn:n=bif neg then -p else p) (hx:p<18446744073709551615*d\/(!(up==neg))=false):
  xV p d up neg=Bj (rd n d up)/\xE p d up neg=nC (rd n d up)/\(xNo p d=false->J5 p d):=by
 have e1:xHi p*two64+xLo p=p:=by unfold xHi xLo; have:=Int.mul_ediv_add_emod p two64; rw [Int.mul_comm] at this; exact this
 have l0:0<=xLo p:=Int.emod_nonneg p (by decide)
 have l1:xLo p<18446744073709551616:=Int.emod_lt_of_pos p (by decide)
 have h0:0<=xHi p:=Int.ediv_nonneg hp (by decide)
 have q0:0<=p / d:=Int.ediv_nonneg hp (by omega)
 have r0:=Int.emod_nonneg p (show d≠0 by omega)
 have rv:rd n d up=bif neg then -(p / d+(if (!(up==neg))=true/\0<p % d then 1 else 0)) else p / d+(if (!(up==neg))=true/\0<p % d then 1 else 0):=by
  subst hn
  unfold rd
  cases neg <;> cases up <;> simp [zz hd] <;> split <;> omega
 by_cases hno:xHi p>=d
 .-- the quotient does not fit
  have e2:xNo p d=true:=by simp [xNo,hno]
  have big:18446744073709551616<=p / d:=by
   rw [Int.le_ediv_iff_mul_le hd]
   have h2:d*two64<=xHi p*two64:=Int.mul_le_mul_of_nonneg_right hno (by decide)
   have h3:(18446744073709551616:Int)*d=d*two64:=by rw [Int.mul_comm]; rfl
   omega
  have hb:Oc p d up neg=true:=by simp [Oc,e2]
  have hf:okF (rd n d up)=false:=by
   rw [nD,rv]
   cases neg <;> simp <;> split <;> omega
  refine ⟨by simp [xV,hb,Bj,hf],by simp [xE,hb,nC,hf],fun h=>by rw [e2] at h; cases h⟩
 .have e2:xNo p d=false:=by simp [xNo]; omega
  have hlt:p<d*18446744073709551616:=by
   have h2:(xHi p+1)*two64<=d*two64:=Int.mul_le_mul_of_nonneg_right (by omega) (by decide)
   rw [Int.add_mul] at h2
   unfold two64 at *
   omega
  have q1:p / d<18446744073709551616:=by
   rw [Int.ediv_lt_iff_lt_mul hd]
   rw [Int.mul_comm]; exact hlt
  have ex:xV p d up neg=Bj (rd n d up)/\xE p d up neg=nC (rd n d up):=by
   have hN:xN p d up neg=p / d+(if (!(up==neg))=true/\0<p % d then 1 else 0):=by
    unfold xN
    rw [e2,e1]
    cases hu:!(up==neg) with
    | false=>simp
    | true=>
     by_cases hr:0<p % d
     .simp only [cond_true,cond_false,hr,decide_true,gt_iff_lt,and_self,if_true]
      rw [uw (by omega)]
      have:p / d≠18446744073709551615:=by
       intro hq
       have h5:p / d*d<=p:=Int.ediv_mul_le p (by omega)
       rw [hq] at h5
       rcases hx with hx|hx
       .omega
       .rw [hu] at hx; cases hx
      omega
     .simp [hr]
   generalize hk:p / d+(if (!(up==neg))=true/\0<p % d then 1 else 0)=k at hN rv
   have k0:0<=k:=by rw [<- hk]; split <;> omega
   unfold xV xE Oc
   rw [e2,hN,rv]
   by_cases hb:k>4503599627370496
   .have hf:okF (bif neg then -k else k)=false:=by
     rw [nD]
     cases neg <;> simp <;> omega
    simp [hb,Bj,nC,hf]
   .have hf:okF (bif neg then -k else k)=true:=by
     rw [aG]
     cases neg <;> simp <;> omega
    simp only [hb,decide_false,cond_true,cond_false,Bool.not_true,Bj,nC,hf]
    refine ⟨?_,trivial⟩
    rw [i64w (n:=k) (by omega) (by omega),i64w (n:=0 - k) (by omega) (by omega)]
    cases neg <;> simp
  refine ⟨ex.1,ex.2,fun _=>?_⟩
  unfold J5
  rw [decide_eq_true_eq]
  exact ⟨h0,by omega,hd',l0,l1⟩
theorem Zp {p d:Int} (hp:0<=p) (hd:0<d) (hd':d<18446744073709551616) (neg:Bool) (n:Int) (hn:n=bif neg then -p else p) (hx:18446744073709551615*d<=p):
  xE p d neg neg=6/\(∀ up,nC (rd n d up)=6)/\(xNo p d=false->J5 p d):=by
 have e1:xHi p*two64+xLo p=p:=by unfold xHi xLo; have:=Int.mul_ediv_add_emod p two64; rw [Int.mul_comm] at this; exact this
 have l0:0<=xLo p:=Int.emod_nonneg p (by decide)
 have l1:xLo p<18446744073709551616:=Int.emod_lt_of_pos p (by decide)
 have h0:0<=xHi p:=Int.ediv_nonneg hp (by decide)
 have q0:18446744073709551615<=p / d:=by rw [Int.le_ediv_iff_mul_le hd]; exact hx
 refine ⟨?_,fun up=>?_,fun h=>?_⟩
 .unfold xE Oc xN
  cases h:xNo p d with
  | true=>simp
  | false=>
   rw [e1]
   simp only [beq_self_eq_true,Bool.not_true,Bool.not_false,cond_true,cond_false]
   rw [decide_eq_true (by omega)]; rfl
 .have hf:okF (rd n d up)=false:=by
   rw [nD]
   subst hn
   unfold rd
   cases neg <;> cases up <;> simp [zz hd] <;> (try split) <;> omega
  simp [nC,hf]
 .unfold J5
  rw [decide_eq_true_eq]
  refine ⟨h0,?_,hd',l0,l1⟩
  simp [xNo] at h
  omega
def qF (a b:Int) (up:Bool):Int:=bif Iq a b != 0 then 0 else xV (xSz a*xSz b) 4294967296 up (Ch a b)
def nE (a b:Int) (up:Bool):Int:=bif Iq a b != 0 then Iq a b else xE (xSz a*xSz b) 4294967296 up (Ch a b)
def QI (a b:Int):Prop:=(!(Iq a b != 0))=true->b=b/\xIn (xSz a) (xSz b)/\((!xNo (xSz a*xSz b) 4294967296)=true->J5 (xSz a*xSz b) 4294967296)
def Oe (a n d:Int):Bool:=bif xC a != 0 then true else bif decide (n < -4611686018427387904) then true else bif decide (n>4611686018427387904) then true else bif decide (d<1) then true else decide (d>4611686018427387904)
def Og (a n d:Int) (up:Bool):Int:=bif Oe a n d then 0 else xV (xSz a*xSz n) (IntKind.u64.wrap d) up (Ch a n)
def lV (a n d:Int) (up:Bool):Int:=bif Oe a n d then 2 else xE (xSz a*xSz n) (IntKind.u64.wrap d) up (Ch a n)
theorem gF (a:Int):(a<0/\sg a a=-a)\/(0<=a/\sg a a=a):=by
 unfold sg
 by_cases h:a<0
 .left; simp [h]
 .right; simp [h]; omega
theorem Ir (a b:Int):a*b=bif Ch a b then -(sg a a*sg b b) else sg a a*sg b b:=by
 unfold Ch sg
 by_cases h:a<0 <;> by_cases k:b<0 <;> simp [h,k,Int.neg_mul,Int.mul_neg]
theorem QJ {p d:Int} (hp:0<=p) (hd':d<18446744073709551616) (h:xNo p d=false):J5 p d:=by
 unfold J5
 rw [decide_eq_true_eq]
 simp [xNo] at h
 exact ⟨Int.ediv_nonneg hp (by decide),by omega,hd',Int.emod_nonneg p (by decide),Int.emod_lt_of_pos p (by decide)⟩
theorem Vt {a b:Int} (h:(!(Iq a b != 0))=true):okF a=true/\okF b=true:=by
 rw [Mf] at h
 cases ha:okF a <;> cases hb:okF b <;> simp [ha,hb] at h ⊢
theorem uy {a b:Int} (ha:0<=a) (ha':a<18446744073709551616) (hb:0<=b) (hb':b<18446744073709551616):xIn a b:=by
 unfold xIn; rw [decide_eq_true_eq]; exact ⟨ha,ha',hb,hb'⟩
theorem Df {a:Int} (h:okF a=true):xSz a=sg a a/\0<=sg a a/\sg a a<=4503599627370496:=by
 have h:=aG.1 h
 refine ⟨QG (by omega) (by omega),Od a,?_⟩
 rcases gF a with ⟨_,e⟩|⟨_,e⟩ <;> omega
theorem Dh (a b:Int):QI a b:=by
 intro h
 obtain ⟨ha,hb⟩:=Vt h
 obtain ⟨a1,a2,a3⟩:=Df ha
 obtain ⟨b1,b2,b3⟩:=Df hb
 rw [a1,b1]
 refine ⟨rfl,uy a2 (by omega) b2 (by omega),fun hn=>?_⟩
 exact QJ (Int.mul_nonneg a2 b2) (by decide) (by simpa using hn)
theorem Mg (a n d:Int):Oe a n d=!okS a n d:=by
 unfold Oe okS
 rw [Me]
 rw [Bool.eq_iff_iff]
 cases okF a with
 | false=>simp
 | true=>
  simp only [cond_true,bne_self_eq_false,cond_false,Bool.true_and,Bool.not_eq_true',Bool.and_eq_false_iff,decide_eq_false_iff_not]
  by_cases h1:n < -4611686018427387904
  .simp [h1]
  .by_cases h2:n>4611686018427387904
   .simp [h1,h2]
   .by_cases h3:d<1
    .simp [h1,h2,h3]
    .simp [h1,h2,h3] <;> omega
theorem QK {p d:Int} (hp:0<=p) (hp':p<340282366920938463463374607431768211456) (hd:0<d) (hd':d<18446744073709551616) (neg:Bool) (n:Int) (hn:n=bif neg then -p else p):
  ((xE p d false neg=0/\xE p d true neg=0) ↔ (nC (rd n d false)=0/\nC (rd n d true)=0)) /\
  (nC (rd n d false)=0->nC (rd n d true)=0->xV p d false neg=rd n d false/\xV p d true neg=rd n d true):=by
 by_cases hx:p<18446744073709551615*d
 .obtain ⟨f1,f2,_⟩:=QH hp hp' hd hd' false neg n hn (.inl hx)
  obtain ⟨t1,t2,_⟩:=QH hp hp' hd hd' true neg n hn (.inl hx)
  rw [f2,t2,f1,t1]
  refine ⟨Iff.rfl,fun h1 h2=>?_⟩
  unfold nC at h1 h2
  unfold Bj
  cases e1:okF (rd n d false) <;> cases e2:okF (rd n d true) <;> simp_all
 .obtain ⟨h1,h2,_⟩:=Zp hp hd hd' neg n hn (by omega)
  refine ⟨⟨fun ⟨h3,h4⟩=>?_,fun ⟨h3,_⟩=>?_⟩,fun h3=>?_⟩
  .cases neg <;> omega
  .rw [h2] at h3; omega
  .rw [h2] at h3; omega
theorem oW (v:Int):(nC v=0/\okF v=true/\Bj v=v)\/(nC v=6/\okF v=false/\Bj v=0):=by
 unfold nC Bj
 cases okF v <;> simp
def sqQ (i r:Int):Int:=IntKind.u64.wrap ↑(BitVec.ofInt IntKind.u64.bits r ||| BitVec.ofInt IntKind.u64.bits (IntKind.u64.wrap (1*2 ^ min (IntKind.i64.wrap (42 - i)).toNat IntKind.u64.bits))).toNat
def Zq (H L t:Int):Bool:=bif decide (xHi (t*t)<H) then true else bif xHi (t*t)==H then decide (xLo (t*t)<=L) else false
def xH (H L i r:Int):Int:=bif Zq H L (sqQ i r) then sqQ i r else r
def nG (H L:Int):Nat->Int->Int->Int
 | 0,_,r=>r
 | n+1,i,r=>nG H L n (IntKind.i64.wrap (i+1)) (xH H L i r)
theorem Oh (n:Int):0<=IntKind.u64.wrap n/\IntKind.u64.wrap n<18446744073709551616:=by
 rw [IntKind.wrap_u64]; omega
end Go.Ar
namespace Go.Proofs.YtmnhhlnbfkfkaaaGreat.K
open Go Go.Eng Go.Ar
noncomputable def Zr:List (FuncId×aM):=[(140,vU),(148,EX)]
theorem Vu:pq Tryz.prog Zr:=by
 intro x hx
 simp only [Zr,List.mem_cons,List.not_mem_nil,or_false] at hx
 rcases hx with rfl|rfl
 .exact J4
 .exact div_ok
noncomputable def c1:Ctx:=mkC Tryz.prog Zr ext
theorem Iu:CtxOk c1:=jd dL Vu jF
theorem Iw (a b:Int):fF ((run c1 300).call 125 [.int true .i64 a,.int true .i64 b] ⟨[],0,1⟩)=some (.p (QI a b),.tuple [.int true .i64 (qF a b false),.int true .i64 (nE a b false)]):=by kernel_rfl
theorem Oi (a b:Int):fF ((run c1 300).call 126 [.int true .i64 a,.int true .i64 b] ⟨[],0,1⟩)=some (.p (QI a b),.tuple [.int true .i64 (qF a b true),.int true .i64 (nE a b true)]):=by kernel_rfl
end Go.Proofs.YtmnhhlnbfkfkaaaGreat.K
namespace Go.Proofs.YtmnhhlnbfkfkaaaGreat.K
open Go Go.Eng Go.Ar
noncomputable section
def sqS (up:Bool) (H L:Int):St:=⟨[⟨0,.bool false up⟩,⟨0,.ptr 0 0⟩,⟨0,.tuple []⟩,⟨61,.int false .u64 0⟩,⟨62,.bool false false⟩,⟨63,.int false .u64 0⟩,⟨0,.tuple []⟩,⟨0,.tuple []⟩,⟨64,.int false .i64 0⟩,
 ⟨0,.tuple []⟩,⟨0,.tuple []⟩,⟨0,.tuple []⟩,⟨0,.tuple []⟩,⟨0,.tuple []⟩,⟨0,.tuple []⟩,⟨0,.tuple []⟩,⟨0,.tuple []⟩,⟨0,.tuple []⟩,⟨0,.tuple []⟩,⟨0,.tuple []⟩,⟨0,.tuple []⟩,⟨0,.tuple []⟩,⟨0,.tuple []⟩,⟨0,.tuple []⟩,⟨0,.tuple []⟩,⟨0,.tuple []⟩,⟨0,.tuple []⟩,⟨0,.tuple []⟩,⟨0,.tuple []⟩,⟨0,.tuple []⟩,⟨0,.tuple []⟩,⟨0,.tuple []⟩,⟨0,.tuple []⟩,⟨0,.tuple []⟩],[],
 ⟨[⟨48,.cells [.int true .u64 H,.int true .u64 L]⟩],1,65⟩⟩
def sqP (i r:Int):Patch:=⟨[(5,.int true .u64 r),(8,.int true .i64 i),(6,.any false),(7,.any false),(9,.any false),(10,.any false),(11,.any false),(12,.any false),(13,.any false),(14,.any false),(15,.any false),(16,.any false),(17,.any false),(18,.any false),(19,.any false),(20,.any false),(21,.any false),(22,.any false)],[],[]⟩
def sqO (r:Int):Patch:=⟨[(5,.int true .u64 r),(8,.any false),(6,.any false),(7,.any false),(9,.any false),(10,.any false),(11,.any false),(12,.any false),(13,.any false),(14,.any false),(15,.any false),(16,.any false),(17,.any false),(18,.any false),(19,.any false),(20,.any false),(21,.any false),(22,.any false)],[],[]⟩
def QL:AFr:=⟨133,none⟩
noncomputable def sqA:Code:=jE Tryz.prog 133 0
def sqU (H L:Int):Sum (Int×Int):=
 {
  S:=fun y=>sqP y.1 y.2
  I:=fun y=>0<=y.1/\y.1<=43
  μ:=fun y=>(43 - y.1).toNat
  F:=fun y=>(.exit 0,sqO (nG H L (43 - y.1).toNat y.1 y.2))
  next:=fun y=>(IntKind.i64.wrap (y.1+1),xH H L y.1 y.2)
  ids:=[]
  X:=fun y _=>some (sqO y.2,[]) }
def ach (H L i r:Int):Prop:=
 (decide (i<43)=true->0<=IntKind.i64.wrap (42 - i)/\xIn (sqQ i r) (sqQ i r)/\H=H/\L=L) /\
 ((!decide (i<43))=true->r=r/\(sqU H L).F (i,r)=(.exit 0,sqO r)) /\
 (decide (i<43)=true->(xH H L i r=xH H L i r/\IntKind.i64.wrap (i+1)=IntKind.i64.wrap (i+1)) /\
  (sqU H L).I ((sqU H L).next (i,r))/\(sqU H L).μ ((sqU H L).next (i,r))<(sqU H L).μ (i,r)/\(sqU H L).F ((sqU H L).next (i,r))=(sqU H L).F (i,r))
theorem Zt (up:Bool) (H L i r:Int):fI (sqS up H L) ((sqU H L).way (i,r)) ((run c1 300).code QL sqA (af (sqS up H L) ((sqU H L).S (i,r))))=some (.p (ach H L i r)):=by kernel_rfl
end
end Go.Proofs.YtmnhhlnbfkfkaaaGreat.K
namespace Go.Ar
open Go
theorem Zu (i k:Nat) (hi:i<=42) (hr:2 ^ (43 - i)*k<2 ^ 43):sqQ (i:Int) ((2 ^ (43 - i)*k:Nat):Int)=((2 ^ (43 - i)*k+2 ^ (42 - i):Nat):Int):=by
 have e1:IntKind.i64.wrap (42 - (i:Int))=((42 - i:Nat):Int):=by rw [i64w (by omega) (by omega)]; omega
 have e2:min (((42 - i:Nat):Int)).toNat IntKind.u64.bits=42 - i:=by
  rw [Int.toNat_natCast]; exact Nat.min_eq_left (Nat.le_trans (Nat.sub_le _ _) (by decide))
 have p1:2 ^ (42 - i)<=2 ^ 42:=Nat.pow_le_pow_right (by decide) (by omega)
 have e3:IntKind.u64.wrap (1*2 ^ (42 - i))=((2 ^ (42 - i):Nat):Int):=by
  rw [Int.one_mul,show (2:Int) ^ (42 - i)=((2 ^ (42 - i):Nat):Int) from (Int.natCast_pow 2 _).symm]
  generalize 2 ^ (42 - i)=P at p1
  exact uw (by omega) (by omega)
 unfold sqQ
 rw [e1,e2,e3]
 rw [Go.Eng.dOr_eq _ _ (by omega) (by omega)]
 congr 1
 rw [<- Nat.two_pow_add_eq_or_of_lt (Nat.pow_lt_pow_right (by decide) (by omega)) k]
theorem Vv (t n:Nat) (ht:t<18446744073709551616):Zq (xHi (n:Int)) (xLo (n:Int)) (t:Int)=decide (t*t<=n):=by
 unfold Zq xHi xLo two64
 have e1:((t:Int)*t) / 18446744073709551616=((t*t / 18446744073709551616:Nat):Int):=by rw [Int.natCast_ediv,Int.natCast_mul]; rfl
 have e2:((t:Int)*t) % 18446744073709551616=((t*t % 18446744073709551616:Nat):Int):=by rw [Int.natCast_emod,Int.natCast_mul]; rfl
 have e3:(n:Int) / 18446744073709551616=((n / 18446744073709551616:Nat):Int):=by rw [Int.natCast_ediv]; rfl
 have e4:(n:Int) % 18446744073709551616=((n % 18446744073709551616:Nat):Int):=by rw [Int.natCast_emod]; rfl
 rw [e1,e2,e3,e4]
 generalize t*t=m
 rw [Bool.eq_iff_iff]
 by_cases h1:m / 18446744073709551616<n / 18446744073709551616
 .have:((m / 18446744073709551616:Nat):Int)<((n / 18446744073709551616:Nat):Int):=by omega
  simp only [this,decide_true,cond_true,true_iff,decide_eq_true_eq]
  omega
 .have:¬ ((m / 18446744073709551616:Nat):Int)<((n / 18446744073709551616:Nat):Int):=by omega
  simp only [this,decide_false,cond_false,decide_eq_true_eq]
  by_cases h2:m / 18446744073709551616=n / 18446744073709551616
  .rw [h2]
   simp only [beq_self_eq_true,cond_true,decide_eq_true_eq]
   omega
  .have:(((m / 18446744073709551616:Nat):Int)==((n / 18446744073709551616:Nat):Int))=false:=by
    rw [beq_eq_false_iff_ne]; omega
   rw [this]
   simp only [cond_false,Bool.false_eq_true,false_iff]
   omega
theorem uz (n:Nat):∀ (m i k:Nat),i+m=43->2 ^ (43 - i)*k<2 ^ 43->(2 ^ (43 - i)*k)*(2 ^ (43 - i)*k)<=n->n<(2 ^ (43 - i)*k+2 ^ (43 - i))*(2 ^ (43 - i)*k+2 ^ (43 - i)) ->
  ∃ r:Nat,nG (xHi (n:Int)) (xLo (n:Int)) m (i:Int) ((2 ^ (43 - i)*k:Nat):Int)=(r:Int)/\r*r<=n/\n<(r+1)*(r+1)/\r<2 ^ 43
 | 0,i,k,hi,h1,h2,h3=>by
  have:i=43:=by omega
  subst this
  exact ⟨2 ^ (43 - 43)*k,rfl,h2,h3,h1⟩
 | m+1,i,k,hi,h1,h2,h3=>by
  have p:2 ^ (43 - i)=2*2 ^ (43 - (i+1)):=by
   rw [show 43 - i=(43 - (i+1))+1 by omega,Nat.pow_succ]; omega
  have e1:IntKind.i64.wrap ((i:Int)+1)=((i+1:Nat):Int):=by rw [i64w (by omega) (by omega)]; omega
  have e2:=Zu i k (by omega) h1
  rw [show 42 - i=43 - (i+1) by omega] at e2
  simp only [nG]
  rw [e1]
  unfold xH
  rw [e2]
  generalize hq:2 ^ (43 - (i+1))=q at *
  have hq1:1<=q:=by rw [<- hq]; exact Nat.one_le_two_pow
  have hb:2 ^ (43 - i)*k+q<2 ^ 43:=by
   rw [p]
   have h4:2 ^ (43 - i)*(2 ^ i)=2 ^ 43:=by rw [<- Nat.pow_add]; congr 1; omega
   rw [p] at h4
   have:k<2 ^ i:=by
    rw [p,<- h4] at h1
    exact Nat.lt_of_mul_lt_mul_left h1
   have h5:2*q*(k+1)<=2*q*2 ^ i:=Nat.mul_le_mul_left _ this
   rw [h4,Nat.mul_add] at h5
   omega
  rw [Vv _ n (by omega)]
  by_cases h:(2 ^ (43 - i)*k+q)*(2 ^ (43 - i)*k+q)<=n
  .rw [decide_eq_true h,cond_true]
   have hk:2 ^ (43 - i)*k+q=q*(2*k+1):=by rw [p,Nat.mul_add,Nat.mul_one,<- Nat.mul_assoc,Nat.mul_comm q 2]
   have hs:q*(2*k+1)+q=2 ^ (43 - i)*k+2 ^ (43 - i):=by rw [<- hk,p]; omega
   rw [hk] at h hb ⊢
   have:=uz n m (i+1) (2*k+1) (by omega) (by rw [hq]; exact hb) (by rw [hq]; exact h) (by rw [hq,hs]; exact h3)
   rw [hq] at this
   exact this
  .rw [decide_eq_false h,cond_false]
   have hk:2 ^ (43 - i)*k=q*(2*k):=by rw [p,<- Nat.mul_assoc,Nat.mul_comm q 2]
   rw [hk] at h h1 h2 ⊢
   have:=uz n m (i+1) (2*k) (by omega) (by rw [hq]; exact h1) (by rw [hq]; exact h2) (by rw [hq]; omega)
   rw [hq] at this
   exact this
theorem Vw (a:Nat) (ha:a<=4503599627370496):∃ r:Nat,nG (xHi (IntKind.u64.wrap a*4294967296)) (xLo (IntKind.u64.wrap a*4294967296)) 43 0 0=(r:Int)/\r*r<=a*4294967296/\a*4294967296<(r+1)*(r+1)/\r<2 ^ 43:=by
 rw [uw (n:=(a:Int)) (by omega) (by omega)]
 have:=uz (a*4294967296) 43 0 0 rfl (by decide) (by omega) (by simp; omega)
 simpa using this
def nI (a:Int):Int:=IntKind.u64.wrap a*4294967296
def sqR (a:Int):Int:=nG (xHi (nI a)) (xLo (nI a)) 43 0 0
def Di (a:Int):Bool:=bif xC a != 0 then true else decide (a<0)
def QM (a:Int):Int:=bif !(sqR a*sqR a / two64==xHi (nI a)&&(sqR a*sqR a % two64==xLo (nI a)&&true)) then IntKind.u64.wrap (sqR a+1) else sqR a
def xI (a:Int) (up:Bool):Int:=bif Di a then 0 else bif decide ((bif up then QM a else sqR a)>4503599627370496) then 0 else IntKind.i64.wrap (bif up then QM a else sqR a)
def QN (a:Int) (up:Bool):Int:=bif Di a then 2 else bif decide ((bif up then QM a else sqR a)>4503599627370496) then 6 else 0
def rtV (a:Int) (up:Bool):Int:=bif up&&!(sqR a*sqR a==a*4294967296) then sqR a+1 else sqR a
def fU (a:Int):Bool:=okF a&&decide (0<=a)
def QO (a:Int) (up:Bool):Int:=bif fU a then rtV a up else 0
def Yu (a:Int):Int:=bif fU a then 0 else 2
theorem Iy (a:Int):Di a=!fU a:=by
 unfold Di fU
 rw [Me]
 cases okF a with
 | false=>simp
 | true=>by_cases h:a<0 <;> simp [h] <;> omega
theorem fB {a:Int} (h:fU a=true):0<=sqR a/\sqR a*sqR a<=a*4294967296/\a*4294967296<(sqR a+1)*(sqR a+1)/\sqR a<8796093022208:=by
 simp only [fU,Bool.and_eq_true,decide_eq_true_eq] at h
 obtain ⟨h1,h2⟩:=h
 have h1:=aG.1 h1
 obtain ⟨r,e,r1,r2,r3⟩:=Vw a.toNat (by omega)
 rw [Int.toNat_of_nonneg h2] at e
 have e:sqR a=r:=e
 rw [e]
 have c1:((r*r:Nat):Int)=(r:Int)*r:=Int.natCast_mul r r
 have c2:(((r+1)*(r+1):Nat):Int)=((r:Int)+1)*(r+1):=by rw [Int.natCast_mul]; rfl
 refine ⟨by omega,by omega,by omega,by omega⟩
theorem Mh (a:Int) (up:Bool):xI a up=QO a up/\QN a up=Yu a:=by
 unfold xI QN QO Yu
 rw [Iy]
 cases h:fU a with
 | false=>simp
 | true=>
  obtain ⟨r0,r1,r2,r3⟩:=fB h
  simp only [fU,Bool.and_eq_true,decide_eq_true_eq] at h
  obtain ⟨h1,h2⟩:=h
  have h1:=aG.1 h1
  have key:(bif up then QM a else sqR a)=rtV a up:=by
   cases up with
   | false=>rfl
   | true=>
    have e0:nI a=a*4294967296:=by unfold nI; rw [uw (by omega) (by omega)]
    have:(sqR a*sqR a / two64==xHi (nI a)&&(sqR a*sqR a % two64==xLo (nI a)&&true))=(sqR a*sqR a==a*4294967296):=by
     rw [e0]
     unfold xHi xLo two64
     rw [Bool.eq_iff_iff]
     simp only [Bool.and_true,Bool.and_eq_true,beq_iff_eq]
     omega
    unfold QM rtV
    rw [this,uw (by omega) (by omega)]
    rfl
  rw [key]
  have hb:0<=rtV a up/\rtV a up<=8796093022208:=by
   unfold rtV
   cases up&&!(sqR a*sqR a==a*4294967296) <;> simp <;> omega
  simp only [Bool.not_true,cond_false,cond_true]
  rw [decide_eq_false (by omega),i64w (by omega) (by omega)]
  exact ⟨rfl,rfl⟩
end Go.Ar
namespace Go.Ar
open Go Go.Eng
noncomputable section
def two (a b:Int):Tm:=.u [.n .i64 a,.n .i64 b]
def Vy (up:Bool):aM:=aW [.i .i64,.i .i64] none fun
 | [.n a,.n b]=>two (qF a b up) (nE a b up)
 | _=>.u []
def Mi (up:Bool):aM:=aW [.i .i64] none fun
 | [.n a]=>two (xI a up) (QN a up)
 | _=>.u []
end
end Go.Ar
namespace Go.Proofs.YtmnhhlnbfkfkaaaGreat.K
open Go Go.Eng Go.Ar
noncomputable section
theorem QP (up:Bool) (H L:Int):fit (sqS up H L) (sqS up H L) (af (sqS up H L) ((sqU H L).S (0,0))) []=some (.p ((0:Int)=0/\(0:Int)=0)):=by kernel_rfl
theorem aci (H L i r:Int) (h:0<=i/\i<=43):ach H L i r:=by
 refine ⟨fun hi=>?_,fun hi=>⟨rfl,?_⟩,fun hi=>⟨⟨rfl,rfl⟩,?_⟩⟩
 .have hi:=of_decide_eq_true hi
  refine ⟨by rw [i64w (by omega) (by omega)]; omega,?_,rfl,rfl⟩
  have:=Oh (↑(BitVec.ofInt IntKind.u64.bits r ||| BitVec.ofInt IntKind.u64.bits (IntKind.u64.wrap (1*2 ^ min (IntKind.i64.wrap (42 - i)).toNat IntKind.u64.bits))).toNat)
  exact uy this.1 this.2 this.1 this.2
 .have:i=43:=by simp at hi; omega
  subst this
  rfl
 .have hi:=of_decide_eq_true hi
  have e:IntKind.i64.wrap (i+1)=i+1:=i64w (by omega) (by omega)
  have e2:(43 - i).toNat=(43 - (i+1)).toNat+1:=by omega
  refine ⟨?_,?_,?_⟩
  .show 0<=IntKind.i64.wrap (i+1)/\IntKind.i64.wrap (i+1)<=43
   rw [e]; omega
  .show (43 - IntKind.i64.wrap (i+1)).toNat<(43 - i).toNat
   rw [e]; omega
  .show (Ex.exit 0,sqO (nG H L (43 - IntKind.i64.wrap (i+1)).toNat (IntKind.i64.wrap (i+1)) (xH H L i r)))=(Ex.exit 0,sqO (nG H L (43 - i).toNat i r))
   rw [e2,nG,e]
theorem Vz (up:Bool) (H L:Int):CodeOk c1 QL (.loop sqA) (sqS up H L) ⟨.tt,[⟨.tt,.exit 0,af (sqS up H L) (sqO (nG H L 43 0 0))⟩]⟩:=by
 have hF:(sqU H L).F (0,0)=(.exit 0,sqO (nG H L 43 0 0)):=by
  show (Ex.exit 0,sqO (nG H L (43 - (0:Int)).toNat 0 0))=_
  rw [show (43 - (0:Int)).toNat=43 from by decide]
 have h0:gP (sqS up H L).hp ((sqU H L).S (0,0)).old=true:=by kernel_rfl
 have h1:(sqU H L).I (0,0):=⟨by decide,by decide⟩
 exact Vi (bR Iu 300) (sqU H L) h1 ⟨_,QP up H L,rfl,rfl⟩ h0 (fun y hy=>⟨_,Zt up H L y.1 y.2,aci H L y.1 y.2 hy⟩) hF
noncomputable def c1s (up:Bool) (a:Int):Ctx:=bq c1 [bZ 133 65 QL sqA (sqS up (xHi (nI a)) (xLo (nI a))) (.exit 0) (sqO (nG (xHi (nI a)) (xLo (nI a)) 43 0 0))]
theorem QQ (up:Bool) (a:Int):CtxOk (c1s up a):=aQ Iu (Vz up _ _) (cO Iu)
def acj (up:Bool) (a:Int):Prop:=At QL QL sqA sqA (sqS up (xHi (nI a)) (xLo (nI a))) (sqS up (xHi (nI a)) (xLo (nI a)))
def Yv (a:Int):Prop:=(!Di a)=true->xIn (IntKind.u64.wrap a) 4294967296/\acj false a
def Yw (a:Int):Prop:=(!Di a)=true->xIn (IntKind.u64.wrap a) 4294967296/\acj true a/\xIn (sqR a) (sqR a)/\xHi (nI a)=xHi (nI a)/\xLo (nI a)=xLo (nI a)
theorem J6 (a:Int):fF ((run (c1s false a) 300).call 94 [.int true .i64 a] ⟨[],0,1⟩)=some (.p (Yv a),.tuple [.int true .i64 (xI a false),.int true .i64 (QN a false)]):=by kernel_rfl
theorem QR (a:Int):fF ((run (c1s true a) 300).call 95 [.int true .i64 a] ⟨[],0,1⟩)=some (.p (Yw a),.tuple [.int true .i64 (xI a true),.int true .i64 (QN a true)]):=by kernel_rfl
theorem Dj (a:Int):Yw a:=by
 intro h
 rw [Iy,Bool.not_not] at h
 obtain ⟨r0,r1,r2,r3⟩:=fB h
 simp only [fU,Bool.and_eq_true,decide_eq_true_eq] at h
 have h1:=aG.1 h.1
 rw [uw (n:=a) (by omega) (by omega)]
 exact ⟨uy (by omega) (by omega) (by decide) (by decide),⟨rfl,rfl,rfl⟩,uy (by omega) (by omega) (by omega) (by omega),rfl,rfl⟩
theorem Oj (a:Int):Yv a:=fun h=>⟨(Dj a h).1,rfl,rfl,rfl⟩
theorem J7:PureOk Tryz.prog 125 (Vy false):=by
 refine fw (fun xs hk _=>?_) ⟨_,Tryz.func125,rfl⟩
 obtain ⟨a,_,rfl,h1⟩:=kn hk; obtain ⟨b,_,rfl,h2⟩:=kn h1; obtain rfl:=k0 h2
 exact ⟨c1,300,_,Iu,rfl,fun _=>rfl,rfl,Iw a b,Dh a b⟩
theorem QS:PureOk Tryz.prog 126 (Vy true):=by
 refine fw (fun xs hk _=>?_) ⟨_,Tryz.func126,rfl⟩
 obtain ⟨a,_,rfl,h1⟩:=kn hk; obtain ⟨b,_,rfl,h2⟩:=kn h1; obtain rfl:=k0 h2
 exact ⟨c1,300,_,Iu,rfl,fun _=>rfl,rfl,Oi a b,Dh a b⟩
theorem Iz:PureOk Tryz.prog 94 (Mi false):=by
 refine fw (fun xs hk _=>?_) ⟨_,Tryz.func94,rfl⟩
 obtain ⟨a,_,rfl,h1⟩:=kn hk; obtain rfl:=k0 h1
 exact ⟨c1s false a,300,_,QQ false a,rfl,fun _=>rfl,rfl,J6 a,Oj a⟩
theorem Ol:PureOk Tryz.prog 95 (Mi true):=by
 refine fw (fun xs hk _=>?_) ⟨_,Tryz.func95,rfl⟩
 obtain ⟨a,_,rfl,h1⟩:=kn hk; obtain rfl:=k0 h1
 exact ⟨c1s true a,300,_,QQ true a,rfl,fun _=>rfl,rfl,QR a,Dj a⟩
noncomputable def VA:List (FuncId×aM):=[(125,Vy false),(126,Vy true),(94,Mi false),(95,Mi true),(140,vU)]
theorem Mj:pq Tryz.prog VA:=by
 intro x hx
 simp only [VA,List.mem_cons,List.not_mem_nil,or_false] at hx
 rcases hx with rfl|rfl|rfl|rfl|rfl
 .exact J7
 .exact QS
 .exact Iz
 .exact Ol
 .exact J4
noncomputable def c2:Ctx:=mkC Tryz.prog VA ext
theorem Dk:CtxOk c2:=jd dL Mj jF
end
end Go.Proofs.YtmnhhlnbfkfkaaaGreat.K
namespace Go.Ar
open Go
structure Sp where
 lo:Int
 hi:Int
 e:Int
def err (e:Int):Sp:=⟨0,0,e⟩
def aj (a b:Int):Bool:=decide (-4503599627370496<=a)&&(decide (a<=b)&&decide (b<=4503599627370496))
def dV (lo hi:Int):Sp:=bif okF lo&&okF hi then ⟨lo,hi,0⟩ else err 6
def mn (a b:Int):Int:=bif decide (b<a) then b else a
def mx (a b:Int):Int:=bif decide (a<b) then b else a
def pG (a b c d:Int) (r:Sp):Sp:=bif aj a b&&aj c d then r else err 20
def fC (a b c d:Int):Sp:=pG a b c d (dV (a+c) (b+d))
def Bn (a b c d:Int):Sp:=pG a b c d (dV (a - d) (b - c))
def Ci (a b:Int):Sp:=bif aj a b then ⟨-b,-a,0⟩ else err 20
def kw (F:Int->Int->Bool->Int) (a b c d:Int):Sp:=
 dV (mn (mn (mn (F a c false) (F a d false)) (F b c false)) (F b d false)) (mx (mx (mx (F a c true) (F a d true)) (F b c true)) (F b d true))
def mF (x y:Int) (up:Bool):Int:=rd (x*y) 4294967296 up
def dF (x y:Int) (up:Bool):Int:=rd (sg (x*4294967296) y) (sg y y) up
def aI (a b c d:Int):Sp:=pG a b c d (kw mF a b c d)
def oZ (a b c d:Int):Sp:=pG a b c d (bif decide (c<=0)&&decide (0<=d) then err 7 else kw dF a b c d)
def abL (a b:Int):Int:=mx (mx a (-b)) 0
def abH (a b:Int):Int:=mx b (-a)
def gK (a b:Int):Sp:=bif aj a b then dV (rd (abL a b*abL a b) 4294967296 false) (rd (abH a b*abH a b) 4294967296 true) else err 20
def eH (a b:Int):Sp:=bif aj a b then (bif decide (a<0) then err 2 else ⟨rtV a false,rtV b true,0⟩) else err 20
def okR (n d:Int):Bool:=decide (-4611686018427387904<=n)&&decide (n<=4611686018427387904)&&decide (1<=d)&&decide (d<=4611686018427387904)
def kr (a b n d:Int):Sp:=bif aj a b then (bif okR n d then dV (rd (mn (a*n) (b*n)) d false) (rd (mx (a*n) (b*n)) d true) else err 2) else err 20
def xCS (a b:Int):Int:=bif bif decide (a < -4503599627370496) then true else bif decide (a>b) then true else decide (b>4503599627370496) then 20 else 0
def yI (a b c d:Int):Int:=bif !(xCS a b != 0)&&!(xCS c d != 0) then 0 else bif xCS a b != 0 then xCS a b else xCS c d
def xTb (l h:Int):Bool:=bif decide (l < -4503599627370496) then true else decide (h>4503599627370496)
def IA (g l h:Int):Sp:=⟨bif g != 0 then 0 else bif xTb l h then 0 else l,bif g != 0 then 0 else bif xTb l h then 0 else h,bif g != 0 then g else bif xTb l h then 6 else 0⟩
def QT (a b c d:Int):Sp:=IA (yI a b c d) (IntKind.i64.wrap (a+c)) (IntKind.i64.wrap (b+d))
def J8 (a b:Int):Sp:=
 ⟨bif xCS a b != 0 then 0 else bif decide (a<0) then 0 else bif xTb (xI a false) (xI b true) then 0 else xI a false,
  bif xCS a b != 0 then 0 else bif decide (a<0) then 0 else bif xTb (xI a false) (xI b true) then 0 else xI b true,
  bif xCS a b != 0 then xCS a b else bif decide (a<0) then 2 else bif xTb (xI a false) (xI b true) then 6 else 0⟩
def tL (low lo:Int):Int:=bif decide (low<lo) then low else lo
def tH (low lo hi:Int):Int:=bif decide (low<lo) then hi else hi
def nL (low high lo hi:Int):Int:=bif decide (high>tH low lo hi) then tL low lo else tL low lo
def nH (low high lo hi:Int):Int:=bif decide (high>tH low lo hi) then high else tH low lo hi
def l1 (V:Int->Int->Bool->Int) (a c d:Int):Int:=nL (V a d false) (V a d true) (V a c false) (V a c true)
def h1 (V:Int->Int->Bool->Int) (a c d:Int):Int:=nH (V a d false) (V a d true) (V a c false) (V a c true)
def l2 (V:Int->Int->Bool->Int) (a b c d:Int):Int:=nL (V b c false) (V b c true) (l1 V a c d) (h1 V a c d)
def h2 (V:Int->Int->Bool->Int) (a b c d:Int):Int:=nH (V b c false) (V b c true) (l1 V a c d) (h1 V a c d)
def l3 (V:Int->Int->Bool->Int) (a b c d:Int):Int:=nL (V b d false) (V b d true) (l2 V a b c d) (h2 V a b c d)
def h3 (V:Int->Int->Bool->Int) (a b c d:Int):Int:=nH (V b d false) (V b d true) (l2 V a b c d) (h2 V a b c d)
def Cj (E:Int->Int->Bool->Int) (x y:Int):Bool:=bif E x y false != 0 then true else E x y true != 0
def ok4 (E:Int->Int->Bool->Int) (a b c d:Int):Bool:=(!Cj E a c&&!Cj E a d)&&(!Cj E b c&&!Cj E b d)
def bL (V E:Int->Int->Bool->Int) (a b c d:Int):Int:=bif ok4 E a b c d then (bif xTb (l3 V a b c d) (h3 V a b c d) then 0 else l3 V a b c d) else 0
def bH (V E:Int->Int->Bool->Int) (a b c d:Int):Int:=bif ok4 E a b c d then (bif xTb (l3 V a b c d) (h3 V a b c d) then 0 else h3 V a b c d) else 0
def bE (V E:Int->Int->Bool->Int) (a b c d:Int):Int:=bif ok4 E a b c d then (bif xTb (l3 V a b c d) (h3 V a b c d) then 6 else 0) else 6
def QU (a b c d:Int):Sp:=⟨bif yI a b c d != 0 then 0 else bL qF nE a b c d,bif yI a b c d != 0 then 0 else bH qF nE a b c d,bif yI a b c d != 0 then yI a b c d else bE qF nE a b c d⟩
def xsA (a b n:Int):Int:=bif decide (n<0) then IntKind.i64.wrap (0 - b) else a
def xsB (a b n:Int):Int:=bif decide (n<0) then IntKind.i64.wrap (0 - a) else b
def xsN (n:Int):Int:=bif decide (n<0) then IntKind.i64.wrap (0 - n) else n
def IB (n:Int):Bool:=bif decide (n<0) then !decide (n < -4611686018427387904) else true
def Dl (a b n d:Int):Bool:=bif lV (xsA a b n) (xsN n) d false != 0 then true else lV (xsB a b n) (xsN n) d true != 0
def aK (a b n d:Int):Sp:=
 ⟨bif xCS a b != 0 then 0 else bif IB n then (bif Dl a b n d then 0 else Og (xsA a b n) (xsN n) d false) else 0,
  bif xCS a b != 0 then 0 else bif IB n then (bif Dl a b n d then 0 else Og (xsB a b n) (xsN n) d true) else 0,
  bif xCS a b != 0 then xCS a b else bif IB n then (bif Dl a b n d then (if lV (xsB a b n) (xsN n) d true>lV (xsA a b n) (xsN n) d false then lV (xsB a b n) (xsN n) d true else lV (xsA a b n) (xsN n) d false) else 0) else 2⟩
theorem bX {a b:Int}:aj a b=true ↔ -4503599627370496<=a/\a<=b/\b<=4503599627370496:=by simp [aj]
theorem o5 (a b:Int):xCS a b=bif aj a b then 0 else 20:=by
 unfold xCS
 cases h:aj a b with
 | true=>
  have:=bX.1 h
  simp [show ¬ a < -4503599627370496 by omega,show ¬ a>b by omega,show ¬ b>4503599627370496 by omega]
 | false=>
  have:¬ (-4503599627370496<=a/\a<=b/\b<=4503599627370496):=fun k=>by rw [bX.2 k] at h; cases h
  by_cases h1:a < -4503599627370496
  .simp [h1]
  .by_cases h2:a>b
   .simp [h1,h2]
   .simp [h1,h2,show b>4503599627370496 by omega]
theorem IC (a b c d:Int):yI a b c d=bif aj a b&&aj c d then 0 else 20:=by
 unfold yI
 rw [o5,o5]
 cases aj a b <;> cases aj c d <;> rfl
theorem J9 {l h:Int} (k:l<=h):xTb l h=!(okF l&&okF h):=by
 unfold xTb okF
 rw [Bool.eq_iff_iff]
 by_cases h1:l < -4503599627370496
 .simp [h1] <;> omega
 .simp [h1] <;> omega
theorem QV (a b c d l h:Int) (k:aj a b=true->aj c d=true->l<=h):IA (yI a b c d) l h=pG a b c d (dV l h):=by
 unfold IA pG
 rw [IC]
 cases h1:aj a b with
 | false=>simp [err]
 | true=>
  cases h2:aj c d with
  | false=>simp [err]
  | true=>
   rw [J9 (k h1 h2)]
   unfold dV
   cases okF l&&okF h <;> simp [err]
theorem QW (a b c d:Int):QT a b c d=fC a b c d:=by
 unfold QT fC
 rw [QV]
 .unfold pG
  cases h1:aj a b <;> cases h2:aj c d <;> try rfl
  have:=bX.1 h1; have:=bX.1 h2
  rw [i64w (by omega) (by omega),i64w (by omega) (by omega)]
 .intro h1 h2
  have:=bX.1 h1; have:=bX.1 h2
  rw [i64w (by omega) (by omega),i64w (by omega) (by omega)]; omega
theorem rR {a:Int} (h:fU a=true) (up:Bool):0<=rtV a up/\rtV a up<=8796093022208:=by
 obtain ⟨r0,r1,r2,r3⟩:=fB h
 unfold rtV
 cases up&&!(sqR a*sqR a==a*4294967296) <;> simp <;> omega
theorem Om (a b:Int):J8 a b=eH a b:=by
 unfold J8 eH
 rw [o5]
 cases h1:aj a b with
 | false=>simp [err]
 | true=>
  have h:=bX.1 h1
  by_cases h2:a<0
  .simp [h2,err]
  .have ha:fU a=true:=by simp [fU,okF]; omega
   have hb:fU b=true:=by simp [fU,okF]; omega
   have ra:=rR ha false
   have rb:=rR hb true
   rw [(Mh a false).1,(Mh b true).1]
   unfold QO
   rw [ha,hb]
   have ht:xTb (rtV a false) (rtV b true)=false:=by
    unfold xTb
    rw [decide_eq_false (by omega),decide_eq_false (by omega)]; rfl
   simp [h2,ht]
theorem QX (low high lo hi:Int):nL low high lo hi=mn lo low:=by
 unfold nL tL mn
 cases decide (high>tH low lo hi) <;> rfl
theorem QY (low high lo hi:Int):nH low high lo hi=mx hi high:=by
 unfold nH tH mx
 cases decide (low<lo) <;> rfl
theorem l7 (a b:Int):mn a b<=a/\mn a b<=b/\(mn a b=a\/mn a b=b):=by
 unfold mn
 by_cases h:b<a <;> simp [h] <;> omega
theorem bS (a b:Int):a<=mx a b/\b<=mx a b/\(mx a b=a\/mx a b=b):=by
 unfold mx
 by_cases h:a<b <;> simp [h] <;> omega
theorem vV (n d:Int) (hd:0<d):rd n d false<=rd n d true:=by
 unfold rd
 simp only [cond_true,cond_false]
 have h1:=Int.mul_ediv_add_emod n d
 have h2:=Int.emod_nonneg n (show d≠0 by omega)
 have h3:=Int.emod_lt_of_pos n hd
 have:=zz (p:=n) hd
 rw [this]; split <;> omega
theorem QZ (V E F:Int->Int->Bool->Int) (a b c d:Int) (hF:∀ x y,(x=a\/x=b)->(y=c\/y=d)->F x y false<=F x y true)
  (hE:∀ x y,(x=a\/x=b)->(y=c\/y=d)->(Cj E x y=!(okF (F x y false)&&okF (F x y true))/\(Cj E x y=false->V x y false=F x y false/\V x y true=F x y true))):
  (⟨bL V E a b c d,bH V E a b c d,bE V E a b c d⟩:Sp)=kw F a b c d:=by
 obtain ⟨e1,v1⟩:=hE a c (.inl rfl) (.inl rfl)
 obtain ⟨e2,v2⟩:=hE a d (.inl rfl) (.inr rfl)
 obtain ⟨e3,v3⟩:=hE b c (.inr rfl) (.inl rfl)
 obtain ⟨e4,v4⟩:=hE b d (.inr rfl) (.inr rfl)
 have f1:=hF a c (.inl rfl) (.inl rfl)
 have f2:=hF a d (.inl rfl) (.inr rfl)
 have f3:=hF b c (.inr rfl) (.inl rfl)
 have f4:=hF b d (.inr rfl) (.inr rfl)
 unfold bL bH bE
 cases hk:ok4 E a b c d with
 | false=>
  have:(okF (mn (mn (mn (F a c false) (F a d false)) (F b c false)) (F b d false))&&okF (mx (mx (mx (F a c true) (F a d true)) (F b c true)) (F b d true)))=false:=by
   cases hh:okF (mn (mn (mn (F a c false) (F a d false)) (F b c false)) (F b d false))&&okF (mx (mx (mx (F a c true) (F a d true)) (F b c true)) (F b d true)) with
   | false=>rfl
   | true=>
    simp only [Bool.and_eq_true,aG] at hh
    have m1:=l7 (F a c false) (F a d false); have m2:=l7 (mn (F a c false) (F a d false)) (F b c false); have m3:=l7 (mn (mn (F a c false) (F a d false)) (F b c false)) (F b d false)
    have n1:=bS (F a c true) (F a d true); have n2:=bS (mx (F a c true) (F a d true)) (F b c true); have n3:=bS (mx (mx (F a c true) (F a d true)) (F b c true)) (F b d true)
    have g:∀ x y,F x y false<=F x y true->-4503599627370496<=F x y false->F x y true<=4503599627370496->(okF (F x y false)&&okF (F x y true))=true:=by
     intro x y k1 k2 k3
     rw [Bool.and_eq_true,aG,aG]; omega
    unfold ok4 at hk
    rw [e1,e2,e3,e4,g a c f1 (by omega) (by omega),g a d f2 (by omega) (by omega),g b c f3 (by omega) (by omega),g b d f4 (by omega) (by omega)] at hk
    cases hk
  unfold kw dV
  rw [this]; rfl
 | true=>
  unfold ok4 at hk
  simp only [Bool.and_eq_true,Bool.not_eq_true'] at hk
  obtain ⟨⟨k1,k2⟩,k3,k4⟩:=hk
  obtain ⟨a1,a2⟩:=v1 k1; obtain ⟨b1,b2⟩:=v2 k2; obtain ⟨c1,c2⟩:=v3 k3; obtain ⟨d1,d2⟩:=v4 k4
  have el:l3 V a b c d=mn (mn (mn (F a c false) (F a d false)) (F b c false)) (F b d false):=by
   unfold l3 l2 l1; rw [QX,QX,QX,a1,b1,c1,d1]
  have eh:h3 V a b c d=mx (mx (mx (F a c true) (F a d true)) (F b c true)) (F b d true):=by
   unfold h3 h2 h1; rw [QY,QY,QY,a2,b2,c2,d2]
  rw [el,eh]
  have m1:=l7 (F a c false) (F a d false); have m2:=l7 (mn (F a c false) (F a d false)) (F b c false); have m3:=l7 (mn (mn (F a c false) (F a d false)) (F b c false)) (F b d false)
  have n1:=bS (F a c true) (F a d true); have n2:=bS (mx (F a c true) (F a d true)) (F b c true); have n3:=bS (mx (mx (F a c true) (F a d true)) (F b c true)) (F b d true)
  rw [J9 (by omega)]
  unfold kw dV
  simp only [cond_true]
  cases okF (mn (mn (mn (F a c false) (F a d false)) (F b c false)) (F b d false))&&okF (mx (mx (mx (F a c true) (F a d true)) (F b c true)) (F b d true)) <;> rfl
theorem VB {e f:Int->Int->Bool->Int} {F:Int->Int->Bool->Int} {x y:Int} (h:(e x y false=0/\e x y true=0) ↔ (nC (F x y false)=0/\nC (F x y true)=0)):Cj e x y=!(okF (F x y false)&&okF (F x y true)):=by
 unfold Cj
 rcases oW (F x y false) with ⟨p1,p2,_⟩|⟨p1,p2,_⟩ <;> rcases oW (F x y true) with ⟨q1,q2,_⟩|⟨q1,q2,_⟩ <;> rw [p1,q1] at h <;> rw [p2,q2]
 .have:=h.2 ⟨rfl,rfl⟩; simp [this.1,this.2]
 all_goals
  simp only [Bool.and_true,Bool.and_false,Bool.not_false,Bool.false_and]
  by_cases h0:e x y false=0
  .by_cases h1:e x y true=0
   .have:=h.1 ⟨h0,h1⟩; omega
   .simp [h0,h1]
  .simp [h0]
theorem Ka {x y:Int} (hx:okF x=true) (hy:okF y=true):Cj nE x y=!(okF (mF x y false)&&okF (mF x y true))/\(Cj nE x y=false->qF x y false=mF x y false/\qF x y true=mF x y true):=by
 obtain ⟨a1,a2,a3⟩:=Df hx
 obtain ⟨b1,b2,b3⟩:=Df hy
 have hb:sg x x*sg y y<=4503599627370496*4503599627370496:=Int.mul_le_mul a3 b3 b2 (by decide)
 obtain ⟨p1,p2⟩:=QK (p:=sg x x*sg y y) (d:=4294967296) (Int.mul_nonneg a2 b2) (by omega) (by decide) (by decide) (Ch x y) (x*y) (Ir x y)
 have e0:Iq x y=0:=by rw [Mf,hx,hy]; rfl
 have eE:∀ up,nE x y up=xE (sg x x*sg y y) 4294967296 up (Ch x y):=fun up=>by unfold nE; rw [e0,a1,b1]; rfl
 have eV:∀ up,qF x y up=xV (sg x x*sg y y) 4294967296 up (Ch x y):=fun up=>by unfold qF; rw [e0,a1,b1]; rfl
 have key:=VB (e:=nE) (f:=nE) (F:=mF) (x:=x) (y:=y) (by rw [eE,eE]; exact p1)
 refine ⟨key,fun h=>?_⟩
 rw [key] at h
 simp only [Bool.not_eq_false',Bool.and_eq_true] at h
 rw [eV,eV]
 refine p2 ?_ ?_
 .unfold nC; rw [show rd (x*y) 4294967296 false=mF x y false from rfl,h.1]; rfl
 .unfold nC; rw [show rd (x*y) 4294967296 true=mF x y true from rfl,h.2]; rfl
theorem Dm {a b:Int} (h:aj a b=true):okF a=true/\okF b=true:=by
 have:=bX.1 h
 exact ⟨aG.2 (by omega),aG.2 (by omega)⟩
theorem Q0 (a b c d:Int):QU a b c d=aI a b c d:=by
 unfold QU aI pG
 rw [IC]
 cases h1:aj a b with
 | false=>simp [err]
 | true=>
  cases h2:aj c d with
  | false=>simp [err]
  | true=>
   obtain ⟨ha,hb⟩:=Dm h1
   obtain ⟨hc,hd⟩:=Dm h2
   rw [<- QZ qF nE mF a b c d (fun x y _ _=>vV _ _ (by decide)) fun x y hx hy=>Ka (by rcases hx with rfl|rfl <;> assumption) (by rcases hy with rfl|rfl <;> assumption)]
   rfl
def pwS (v:Int):Int:=IntKind.u64.wrap (if IntKind.i64.wrap (0 - v)>v then IntKind.i64.wrap (0 - v) else v)
def pw2 (v:Int):Int:=1*pwS v
def pw3 (v:Int):Int:=pw2 v % two64
def pw4 (v:Int):Int:=pw3 v+0+0
def pw5 (v:Int):Int:=pw4 v % 18446744073709551616
def pw6 (v:Int):Int:=pw5 v*pwS v
def pw7 (v:Int):Int:=pw6 v % two64
def pw8 (v:Int):Int:=IntKind.u64.wrap (pw2 v / two64+pw4 v / 18446744073709551616)
def pw9 (v:Int):Int:=pw8 v*pwS v
def VC (v:Int):Int:=pw9 v % two64
def VD (v:Int):Int:=pw7 v+0+0
def VE (v:Int):Int:=IntKind.u64.wrap (pw6 v / two64+VD v / 18446744073709551616)
def VG (v:Int):Int:=VC v+VE v+0
def VH (v:Int):Int:=VG v % 18446744073709551616
def VI:Int:=2 ^ min (Int.ofNat 32).toNat IntKind.u64.bits
def Oo (v:Int):Bool:=decide ((VH v).fdiv VI>0)
def Zw (v:Int):Int:=IntKind.u64.wrap (pw9 v / two64+VG v / 18446744073709551616)
def Q3 (v:Int):Bool:=decide (Zw v>0)
def VJ (v:Int):Int:=VD v % 18446744073709551616
def Kb (v:Int):Int:=bif Oo v then 0 else bif Q3 v then 0 else
 IntKind.u64.wrap ↑(BitVec.ofInt IntKind.u64.bits ((VJ v).fdiv VI) ||| BitVec.ofInt IntKind.u64.bits (IntKind.u64.wrap (VH v*VI))).toNat
def Zx (v:Int):Int:=IntKind.u64.wrap ↑(BitVec.ofInt IntKind.u64.bits (VJ v) &&& BitVec.ofInt IntKind.u64.bits 4294967295).toNat
def yJ (v:Int):Bool:=bif !(bif Oo v then false else bif Q3 v then false else true) then true else decide (Kb v>4503599627370496)
def pwD (v:Int):Int:=bif yJ v then 0 else IntKind.i64.wrap (Kb v)
def pwU (v:Int):Int:=bif yJ v then 0 else bif bif Oo v then false else bif Q3 v then false else decide (Zx v>0) then IntKind.i64.wrap (IntKind.i64.wrap (Kb v)+1) else IntKind.i64.wrap (Kb v)
def pwE (v:Int):Int:=bif yJ v then 6 else 0
def VK (x y:Int):Prop:=decide (0<=x/\0<=y/\(0:Int)<=0/\(0:Int)<=1)=true
def pwN (v:Int):Prop:=(xIn 1 (pwS v)/\VK (pw3 v) 0)/\(xIn (pw5 v) (pwS v)/\VK (pw7 v) 0)/\xIn (pw8 v) (pwS v)/\VK (VC v) (VE v)
def sqD (v:Int):Int:=bif decide (v*v / 4294967296>4503599627370496) then 0 else rd (v*v) 4294967296 false
def sqU (v:Int):Int:=bif decide (v*v / 4294967296>4503599627370496) then 0 else rd (v*v) 4294967296 true
def sqE (v:Int):Int:=bif decide (v*v / 4294967296>4503599627370496) then 6 else 0
theorem Zy {v:Int} (h:okF v=true):pwS v=sg v v:=by
 have h:=aG.1 h
 unfold pwS
 rw [i64w (n:=0 - v) (by omega) (by omega)]
 rcases gF v with ⟨h1,e⟩|⟨h1,e⟩ <;> rw [e] <;> split <;> rw [uw (by omega) (by omega)] <;> omega
theorem ack (n:Nat) (h:n<18446744073709551616):IntKind.u64.wrap ↑(BitVec.ofInt IntKind.u64.bits (n:Int) &&& BitVec.ofInt IntKind.u64.bits 4294967295).toNat=((n % 4294967296:Nat):Int):=Go.Eng.dLow_eq n h
theorem Zz {v:Int} (h:okF v=true):pwD v=sqD v/\pwU v=sqU v/\pwE v=sqE v/\pwN v:=by
 obtain ⟨_,s1,s2⟩:=Df h
 have e1:=Zy h
 have es:v*v=sg v v*sg v v:=by
  rcases gF v with ⟨_,e⟩|⟨_,e⟩ <;> rw [e]
  rw [Int.neg_mul,Int.mul_neg,Int.neg_neg]
 have hq:sg v v*sg v v<=4503599627370496*4503599627370496:=Int.mul_le_mul s2 s2 s1 (by decide)
 have hq0:0<=sg v v*sg v v:=Int.mul_nonneg s1 s1
 have q2:pw2 v=sg v v:=by unfold pw2; rw [e1]; omega
 have q3:pw3 v=sg v v:=by unfold pw3 two64; rw [q2]; omega
 have q4:pw4 v=sg v v:=by unfold pw4; rw [q3]; omega
 have q5:pw5 v=sg v v:=by unfold pw5; rw [q4]; omega
 have q6:pw6 v=sg v v*sg v v:=by unfold pw6; rw [q5,e1]
 have q8:pw8 v=0:=by unfold pw8 two64; rw [q2,q4,uw] <;> omega
 have q9:pw9 v=0:=by unfold pw9; rw [q8]; omega
 have q10:VC v=0:=by unfold VC two64; rw [q9]; rfl
 generalize hP:sg v v*sg v v=P at *
 have q7:pw7 v=P % 18446744073709551616:=by unfold pw7 two64; rw [q6]
 have q11:VD v=P % 18446744073709551616:=by unfold VD; rw [q7]; omega
 have q12:VE v=P / 18446744073709551616:=by unfold VE two64; rw [q6,q11,uw] <;> omega
 have q13:VG v=P / 18446744073709551616:=by unfold VG; rw [q10,q12]; omega
 have q14:VH v=P / 18446744073709551616:=by unfold VH; rw [q13]; omega
 have q15:VI=4294967296:=by decide
 have q16:Oo v=decide (4294967296<=P / 18446744073709551616):=by
  unfold Oo
  rw [q14,q15,Int.fdiv_eq_ediv_of_nonneg _ (by decide)]
  rw [Bool.eq_iff_iff]; simp only [decide_eq_true_eq]; omega
 have q17:Zw v=0:=by unfold Zw two64; rw [q9,q13,uw] <;> omega
 have q18:Q3 v=false:=by unfold Q3; rw [q17]; rfl
 have q19:VJ v=P % 18446744073709551616:=by unfold VJ; rw [q11]; omega
 have nd:pwN v:=by
  unfold pwN
  rw [e1,q3,q5,q7,q8,q10,q12]
  refine ⟨⟨uy (by omega) (by omega) (by omega) (by omega),?_⟩,⟨uy (by omega) (by omega) (by omega) (by omega),?_⟩,uy (by omega) (by omega) (by omega) (by omega),?_⟩ <;> unfold VK <;> rw [decide_eq_true_eq] <;> omega
 have e21:Zx v=P % 4294967296:=by
  unfold Zx
  rw [q19]
  obtain ⟨n,hn⟩:=Int.eq_ofNat_of_zero_le (show 0<=P % 18446744073709551616 by omega)
  rw [hn,ack n (by omega)]
  omega
 have big:yJ v=decide (v*v / 4294967296>4503599627370496)/\(yJ v=false->Kb v=P / 4294967296/\Oo v=false):=by
  unfold yJ
  rw [q18,q16]
  by_cases hb:4294967296<=P / 18446744073709551616
  .refine ⟨?_,fun h=>by simp [hb] at h⟩
   rw [es]
   simp [hb]; omega
  .have hor:Kb v=P / 4294967296:=by
    unfold Kb
    rw [q16,q18,q19,q14,q15,decide_eq_false hb]
    simp only [cond_false]
    rw [Int.fdiv_eq_ediv_of_nonneg _ (by decide),uw (n:=P / 18446744073709551616*4294967296) (by omega) (by omega)]
    obtain ⟨n,hn⟩:=Int.eq_ofNat_of_zero_le (show 0<=P % 18446744073709551616 / 4294967296 by omega)
    obtain ⟨m,hm⟩:=Int.eq_ofNat_of_zero_le (show 0<=P / 18446744073709551616 by omega)
    rw [hn,hm,show (m:Int)*4294967296=((m*4294967296:Nat):Int) by omega,Go.Eng.dOr_eq _ _ (by omega) (by omega)]
    have:n ||| m*4294967296=m*4294967296+n:=by
     rw [Nat.or_comm,Nat.mul_comm]
     exact (Nat.two_pow_add_eq_or_of_lt (i:=32) (show n<2 ^ 32 by omega) m).symm
    rw [this]
    omega
   rw [hor,decide_eq_false hb,es]
   exact ⟨rfl,fun _=>⟨rfl,rfl⟩⟩
 obtain ⟨b1,b2⟩:=big
 refine ⟨?_,?_,?_,nd⟩
 .unfold pwD sqD
  cases hb:yJ v with
  | true=>rw [<- b1,hb]; rfl
  | false=>
   rw [<- b1,hb,(b2 hb).1,es]
   rw [hb] at b1
   have b1:=of_decide_eq_false b1.symm
   rw [es] at b1
   simp only [cond_false]
   rw [i64w (by omega) (by omega)]; rfl
 .unfold pwU sqU
  cases hb:yJ v with
  | true=>rw [<- b1,hb]; rfl
  | false=>
   obtain ⟨b3,b4⟩:=b2 hb
   rw [<- b1,hb,b3,b4,q18,e21,es]
   rw [hb] at b1
   have b1:=of_decide_eq_false b1.symm
   rw [es] at b1
   simp only [cond_false]
   rw [i64w (n:=P / 4294967296) (by omega) (by omega),i64w (n:=P / 4294967296+1) (by omega) (by omega)]
   unfold rd
   simp only [cond_true]
   by_cases hr:P % 4294967296>0
   .rw [decide_eq_true hr]; simp only [cond_true]; omega
   .rw [decide_eq_false hr]; simp only [cond_false]; omega
 .unfold pwE sqE; rw [b1]
def xaM (a b:Int):Int:=if IntKind.i64.wrap (0 - b)>a then IntKind.i64.wrap (0 - b) else a
def Q4 (a b:Int):Int:=if 0>xaM a b then 0 else xaM a b
def Q5 (a b:Int):Int:=if IntKind.i64.wrap (0 - a)>b then IntKind.i64.wrap (0 - a) else b
def xaL (a b:Int):Int:=bif xCS a b != 0 then 0 else bif xTb (Q4 a b) (Q5 a b) then 0 else Q4 a b
def xaH (a b:Int):Int:=bif xCS a b != 0 then 0 else bif xTb (Q4 a b) (Q5 a b) then 0 else Q5 a b
def EY (a b:Int):Bool:=bif sqE (xaL a b) != 0 then true else sqE (xaH a b) != 0
def Q6 (a b:Int):Sp:=
 ⟨bif xCS a b != 0 then 0 else bif EY a b then 0 else bif xTb (sqD (xaL a b)) (sqU (xaH a b)) then 0 else sqD (xaL a b),
  bif xCS a b != 0 then 0 else bif EY a b then 0 else bif xTb (sqD (xaL a b)) (sqU (xaH a b)) then 0 else sqU (xaH a b),
  bif xCS a b != 0 then xCS a b else bif EY a b then 6 else bif xTb (sqD (xaL a b)) (sqU (xaH a b)) then 6 else 0⟩
def Yx (a b:Int):Prop:=(!(xCS a b != 0))=true->okF (xaL a b)=true/\okF (xaH a b)=true
theorem Yy {a b:Int} (h:aj a b=true):xaL a b=abL a b/\xaH a b=abH a b/\0<=abL a b/\abL a b<=abH a b/\abH a b<=4503599627370496:=by
 have k:=bX.1 h
 have l0:Q4 a b=abL a b:=by
  unfold Q4 xaM abL mx
  rw [i64w (by omega) (by omega)]
  by_cases h1:a < -b
  .rw [if_pos (show 0 - b>a by omega),decide_eq_true h1]
   simp only [cond_true]
   by_cases h2:-b<0
   .rw [if_pos (by omega),decide_eq_true h2]; rfl
   .rw [if_neg (by omega),decide_eq_false h2]; simp only [cond_false]; omega
  .rw [if_neg (show ¬ 0 - b>a by omega),decide_eq_false h1]
   simp only [cond_false]
   by_cases h2:a<0
   .rw [if_pos (by omega),decide_eq_true h2]; rfl
   .rw [if_neg (by omega),decide_eq_false h2]; rfl
 have h0:Q5 a b=abH a b:=by
  unfold Q5 abH mx
  rw [i64w (by omega) (by omega)]
  by_cases h1:b < -a
  .rw [if_pos (show 0 - a>b by omega),decide_eq_true h1]; simp only [cond_true]; omega
  .rw [if_neg (show ¬ 0 - a>b by omega),decide_eq_false h1]; rfl
 have bl:0<=abL a b/\abL a b<=abH a b/\abH a b<=4503599627370496:=by
  unfold abL abH
  have m1:=bS a (-b); have m2:=bS (mx a (-b)) 0; have m3:=bS b (-a)
  omega
 have ht:xTb (abL a b) (abH a b)=false:=by
  unfold xTb; rw [decide_eq_false (by omega),decide_eq_false (by omega)]; rfl
 unfold xaL xaH
 rw [l0,h0,ht,o5,h]
 exact ⟨rfl,rfl,bl⟩
theorem Oq (a b:Int):Yx a b:=by
 intro h
 rw [o5] at h
 cases k:aj a b with
 | false=>rw [k] at h; cases h
 | true=>
  obtain ⟨e1,e2,b1,b2,b3⟩:=Yy k
  rw [e1,e2,aG,aG]; omega
theorem Q7 (a b:Int):Q6 a b=gK a b:=by
 unfold Q6 gK
 rw [o5]
 cases h:aj a b with
 | false=>simp [err]
 | true=>
  obtain ⟨e1,e2,b1,b2,b3⟩:=Yy h
  unfold EY
  rw [e1,e2]
  have q:abL a b*abL a b<=abH a b*abH a b:=Int.mul_le_mul b2 b2 b1 (by omega)
  have q0:0<=abL a b*abL a b:=Int.mul_nonneg b1 b1
  unfold sqE sqD sqU dV
  generalize hP:abL a b*abL a b=P at *
  generalize hQ:abH a b*abH a b=Q at *
  have u1:rd P 4294967296 false=P / 4294967296:=rfl
  have u2:rd Q 4294967296 true=Q / 4294967296+(if 0<Q % 4294967296 then 1 else 0):=by
   unfold rd; simp only [cond_true]; rw [zz (by decide)]; omega
  have okl:okF (rd P 4294967296 false)=!decide (P / 4294967296>4503599627370496):=by
   rw [u1]; unfold okF
   rw [decide_eq_true (show (-4503599627370496:Int)<=P / 4294967296 by omega),Bool.true_and,Bool.eq_iff_iff]
   simp only [decide_eq_true_eq,Bool.not_eq_true',decide_eq_false_iff_not]; omega
  cases hp:decide (P / 4294967296>4503599627370496) with
  | true=>rw [okl,hp]; simp [err]
  | false=>
   have hp':=of_decide_eq_false hp
   cases hq:decide (Q / 4294967296>4503599627370496) with
   | true=>
    have hq':=of_decide_eq_true hq
    have:okF (rd Q 4294967296 true)=false:=by rw [nD,u2]; split <;> omega
    rw [this]; simp [err]
   | false=>
    have hq':=of_decide_eq_false hq
    simp only [cond_false,cond_true,bne_self_eq_false]
    rw [J9 (by rw [u1,u2]; split <;> omega)]
    cases okF (rd P 4294967296 false)&&okF (rd Q 4294967296 true) <;> simp [err]
theorem nJ {n m d:Int} (hd:0<d) (h:n<=m) (up:Bool):rd n d up<=rd m d up:=by
 unfold rd
 cases up with
 | false=>exact Int.ediv_le_ediv hd h
 | true=>
  have:=Int.ediv_le_ediv hd (show -m<=-n by omega)
  simp only [cond_true]; omega
theorem Q8 {x n d:Int} (hx:okF x=true) (hn:0<=n) (hr:okR n d=true) (hb:sg x x*n<18446744073709551615*d) (up:Bool):Og x n d up=Bj (rd (x*n) d up)/\lV x n d up=nC (rd (x*n) d up):=by
 obtain ⟨a1,a2,a3⟩:=Df hx
 simp only [okR,Bool.and_eq_true,decide_eq_true_eq] at hr
 obtain ⟨⟨⟨n1,n2⟩,d1⟩,d2⟩:=hr
 have en:xSz n=n:=by rw [QG (by omega) (by omega)]; rcases gF n with ⟨_,e⟩|⟨_,e⟩ <;> omega
 have esn:sg n n=n:=by rcases gF n with ⟨_,e⟩|⟨_,e⟩ <;> omega
 have ed:IntKind.u64.wrap d=d:=uw (by omega) (by omega)
 have ok:Oe x n d=false:=by
  rw [Mg]; unfold okS; rw [hx,decide_eq_true n1,decide_eq_true n2,decide_eq_true d1,decide_eq_true d2]; rfl
 have hm:sg x x*n<=4503599627370496*4611686018427387904:=Int.mul_le_mul a3 n2 hn (by decide)
 obtain ⟨v,e,_⟩:=QH (p:=sg x x*n) (d:=d) (Int.mul_nonneg a2 hn) (by omega) (by omega) (by omega) up (Ch x n) (x*n) (by have:=Ir x n; rw [esn] at this; exact this) (.inl hb)
 unfold Og lV
 rw [ok,a1,en,ed]
 exact ⟨v,e⟩
theorem Q9 {x n d:Int} (h:okR n d=false) (up:Bool):lV x n d up=2:=by
 unfold lV
 have:Oe x n d=true:=by
  rw [Mg]; unfold okS okR at *; rw [h,Bool.and_false]; rfl
 rw [this]; rfl
theorem Kc (a b n d:Int) (hb:aj a b=true->okR n d=true->abH a b*sg n n<18446744073709551615*d):aK a b n d=kr a b n d:=by
 unfold aK kr
 rw [o5]
 cases h:aj a b with
 | false=>simp [err]
 | true=>
  have k:=bX.1 h
  cases hr:okR n d with
  | false=>
   have hx:IB n=true->Dl a b n d=true/\lV (xsA a b n) (xsN n) d false=2/\lV (xsB a b n) (xsN n) d true=2:=by
    intro ho
    have hr2:okR (xsN n) d=false:=by
     unfold xsN
     by_cases hn:n<0
     .simp only [IB,hn,decide_true,cond_true,Bool.not_eq_true',decide_eq_false_iff_not] at ho
      rw [decide_eq_true hn,cond_true,i64w (by omega) (by omega)]
      simp only [okR,Bool.and_eq_false_iff,decide_eq_false_iff_not] at hr ⊢
      omega
     .rw [decide_eq_false hn]; exact hr
    have e1:=Q9 (x:=xsA a b n) hr2 false
    have e2:=Q9 (x:=xsB a b n) hr2 true
    exact ⟨by unfold Dl; rw [e1]; rfl,e1,e2⟩
   cases ho:IB n with
   | false=>simp [err]
   | true=>
    obtain ⟨h1,h2,h3⟩:=hx ho
    simp [h1,h2,h3,err]
  | true=>
   have hb:=hb h hr
   have hr':=hr
   simp only [okR,Bool.and_eq_true,decide_eq_true_eq] at hr'
   obtain ⟨⟨⟨n1,n2⟩,d1⟩,d2⟩:=hr'
   have ho:IB n=true:=by
    unfold IB
    by_cases hn:n<0
    .rw [decide_eq_true hn,decide_eq_false (by omega)]; rfl
    .rw [decide_eq_false hn]; rfl
   have m3:=bS b (-a)
   have core:∀ (x y m:Int),0<=m->m<=4611686018427387904->okF x=true->okF y=true->x<=y->sg x x<=abH a b->sg y y<=abH a b->abH a b*m<18446744073709551615*d ->
     (⟨bif (bif lV x m d false != 0 then true else lV y m d true != 0) then 0 else Og x m d false,bif (bif lV x m d false != 0 then true else lV y m d true != 0) then 0 else Og y m d true,
      bif (bif lV x m d false != 0 then true else lV y m d true != 0) then (if lV y m d true>lV x m d false then lV y m d true else lV x m d false) else 0⟩:Sp)=dV (rd (x*m) d false) (rd (y*m) d true):=by
    intro x y m m0 m1 hx hy hxy sx sy hbm
    have hr2:okR m d=true:=by simp [okR]; omega
    have bx:sg x x*m<18446744073709551615*d:=Int.lt_of_le_of_lt (Int.mul_le_mul_of_nonneg_right sx m0) hbm
    have by':sg y y*m<18446744073709551615*d:=Int.lt_of_le_of_lt (Int.mul_le_mul_of_nonneg_right sy m0) hbm
    obtain ⟨v1,e1⟩:=Q8 hx m0 hr2 bx false
    obtain ⟨v2,e2⟩:=Q8 hy m0 hr2 by' true
    rw [v1,e1,v2,e2]
    unfold dV
    rcases oW (rd (x*m) d false) with ⟨p1,p2,p3⟩|⟨p1,p2,p3⟩ <;> rcases oW (rd (y*m) d true) with ⟨q1,q2,q3⟩|⟨q1,q2,q3⟩ <;> rw [p1,p2,p3,q1,q2,q3] <;> rfl
   unfold Dl
   rw [ho]
   simp only [bne_self_eq_false,cond_false,cond_true]
   by_cases hn:n<0
   .have ea:xsA a b n=-b:=by unfold xsA; rw [decide_eq_true hn,cond_true,i64w (by omega) (by omega)]; omega
    have eb:xsB a b n=-a:=by unfold xsB; rw [decide_eq_true hn,cond_true,i64w (by omega) (by omega)]; omega
    have en:xsN n=-n:=by unfold xsN; rw [decide_eq_true hn,cond_true,i64w (by omega) (by omega)]; omega
    have esn:sg n n=-n:=by rcases gF n with ⟨_,e⟩|⟨_,e⟩ <;> omega
    rw [esn] at hb
    rw [ea,eb,en]
    rw [core (-b) (-a) (-n) (by omega) (by omega) (aG.2 (by omega)) (aG.2 (by omega)) (by omega)
     (by unfold abH; rcases gF (-b) with ⟨_,e⟩|⟨_,e⟩ <;> omega) (by unfold abH; rcases gF (-a) with ⟨_,e⟩|⟨_,e⟩ <;> omega) hb]
    have hmul:b*n<=a*n:=Int.mul_le_mul_of_nonpos_right k.2.1 (by omega)
    have e1:mn (a*n) (b*n)=b*n:=by
     unfold mn; by_cases h2:b*n<a*n
     .rw [decide_eq_true h2]; rfl
     .rw [decide_eq_false h2]; simp only [cond_false]; omega
    have e2:mx (a*n) (b*n)=a*n:=by
     unfold mx; rw [decide_eq_false (by omega)]; rfl
    rw [e1,e2,Int.neg_mul_neg,Int.neg_mul_neg]
   .have ea:xsA a b n=a:=by unfold xsA; rw [decide_eq_false hn]; rfl
    have eb:xsB a b n=b:=by unfold xsB; rw [decide_eq_false hn]; rfl
    have en:xsN n=n:=by unfold xsN; rw [decide_eq_false hn]; rfl
    have esn:sg n n=n:=by rcases gF n with ⟨_,e⟩|⟨_,e⟩ <;> omega
    rw [esn] at hb
    rw [ea,eb,en]
    rw [core a b n (by omega) n2 (aG.2 (by omega)) (aG.2 (by omega)) k.2.1
     (by unfold abH; rcases gF a with ⟨_,e⟩|⟨_,e⟩ <;> omega) (by unfold abH; rcases gF b with ⟨_,e⟩|⟨_,e⟩ <;> omega) hb]
    have hmul:a*n<=b*n:=Int.mul_le_mul_of_nonneg_right k.2.1 (by omega)
    have e1:mn (a*n) (b*n)=a*n:=by
     unfold mn; rw [decide_eq_false (by omega)]; rfl
    have e2:mx (a*n) (b*n)=b*n:=by
     unfold mx; by_cases h2:a*n<b*n
     .rw [decide_eq_true h2]; rfl
     .rw [decide_eq_false h2]; simp only [cond_false]; omega
    rw [e1,e2]
end Go.Ar
namespace Go.Ar
open Go Go.Eng
end Go.Ar
namespace Go.Ar
open Go Go.Eng
noncomputable section
def shS:Sh:=.a [.i .i64,.i .i64]
def Bo (s:Sp):Tm:=.u [.a [.n .i64 s.lo,.n .i64 s.hi],.n .i64 s.e]
def VL (F:Int->Int->Int->Int->Sp):aM:=aW [shS,shS] none fun
 | [.n a,.n b,.n c,.n d]=>Bo (F a b c d)
 | _=>.u []
def sUn (F:Int->Int->Sp):aM:=aW [shS] none fun
 | [.n a,.n b]=>Bo (F a b)
 | _=>.u []
def acl (a b:Int):Int:=bif aj a b then 0 else 20
def ae8:aM:=aW [shS] none fun
 | [.n a,.n b]=>.n .i64 (acl a b)
 | _=>.u []
def acm:aM:=aW [.i .i64,.c (.int false .i64 2)] (some fun
 | [.n v]=>okF v
 | _=>false) fun
 | [.n v]=>.u [.n .i64 (sqD v),.n .i64 (sqU v),.n .i64 (sqE v)]
 | _=>.u []
end
end Go.Ar
namespace Go.Proofs.YtmnhhlnbfkfkaaaGreat.K
open Go Go.Eng Go.Ar
noncomputable section
theorem VM (a b:Int):fF ((run c2 300).call 68 [.agg [.int true .i64 a,.int true .i64 b]] ⟨[],0,1⟩)=some (.tt,.int true .i64 (xCS a b)):=by kernel_rfl
theorem VN (a b c d:Int):fF ((run c2 300).call 96 [.agg [.int true .i64 a,.int true .i64 b],.agg [.int true .i64 c,.int true .i64 d]] ⟨[],0,1⟩)=some (.tt,(Bo (QT a b c d)).av true):=by kernel_rfl
theorem VO (a b c d:Int):fF ((run c2 300).call 110 [.agg [.int true .i64 a,.int true .i64 b],.agg [.int true .i64 c,.int true .i64 d]] ⟨[],0,1⟩)=some (.tt,(Bo (QU a b c d)).av true):=by kernel_rfl
theorem Ra (a b:Int):fF ((run c2 300).call 72 [.agg [.int true .i64 a,.int true .i64 b]] ⟨[],0,1⟩)=some (.tt,(Bo (J8 a b)).av true):=by kernel_rfl
theorem VP (v:Int):fF ((run c2 300).call 113 [.int true .i64 v,.int false .i64 2] ⟨[],0,1⟩)=some (.p (pwN v),.tuple [.int true .i64 (pwD v),.int true .i64 (pwU v),.int true .i64 (pwE v)]):=by kernel_rfl
theorem ZA:PureOk Tryz.prog 113 acm:=by
 refine fw (fun xs hk hN=>?_) ⟨_,Tryz.func113,rfl⟩
 obtain ⟨v,_,rfl,h1⟩:=kn hk; obtain rfl:=k0 h1
 obtain ⟨e1,e2,e3,hn⟩:=Zz hN
 have:=VP v
 rw [e1,e2,e3] at this
 exact ⟨c2,300,_,Dk,rfl,fun _=>rfl,rfl,this,hn⟩
noncomputable def acn:List (FuncId×aM):=(113,acm) :: VA
theorem VQ:pq Tryz.prog acn:=fun x hx=>by
 rcases List.mem_cons.1 hx with rfl|hx
 .exact ZA
 .exact Mj x hx
noncomputable def c3:Ctx:=mkC Tryz.prog acn ext
theorem aco:CtxOk c3:=jd dL VQ jF
theorem VR (a b:Int):fF ((run c3 300).call 71 [.agg [.int true .i64 a,.int true .i64 b]] ⟨[],0,1⟩)=some (.p (Yx a b),(Bo (Q6 a b)).av true):=by kernel_rfl
theorem VT:PureOk Tryz.prog 68 ae8:=by
 refine fw (fun xs hk _=>?_) ⟨_,Tryz.func68,rfl⟩
 obtain ⟨a,_,rfl,h1⟩:=kn hk; obtain ⟨b,_,rfl,h2⟩:=kn h1; obtain rfl:=k0 h2
 have:=VM a b
 rw [o5] at this
 exact ⟨c2,300,_,Dk,rfl,fun _=>rfl,rfl,this,trivial⟩
theorem VU:PureOk Tryz.prog 96 (VL fC):=by
 refine fw (fun xs hk _=>?_) ⟨_,Tryz.func96,rfl⟩
 obtain ⟨a,_,rfl,h1⟩:=kn hk; obtain ⟨b,_,rfl,h2⟩:=kn h1; obtain ⟨c,_,rfl,h3⟩:=kn h2; obtain ⟨d,_,rfl,h4⟩:=kn h3; obtain rfl:=k0 h4
 exact ⟨c2,300,_,Dk,rfl,fun _=>rfl,rfl,(VN a b c d).trans (by rw [QW]),trivial⟩
theorem VV:PureOk Tryz.prog 110 (VL aI):=by
 refine fw (fun xs hk _=>?_) ⟨_,Tryz.func110,rfl⟩
 obtain ⟨a,_,rfl,h1⟩:=kn hk; obtain ⟨b,_,rfl,h2⟩:=kn h1; obtain ⟨c,_,rfl,h3⟩:=kn h2; obtain ⟨d,_,rfl,h4⟩:=kn h3; obtain rfl:=k0 h4
 exact ⟨c2,300,_,Dk,rfl,fun _=>rfl,rfl,(VO a b c d).trans (by rw [Q0]),trivial⟩
theorem Rb:PureOk Tryz.prog 72 (sUn eH):=by
 refine fw (fun xs hk _=>?_) ⟨_,Tryz.func72,rfl⟩
 obtain ⟨a,_,rfl,h1⟩:=kn hk; obtain ⟨b,_,rfl,h2⟩:=kn h1; obtain rfl:=k0 h2
 exact ⟨c2,300,_,Dk,rfl,fun _=>rfl,rfl,(Ra a b).trans (by rw [Om]),trivial⟩
theorem VW:PureOk Tryz.prog 71 (sUn gK):=by
 refine fw (fun xs hk _=>?_) ⟨_,Tryz.func71,rfl⟩
 obtain ⟨a,_,rfl,h1⟩:=kn hk; obtain ⟨b,_,rfl,h2⟩:=kn h1; obtain rfl:=k0 h2
 exact ⟨c3,300,_,aco,rfl,fun _=>rfl,rfl,(VR a b).trans (by rw [Q7]),Oq a b⟩
noncomputable def c0:Ctx:=mkC Tryz.prog [] ext
theorem acp:CtxOk c0:=jd dL (fun _ h=>by cases h) jF
end
end Go.Proofs.YtmnhhlnbfkfkaaaGreat.K
namespace Go.Ar
open Go Go.Eng
end Go.Ar
namespace Go.Proofs.YtmnhhlnbfkfkaaaGreat.K
open Go Go.Eng Go.Ar
noncomputable section
end
end Go.Proofs.YtmnhhlnbfkfkaaaGreat.K
namespace Go.Ar
open Go
def Re (a b:Int):Sp:=IA (xCS a b) (IntKind.i64.wrap (0 - b)) (IntKind.i64.wrap (0 - a))
theorem Rf (a b:Int):Re a b=Ci a b:=by
 unfold Re Ci IA
 rw [o5]
 cases h:aj a b with
 | false=>simp [err]
 | true=>
  have:=bX.1 h
  rw [i64w (by omega) (by omega),i64w (by omega) (by omega)]
  have hb:xTb (0 - b) (0 - a)=false:=by
   unfold xTb
   rw [decide_eq_false (show ¬ (0 - b < -4503599627370496) by omega),decide_eq_false (show ¬ (0 - a>4503599627370496) by omega)]
   rfl
  rw [hb]
  simp
end Go.Ar
namespace Go.Vc
open Go Go.Eng Go.Ar
structure VF where
 ad:Int->Int->Int->Int->Sp
 su:Int->Int->Int->Int->Sp
 mu:Int->Int->Int->Int->Sp
 di:Int->Int->Int->Int->Sp
 sc:Int->Int->Int->Int->Sp
 sq:Int->Int->Sp
 rt:Int->Int->Sp
 ng:Int->Int->Sp
 ck:Int->Int->Int
 ok:Int->Int->Bool
noncomputable def vf0:VF:=⟨fC,Bn,aI,oZ,kr,gK,eH,Ci,acl,aj⟩
structure Ve where
 a:Int
 b:Int
 c:Int
 d:Int
 e:Int
 f:Int
def Ve.cells (v:Ve):List AV:=[.int true .i64 v.a,.int true .i64 v.b,.int true .i64 v.c,.int true .i64 v.d,.int true .i64 v.e,.int true .i64 v.f]
section
variable (F:VF) (v:Ve)
def nA:Sp:=F.ad (F.sq v.a v.b).lo (F.sq v.a v.b).hi (F.sq v.c v.d).lo (F.sq v.c v.d).hi
def nB:Sp:=F.ad (nA F v).lo (nA F v).hi (F.sq v.e v.f).lo (F.sq v.e v.f).hi
def nR:Sp:=F.rt (nB F v).lo (nB F v).hi
def nD1:Sp:=F.di v.a v.b (nR F v).lo (nR F v).hi
def nD2:Sp:=F.di v.c v.d (nR F v).lo (nR F v).hi
def nD3:Sp:=F.di v.e v.f (nR F v).lo (nR F v).hi
def fe (x y:Int):Int:=bif x==0 then y else x
def uZ:Bool:=!(v.a==0&&(v.b==0&&(v.c==0&&(v.d==0&&(v.e==0&&(v.f==0&&true))))))
def vCk:Int:=fe (fe (F.ck v.a v.b) (F.ck v.c v.d)) (F.ck v.e v.f)
def vC0:Int:=bif uZ v then vCk F v else 0
def uE:Int:=fe (fe (fe (fe (fe (fe (fe (fe (fe (vC0 F v) (F.sq v.a v.b).e) (F.sq v.c v.d).e) (F.sq v.e v.f).e) (nA F v).e) (nB F v).e) (nR F v).e) (nD1 F v).e) (nD2 F v).e) (nD3 F v).e
def uI (x:Int):Int:=bif uE F v != 0 then 0 else x
def uV:Ve:=⟨uI F v (nD1 F v).lo,uI F v (nD1 F v).hi,uI F v (nD2 F v).lo,uI F v (nD2 F v).hi,uI F v (nD3 F v).lo,uI F v (nD3 F v).hi⟩
def uO:Int:=bif uE F v != 0 then uE F v else 0
def f3 (a b c:Int):Int:=bif a != 0||!(a != 0)&&(b != 0||!(b != 0)&&c != 0) then bif a != 0 then a else bif b != 0 then b else c else 0
def wOk:Bool:=!bif F.ok v.a v.b then bif F.ok v.c v.d then F.ok v.e v.f else false else false
def w5:Int:=f3 (F.sq v.a v.b).e (F.sq v.c v.d).e (F.sq v.e v.f).e
end
structure VF.law (F:VF):Prop where
 ck:∀ a b,F.ck a b=bif F.ok a b then 0 else 20
 z:F.ok 0 0=true
theorem vW:vf0.law:=⟨fun _ _=>rfl,by decide⟩
theorem EZ {F:VF} (h:F.law) (v:Ve):vC0 F v=bif wOk F v then 20 else 0:=by
 unfold vC0 vCk wOk fe
 simp only [h.ck]
 cases hz:uZ v with
 | true=>cases F.ok v.a v.b <;> cases F.ok v.c v.d <;> cases F.ok v.e v.f <;> rfl
 | false=>
  unfold uZ at hz
  simp only [Bool.and_true,Bool.not_eq_false',Bool.and_eq_true,beq_iff_eq] at hz
  obtain ⟨h1,h2,h3,h4,h5,h6⟩:=hz
  rw [h1,h2,h3,h4,h5,h6,h.z]
  rfl
section
variable (F:VF) (v w:Ve) (X Y Z:Sp)
def bCk:Int:=bif uZ w then fe (fe (fe (vC0 F v) (F.ck w.a w.b)) (F.ck w.c w.d)) (F.ck w.e w.f) else vC0 F v
def tE (k:Int):Int:=fe (fe (fe k X.e) Y.e) Z.e
def tI (e x:Int):Int:=bif e != 0 then 0 else x
def tO (e:Int):Int:=bif e != 0 then e else 0
def z3 {β:Type} (f:Int->Int->Int->Int->Sp) (w:Ve) (x:Sp->Sp->Sp->β):β:=x (f v.a v.b w.a w.b) (f v.c v.d w.c w.d) (f v.e v.f w.e w.f)
def Ot (f:Int->Int->Int->Int->Sp):Int:=z3 v f w fun X Y Z=>tE X Y Z (bCk F v w)
def dA:Sp:=F.ad (F.mu v.a v.b w.a w.b).lo (F.mu v.a v.b w.a w.b).hi (F.mu v.c v.d w.c w.d).lo (F.mu v.c v.d w.c w.d).hi
def dB:Sp:=F.ad (dA F v w).lo (dA F v w).hi (F.mu v.e v.f w.e w.f).lo (F.mu v.e v.f w.e w.f).hi
def dE:Int:=fe (fe (Ot F v w F.mu) (dA F v w).e) (dB F v w).e
def aC:Sp:=⟨tI (dE F v w) (dB F v w).lo,tI (dE F v w) (dB F v w).hi,tO (dE F v w)⟩
def veP (v:Ve):Prop:=v.a=v.a/\v.b=v.b/\v.c=v.c/\v.d=v.d/\v.e=v.e/\v.f=v.f
def veQ (v:Ve):Prop:=(v.a=v.a/\v.b=v.b)/\(v.c=v.c/\v.d=v.d)/\v.e=v.e/\v.f=v.f
def vnD (w:Ve):Prop:=((uZ v=true->veQ v)/\(uZ w=true->veQ w))/\((F.mu v.e v.f w.e w.f).lo=(F.mu v.e v.f w.e w.f).lo/\(F.mu v.e v.f w.e w.f).hi=(F.mu v.e v.f w.e w.f).hi)/\((dE F v w != 0)=true->dE F v w=dE F v w)
theorem acr {F:VF} {v w:Ve}:vnD F v w:=by unfold vnD veQ; simp only [and_self,implies_true]
def Ou:Bool:=bif wOk F v then true else wOk F w
end
theorem Ke {F:VF} (h:F.law) (v w:Ve):bCk F v w=bif Ou F v w then 20 else 0:=by
 have h1:=EZ h v
 have h2:=EZ h w
 unfold bCk Ou
 rw [h1]
 unfold vC0 at h2
 cases hv:wOk F v with
 | true=>cases uZ w <;> rfl
 | false=>
  have h3:fe (fe (fe (bif false then (20:Int) else 0) (F.ck w.a w.b)) (F.ck w.c w.d)) (F.ck w.e w.f)=vCk F w:=rfl
  rw [h3]
  exact h2
structure VF.law2 (F:VF):Prop extends F.law where
 ad:∀ a b c d,((F.ad a b c d).e==0)=false->(F.ad a b c d).lo=0/\(F.ad a b c d).hi=0
 ng:∀ a b,(F.ng a b).e=bif F.ok a b then 0 else 20
end Go.Vc
namespace Go.Proofs.YtmnhhlnbfkfkaaaGreat.K
open Go Go.Eng Go.Ar Go.Vc
noncomputable section
theorem Rh (a b:Int):fF ((run c2 300).call 62 [.agg [.int true .i64 a,.int true .i64 b]] ⟨[],0,1⟩)=some (.tt,(Bo (Re a b)).av true):=by kernel_rfl
theorem Mk:PureOk Tryz.prog 62 (sUn Ci):=by
 refine fw (fun xs hk _=>?_) ⟨_,Tryz.func62,rfl⟩
 obtain ⟨a,_,rfl,h1⟩:=kn hk; obtain ⟨b,_,rfl,h2⟩:=kn h1; obtain rfl:=k0 h2
 exact ⟨c2,300,_,Dk,rfl,fun _=>rfl,rfl,(Rh a b).trans (by rw [Rf]),trivial⟩
def ae9 (F:VF):aM:=aW [shS] none fun
 | [.n a,.n b]=>.n .i64 (F.ck a b)
 | _=>.u []
noncomputable def Kg (F:VF):List (FuncId×aM):=[(96,VL F.ad),(110,VL F.mu),(71,sUn F.sq),(72,sUn F.rt),(62,sUn F.ng),(68,ae9 F)]
theorem Ov:pq Tryz.prog (Kg vf0):=by
 intro x hx
 simp only [Kg,List.mem_cons,List.not_mem_nil,or_false] at hx
 rcases hx with rfl|rfl|rfl|rfl|rfl|rfl
 .exact VU
 .exact VV
 .exact VW
 .exact Rb
 .exact Mk
 .exact VT
noncomputable def Kh (F:VF):Ctx:=mkC Tryz.prog (Kg F) ext
theorem Fa:CtxOk (Kh vf0):=jd dL Ov jF
def shV:Sh:=.a [.i .i64,.i .i64,.i .i64,.i .i64,.i .i64,.i .i64]
def sVD (D:Ve->Ve->Sp):aM:=aW [shV,shV] none fun
 | [.n a,.n b,.n c,.n d,.n e,.n f,.n a1,.n b1,.n c1,.n d1,.n e1,.n f1]=>Bo (D ⟨a,b,c,d,e,f⟩ ⟨a1,b1,c1,d1,e1,f1⟩)
 | _=>.u []
theorem kVV {xs:List Nu} (hk:xs.map Nu.isN=Sh.kindsL [shV,shV]):∃ a b c d e f a1 b1 c1 d1 e1 f1,xs=[.n a,.n b,.n c,.n d,.n e,.n f,.n a1,.n b1,.n c1,.n d1,.n e1,.n f1]:=by
 obtain ⟨a,_,rfl,h1⟩:=kn hk; obtain ⟨b,_,rfl,h2⟩:=kn h1; obtain ⟨c,_,rfl,h3⟩:=kn h2; obtain ⟨d,_,rfl,h4⟩:=kn h3; obtain ⟨e,_,rfl,h5⟩:=kn h4; obtain ⟨f,_,rfl,h6⟩:=kn h5; obtain ⟨a1,_,rfl,h7⟩:=kn h6; obtain ⟨b1,_,rfl,h8⟩:=kn h7; obtain ⟨c1,_,rfl,h9⟩:=kn h8; obtain ⟨d1,_,rfl,h10⟩:=kn h9; obtain ⟨e1,_,rfl,h11⟩:=kn h10; obtain ⟨f1,_,rfl,h12⟩:=kn h11; obtain rfl:=k0 h12
 exact ⟨a,b,c,d,e,f,a1,b1,c1,d1,e1,f1,rfl⟩
theorem Rj (F:VF) (v w:Ve):fF ((run (Kh F) 3000).call 42 [.agg v.cells,.agg w.cells] ⟨[],0,1⟩)=some (.p (vnD F v w),(Bo (aC F v w)).av true):=by kernel_rfl
theorem VX:PureOk Tryz.prog 42 (sVD (aC vf0)):=by
 refine fw (fun xs hk _=>?_) ⟨_,Tryz.func42,rfl⟩
 obtain ⟨a,b,c,d,e,f,a1,b1,c1,d1,e1,f1,rfl⟩:=kVV hk
 exact ⟨Kh vf0,3000,_,Fa,rfl,fun _=>rfl,rfl,Rj vf0 ⟨a,b,c,d,e,f⟩ ⟨a1,b1,c1,d1,e1,f1⟩,acr⟩
theorem Rk (F:VF) (v:Ve):fF ((run (Kh F) 3000).call 40 [.agg v.cells] ⟨[],0,1⟩)=some (.p (uZ v=true->(v.a=v.a/\v.b=v.b)/\(v.c=v.c/\v.d=v.d)/\v.e=v.e/\v.f=v.f),(Tm.n .i64 (vC0 F v)).av true):=by kernel_rfl
end
end Go.Proofs.YtmnhhlnbfkfkaaaGreat.K
namespace Go.Vc
open Go Go.Eng Go.Ar
structure MF where
 dt:Ve->Ve->Sp
 o:Int->Int->Bool
structure Mat where
 x:Ve
 y:Ve
 z:Ve
def Mat.cells (m:Mat):List AV:=m.x.cells++m.y.cells++m.z.cells
def MF.ok (F:MF) (v:Ve):Bool:=bif F.o v.a v.b then bif F.o v.c v.d then F.o v.e v.f else false else false
def flip (m:Mat):Mat:=⟨⟨m.x.a,m.x.b,m.y.a,m.y.b,m.z.a,m.z.b⟩,⟨m.x.c,m.x.d,m.y.c,m.y.d,m.z.c,m.z.d⟩,⟨m.x.e,m.x.f,m.y.e,m.y.f,m.z.e,m.z.f⟩⟩
def ck (F:MF) (v:Ve):Int:=bif F.ok v then 0 else 20
def ckM (F:MF) (m:Mat):Int:=bif ck F m.x != 0||!(ck F m.x != 0)&&(ck F m.y != 0||!(ck F m.y != 0)&&ck F m.z != 0) then bif ck F m.x != 0 then ck F m.x else bif ck F m.y != 0 then ck F m.y else ck F m.z else 0
def okM (F:MF) (m:Mat):Bool:=bif F.ok m.x then bif F.ok m.y then F.ok m.z else false else false
def g3 (a b c:Int):Bool:=!(a != 0)&&(!(b != 0)&&!(c != 0))
def e3 (a b c:Int):Int:=bif g3 a b c then 0 else bif !(a != 0)&&(!(b != 0)&&c != 0||b != 0) then bif !(b != 0)&&c != 0 then c else b else a
def VY (F:MF) (m:Mat) (v:Ve):Bool:=bif ckM F m != 0 then true else ck F v != 0
def zb (F:MF) (m:Mat) (v:Ve):Bool:=bif !okM F m then true else !F.ok v
section
variable (F:MF) (m:Mat) (v:Ve)
def tg:Bool:=g3 (F.dt m.x v).e (F.dt m.y v).e (F.dt m.z v).e
def puI (x:Int):Int:=bif !VY F m v then bif tg F m v then x else 0 else 0
def rtI (x:Int):Int:=bif zb F m v then 0 else bif tg F m v then x else 0
def VZ:Ve:=⟨puI F m v (F.dt m.x v).lo,puI F m v (F.dt m.x v).hi,puI F m v (F.dt m.y v).lo,puI F m v (F.dt m.y v).hi,puI F m v (F.dt m.z v).lo,puI F m v (F.dt m.z v).hi⟩
def tuV:Ve:=⟨rtI F m v (F.dt m.x v).lo,rtI F m v (F.dt m.x v).hi,rtI F m v (F.dt m.y v).lo,rtI F m v (F.dt m.y v).hi,rtI F m v (F.dt m.z v).lo,rtI F m v (F.dt m.z v).hi⟩
def V4:Int:=bif !VY F m v then e3 (F.dt m.x v).e (F.dt m.y v).e (F.dt m.z v).e else 20
def tuO:Int:=bif zb F m v then 20 else e3 (F.dt m.x v).e (F.dt m.y v).e (F.dt m.z v).e
end
theorem Fb (F:MF) (m:Mat):ckM F m=bif okM F m then 0 else 20:=by
 unfold ckM okM ck
 cases F.ok m.x <;> cases F.ok m.y <;> cases F.ok m.z <;> rfl
theorem Ml (F:MF) (m:Mat) (v:Ve):VY F m v=zb F m v:=by
 unfold VY zb
 rw [Fb]
 unfold ck
 cases okM F m <;> cases F.ok v <;> rfl
theorem Mm (F:MF) (m:Mat) (v:Ve):VZ F m v=tuV F m v/\V4 F m v=tuO F m v:=by
 have e:∀ x,puI F m v x=rtI F m v x:=fun x=>by
  unfold puI rtI
  rw [Ml]
  cases zb F m v <;> rfl
 refine ⟨?_,?_⟩
 .unfold VZ tuV
  simp only [e]
 .unfold V4 tuO
  rw [Ml]
  cases zb F m v <;> rfl
theorem Mq (v:Ve):veP v:=⟨rfl,rfl,rfl,rfl,rfl,rfl⟩
def maP (m:Mat):Prop:=m.x.a=m.x.a/\m.x.b=m.x.b/\m.x.c=m.x.c/\m.x.d=m.x.d/\m.x.e=m.x.e/\m.x.f=m.x.f/\m.y.a=m.y.a/\m.y.b=m.y.b/\m.y.c=m.y.c/\m.y.d=m.y.d/\m.y.e=m.y.e/\m.y.f=m.y.f/\m.z.a=m.z.a/\m.z.b=m.z.b/\m.z.c=m.z.c/\m.z.d=m.z.d/\m.z.e=m.z.e/\m.z.f=m.z.f
theorem Rl (m:Mat):maP m:=⟨rfl,rfl,rfl,rfl,rfl,rfl,rfl,rfl,rfl,rfl,rfl,rfl,rfl,rfl,rfl,rfl,rfl,rfl⟩
structure TF where
 tv:Mat->Ve->Ve
 te:Mat->Ve->Int
 cm:Mat->Int
def f3b (a b c:Int):Bool:=!(a != 0)&&(!(b != 0)&&c != 0||b != 0)||a != 0
def er3 (a b c:Int):Int:=bif !(a != 0)&&(!(b != 0)&&c != 0||b != 0) then bif !(b != 0)&&c != 0 then c else b else a
section
variable (T:TF) (a b:Mat)
def pmB:Bool:=bif T.cm ⟨a.x,a.y,a.z⟩ != 0 then true else T.cm ⟨b.x,b.y,b.z⟩ != 0
def pmG:Bool:=g3 (T.te (flip b) a.x) (T.te (flip b) a.y) (T.te (flip b) a.z)
def pmV (v:Ve):Ve:=⟨bif !pmB T a b then bif pmG T a b then v.a else 0 else 0,bif !pmB T a b then bif pmG T a b then v.b else 0 else 0,bif !pmB T a b then bif pmG T a b then v.c else 0 else 0,bif !pmB T a b then bif pmG T a b then v.d else 0 else 0,bif !pmB T a b then bif pmG T a b then v.e else 0 else 0,bif !pmB T a b then bif pmG T a b then v.f else 0 else 0⟩
def IE:Mat:=⟨pmV T a b (T.tv (flip b) a.x),pmV T a b (T.tv (flip b) a.y),pmV T a b (T.tv (flip b) a.z)⟩
def Mr:Int:=bif !pmB T a b then e3 (T.te (flip b) a.x) (T.te (flip b) a.y) (T.te (flip b) a.z) else 20
def pmN:Prop:=(!pmB T a b)=true->veP a.x/\((!(T.te (flip b) a.x != 0))=true->veP a.y/\((!(T.te (flip b) a.y != 0))=true->veP a.z))
end
theorem acs (T:TF) (a b:Mat):pmN T a b:=fun _=>⟨Mq _,fun _=>⟨Mq _,fun _=>Mq _⟩⟩
section
variable (F:MF) (a b:Mat)
def rmB:Bool:=bif !okM F a then true else !okM F b
def rg (r:Ve):Bool:=g3 (F.dt r (flip b).x).e (F.dt r (flip b).y).e (F.dt r (flip b).z).e
def rf (r:Ve):Bool:=f3b (F.dt r (flip b).x).e (F.dt r (flip b).y).e (F.dt r (flip b).z).e
def re (r:Ve):Int:=er3 (F.dt r (flip b).x).e (F.dt r (flip b).y).e (F.dt r (flip b).z).e
def rmG:Bool:=rg F b a.x&&(rg F b a.y&&rg F b a.z)
def rmI (x:Int):Int:=bif rmB F a b then 0 else bif rmG F a b then x else 0
def rmV (r:Ve):Ve:=⟨rmI F a b (F.dt r (flip b).x).lo,rmI F a b (F.dt r (flip b).x).hi,rmI F a b (F.dt r (flip b).y).lo,rmI F a b (F.dt r (flip b).y).hi,rmI F a b (F.dt r (flip b).z).lo,rmI F a b (F.dt r (flip b).z).hi⟩
def mulV:Mat:=⟨rmV F a b a.x,rmV F a b a.y,rmV F a b a.z⟩
def ze:Int:=bif rmB F a b then 20 else bif rmG F a b then 0 else bif rg F b a.x&&(rg F b a.y&&rf F b a.z||rf F b a.y) then bif rg F b a.y&&rf F b a.z then re F b a.z else re F b a.y else re F b a.x
end
theorem Rm (a b c:Int):f3b a b c=!g3 a b c:=by
 unfold f3b g3
 cases a != 0 <;> cases b != 0 <;> cases c != 0 <;> rfl
theorem Rn (a b c:Int):e3 a b c=bif g3 a b c then 0 else er3 a b c:=rfl
theorem Ms (a b c:Int):(e3 a b c != 0)=!g3 a b c:=by
 unfold e3 g3
 cases h1:a != 0 <;> cases h2:b != 0 <;> cases h3:c != 0 <;> simp [h1,h2,h3]
theorem Ro (F:MF) (b:Mat):okM F (flip b)=okM F b:=by
 unfold okM MF.ok flip
 cases F.o b.x.a b.x.b <;> cases F.o b.x.c b.x.d <;> cases F.o b.x.e b.x.f <;> cases F.o b.y.a b.y.b <;> cases F.o b.y.c b.y.d <;> cases F.o b.y.e b.y.f <;> cases F.o b.z.a b.z.b <;> cases F.o b.z.c b.z.d <;> cases F.o b.z.e b.z.f <;> rfl
def xJ (F:MF):TF:=⟨tuV F,tuO F,ckM F⟩
theorem ZB {F:MF} (hc:∀ v w,F.dt v w=F.dt w v) (a b:Mat):IE (xJ F) a b=mulV F a b/\Mr (xJ F) a b=ze F a b:=by
 have eB:pmB (xJ F) a b=rmB F a b:=by
  show (bif ckM F a != 0 then true else ckM F b != 0)=_
  rw [Fb,Fb]
  unfold rmB
  cases okM F a <;> cases okM F b <;> rfl
 cases hB:rmB F a b with
 | true=>
  have e1:pmB (xJ F) a b=true:=by rw [eB,hB]
  refine ⟨?_,?_⟩
  .unfold IE mulV pmV rmV rmI
   rw [e1,hB]; rfl
  .unfold Mr ze
   rw [e1,hB]; rfl
 | false=>
  have e1:pmB (xJ F) a b=false:=by rw [eB,hB]
  have hh:okM F a=true/\okM F b=true:=by
   unfold rmB at hB
   cases ha:okM F a <;> cases hb:okM F b <;> rw [ha,hb] at hB <;> first|exact ⟨rfl,rfl⟩|cases hB
  have hr:F.ok a.x=true/\F.ok a.y=true/\F.ok a.z=true:=by
   have:=hh.1
   unfold okM at this
   cases h1:F.ok a.x <;> cases h2:F.ok a.y <;> cases h3:F.ok a.z <;> rw [h1,h2,h3] at this <;> first|exact ⟨rfl,rfl,rfl⟩|cases this
  have bd:∀ r,F.ok r=true->zb F (flip b) r=false:=fun r h=>by
   unfold zb
   rw [Ro,hh.2,h]; rfl
  have te:∀ r,F.ok r=true->(xJ F).te (flip b) r=e3 (F.dt r (flip b).x).e (F.dt r (flip b).y).e (F.dt r (flip b).z).e:=fun r h=>by
   show tuO F (flip b) r=_
   unfold tuO
   rw [bd r h,hc _ r,hc _ r,hc _ r]; rfl
  have nz:∀ r,F.ok r=true->((xJ F).te (flip b) r != 0)=!rg F b r:=fun r h=>by
   rw [te r h,Ms]; rfl
  have eG:pmG (xJ F) a b=rmG F a b:=by
   unfold pmG g3 rmG
   rw [nz _ hr.1,nz _ hr.2.1,nz _ hr.2.2,Bool.not_not,Bool.not_not,Bool.not_not]
  refine ⟨?_,?_⟩
  .cases hG:rmG F a b with
   | false=>
    rw [hG] at eG
    unfold IE mulV pmV rmV rmI
    rw [e1,hB,eG,hG]; rfl
   | true=>
    have hG0:=hG
    rw [hG] at eG
    unfold rmG at hG
    simp only [Bool.and_eq_true] at hG
    have tv:∀ r,F.ok r=true->rg F b r=true->(xJ F).tv (flip b) r=⟨(F.dt r (flip b).x).lo,(F.dt r (flip b).x).hi,(F.dt r (flip b).y).lo,(F.dt r (flip b).y).hi,(F.dt r (flip b).z).lo,(F.dt r (flip b).z).hi⟩:=fun r h hg=>by
     show tuV F (flip b) r=_
     have htg:tg F (flip b) r=true:=by
      unfold tg
      rw [hc _ r,hc _ r,hc _ r]; exact hg
     unfold tuV rtI
     rw [bd r h,htg,hc _ r,hc _ r,hc _ r]; rfl
    unfold IE mulV
    rw [tv _ hr.1 hG.1,tv _ hr.2.1 hG.2.1,tv _ hr.2.2 hG.2.2]
    unfold pmV rmV rmI
    rw [e1,hB,eG,hG0]; rfl
  .unfold Mr ze
   rw [e1,hB]
   show e3 _ _ _=bif rmG F a b then 0 else _
   rw [te _ hr.1,te _ hr.2.1,te _ hr.2.2]
   have n1:=Ms (F.dt a.x (flip b).x).e (F.dt a.x (flip b).y).e (F.dt a.x (flip b).z).e
   have n2:=Ms (F.dt a.y (flip b).x).e (F.dt a.y (flip b).y).e (F.dt a.y (flip b).z).e
   have n3:=Ms (F.dt a.z (flip b).x).e (F.dt a.z (flip b).y).e (F.dt a.z (flip b).z).e
   have f1:=Rm (F.dt a.y (flip b).x).e (F.dt a.y (flip b).y).e (F.dt a.y (flip b).z).e
   have f2:=Rm (F.dt a.z (flip b).x).e (F.dt a.z (flip b).y).e (F.dt a.z (flip b).z).e
   have d1:=Rn (F.dt a.x (flip b).x).e (F.dt a.x (flip b).y).e (F.dt a.x (flip b).z).e
   have d2:=Rn (F.dt a.y (flip b).x).e (F.dt a.y (flip b).y).e (F.dt a.y (flip b).z).e
   have d3:=Rn (F.dt a.z (flip b).x).e (F.dt a.z (flip b).y).e (F.dt a.z (flip b).z).e
   unfold rmG rf rg re
   rw [f1,f2]
   generalize e3 (F.dt a.x (flip b).x).e (F.dt a.x (flip b).y).e (F.dt a.x (flip b).z).e=E1 at *
   generalize e3 (F.dt a.y (flip b).x).e (F.dt a.y (flip b).y).e (F.dt a.y (flip b).z).e=E2 at *
   generalize e3 (F.dt a.z (flip b).x).e (F.dt a.z (flip b).y).e (F.dt a.z (flip b).z).e=E3 at *
   generalize g3 (F.dt a.x (flip b).x).e (F.dt a.x (flip b).y).e (F.dt a.x (flip b).z).e=G1 at *
   generalize g3 (F.dt a.y (flip b).x).e (F.dt a.y (flip b).y).e (F.dt a.y (flip b).z).e=G2 at *
   generalize g3 (F.dt a.z (flip b).x).e (F.dt a.z (flip b).y).e (F.dt a.z (flip b).z).e=G3 at *
   unfold e3 g3
   rw [n1,n2,n3]
   cases G1 <;> cases G2 <;> cases G3 <;> simp only [cond_true,cond_false] at d1 d2 d3 <;> simp [d1,d2,d3]
end Go.Vc
namespace Go.Proofs.YtmnhhlnbfkfkaaaGreat.K
open Go Go.Eng Go.Ar Go.Vc
noncomputable section
def sVC (C:Ve->Int):aM:=aW [shV] none fun
 | [.n a,.n b,.n c,.n d,.n e,.n f]=>.n .i64 (C ⟨a,b,c,d,e,f⟩)
 | _=>.u []
theorem kV {xs:List Nu} (hk:xs.map Nu.isN=Sh.kindsL [shV]):∃ a b c d e f,xs=[.n a,.n b,.n c,.n d,.n e,.n f]:=by
 obtain ⟨a,_,rfl,h1⟩:=kn hk; obtain ⟨b,_,rfl,h2⟩:=kn h1; obtain ⟨c,_,rfl,h3⟩:=kn h2; obtain ⟨d,_,rfl,h4⟩:=kn h3; obtain ⟨e,_,rfl,h5⟩:=kn h4; obtain ⟨f,_,rfl,h6⟩:=kn h5; obtain rfl:=k0 h6
 exact ⟨a,b,c,d,e,f,rfl⟩
def mf0:MF:=⟨aC vf0,aj⟩
theorem Rp:PureOk Tryz.prog 40 (sVC (ck mf0)):=by
 refine fw (fun xs hk _=>?_) ⟨_,Tryz.func40,rfl⟩
 obtain ⟨a,b,c,d,e,f,rfl⟩:=kV hk
 have r:=Rk vf0 ⟨a,b,c,d,e,f⟩
 have e:vC0 vf0 ⟨a,b,c,d,e,f⟩=ck mf0 ⟨a,b,c,d,e,f⟩:=by
  rw [EZ vW]
  show (bif !(MF.ok mf0 ⟨a,b,c,d,e,f⟩) then (20:Int) else 0)=bif MF.ok mf0 ⟨a,b,c,d,e,f⟩ then 0 else 20
  cases MF.ok mf0 ⟨a,b,c,d,e,f⟩ <;> rfl
 rw [e] at r
 exact ⟨Kh vf0,3000,_,Fa,rfl,fun _=>rfl,rfl,r,fun _=>⟨⟨rfl,rfl⟩,⟨rfl,rfl⟩,rfl,rfl⟩⟩
def Ki (F:MF):List (FuncId×aM):=[(42,sVD F.dt),(40,sVC (ck F))]
theorem Ow:pq Tryz.prog (Ki mf0):=by
 intro x hx
 simp only [Ki,List.mem_cons,List.not_mem_nil,or_false] at hx
 rcases hx with rfl|rfl
 .exact VX
 .exact Rp
def Kj (F:MF):Ctx:=mkC Tryz.prog (Ki F) ext
theorem Fe:CtxOk (Kj mf0):=jd dL Ow jF
def shM:Sh:=.a [.i .i64,.i .i64,.i .i64,.i .i64,.i .i64,.i .i64,.i .i64,.i .i64,.i .i64,.i .i64,.i .i64,.i .i64,.i .i64,.i .i64,.i .i64,.i .i64,.i .i64,.i .i64]
def Rq (v:Ve) (e:Int):Tm:=.u [.a [.n .i64 v.a,.n .i64 v.b,.n .i64 v.c,.n .i64 v.d,.n .i64 v.e,.n .i64 v.f],.n .i64 e]
def sMC (C:Mat->Int):aM:=aW [shM] none fun
 | [.n a,.n b,.n c,.n d,.n e,.n f,.n g,.n h,.n i,.n j,.n k,.n l,.n m,.n n,.n o,.n p,.n q,.n r]=>.n .i64 (C ⟨⟨a,b,c,d,e,f⟩,⟨g,h,i,j,k,l⟩,⟨m,n,o,p,q,r⟩⟩)
 | _=>.u []
def sMV (V:Mat->Ve->Ve) (E:Mat->Ve->Int):aM:=aW [shM,shV] none fun
 | [.n a,.n b,.n c,.n d,.n e,.n f,.n g,.n h,.n i,.n j,.n k,.n l,.n m,.n n,.n o,.n p,.n q,.n r,.n a1,.n b1,.n c1,.n d1,.n e1,.n f1]=>Rq (V ⟨⟨a,b,c,d,e,f⟩,⟨g,h,i,j,k,l⟩,⟨m,n,o,p,q,r⟩⟩ ⟨a1,b1,c1,d1,e1,f1⟩) (E ⟨⟨a,b,c,d,e,f⟩,⟨g,h,i,j,k,l⟩,⟨m,n,o,p,q,r⟩⟩ ⟨a1,b1,c1,d1,e1,f1⟩)
 | _=>.u []
theorem k6 {xs:List Nu} {K:List Nat} (hk:xs.map Nu.isN=0 :: 0 :: 0 :: 0 :: 0 :: 0 :: K):∃ (v:Ve) (ys:List Nu),xs=.n v.a :: .n v.b :: .n v.c :: .n v.d :: .n v.e :: .n v.f :: ys/\ys.map Nu.isN=K:=by
 obtain ⟨a,_,rfl,h1⟩:=kn hk; obtain ⟨b,_,rfl,h2⟩:=kn h1; obtain ⟨c,_,rfl,h3⟩:=kn h2; obtain ⟨d,_,rfl,h4⟩:=kn h3; obtain ⟨e,_,rfl,h5⟩:=kn h4; obtain ⟨f,ys,rfl,h6⟩:=kn h5
 exact ⟨⟨a,b,c,d,e,f⟩,ys,rfl,h6⟩
theorem Ox (F:MF) (m:Mat) (v:Ve):fF ((run (Kj F) 3000).call 20 [.agg m.cells,.agg v.cells] ⟨[],0,1⟩)=some (.tt,(Rq (VZ F m v) (V4 F m v)).av true):=by kernel_rfl
theorem Oy (F:MF) (m:Mat) (v:Ve):fF ((run (Kj F) 3000).call 22 [.agg m.cells,.agg v.cells] ⟨[],0,1⟩)=some (.p (veP v),(Rq (VZ F (flip m) v) (V4 F (flip m) v)).av true):=by kernel_rfl
theorem Kk (F:MF) (m:Mat):fF ((run (Kj F) 3000).call 17 [.agg m.cells] ⟨[],0,1⟩)=some (.tt,(Tm.n .i64 (ckM F m)).av true):=by kernel_rfl
theorem Bp:PureOk Tryz.prog 20 (sMV (tuV mf0) (tuO mf0)):=by
 refine fw (fun xs hk _=>?_) ⟨_,Tryz.func20,rfl⟩
 obtain ⟨a,_,rfl,h1⟩:=k6 hk; obtain ⟨b,_,rfl,h2⟩:=k6 h1; obtain ⟨c,_,rfl,h3⟩:=k6 h2; obtain ⟨v,_,rfl,h4⟩:=k6 h3; obtain rfl:=k0 h4
 have r:=Ox mf0 ⟨a,b,c⟩ v
 rw [(Mm _ _ _).1,(Mm _ _ _).2] at r
 exact ⟨Kj mf0,3000,_,Fe,rfl,fun _=>rfl,rfl,r,trivial⟩
theorem IG:PureOk Tryz.prog 22 (sMV (fun m=>tuV mf0 (flip m)) (fun m=>tuO mf0 (flip m))):=by
 refine fw (fun xs hk _=>?_) ⟨_,Tryz.func22,rfl⟩
 obtain ⟨a,_,rfl,h1⟩:=k6 hk; obtain ⟨b,_,rfl,h2⟩:=k6 h1; obtain ⟨c,_,rfl,h3⟩:=k6 h2; obtain ⟨v,_,rfl,h4⟩:=k6 h3; obtain rfl:=k0 h4
 have r:=Oy mf0 ⟨a,b,c⟩ v
 rw [(Mm _ _ _).1,(Mm _ _ _).2] at r
 exact ⟨Kj mf0,3000,_,Fe,rfl,fun _=>rfl,rfl,r,Mq v⟩
theorem Dn:PureOk Tryz.prog 17 (sMC (ckM mf0)):=by
 refine fw (fun xs hk _=>?_) ⟨_,Tryz.func17,rfl⟩
 obtain ⟨a,_,rfl,h1⟩:=k6 hk; obtain ⟨b,_,rfl,h2⟩:=k6 h1; obtain ⟨c,_,rfl,h3⟩:=k6 h2; obtain rfl:=k0 h3
 exact ⟨Kj mf0,3000,_,Fe,rfl,fun _=>rfl,rfl,Kk mf0 ⟨a,b,c⟩,trivial⟩
end
end Go.Proofs.YtmnhhlnbfkfkaaaGreat.K
namespace Go.Vc
open Go Go.Eng Go.Ar
theorem mn_eq (a b:Int):mn a b=if b<a then b else a:=by
 unfold mn; by_cases h:b<a <;> simp [h]
theorem mx_eq (a b:Int):mx a b=if a<b then b else a:=by
 unfold mx; by_cases h:a<b <;> simp [h]
theorem ZC (p q r s:Int):mn (mn (mn p q) r) s=mn (mn (mn p r) q) s:=by
 simp only [mn_eq]
 repeat' split
 all_goals omega
theorem ZE (p q r s:Int):mx (mx (mx p q) r) s=mx (mx (mx p r) q) s:=by
 simp only [mx_eq]
 repeat' split
 all_goals omega
theorem Dp (a b c d:Int):aI a b c d=aI c d a b:=by
 unfold aI pG kw mF
 rw [Int.mul_comm c a,Int.mul_comm c b,Int.mul_comm d a,Int.mul_comm d b,ZC (Ar.rd (a*c) 4294967296 false),ZE (Ar.rd (a*c) 4294967296 true),Bool.and_comm]
theorem Oz (v w:Ve):Ot vf0 v w vf0.mu=Ot vf0 w v vf0.mu:=by
 have e:∀ a b c d,vf0.mu a b c d=vf0.mu c d a b:=Dp
 have hb:Ou vf0 v w=Ou vf0 w v:=by
  unfold Ou
  cases wOk vf0 v <;> cases wOk vf0 w <;> rfl
 unfold Ot z3
 rw [Ke vW,Ke vW,hb,e v.a,e v.c,e v.e]
theorem qG (v w:Ve):aC vf0 v w=aC vf0 w v:=by
 have e:∀ a b c d,vf0.mu a b c d=vf0.mu c d a b:=Dp
 have hA:dA vf0 v w=dA vf0 w v:=by
  unfold dA
  rw [e v.a,e v.c]
 have hB:dB vf0 v w=dB vf0 w v:=by
  unfold dB
  rw [hA,e v.e]
 have hE:dE vf0 v w=dE vf0 w v:=by
  unfold dE
  rw [Oz,hA,hB]
 unfold aC
 rw [hE,hB]
end Go.Vc
namespace Go.Proofs.YtmnhhlnbfkfkaaaGreat.K
open Go Go.Eng Go.Ar Go.Vc
noncomputable section
def Kl (T:TF):List (FuncId×aM):=[(20,sMV T.tv T.te),(17,sMC T.cm)]
theorem OA:pq Tryz.prog (Kl (xJ mf0)):=by
 intro x hx
 simp only [Kl,List.mem_cons,List.not_mem_nil,or_false] at hx
 rcases hx with rfl|rfl
 .exact Bp
 .exact Dn
def ZF (T:TF):Ctx:=mkC Tryz.prog (Kl T) ext
theorem V5:CtxOk (ZF (xJ mf0)):=jd dL OA jF
def yK (m:Mat) (e:Int):Tm:=.u [.a [.n .i64 m.x.a,.n .i64 m.x.b,.n .i64 m.x.c,.n .i64 m.x.d,.n .i64 m.x.e,.n .i64 m.x.f,.n .i64 m.y.a,.n .i64 m.y.b,.n .i64 m.y.c,.n .i64 m.y.d,.n .i64 m.y.e,.n .i64 m.y.f,.n .i64 m.z.a,.n .i64 m.z.b,.n .i64 m.z.c,.n .i64 m.z.d,.n .i64 m.z.e,.n .i64 m.z.f],.n .i64 e]
def gVe:List Nu->Ve×List Nu
 | .n a :: .n b :: .n c :: .n d :: .n e :: .n f :: l=>(⟨a,b,c,d,e,f⟩,l)
 | l=>(⟨0,0,0,0,0,0⟩,l)
def gMa (l:List Nu):Mat×List Nu:=(⟨(gVe l).1,(gVe (gVe l).2).1,(gVe (gVe (gVe l).2).2).1⟩,(gVe (gVe (gVe l).2).2).2)
def sMM (V:Mat->Mat->Mat) (E:Mat->Mat->Int):aM:=aW [shM,shM] none fun xs=>yK (V (gMa xs).1 (gMa (gMa xs).2).1) (E (gMa xs).1 (gMa (gMa xs).2).1)
theorem Rs (T:TF) (a b:Mat):fF ((run (ZF T) 3000).call 15 [.agg a.cells,.agg b.cells] ⟨[],0,1⟩)=some (.p (pmN T a b),(yK (IE T a b) (Mr T a b)).av true):=by kernel_rfl
theorem Mt:PureOk Tryz.prog 15 (sMM (mulV mf0) (ze mf0)):=by
 refine fw (fun xs hk _=>?_) ⟨_,Tryz.func15,rfl⟩
 obtain ⟨a,_,rfl,h1⟩:=k6 hk; obtain ⟨b,_,rfl,h2⟩:=k6 h1; obtain ⟨c,_,rfl,h3⟩:=k6 h2; obtain ⟨a1,_,rfl,h4⟩:=k6 h3; obtain ⟨b1,_,rfl,h5⟩:=k6 h4; obtain ⟨c1,_,rfl,h6⟩:=k6 h5; obtain rfl:=k0 h6
 have r:=Rs (xJ mf0) ⟨a,b,c⟩ ⟨a1,b1,c1⟩
 have e:=ZB (F:=mf0) qG ⟨a,b,c⟩ ⟨a1,b1,c1⟩
 rw [e.1,e.2] at r
 exact ⟨ZF (xJ mf0),3000,_,V5,rfl,fun _=>rfl,rfl,r,acs _ _ _⟩
end
end Go.Proofs.YtmnhhlnbfkfkaaaGreat.K
namespace Go.Dg
def val:List Int->Int
 | []=>0
 | x :: l=>x+(1000000000:Int)*val l
def Dig (xs:List Int):Prop:=∀ x∈xs,0<=x/\x<(1000000000:Int)
def pw:Nat->Int
 | 0=>1
 | n+1=>(1000000000:Int)*pw n
theorem pw_pos:∀ n,0<pw n
 | 0=>by decide
 | n+1=>Int.mul_pos (by decide) (pw_pos n)
theorem Bq:∀ m n,pw (m+n)=pw m*pw n
 | 0,n=>by simp [pw]
 | m+1,n=>by rw [Nat.succ_add]; simp only [pw]; rw [Bq m n,Int.mul_assoc]
theorem kK:Dig []:=fun _ h=>by cases h
theorem dW {x:Int} {l:List Int}:Dig (x :: l) ↔ (0<=x/\x<(1000000000:Int))/\Dig l:=by
 constructor
 .intro h; exact ⟨h x (by simp),fun y hy=>h y (by simp [hy])⟩
 .rintro ⟨h1,h2⟩ y hy
  rcases List.mem_cons.1 hy with rfl|hy
  .exact h1
  .exact h2 y hy
theorem Mv {l m:List Int}:Dig (l++m) ↔ Dig l/\Dig m:=by
 constructor
 .intro h; exact ⟨fun y hy=>h y (by simp [hy]),fun y hy=>h y (by simp [hy])⟩
 .rintro ⟨h1,h2⟩ y hy
  rcases List.mem_append.1 hy with hy|hy
  .exact h1 y hy
  .exact h2 y hy
theorem Dig.take {l:List Int} (h:Dig l) (n:Nat):Dig (l.take n):=fun x hx=>h x (List.mem_of_mem_take hx)
theorem Dig.drop {l:List Int} (h:Dig l) (n:Nat):Dig (l.drop n):=fun x hx=>h x (List.mem_of_mem_drop hx)
theorem Dig.get {l:List Int} (h:Dig l) (i:Nat):0<=l.getD i 0/\l.getD i 0<(1000000000:Int):=by
 rw [List.getD_eq_getElem?_getD]
 cases e:l[i]? with
 | none=>exact ⟨Int.le_refl _,by decide⟩
 | some x=>exact h x (List.mem_of_getElem? e)
theorem Dig.set {l:List Int} (h:Dig l) (i:Nat) {x:Int} (hx:0<=x/\x<(1000000000:Int)):Dig (l.set i x):=fun y hy=>by
 rcases List.mem_or_eq_of_mem_set hy with h1|rfl
 .exact h y h1
 .exact hx
theorem Fg:∀ (l m:List Int),val (l++m)=val l+pw l.length*val m
 | [],m=>by simp [val,pw]
 | x :: l,m=>by
  simp only [List.cons_append,val,List.length_cons,pw]
  rw [Fg l m,Int.mul_add,Int.mul_assoc]; omega
theorem au:∀ {l:List Int},Dig l->0<=val l
 | [],_=>Int.le_refl _
 | x :: l,h=>by
  have h:=dW.1 h
  have:=au h.2
  simp only [val]
  omega
theorem iB:∀ {l:List Int},Dig l->val l<pw l.length
 | [],_=>by decide
 | x :: l,h=>by
  have h:=dW.1 h
  have:=iB h.2
  simp only [val,List.length_cons,pw]
  have h3:(1000000000:Int)*val l+(1000000000:Int)<=(1000000000:Int)*pw l.length:=by
   have:(1000000000:Int)*(val l+1)<=(1000000000:Int)*pw l.length:=Int.mul_le_mul_of_nonneg_left (by omega) (by decide)
   rw [Int.mul_add] at this
   simpa using this
  have:=h.1.2
  omega
theorem l8:∀ (l:List Int) (i:Nat) (x:Int),i<l.length->val (l.set i x)=val l+pw i*(x - l.getD i 0)
 | [],i,x,h=>by simp at h
 | y :: l,0,x,h=>by simp [val,pw]; omega
 | y :: l,i+1,x,h=>by
  simp only [List.set_cons_succ,val,pw,List.getD_cons_succ]
  rw [l8 l i x (by simpa using h),Int.mul_add,Int.mul_assoc]
  omega
theorem II:∀ n,val (List.replicate n 0)=0
 | 0=>rfl
 | n+1=>by simp [List.replicate_succ,val,II n]
theorem Rt (n:Nat):Dig (List.replicate n 0):=fun x hx=>by
 obtain rfl:=List.eq_of_mem_replicate hx
 decide
theorem eD {l:List Int} {n:Nat} (h:n<l.length):val (l.take (n+1))=val (l.take n)+pw n*l.getD n 0:=by
 rw [List.take_add_one,List.getElem?_eq_getElem h,Fg,List.length_take,Nat.min_eq_left (by omega),List.getD_eq_getElem?_getD,List.getElem?_eq_getElem h]
 simp [val]
def aa (n:Nat):List Int:=
 if h:n=0 then [] else ((n % 1000000000:Nat):Int) :: aa (n / 1000000000)
termination_by n
decreasing_by exact Nat.div_lt_self (Nat.pos_of_ne_zero h) (by decide)
theorem fT:aa 0=[]:=by rw [aa]; simp
theorem gG {n:Nat} (h:n≠0):aa n=((n % 1000000000:Nat):Int) :: aa (n / 1000000000):=by rw [aa]; simp [h]
theorem Br (n:Nat):val (aa n)=n:=by
 induction n using Nat.strongRecOn with
 | _ n ih=>
  by_cases h:n=0
  .subst h; rw [fT]; rfl
  .rw [gG h,val,ih _ (Nat.div_lt_self (Nat.pos_of_ne_zero h) (by decide))]
   omega
theorem aH (n:Nat):Dig (aa n):=by
 induction n using Nat.strongRecOn with
 | _ n ih=>
  by_cases h:n=0
  .subst h; rw [fT]; exact kK
  .rw [gG h]
   exact dW.2 ⟨by omega,ih _ (Nat.div_lt_self (Nat.pos_of_ne_zero h) (by decide))⟩
def Top (l:List Int):Prop:=l=[]\/l.getD (l.length - 1) 0≠0
theorem Bt {x y:Int} {l:List Int}:Top (x :: y :: l) ↔ Top (y :: l):=by
 constructor
 .intro h
  rcases h with h|h
  .cases h
  .exact .inr (by simpa using h)
 .intro h
  rcases h with h|h
  .cases h
  .exact .inr (by simpa using h)
theorem ZG {l:List Int}:Dig l->Top l->l≠[]->val l≠0:=by
 induction l with
 | nil=>intro _ _ h; exact absurd rfl h
 | cons x l ih=>
  intro hd ht _
  have h:=dW.1 hd
  have h2:=au h.2
  simp only [val]
  cases l with
  | nil=>
   rcases ht with ht|ht
   .cases ht
   .have:x≠0:=by simpa using ht
    simp only [val]; omega
  | cons y l=>
   have:=ih h.2 (Bt.1 ht) (by simp)
   omega
theorem nK:∀ {l:List Int},Dig l->Top l->aa (val l).toNat=l
 | [],_,_=>fT
 | x :: l,hd,ht=>by
  have h:=dW.1 hd
  have h2:=au h.2
  have h0:val (x :: l)≠0:=ZG hd ht (by simp)
  have h1:0<=val (x :: l):=au hd
  have ht':Top l:=by
   cases l with
   | nil=>exact .inl rfl
   | cons y l=>exact Bt.1 ht
  rw [gG (by omega)]
  simp only [val] at h1 ⊢
  have e1:(x+(1000000000:Int)*val l).toNat % 1000000000=x.toNat:=by omega
  have e2:(x+(1000000000:Int)*val l).toNat / 1000000000=(val l).toNat:=by omega
  rw [e1,e2,nK h.2 ht',Int.toNat_of_nonneg h.1.1]
theorem qH (n:Nat):Top (aa n):=by
 induction n using Nat.strongRecOn with
 | _ n ih=>
  by_cases h:n=0
  .subst h; rw [fT]; exact .inl rfl
  .by_cases h2:n / 1000000000=0
   .rw [gG h,h2,fT]
    right
    simp
    omega
   .have:=ih (n / 1000000000) (Nat.div_lt_self (Nat.pos_of_ne_zero h) (by decide))
    rw [gG h]
    rw [gG h2] at this ⊢
    exact Bt.2 this
theorem Fh {n:Nat} (h:n≠0):0<(aa n).length:=by rw [gG h]; simp
def tl (l:List Int):Nat->Nat
 | 0=>0
 | n+1=>if l.getD n 0=0 then tl l n else n+1
theorem Yz (l:List Int):∀ n,tl l n<=n
 | 0=>Nat.le_refl _
 | n+1=>by
  simp only [tl]
  split
  .exact Nat.le_succ_of_le (Yz l n)
  .exact Nat.le_refl _
theorem Ru {l:List Int}:∀ {n},n<=l.length->val (l.take (tl l n))=val (l.take n)
 | 0,_=>rfl
 | n+1,h=>by
  simp only [tl]
  split
  .rename_i h0
   rw [Ru (by omega),eD (by omega),h0]
   simp
  .rfl
theorem Rv {l:List Int}:∀ {n},n<=l.length->Top (l.take (tl l n))
 | 0,_=>.inl rfl
 | n+1,h=>by
  simp only [tl]
  split
  .exact Rv (by omega)
  .rename_i h0
   right
   rw [List.length_take,Nat.min_eq_left (by omega)]
   simpa [List.getD_eq_getElem?_getD,List.getElem?_take] using h0
theorem V6 {l:List Int} (h:Dig l):l.take (tl l l.length)=aa (val l).toNat:=by
 have h1:=nK (h.take (tl l l.length)) (Rv (Nat.le_refl _))
 rw [Ru (Nat.le_refl _),List.take_length] at h1
 exact h1.symm
def vX (a b:List Int):Nat->Bool
 | 0=>false
 | n+1=>if a.getD n 0=b.getD n 0 then vX a b n else decide (a.getD n 0<b.getD n 0)
theorem Dq {a b:List Int} (ha:Dig a) (hb:Dig b):∀ {n:Nat},n<=a.length->n<=b.length->(vX a b n=true ↔ val (a.take n)<val (b.take n))
 | 0,_,_=>by simp [vX,val]
 | n+1,h1,h2=>by
  have ih:=Dq ha hb (n:=n) (by omega) (by omega)
  simp only [vX]
  rw [eD (by omega),eD (by omega)]
  split
  .rename_i he
   rw [ih,he]
   omega
  .rename_i he
   have x1:=iB (ha.take n)
   have x2:=iB (hb.take n)
   have y1:=au (ha.take n)
   have y2:=au (hb.take n)
   rw [List.length_take,Nat.min_eq_left (by omega)] at x1 x2
   have hp:=pw_pos n
   simp only [decide_eq_true_eq]
   constructor
   .intro hlt
    have:pw n*(a.getD n 0+1)<=pw n*b.getD n 0:=Int.mul_le_mul_of_nonneg_left (by omega) (by omega)
    rw [Int.mul_add] at this
    omega
   .intro hlt
    rcases (show a.getD n 0<b.getD n 0\/b.getD n 0<=a.getD n 0 by omega) with h|h
    .exact h
    .have:pw n*(b.getD n 0+1)<=pw n*a.getD n 0:=Int.mul_le_mul_of_nonneg_left (by omega) (by omega)
     rw [Int.mul_add] at this
     omega
theorem kL {m n:Nat} (h:m<=n):pw m<=pw n:=by
 obtain ⟨k,rfl⟩:=Nat.le.dest h
 rw [Bq]
 have h1:=pw_pos m
 have h2:=pw_pos k
 calc pw m=pw m*1:=(Int.mul_one _).symm
  _<=pw m*pw k:=Int.mul_le_mul_of_nonneg_left h2 (Int.le_of_lt h1)
theorem Rw {l:List Int} (h:Dig l) (ht:Top l) (hne:l≠[]):pw (l.length - 1)<=val l:=by
 have hpos:0<l.length:=List.length_pos_iff.2 hne
 have h1:val l=val (l.take (l.length - 1))+pw (l.length - 1)*l.getD (l.length - 1) 0:=by
  have:=eD (l:=l) (n:=l.length - 1) (by omega)
  rw [show l.length - 1+1=l.length by omega,List.take_length] at this
  exact this
 have h2:=au (h.take (l.length - 1))
 have h3:1<=l.getD (l.length - 1) 0:=by
  rcases ht with ht|ht
  .exact absurd ht hne
  .have:=h.get (l.length - 1); omega
 have h4:pw (l.length - 1)*1<=pw (l.length - 1)*l.getD (l.length - 1) 0:=Int.mul_le_mul_of_nonneg_left h3 (Int.le_of_lt (pw_pos _))
 omega
theorem Bu {a b:List Int} (ha:Dig a) (hb:Dig b) (tb:Top b) (h:a.length<b.length):val a<val b:=by
 have h1:=iB ha
 have h2:=Rw hb tb (by rintro rfl; simp at h)
 have h3:=kL (show a.length<=b.length - 1 by omega)
 omega
def Mw (a b:List Int):Bool:=if a.length=b.length then vX a b a.length else decide (a.length<b.length)
theorem Dt {a b:List Int} (ha:Dig a) (hb:Dig b) (ta:Top a) (tb:Top b):Mw a b=true ↔ val a<val b:=by
 unfold Mw
 split
 .rename_i h
  rw [Dq ha hb (Nat.le_refl _) (by omega),List.take_length,h,List.take_length]
 .rename_i h
  simp only [decide_eq_true_eq]
  constructor
  .exact fun hl=>Bu ha hb tb hl
  .intro hv
   rcases Nat.lt_or_ge a.length b.length with h1|h1
   .exact h1
   .have:=Bu hb ha ta (by omega)
    omega
def fr (x:Int):Int:=if x.tmod (1000000000:Int)<0 then x.tmod (1000000000:Int)+(1000000000:Int) else x.tmod (1000000000:Int)
end Go.Dg
namespace Go.Dg
open Go Go.Eng
theorem bt {p:Prop} [Decidable p] {b:Bool}:(bif decide p then b else false)=true ↔ p/\b=true:=by
 by_cases h:p <;> simp [h]
theorem bo {p:Prop} [Decidable p] {b:Bool}:(bif decide p then true else b)=true ↔ p\/b=true:=by
 by_cases h:p <;> simp [h]
theorem nbt {p:Prop} [Decidable p] {b:Bool}:(!bif decide p then b else false)=true ↔ (p->b=false):=by
 by_cases h:p <;> simp [h]
theorem eb {x y:Int}:(x==y)=true ↔ x=y:=⟨eq_of_beq,fun h=>by rw [h]; exact beq_self_eq_true y⟩
theorem neb {x y:Int}:(x==y)=false ↔ x≠y:=by
 constructor
 .intro h e; rw [eb.2 e] at h; cases h
 .intro h
  cases e:(x==y) with
  | false=>rfl
  | true=>exact absurd (eb.1 e) h
theorem dt {p:Prop} [Decidable p]:decide p=true ↔ p:=decide_eq_true_iff
theorem ndt {p:Prop} [Decidable p]:(!decide p)=true ↔ ¬p:=by by_cases h:p <;> simp [h]
def Sm (d:List Int):Prop:=d.length<=500000
theorem Sm.le {d:List Int} (h:Sm d):d.length<=500000:=h
theorem iw {n:Int} (h0:-9223372036854775808<=n) (h1:n<9223372036854775808):IntKind.i64.wrap n=n:=Go.Ar.i64w h0 h1
end Go.Dg
namespace Go.Proofs.YtmnhhlnbfkfkaaaGreat.K
open Go Go.Eng
noncomputable section
def cL:Ctx:=mkN Tryz.prog (fun _=>none) hG0 [] [] lH
def tlI (d:List Int) (y:Int):Int:=(Go.Dg.tl d y.toNat:Nat)
end
end Go.Proofs.YtmnhhlnbfkfkaaaGreat.K
namespace Go.Proofs.YtmnhhlnbfkfkaaaGreat.K
open Go Go.Eng Go.Dg
noncomputable section
theorem iN:CtxOk cL:=ES dL (qD _) (fun x h=>by cases h) (fun x h=>by cases h)
theorem IJ {d:List Int} {i:Int} (h:0<i):tlI d i=if d.getD (i - 1).toNat 0=0 then tlI d (i - 1) else i:=by
 unfold tlI
 obtain ⟨n,rfl⟩:∃ n:Nat,i=(n+1:Nat):=⟨(i - 1).toNat,by omega⟩
 have e1:((n+1:Nat):Int).toNat=n+1:=by omega
 have e2:(((n+1:Nat):Int) - 1).toNat=n:=by omega
 rw [e1,e2]
 simp only [tl]
 split <;> rfl
theorem Rx (d:List Int):0<=tlI d d.length/\tlI d d.length<=d.length:=by
 have:=Yz d d.length
 unfold tlI
 rw [show ((d.length:Int)).toNat=d.length by omega]
 omega
theorem Ry {d:List Int} (h:Dig d):d.take (tlI d d.length).toNat=aa (val d).toNat:=by
 rw [<- V6 h]
 have e:(tlI d d.length).toNat=tl d d.length:=by
  unfold tlI
  rw [show ((d.length:Int)).toNat=d.length by omega]
  omega
 rw [e]
end
end Go.Proofs.YtmnhhlnbfkfkaaaGreat.K
namespace Go.Dg
def OB (a b:List Int):Nat->Bool
 | 0=>false
 | n+1=>if a.getD n 0=b.getD n 0 then OB a b n else true
def xK (a b:List Int) (i:Int):Bool:=OB a b (i+1).toNat
theorem IK {a b:List Int} {i:Int} (h:0<=i):xK a b i=if a.getD i.toNat 0=b.getD i.toNat 0 then xK a b (i - 1) else true:=by
 unfold xK
 rw [show (i+1).toNat=i.toNat+1 by omega,show (i - 1+1).toNat=i.toNat by omega,OB]
theorem IL {x y:Int}:(x != y)=true ↔ x≠y:=by simp
theorem Mx {x y:Int}:(x != y)=false ↔ x=y:=by simp
theorem afa {x y:Int}:(!x != y)=true ↔ x=y:=by
 have:(!x != y)=(x==y):=by simp [bne]
 rw [this]; exact eb
theorem YA {p:Prop} [Decidable p] {b:Bool}:(decide p&&b)=true ↔ p/\b=true:=by
 by_cases h:p <;> simp [h]
end Go.Dg
namespace Go.Dg
open Go.Eng
def okL (neg:Bool) (d:List Int):Prop:=Dig d/\Top d/\(neg=true->d≠[])/\Sm d
def zv (neg:Bool) (d:List Int):Int:=bif neg then -val d else val d
def lgT (own:Bool) (z:Int):To:=.st [.bo (decide (z<0)),.li own (aa z.natAbs)]
theorem IM {n k:Nat} (h:(n:Int)<pw k):(aa n).length<=k:=by
 rcases Nat.lt_or_ge k (aa n).length with h1|h1
 .have:=Rw (aH n) (qH n) (by intro e; rw [e] at h1; simp at h1)
  rw [Br] at this
  have:=kL (show k<=(aa n).length - 1 by omega)
  omega
 .exact h1
end Go.Dg
namespace Go.Dg
open Go Go.Eng
end Go.Dg
namespace Go.Dg
end Go.Dg
namespace Go.Dg
open Go Go.Eng
def aY:Nat->Int->List Int
 | 0,_=>[]
 | n+1,v=>v % 1000000000 :: aY n (v / 1000000000)
theorem dJ:∀ (n:Nat) (v:Int),(aY n v).length=n
 | 0,_=>rfl
 | n+1,v=>by simp [aY,dJ n]
theorem jX:∀ (n:Nat) (v:Int),Dig (aY n v)
 | 0,_=>kK
 | n+1,v=>dW.2 ⟨by omega,jX n _⟩
theorem lM:∀ {n:Nat} {v:Int},0<=v->v<pw n->val (aY n v)=v
 | 0,v,h0,h1=>by
  have:pw 0=1:=rfl
  simp only [aY,val]; omega
 | n+1,v,h0,h1=>by
  simp only [aY,val]
  have h2:pw (n+1)=(1000000000:Int)*pw n:=rfl
  rw [lM (by omega) (by omega)]
  omega
theorem MB:∀ {d:List Int},Dig d->d=aY d.length (val d)
 | [],_=>rfl
 | x :: l,h=>by
  have h:=dW.1 h
  simp only [List.length_cons,aY,val]
  rw [show (x+(1000000000:Int)*val l) % (1000000000:Int)=x by omega,show (x+(1000000000:Int)*val l) / (1000000000:Int)=val l by omega,<- MB h.2]
theorem IP:∀ n,List.replicate n (0:Int)=aY n 0
 | 0=>rfl
 | n+1=>by simp [List.replicate_succ,aY,<- IP n]
theorem qI {d:List Int} (h:Dig d) {n:Nat} {v:Int} (hl:d.length=n) (hv:val d=v):d=aY n v:=by
 subst hl hv; exact MB h
theorem ndf {p:Prop} [Decidable p] (h:¬p):decide p=false:=decide_eq_false h
def dA (a:List Int) (i:Int):Int:=val (a.drop (i+1).toNat)
theorem IQ:∀ (n:Nat) (v:Int) (i:Nat),i<n->(aY n v).getD i 0=v / pw i % (1000000000:Int)
 | 0,_,_,h=>by omega
 | n+1,v,0,_=>by simp [aY,pw]
 | n+1,v,i+1,h=>by
  simp only [aY,List.getD_cons_succ]
  rw [IQ n _ i (by omega),Int.ediv_ediv_of_nonneg (by decide)]
  rfl
structure OkQ (p q:Bool) (n d:List Int):Prop where
 hn:okL p n
 hd:okL q d
 hq:q=false
 ne:d≠[]
 ln:n.length<=600
 ld:d.length<=600
 cop:Int.gcd (zv p n) (zv q d)=1
theorem V7 {x y:Int} {k l:Nat} (hx:(x.natAbs:Int)<pw k) (hy:(y.natAbs:Int)<pw l):((x*y).natAbs:Int)<pw (k+l):=by
 rw [Int.natAbs_mul,Bq,Int.natCast_mul]
 have h0:(0:Int)<=x.natAbs:=by omega
 have h1:(0:Int)<=y.natAbs:=by omega
 have h2:=pw_pos k
 calc (x.natAbs:Int)*y.natAbs<=x.natAbs*pw l:=Int.mul_le_mul_of_nonneg_left (by omega) h0
  _<pw k*pw l:=Int.mul_lt_mul_of_pos_right hx (pw_pos l)
theorem len_mul {x y:Int} {k l:Nat} (hx:(x.natAbs:Int)<pw k) (hy:(y.natAbs:Int)<pw l):(aa (x*y).natAbs).length<=k+l:=IM (V7 hx hy)
end Go.Dg
namespace Go.Dg
theorem kM (n:Nat):pw (n+1)=1000000000*pw n:=rfl
end Go.Dg
namespace Go.Dg
open Go Go.Eng
theorem IR {a:List Int} {i:Nat} (h:i<a.length):val (a.drop i)=a.getD i 0+1000000000*val (a.drop (i+1)):=by
 rw [List.drop_eq_getElem_cons h]
 show a[i]+1000000000*val (a.drop (i+1))=_
 congr 1
 simp [List.getD_eq_getElem?_getD,List.getElem?_eq_getElem h]
theorem getD_set {l:List Int} {i j:Nat} {x:Int} (h:i≠j):(l.set i x).getD j 0=l.getD j 0:=by
 simp [List.getD_eq_getElem?_getD,List.getElem?_set_ne h]
theorem ib {l:List Int} {i:Nat} {x:Int} (h:i<l.length):(l.set i x).getD i 0=x:=by
 simp [List.getD_eq_getElem?_getD,h]
structure PaI (a:List Int) (n i r:Int) (d:List Int):Prop where
 l:d.length=a.length
 dg:Dig d
 i0:-1<=i
 i1:i<a.length
 z:∀ j:Nat,(j:Int)<=i->d.getD j 0=0
 v:val d*n+pw (i+1).toNat*r=pw (i+1).toNat*val (a.drop (i+1).toNat)
 r0:0<=r
 r1:r<n
theorem PaI.start {a:List Int} {n:Int} (hn:0<n):PaI a n (a.length - 1) 0 (List.replicate a.length 0):=by
 refine ⟨by simp,Rt _,by omega,by omega,fun j hj=>?_,?_,Int.le_refl _,hn⟩
 .simp [List.getD_eq_getElem?_getD,List.getElem?_replicate]
  split <;> rfl
 .rw [II,show ((a.length:Int) - 1+1).toNat=a.length by omega,List.drop_length]
  simp [val]
theorem PaI.step {a:List Int} {n i r:Int} {d:List Int} (ha:Dig a) (h:PaI a n i r d) (hi:0<=i):PaI a n (i - 1) ((r*1000000000+a.getD i.toNat 0).tmod n) (d.set i.toNat ((r*1000000000+a.getD i.toNat 0).tdiv n)):=by
 obtain ⟨l,dg,i0,i1,z,v,r0,r1⟩:=h
 have ga:=ha.get i.toNat
 have m0:0<=r*1000000000+a.getD i.toNat 0:=by omega
 have hn:0<n:=by omega
 have eq1:(r*1000000000+a.getD i.toNat 0).tmod n=(r*1000000000+a.getD i.toNat 0) % n:=Int.tmod_eq_emod_of_nonneg m0
 have eq2:(r*1000000000+a.getD i.toNat 0).tdiv n=(r*1000000000+a.getD i.toNat 0) / n:=Int.tdiv_eq_ediv_of_nonneg m0
 rw [eq1,eq2]
 have q0:0<=(r*1000000000+a.getD i.toNat 0) / n:=Int.ediv_nonneg m0 (by omega)
 have q1:(r*1000000000+a.getD i.toNat 0) / n<1000000000:=by
  apply Int.ediv_lt_of_lt_mul hn
  have:(r+1)*1000000000<=n*1000000000:=Int.mul_le_mul_of_nonneg_right (by omega) (by decide)
  omega
 have hil:i.toNat<d.length:=by omega
 have e0:(i - 1+1).toNat=i.toNat:=by omega
 have e1:(i+1).toNat=i.toNat+1:=by omega
 have ed:=Int.mul_ediv_add_emod (r*1000000000+a.getD i.toNat 0) n
 refine ⟨by simp [l],dg.set _ ⟨q0,q1⟩,by omega,by omega,fun j hj=>?_,?_,Int.emod_nonneg _ (by omega),Int.emod_lt_of_pos _ hn⟩
 .rw [getD_set (by omega)]
  exact z j (by omega)
 .rw [e0,l8 _ _ _ hil,z i.toNat (by omega),IR (by omega)]
  rw [e1,kM] at v
  generalize (r*1000000000+a.getD i.toNat 0) / n=q at *
  generalize (r*1000000000+a.getD i.toNat 0) % n=r' at *
  generalize val (a.drop (i.toNat+1))=V at *
  generalize a.getD i.toNat 0=x at *
  generalize pw i.toNat=p at *
  generalize val d=D at *
  grind
theorem PaI.fin {a:List Int} {n i r:Int} {d:List Int} (h:PaI a n i r d) (hi:¬ 0<=i):i=-1/\r=val a % n/\d=aY a.length (val a / n):=by
 obtain ⟨l,dg,i0,i1,z,v,r0,r1⟩:=h
 have e:i=-1:=by omega
 subst e
 have v:val d*n+1*r=1*val (a.drop 0):=v
 rw [List.drop_zero] at v
 have h1:val a / n=val d:=by
  rw [show val a=r+val d*n by omega,Int.add_mul_ediv_right _ _ (by omega),Int.ediv_eq_zero_of_lt r0 r1]
  omega
 have h2:val a % n=r:=by
  rw [show val a=r+val d*n by omega,Int.add_mul_emod_self_right]
  exact Int.emod_eq_of_lt r0 r1
 exact ⟨rfl,h2.symm,qI dg l h1.symm⟩
end Go.Dg
namespace Go.Proofs.YtmnhhlnbfkfkaaaGreat.K
open Go Go.Eng Go.Dg
noncomputable section
def zA (a:List Int) (n:Int):List AV:=[.lslice 0 a.length,.int true .i64 n]
def zH (a:List Int):Hp:=lL true hG0 [(.i64,a)]
def IU:AFr:=⟨118,none⟩
def Rz:Code:=jE Tryz.prog 118 0
noncomputable def Bv (a:List Int) (n:Int):St:=vT cL 300 118 (zA a n) (zH a)
def Km (i r:Int) (d:List Int):Patch:=⟨(7,.int true .i64 r) :: (8,.int true .i64 i) :: gz 15 20,[(1,.ints .i64 d)],[]⟩
def xL (a:List Int) (n:Int):SumL (Int×Int×List Int):=
 {
  S:=fun (i,r,d)=>Km i r d
  I:=fun (i,r,d)=>PaI a n i r d
  μ:=fun (i,_,_)=>(i+1).toNat
  F:=fun _=>(.exit 0,Km (-1) (val a % n) (aY a.length (val a / n)))
  next:=fun (i,r,d)=>(i - 1,(r*1000000000+a.getD i.toNat 0).tmod n,d.set i.toNat ((r*1000000000+a.getD i.toNat 0).tdiv n))
  ids:=fun _=>[]
  X:=fun (i,r,d) _=>some (Km i r d,[]) }
def Fj (a:List Int) (n:Int):Prop:=((0:Int)=(0:Int)/\IntKind.i64.wrap ((↑a.length:Int) - (1:Int))=(↑a.length:Int) - (1:Int))/\List.replicate (↑a.length:Int).toNat (0:Int)=List.replicate a.length (0:Int)
theorem OC (a:List Int) (n:Int):fit (Bv a n) (Bv a n) (af (Bv a n) ((xL a n).S (a.length - 1,0,List.replicate a.length 0))) ([])=some (.p (Fj a n)):=by kernel_rfl
def Kn (a:List Int) (n i r:Int) (d:List Int):Prop:=(decide (i>=(0:Int))=true->(((0:Int)<=i/\i<(↑a.length:Int))/\i.toNat<a.length)/\n≠(0:Int)/\n≠(0:Int)/\((0:Int)<=i/\i<(↑a.length:Int))/\((0:Int)+i).toNat<d.length)/\((!decide (i>=(0:Int)))=true->((r=r/\i=i)/\d=d)/\(xL a n).F (i,r,d)=(Ex.exit (0:Nat),Km i r d))/\(decide (i>=(0:Int))=true->(((IntKind.i64.wrap (IntKind.i64.wrap (r*(1000000000:Int))+a.getD i.toNat (0:Int))).tmod n=(r*(1000000000:Int)+a.getD i.toNat (0:Int)).tmod n/\IntKind.i64.wrap (i - (1:Int))=i - (1:Int))/\d.set ((0:Int)+i).toNat (IntKind.i64.wrap ((IntKind.i64.wrap (IntKind.i64.wrap (r*(1000000000:Int))+a.getD i.toNat (0:Int))).tdiv n))=d.set i.toNat ((r*(1000000000:Int)+a.getD i.toNat (0:Int)).tdiv n))/\(xL a n).I ((xL a n).next (i,r,d))/\(xL a n).μ ((xL a n).next (i,r,d))<(xL a n).μ (i,r,d)/\(xL a n).F ((xL a n).next (i,r,d))=(xL a n).F (i,r,d))
theorem V8 (a:List Int) (n i r:Int) (d:List Int):fI (Bv a n) ((xL a n).way ((i,r,d))) ((run cL 300).code IU Rz (af (Bv a n) ((xL a n).S (i,r,d))))=some (.p (Kn a n i r d)):=by kernel_rfl
end
end Go.Proofs.YtmnhhlnbfkfkaaaGreat.K
