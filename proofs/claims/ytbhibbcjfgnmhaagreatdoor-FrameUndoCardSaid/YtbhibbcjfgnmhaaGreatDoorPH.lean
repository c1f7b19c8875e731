/- What is proved: FrameUndo returns true, whatever the input (part 8). No conditions beyond those of the row. -/
import Derived.Test.YtbhibbcjfgnmhaaGreatDoorPF
import Derived.Test.YtbhibbcjfgnmhaaGreatDoorPG
import Derived.Shelf.Small.Bits
import Derived.Shelf.Strconv.Itoa0
import Derived.Shelf.Bits.Mul64
import Derived.Test.YtbhibbcjfgnmhaaGreatDoorProg
import Derived.Laws.Externs
import Derived.KernelRfl
import Derived.Laws.BitsLemmas
set_option linter.unusedVariables false
set_option linter.unusedSimpArgs false
set_option linter.unusedSectionVars false
/-
 DERIVED: THE SHELF's CONTRACTS AT THIS DUMP, IN PLAIN WORDS (tools/lay-plain.mjs out of 'TryzShelf.lean', which tools/lay-shelf.mjs wrote): THE SAME DECLARATIONS UNDER THE SAME NAMES: 'import', 'namespace', 'open', 'def', 'theorem' AND NOTHING ELSE: no command of the shelf's: FOR A HAND-IN. Each laying: the table of numbers ('.._ren') and one theorem, a field a fact of the dump's own or the kernel's comparison; each contract: ONE APPLICATION.
-/
namespace Go.Proofs
open Go.Shelf
def Tryz.lays134_ren:Go.Shelf.Ren:=⟨fun|134=>121|129=>130|n=>n,fun|53=>146|3=>3|4=>4|46=>123|5=>5|9=>9|n=>n,fun|n=>n⟩
theorem Tryz.lays134:Go.Proofs.Lays.n134 Tryz.prog Tryz.lays134_ren:={
 mixed:=by kernel_rfl
 f129:=Tryz.func130.trans (congrArg some (by kernel_rfl))
 f134:=Tryz.func121.trans (congrArg some (by kernel_rfl))
 t3:=Tryz.underlying3
 a3:=Tryz.isAgg3
 z3:=Tryz.sizeOf3
 v3:=Tryz.zeroValue3
 t4:=Tryz.underlying4
 a4:=Tryz.isAgg4
 z4:=Tryz.sizeOf4
 v4:=Tryz.zeroValue4
 t5:=Tryz.underlying5
 a5:=Tryz.isAgg5
 z5:=Tryz.sizeOf5
 v5:=Tryz.zeroValue5
 t9:=Tryz.underlying9
 a9:=Tryz.isAgg9
 z9:=Tryz.sizeOf9
 v9:=Tryz.zeroValue9
 t46:=Tryz.underlying123
 a46:=Tryz.isAgg123
 z46:=Tryz.sizeOf123
 v46:=Tryz.zeroValue123
 t53:=Tryz.underlying146
 a53:=Tryz.isAgg146
 z53:=Tryz.sizeOf146
 v53:=Tryz.zeroValue146 }
theorem Tryz.bits_LeadingZeros64 (x:Int) (w:World) (h0:0<=x) (h1:x<=18446744073709551615):
  Calls Tryz.prog 121 #[.int .u64 x] w fun e w'=>e=.returned (.int .i64 (64 - (Lib.bitLen x.toNat:Int)))/\w'=w:=Any.bits_LeadingZeros64 Tryz.lays134 x w h0 h1
def Tryz.lays264_ren:Go.Shelf.Ren:=⟨fun|264=>80|n=>n,fun|53=>146|46=>123|n=>n,fun|n=>n⟩
theorem Tryz.lays264:Go.Proofs.Lays.n264 Tryz.prog Tryz.lays264_ren:={
 mixed:=by kernel_rfl
 f264:=Tryz.func80.trans (congrArg some (by kernel_rfl))
 t46:=Tryz.underlying123
 a46:=Tryz.isAgg123
 z46:=Tryz.sizeOf123
 v46:=Tryz.zeroValue123
 t53:=Tryz.underlying146
 a53:=Tryz.isAgg146
 z53:=Tryz.sizeOf146
 v53:=Tryz.zeroValue146 }
open Go.RowKit Go.Lib in
theorem Tryz.bits_Mul64 (x y:Nat) (hx:x<18446744073709551616) (hy:y<18446744073709551616) (w:World):
  Calls Tryz.prog 80 #[.int .u64 x,.int .u64 y] w fun e w'=>e=.returned (.tuple #[.int .u64 ((x*y / 18446744073709551616:Nat):Int),.int .u64 ((x*y % 18446744073709551616:Nat):Int)])/\w'=w:=Any.bits_Mul64 Tryz.lays264 x y hx hy w
end Go.Proofs
namespace Go.Proofs.YtbhibbcjfgnmhaaGreatDoor.K
open Go Go.Eng
theorem all_names:(Tryz.prog.funcs.toList.all fun fn=>!(fn.name=="runtime.NumGoroutine"))=true:=by kernel_rfl
theorem prog_ok:ProgOk Tryz.prog:=by
 refine ⟨fun f fn h _=>?_,by kernel_rfl⟩
 have h1:fn∈Tryz.prog.funcs.toList:=by
  rw [Array.mem_toList_iff]
  exact Array.mem_of_getElem? h
 have:=List.all_eq_true.1 all_names fn h1
 simpa using this
theorem mkInt_rel {σ:Sg} {s:Bool} {k:IntKind} {n:Int}:VRel σ (bK s k n) (.int k n):=by
 cases s with
 | true=>rfl
 | false=>
  unfold bK tJ
  cases n with
  | ofNat m=>cases m <;> rfl
  | negSucc m=>cases m <;> rfl
def KJ (s b:Bool) (v:AV):Option (Nd×AV):=
 match s with
 | true=>some (.p (b=true),v)
 | false=>match b with
  | true=>some (.tt,v)
  | false=>none
theorem Af {s b:Bool} {v w:AV} {nd:Nd} (e:KJ s b v=some (nd,w)) (hn:nd.val):w=v/\b=true:=by
 unfold KJ at e
 split at e
 .cases e; exact ⟨rfl,hn⟩
 .split at e
  .cases e; exact ⟨rfl,rfl⟩
  .cases e
def ext (_:FuncId) (_:List AV):Option (Nd×AV):=none
theorem ext_ok:BP Tryz.prog ext:=fun _ _ _ _ e=>by cases e
def I9:List AV->Option (Nd×AV)
 | [.int s .u64 x]=>some (.p (0<=x/\x<=18446744073709551615),bK s .i64 (64 - (Lib.bitLen x.toNat:Int)))
 | _=>none
def two64:Int:=18446744073709551616
def ve:List AV->Option (Nd×AV)
 | [.int s .u64 x,.int s' .u64 y]=>KJ (s||s') (decide (0<=x/\x<18446744073709551616/\0<=y/\y<18446744073709551616)) (.tuple [bK (s||s') .u64 (x*y / two64),bK (s||s') .u64 (x*y % two64)])
 | _=>none
theorem aag:PureOk Tryz.prog 121 I9:=by
 refine zO ⟨_,Tryz.func121,rfl⟩ fun args nd v e hn σ A W ha=>?_
 unfold I9 at e
 split at e
 .rename_i s x
  cases e
  have hd:=hn
  obtain ⟨V,L,hL,rfl,hL2⟩:=ha
  rw [show L=[] from hL2] at hL
  have hA:A=#[.int .u64 x]:=by
   apply Array.toList_inj.1; simpa using hL
  subst hA
  exact ⟨_,mkInt_rel,Tryz.bits_LeadingZeros64 x W hd.1 hd.2⟩
 .cases e
theorem Ja:PureOk Tryz.prog 80 ve:=by
 refine zO ⟨_,Tryz.func80,rfl⟩ fun args nd v e hn σ A W ha=>?_
 unfold ve at e
 split at e
 .rename_i s x s' y
  obtain ⟨rfl,hd⟩:=Af e hn
  obtain ⟨h1,h2,h3,h4⟩:=of_decide_eq_true hd
  obtain ⟨V,L,hL,rfl,V2,L2,hL2,rfl,hL3⟩:=ha
  rw [hL2,show L2=[] from hL3] at hL
  have hA:A=#[.int .u64 x,.int .u64 y]:=by
   apply Array.toList_inj.1; simpa using hL
  subst hA
  refine ⟨.tuple #[.int .u64 (x*y / two64),.int .u64 (x*y % two64)],⟨_,rfl,_,_,rfl,mkInt_rel,_,_,rfl,mkInt_rel,rfl⟩,?_⟩
  have:=Tryz.bits_Mul64 x.toNat y.toNat (by omega) (by omega) W
  rw [Int.toNat_of_nonneg h1,Int.toNat_of_nonneg h3] at this
  have e1:((x.toNat*y.toNat / 18446744073709551616:Nat):Int)=x*y / two64:=by
   rw [Int.natCast_ediv,Int.natCast_mul,Int.toNat_of_nonneg h1,Int.toNat_of_nonneg h3]; rfl
  have e2:((x.toNat*y.toNat % 18446744073709551616:Nat):Int)=x*y % two64:=by
   rw [Int.natCast_emod,Int.natCast_mul,Int.toNat_of_nonneg h1,Int.toNat_of_nonneg h3]; rfl
  rw [e1,e2] at this
  exact this
 .cases e
noncomputable def Xx:List (FuncId×aF):=[(121,I9),(80,ve)]
theorem TN:uR Tryz.prog Xx:=by
 intro x hx
 simp only [Xx,List.mem_cons,List.not_mem_nil,or_false] at hx
 rcases hx with rfl|rfl
 .exact aag
 .exact Ja
noncomputable def cD0:Ctx:=mkC Tryz.prog Xx lJ
theorem DZ:CtxOk cD0:=oD prog_ok TN (pX _)
noncomputable def cD:Ctx:={ cD0 with loop:=fun fr a s=>match Nat.beq fr.fn 108 with|true=>DR (run cD0 60) fr a 3 s|false=>none }
theorem aah:CtxOk cD:=by
 refine ⟨DZ.prog,DZ.con,DZ.ext,fun fr a s q e=>?_,fun _ _ _ _ _ _ _ e=>(by cases e)⟩
 have e:(match Nat.beq fr.fn 108 with|true=>DR (run cD0 60) fr a 3 s|false=>none)=some q:=e
 split at e
 .exact BN (bP DZ 60) 3 s q e
 .cases e
theorem TP (hi lo y:Int):gD ((run cD 100).call 108 [.int true .u64 hi,.int true .u64 lo,.int true .u64 y] ⟨[],0,1⟩)=some (.p (WB hi lo y),.tuple [.int true .u64 (TL hi lo y),.int true .u64 (TM hi lo y)]):=by kernel_rfl
def D5:List AV->Option (Nd×AV)
 | [.int s .u64 hi,.int s' .u64 lo,.int s'' .u64 y]=>KJ (s||s'||s'') (decide (0<=hi/\hi<y/\y<18446744073709551616/\0<=lo/\lo<18446744073709551616))
   (.tuple [bK (s||s'||s'') .u64 ((hi*two64+lo) / y),bK (s||s'||s'') .u64 ((hi*two64+lo) % y)])
 | _=>none
theorem div_ok:PureOk Tryz.prog 108 D5:=by
 refine OO (C:=cD) aah (fun _=>rfl) (n:=100) (fun args nd v e hn=>?_) ⟨_,Tryz.func108,rfl⟩
 unfold D5 at e
 split at e
 .rename_i s hi s' lo s'' y
  obtain ⟨rfl,hb⟩:=Af e hn
  obtain ⟨h1,h2,h3,h4,h5⟩:=of_decide_eq_true hb
  refine ⟨[.int true .u64 hi,.int true .u64 lo,.int true .u64 y],_,_,fun σ L h=>h,TP hi lo y,?_⟩
  obtain ⟨p1,p2,p3⟩:=Pe hi.toNat lo.toNat y.toNat (by omega) (by omega) (by omega)
  rw [Int.toNat_of_nonneg h1,Int.toNat_of_nonneg h4,Int.toNat_of_nonneg (show 0<=y by omega)] at p1 p2 p3
  refine ⟨p1,fun τ V hV σ=>?_⟩
  obtain ⟨K,rfl,V1,L1,e1,rfl,V2,L2,e2,rfl,e3⟩:=hV
  rw [show L2=[] from e3] at e2
  rw [e2] at e1
  refine ⟨K,rfl,_,_,e1,?_,_,_,rfl,?_,rfl⟩
  .rw [p2]; exact mkInt_rel
  .rw [p3]; exact mkInt_rel
 .cases e
end Go.Proofs.YtbhibbcjfgnmhaaGreatDoor.K
namespace Go.Ar
open Go
def two64:Int:=18446744073709551616
def okF (a:Int):Bool:=decide (-4503599627370496<=a)&&decide (a<=4503599627370496)
def rd (n d:Int) (up:Bool):Int:=bif up then -(-n / d) else n / d
def Ag (v:Int):Int:=bif okF v then v else 0
def mJ (v:Int):Int:=bif okF v then 0 else 6
def mulV (a b:Int) (up:Bool):Int:=bif okF a&&okF b then Ag (rd (a*b) 4294967296 up) else 0
def sg (a b:Int):Int:=bif decide (b<0) then -a else a
def okS (a n d:Int):Bool:=okF a&&(decide (-4611686018427387904<=n)&&decide (n<=4611686018427387904)&&decide (1<=d)&&decide (d<=4611686018427387904))
def xC (a:Int):Int:=bif bif decide (a < -4503599627370496) then true else decide (a>4503599627370496) then 2 else 0
def Gz (a b:Int):Int:=bif !(xC a != 0)&&!(xC b != 0) then 0 else bif xC a != 0 then xC a else xC b
def xSz (a:Int):Int:=bif decide (a<0) then IntKind.u64.wrap (IntKind.u64.wrap (IntKind.i64.wrap (0 - IntKind.i64.wrap (a+1)))+1) else IntKind.u64.wrap a
def xHi (p:Int):Int:=p / two64
def xLo (p:Int):Int:=p % two64
def xNo (p d:Int):Bool:=decide (xHi p>=d)
def xN (p d:Int) (up neg:Bool):Int:=bif xNo p d then 0 else
 bif bif !(up==neg) then decide ((xHi p*two64+xLo p) % d>0) else false then IntKind.u64.wrap ((xHi p*two64+xLo p) / d+1) else (xHi p*two64+xLo p) / d
def MO (p d:Int) (up neg:Bool):Bool:=bif !(bif xNo p d then false else true) then true else decide (xN p d up neg>4503599627370496)
def xV (p d:Int) (up neg:Bool):Int:=bif MO p d up neg then 0 else bif neg then IntKind.i64.wrap (0 - IntKind.i64.wrap (xN p d up neg)) else IntKind.i64.wrap (xN p d up neg)
def xE (p d:Int) (up neg:Bool):Int:=bif MO p d up neg then 6 else 0
def Bc (a b:Int):Bool:=!(decide (a<0)==decide (b<0))
def xIn (a b:Int):Prop:=decide (0<=a/\a<18446744073709551616/\0<=b/\b<18446744073709551616)=true
def Jb (p d:Int):Prop:=decide (0<=xHi p/\xHi p<d/\d<18446744073709551616/\0<=xLo p/\xLo p<18446744073709551616)=true
theorem i64w {n:Int} (h0:-9223372036854775808<=n) (h1:n<9223372036854775808):IntKind.i64.wrap n=n:=by rw [IntKind.wrap_i64]; omega
theorem Jc {n:Int} (h0:0<=n) (h1:n<18446744073709551616):IntKind.u64.wrap n=n:=by rw [IntKind.wrap_u64]; omega
theorem Pf {a:Int} (h0:-9223372036854775808<=a) (h1:a<9223372036854775808):xSz a=sg a a:=by
 unfold xSz sg
 by_cases h:a<0
 .simp only [h,decide_true,cond_true]
  rw [i64w (n:=a+1) (by omega) (by omega),i64w (n:=0 - (a+1)) (by omega) (by omega),Jc (n:=0 - (a+1)) (by omega) (by omega),Jc (by omega) (by omega)]
  omega
 .simp only [h,decide_false,cond_false]
  rw [Jc (by omega) (by omega)]
theorem MP (a:Int):0<=sg a a:=by
 unfold sg
 by_cases h:a<0
 .simp only [h,decide_true,cond_true]; omega
 .simp only [h,decide_false,cond_false]; omega
theorem aH {a:Int}:okF a=true ↔ -4503599627370496<=a/\a<=4503599627370496:=by simp [okF]
theorem qX {a:Int}:okF a=false ↔ a < -4503599627370496\/4503599627370496<a:=by
 rw [<- Bool.not_eq_true,aH]; omega
theorem Pg (a:Int):xC a=bif okF a then 0 else 2:=by
 unfold xC
 cases h:okF a with
 | true=>
  have:=aH.1 h
  simp [show ¬ a < -4503599627370496 by omega,show ¬ a>4503599627370496 by omega]
 | false=>
  rcases qX.1 h with h|h
  .simp [h]
  .simp [show ¬ a < -4503599627370496 by omega,h]
theorem KL (a b:Int):Gz a b=bif okF a&&okF b then 0 else 2:=by
 unfold Gz
 rw [Pg,Pg]
 cases okF a <;> cases okF b <;> rfl
theorem D6 {p d:Int} (hd:0<d):-p / d=-(p / d) - (if 0<p % d then 1 else 0):=by
 have h1:=Int.mul_ediv_add_emod p d
 have h2:=Int.emod_nonneg p (show d≠0 by omega)
 have h3:=Int.emod_lt_of_pos p hd
 split
 .have h4:(-p) / d=-(p / d) - 1/\(-p) % d=d - p % d:=by
   rw [Int.ediv_emod_unique hd]
   refine ⟨?_,by omega,by omega⟩
   rw [Int.mul_sub,Int.mul_neg]
   omega
  exact h4.1
 .have:p % d=0:=by omega
  have h4:(-p) / d=-(p / d)/\(-p) % d=0:=by
   rw [Int.ediv_emod_unique hd]
   refine ⟨?_,by omega,by omega⟩
   rw [Int.mul_neg]
   omega
  omega
theorem Ph {p d:Int} (hp:0<=p) (hp':p<340282366920938463463374607431768211456) (hd:0<d) (hd':d<18446744073709551616) (up neg:Bool) (n:Int) (hn:n=bif neg then -p else p) (hx:p<18446744073709551615*d\/(!(up==neg))=false):
  xV p d up neg=Ag (rd n d up)/\xE p d up neg=mJ (rd n d up)/\(xNo p d=false->Jb p d):=by
 have e1:xHi p*two64+xLo p=p:=by unfold xHi xLo; have:=Int.mul_ediv_add_emod p two64; rw [Int.mul_comm] at this; exact this
 have l0:0<=xLo p:=Int.emod_nonneg p (by decide)
 have l1:xLo p<18446744073709551616:=Int.emod_lt_of_pos p (by decide)
 have h0:0<=xHi p:=Int.ediv_nonneg hp (by decide)
 have q0:0<=p / d:=Int.ediv_nonneg hp (by omega)
 have r0:=Int.emod_nonneg p (show d≠0 by omega)
 have rv:rd n d up=bif neg then -(p / d+(if (!(up==neg))=true/\0<p % d then 1 else 0)) else p / d+(if (!(up==neg))=true/\0<p % d then 1 else 0):=by
  subst hn
  unfold rd
  cases neg <;> cases up <;> simp [D6 hd] <;> split <;> omega
 by_cases hno:xHi p>=d
 .-- the quotient does not fit
  have e2:xNo p d=true:=by simp [xNo,hno]
  have big:18446744073709551616<=p / d:=by
   rw [Int.le_ediv_iff_mul_le hd]
   have h2:d*two64<=xHi p*two64:=Int.mul_le_mul_of_nonneg_right hno (by decide)
   have h3:(18446744073709551616:Int)*d=d*two64:=by rw [Int.mul_comm]; rfl
   omega
  have hb:MO p d up neg=true:=by simp [MO,e2]
  have hf:okF (rd n d up)=false:=by
   rw [qX,rv]
   cases neg <;> simp <;> split <;> omega
  refine ⟨by simp [xV,hb,Ag,hf],by simp [xE,hb,mJ,hf],fun h=>by rw [e2] at h; cases h⟩
 .have e2:xNo p d=false:=by simp [xNo]; omega
  have hlt:p<d*18446744073709551616:=by
   have h2:(xHi p+1)*two64<=d*two64:=Int.mul_le_mul_of_nonneg_right (by omega) (by decide)
   rw [Int.add_mul] at h2
   unfold two64 at *
   omega
  have q1:p / d<18446744073709551616:=by
   rw [Int.ediv_lt_iff_lt_mul hd]
   rw [Int.mul_comm]; exact hlt
  have ex:xV p d up neg=Ag (rd n d up)/\xE p d up neg=mJ (rd n d up):=by
   have hN:xN p d up neg=p / d+(if (!(up==neg))=true/\0<p % d then 1 else 0):=by
    unfold xN
    rw [e2,e1]
    cases hu:!(up==neg) with
    | false=>simp
    | true=>
     by_cases hr:0<p % d
     .simp only [cond_true,cond_false,hr,decide_true,gt_iff_lt,and_self,if_true]
      rw [Jc (by omega)]
      have:p / d≠18446744073709551615:=by
       intro hq
       have h5:p / d*d<=p:=Int.ediv_mul_le p (by omega)
       rw [hq] at h5
       rcases hx with hx|hx
       .omega
       .rw [hu] at hx; cases hx
      omega
     .simp [hr]
   generalize hk:p / d+(if (!(up==neg))=true/\0<p % d then 1 else 0)=k at hN rv
   have k0:0<=k:=by rw [<- hk]; split <;> omega
   unfold xV xE MO
   rw [e2,hN,rv]
   by_cases hb:k>4503599627370496
   .have hf:okF (bif neg then -k else k)=false:=by
     rw [qX]
     cases neg <;> simp <;> omega
    simp [hb,Ag,mJ,hf]
   .have hf:okF (bif neg then -k else k)=true:=by
     rw [aH]
     cases neg <;> simp <;> omega
    simp only [hb,decide_false,cond_true,cond_false,Bool.not_true,Ag,mJ,hf]
    refine ⟨?_,trivial⟩
    rw [i64w (n:=k) (by omega) (by omega),i64w (n:=0 - k) (by omega) (by omega)]
    cases neg <;> simp
  refine ⟨ex.1,ex.2,fun _=>?_⟩
  unfold Jb
  rw [decide_eq_true_eq]
  exact ⟨h0,by omega,hd',l0,l1⟩
theorem Xy {p d:Int} (hp:0<=p) (hd:0<d) (hd':d<18446744073709551616) (neg:Bool) (n:Int) (hn:n=bif neg then -p else p) (hx:18446744073709551615*d<=p):
  xE p d neg neg=6/\(∀ up,mJ (rd n d up)=6)/\(xNo p d=false->Jb p d):=by
 have e1:xHi p*two64+xLo p=p:=by unfold xHi xLo; have:=Int.mul_ediv_add_emod p two64; rw [Int.mul_comm] at this; exact this
 have l0:0<=xLo p:=Int.emod_nonneg p (by decide)
 have l1:xLo p<18446744073709551616:=Int.emod_lt_of_pos p (by decide)
 have h0:0<=xHi p:=Int.ediv_nonneg hp (by decide)
 have q0:18446744073709551615<=p / d:=by rw [Int.le_ediv_iff_mul_le hd]; exact hx
 refine ⟨?_,fun up=>?_,fun h=>?_⟩
 .unfold xE MO xN
  cases h:xNo p d with
  | true=>simp
  | false=>
   rw [e1]
   simp only [beq_self_eq_true,Bool.not_true,Bool.not_false,cond_true,cond_false]
   rw [decide_eq_true (by omega)]; rfl
 .have hf:okF (rd n d up)=false:=by
   rw [qX]
   subst hn
   unfold rd
   cases neg <;> cases up <;> simp [D6 hd] <;> (try split) <;> omega
  simp [mJ,hf]
 .unfold Jb
  rw [decide_eq_true_eq]
  refine ⟨h0,?_,hd',l0,l1⟩
  simp [xNo] at h
  omega
def p9 (a b:Int) (up:Bool):Int:=bif Gz a b != 0 then 0 else xV (xSz a*xSz b) 4294967296 up (Bc a b)
def mK (a b:Int) (up:Bool):Int:=bif Gz a b != 0 then Gz a b else xE (xSz a*xSz b) 4294967296 up (Bc a b)
def Pi (a b:Int):Prop:=(!(Gz a b != 0))=true->b=b/\xIn (xSz a) (xSz b)/\((!xNo (xSz a*xSz b) 4294967296)=true->Jb (xSz a*xSz b) 4294967296)
def MQ (a n d:Int):Bool:=bif xC a != 0 then true else bif decide (n < -4611686018427387904) then true else bif decide (n>4611686018427387904) then true else bif decide (d<1) then true else decide (d>4611686018427387904)
def MR (a n d:Int) (up:Bool):Int:=bif MQ a n d then 0 else xV (xSz a*xSz n) (IntKind.u64.wrap d) up (Bc a n)
def lu (a n d:Int) (up:Bool):Int:=bif MQ a n d then 2 else xE (xSz a*xSz n) (IntKind.u64.wrap d) up (Bc a n)
theorem iN (a:Int):(a<0/\sg a a=-a)\/(0<=a/\sg a a=a):=by
 unfold sg
 by_cases h:a<0
 .left; simp [h]
 .right; simp [h]; omega
theorem GA (a b:Int):a*b=bif Bc a b then -(sg a a*sg b b) else sg a a*sg b b:=by
 unfold Bc sg
 by_cases h:a<0 <;> by_cases k:b<0 <;> simp [h,k,Int.neg_mul,Int.mul_neg]
theorem Pj {p d:Int} (hp:0<=p) (hd':d<18446744073709551616) (h:xNo p d=false):Jb p d:=by
 unfold Jb
 rw [decide_eq_true_eq]
 simp [xNo] at h
 exact ⟨Int.ediv_nonneg hp (by decide),by omega,hd',Int.emod_nonneg p (by decide),Int.emod_lt_of_pos p (by decide)⟩
theorem TQ {a b:Int} (h:(!(Gz a b != 0))=true):okF a=true/\okF b=true:=by
 rw [KL] at h
 cases ha:okF a <;> cases hb:okF b <;> simp [ha,hb] at h ⊢
theorem Xz {a b:Int} (ha:0<=a) (ha':a<18446744073709551616) (hb:0<=b) (hb':b<18446744073709551616):xIn a b:=by
 unfold xIn; rw [decide_eq_true_eq]; exact ⟨ha,ha',hb,hb'⟩
theorem GD {a:Int} (h:okF a=true):xSz a=sg a a/\0<=sg a a/\sg a a<=4503599627370496:=by
 have h:=aH.1 h
 refine ⟨Pf (by omega) (by omega),MP a,?_⟩
 rcases iN a with ⟨_,e⟩|⟨_,e⟩ <;> omega
theorem Ch (a b:Int):Pi a b:=by
 intro h
 obtain ⟨ha,hb⟩:=TQ h
 obtain ⟨a1,a2,a3⟩:=GD ha
 obtain ⟨b1,b2,b3⟩:=GD hb
 rw [a1,b1]
 refine ⟨rfl,Xz a2 (by omega) b2 (by omega),fun hn=>?_⟩
 exact Pj (Int.mul_nonneg a2 b2) (by decide) (by simpa using hn)
theorem KM (a n d:Int):MQ a n d=!okS a n d:=by
 unfold MQ okS
 rw [Pg]
 rw [Bool.eq_iff_iff]
 cases okF a with
 | false=>simp
 | true=>
  simp only [cond_true,bne_self_eq_false,cond_false,Bool.true_and,Bool.not_eq_true',Bool.and_eq_false_iff,decide_eq_false_iff_not]
  by_cases h1:n < -4611686018427387904
  .simp [h1]
  .by_cases h2:n>4611686018427387904
   .simp [h1,h2]
   .by_cases h3:d<1
    .simp [h1,h2,h3]
    .simp [h1,h2,h3] <;> omega
theorem Pk {p d:Int} (hp:0<=p) (hp':p<340282366920938463463374607431768211456) (hd:0<d) (hd':d<18446744073709551616) (neg:Bool) (n:Int) (hn:n=bif neg then -p else p):
  ((xE p d false neg=0/\xE p d true neg=0) ↔ (mJ (rd n d false)=0/\mJ (rd n d true)=0)) /\
  (mJ (rd n d false)=0->mJ (rd n d true)=0->xV p d false neg=rd n d false/\xV p d true neg=rd n d true):=by
 by_cases hx:p<18446744073709551615*d
 .obtain ⟨f1,f2,_⟩:=Ph hp hp' hd hd' false neg n hn (.inl hx)
  obtain ⟨t1,t2,_⟩:=Ph hp hp' hd hd' true neg n hn (.inl hx)
  rw [f2,t2,f1,t1]
  refine ⟨Iff.rfl,fun h1 h2=>?_⟩
  unfold mJ at h1 h2
  unfold Ag
  cases e1:okF (rd n d false) <;> cases e2:okF (rd n d true) <;> simp_all
 .obtain ⟨h1,h2,_⟩:=Xy hp hd hd' neg n hn (by omega)
  refine ⟨⟨fun ⟨h3,h4⟩=>?_,fun ⟨h3,_⟩=>?_⟩,fun h3=>?_⟩
  .cases neg <;> omega
  .rw [h2] at h3; omega
  .rw [h2] at h3; omega
theorem oH (v:Int):(mJ v=0/\okF v=true/\Ag v=v)\/(mJ v=6/\okF v=false/\Ag v=0):=by
 unfold mJ Ag
 cases okF v <;> simp
def sqQ (i r:Int):Int:=IntKind.u64.wrap ↑(BitVec.ofInt IntKind.u64.bits r ||| BitVec.ofInt IntKind.u64.bits (IntKind.u64.wrap (1*2 ^ min (IntKind.i64.wrap (42 - i)).toNat IntKind.u64.bits))).toNat
def XA (H L t:Int):Bool:=bif decide (xHi (t*t)<H) then true else bif xHi (t*t)==H then decide (xLo (t*t)<=L) else false
def Pm (H L i r:Int):Int:=bif XA H L (sqQ i r) then sqQ i r else r
def GG (H L:Int):Nat->Int->Int->Int
 | 0,_,r=>r
 | n+1,i,r=>GG H L n (IntKind.i64.wrap (i+1)) (Pm H L i r)
end Go.Ar
namespace Go.Proofs.YtbhibbcjfgnmhaaGreatDoor.K
open Go Go.Eng Go.Ar
noncomputable def XB:List (FuncId×aF):=[(80,ve),(108,D5)]
theorem TR:uR Tryz.prog XB:=by
 intro x hx
 simp only [XB,List.mem_cons,List.not_mem_nil,or_false] at hx
 rcases hx with rfl|rfl
 .exact Ja
 .exact div_ok
noncomputable def c1:Ctx:=mkC Tryz.prog XB ext
theorem WE:CtxOk c1:=oD prog_ok TR ext_ok
theorem GH (a b:Int):gD ((run c1 300).call 111 [.int true .i64 a,.int true .i64 b] ⟨[],0,1⟩)=some (.p (Pi a b),.tuple [.int true .i64 (p9 a b false),.int true .i64 (mK a b false)]):=by kernel_rfl
theorem MS (a b:Int):gD ((run c1 300).call 112 [.int true .i64 a,.int true .i64 b] ⟨[],0,1⟩)=some (.p (Pi a b),.tuple [.int true .i64 (p9 a b true),.int true .i64 (mK a b true)]):=by kernel_rfl
end Go.Proofs.YtbhibbcjfgnmhaaGreatDoor.K
namespace Go.Proofs.YtbhibbcjfgnmhaaGreatDoor.K
open Go Go.Eng Go.Ar
noncomputable section
end
end Go.Proofs.YtbhibbcjfgnmhaaGreatDoor.K
namespace Go.Ar
open Go
theorem XC (i k:Nat) (hi:i<=42) (hr:2 ^ (43 - i)*k<2 ^ 43):sqQ (i:Int) ((2 ^ (43 - i)*k:Nat):Int)=((2 ^ (43 - i)*k+2 ^ (42 - i):Nat):Int):=by
 have e1:IntKind.i64.wrap (42 - (i:Int))=((42 - i:Nat):Int):=by rw [i64w (by omega) (by omega)]; omega
 have e2:min (((42 - i:Nat):Int)).toNat IntKind.u64.bits=42 - i:=by
  rw [Int.toNat_natCast]; exact Nat.min_eq_left (Nat.le_trans (Nat.sub_le _ _) (by decide))
 have p1:2 ^ (42 - i)<=2 ^ 42:=Nat.pow_le_pow_right (by decide) (by omega)
 have e3:IntKind.u64.wrap (1*2 ^ (42 - i))=((2 ^ (42 - i):Nat):Int):=by
  rw [Int.one_mul,show (2:Int) ^ (42 - i)=((2 ^ (42 - i):Nat):Int) from (Int.natCast_pow 2 _).symm]
  generalize 2 ^ (42 - i)=P at p1
  exact Jc (by omega) (by omega)
 unfold sqQ
 rw [e1,e2,e3]
 rw [Go.Eng.dOr_eq _ _ (by omega) (by omega)]
 congr 1
 rw [<- Nat.two_pow_add_eq_or_of_lt (Nat.pow_lt_pow_right (by decide) (by omega)) k]
theorem TS (t n:Nat) (ht:t<18446744073709551616):XA (xHi (n:Int)) (xLo (n:Int)) (t:Int)=decide (t*t<=n):=by
 unfold XA xHi xLo two64
 have e1:((t:Int)*t) / 18446744073709551616=((t*t / 18446744073709551616:Nat):Int):=by rw [Int.natCast_ediv,Int.natCast_mul]; rfl
 have e2:((t:Int)*t) % 18446744073709551616=((t*t % 18446744073709551616:Nat):Int):=by rw [Int.natCast_emod,Int.natCast_mul]; rfl
 have e3:(n:Int) / 18446744073709551616=((n / 18446744073709551616:Nat):Int):=by rw [Int.natCast_ediv]; rfl
 have e4:(n:Int) % 18446744073709551616=((n % 18446744073709551616:Nat):Int):=by rw [Int.natCast_emod]; rfl
 rw [e1,e2,e3,e4]
 generalize t*t=m
 rw [Bool.eq_iff_iff]
 by_cases h1:m / 18446744073709551616<n / 18446744073709551616
 .have:((m / 18446744073709551616:Nat):Int)<((n / 18446744073709551616:Nat):Int):=by omega
  simp only [this,decide_true,cond_true,true_iff,decide_eq_true_eq]
  omega
 .have:¬ ((m / 18446744073709551616:Nat):Int)<((n / 18446744073709551616:Nat):Int):=by omega
  simp only [this,decide_false,cond_false,decide_eq_true_eq]
  by_cases h2:m / 18446744073709551616=n / 18446744073709551616
  .rw [h2]
   simp only [beq_self_eq_true,cond_true,decide_eq_true_eq]
   omega
  .have:(((m / 18446744073709551616:Nat):Int)==((n / 18446744073709551616:Nat):Int))=false:=by
    rw [beq_eq_false_iff_ne]; omega
   rw [this]
   simp only [cond_false,Bool.false_eq_true,false_iff]
   omega
theorem sU (n:Nat):∀ (m i k:Nat),i+m=43->2 ^ (43 - i)*k<2 ^ 43->(2 ^ (43 - i)*k)*(2 ^ (43 - i)*k)<=n->n<(2 ^ (43 - i)*k+2 ^ (43 - i))*(2 ^ (43 - i)*k+2 ^ (43 - i)) ->
  ∃ r:Nat,GG (xHi (n:Int)) (xLo (n:Int)) m (i:Int) ((2 ^ (43 - i)*k:Nat):Int)=(r:Int)/\r*r<=n/\n<(r+1)*(r+1)/\r<2 ^ 43
 | 0,i,k,hi,h1,h2,h3=>by
  have:i=43:=by omega
  subst this
  exact ⟨2 ^ (43 - 43)*k,rfl,h2,h3,h1⟩
 | m+1,i,k,hi,h1,h2,h3=>by
  have p:2 ^ (43 - i)=2*2 ^ (43 - (i+1)):=by
   rw [show 43 - i=(43 - (i+1))+1 by omega,Nat.pow_succ]; omega
  have e1:IntKind.i64.wrap ((i:Int)+1)=((i+1:Nat):Int):=by rw [i64w (by omega) (by omega)]; omega
  have e2:=XC i k (by omega) h1
  rw [show 42 - i=43 - (i+1) by omega] at e2
  simp only [GG]
  rw [e1]
  unfold Pm
  rw [e2]
  generalize hq:2 ^ (43 - (i+1))=q at *
  have hq1:1<=q:=by rw [<- hq]; exact Nat.one_le_two_pow
  have hb:2 ^ (43 - i)*k+q<2 ^ 43:=by
   rw [p]
   have h4:2 ^ (43 - i)*(2 ^ i)=2 ^ 43:=by rw [<- Nat.pow_add]; congr 1; omega
   rw [p] at h4
   have:k<2 ^ i:=by
    rw [p,<- h4] at h1
    exact Nat.lt_of_mul_lt_mul_left h1
   have h5:2*q*(k+1)<=2*q*2 ^ i:=Nat.mul_le_mul_left _ this
   rw [h4,Nat.mul_add] at h5
   omega
  rw [TS _ n (by omega)]
  by_cases h:(2 ^ (43 - i)*k+q)*(2 ^ (43 - i)*k+q)<=n
  .rw [decide_eq_true h,cond_true]
   have hk:2 ^ (43 - i)*k+q=q*(2*k+1):=by rw [p,Nat.mul_add,Nat.mul_one,<- Nat.mul_assoc,Nat.mul_comm q 2]
   have hs:q*(2*k+1)+q=2 ^ (43 - i)*k+2 ^ (43 - i):=by rw [<- hk,p]; omega
   rw [hk] at h hb ⊢
   have:=sU n m (i+1) (2*k+1) (by omega) (by rw [hq]; exact hb) (by rw [hq]; exact h) (by rw [hq,hs]; exact h3)
   rw [hq] at this
   exact this
  .rw [decide_eq_false h,cond_false]
   have hk:2 ^ (43 - i)*k=q*(2*k):=by rw [p,<- Nat.mul_assoc,Nat.mul_comm q 2]
   rw [hk] at h h1 h2 ⊢
   have:=sU n m (i+1) (2*k) (by omega) (by rw [hq]; exact h1) (by rw [hq]; exact h2) (by rw [hq]; omega)
   rw [hq] at this
   exact this
theorem TU (a:Nat) (ha:a<=4503599627370496):∃ r:Nat,GG (xHi (IntKind.u64.wrap a*4294967296)) (xLo (IntKind.u64.wrap a*4294967296)) 43 0 0=(r:Int)/\r*r<=a*4294967296/\a*4294967296<(r+1)*(r+1)/\r<2 ^ 43:=by
 rw [Jc (n:=(a:Int)) (by omega) (by omega)]
 have:=sU (a*4294967296) 43 0 0 rfl (by decide) (by omega) (by simp; omega)
 simpa using this
def aai (a:Int):Int:=IntKind.u64.wrap a*4294967296
def sqR (a:Int):Int:=GG (xHi (aai a)) (xLo (aai a)) 43 0 0
def rtV (a:Int) (up:Bool):Int:=bif up&&!(sqR a*sqR a==a*4294967296) then sqR a+1 else sqR a
def lw (a:Int):Bool:=okF a&&decide (0<=a)
theorem iO {a:Int} (h:lw a=true):0<=sqR a/\sqR a*sqR a<=a*4294967296/\a*4294967296<(sqR a+1)*(sqR a+1)/\sqR a<8796093022208:=by
 simp only [lw,Bool.and_eq_true,decide_eq_true_eq] at h
 obtain ⟨h1,h2⟩:=h
 have h1:=aH.1 h1
 obtain ⟨r,e,r1,r2,r3⟩:=TU a.toNat (by omega)
 rw [Int.toNat_of_nonneg h2] at e
 have e:sqR a=r:=e
 rw [e]
 have c1:((r*r:Nat):Int)=(r:Int)*r:=Int.natCast_mul r r
 have c2:(((r+1)*(r+1):Nat):Int)=((r:Int)+1)*(r+1):=by rw [Int.natCast_mul]; rfl
 refine ⟨by omega,by omega,by omega,by omega⟩
end Go.Ar
namespace Go.Ar
open Go Go.Eng
noncomputable section
def two (a b:Int):Tm:=.u [.n .i64 a,.n .i64 b]
def TV (up:Bool):aF:=aJ [.i .i64,.i .i64] none fun
 | [.n a,.n b]=>two (p9 a b up) (mK a b up)
 | _=>.u []
end
end Go.Ar
namespace Go.Proofs.YtbhibbcjfgnmhaaGreatDoor.K
open Go Go.Eng Go.Ar
noncomputable section
theorem Jd:PureOk Tryz.prog 111 (TV false):=by
 refine jo (fun xs hk _=>?_) ⟨_,Tryz.func111,rfl⟩
 obtain ⟨a,_,rfl,h1⟩:=kn hk; obtain ⟨b,_,rfl,h2⟩:=kn h1; obtain rfl:=k0 h2
 exact ⟨c1,300,_,WE,rfl,fun _=>rfl,rfl,GH a b,Ch a b⟩
theorem Po:PureOk Tryz.prog 112 (TV true):=by
 refine jo (fun xs hk _=>?_) ⟨_,Tryz.func112,rfl⟩
 obtain ⟨a,_,rfl,h1⟩:=kn hk; obtain ⟨b,_,rfl,h2⟩:=kn h1; obtain rfl:=k0 h2
 exact ⟨c1,300,_,WE,rfl,fun _=>rfl,rfl,MS a b,Ch a b⟩
noncomputable def XD:List (FuncId×aF):=[(111,TV false),(112,TV true),(80,ve)]
theorem TW:uR Tryz.prog XD:=by
 intro x hx
 simp only [XD,List.mem_cons,List.not_mem_nil,or_false] at hx
 rcases hx with rfl|rfl|rfl
 .exact Jd
 .exact Po
 .exact Ja
noncomputable def c2:Ctx:=mkC Tryz.prog XD ext
theorem GI:CtxOk c2:=oD prog_ok TW ext_ok
end
end Go.Proofs.YtbhibbcjfgnmhaaGreatDoor.K
namespace Go.Ar
open Go
structure Sp where
 lo:Int
 hi:Int
 e:Int
def err (e:Int):Sp:=⟨0,0,e⟩
def au (a b:Int):Bool:=decide (-4503599627370496<=a)&&(decide (a<=b)&&decide (b<=4503599627370496))
def d9 (lo hi:Int):Sp:=bif okF lo&&okF hi then ⟨lo,hi,0⟩ else err 6
def mn (a b:Int):Int:=bif decide (b<a) then b else a
def mx (a b:Int):Int:=bif decide (a<b) then b else a
def oI (a b c d:Int) (r:Sp):Sp:=bif au a b&&au c d then r else err 20
def eH (a b c d:Int):Sp:=oI a b c d (d9 (a+c) (b+d))
def vg (a b c d:Int):Sp:=oI a b c d (d9 (a - d) (b - c))
def Be (a b:Int):Sp:=bif au a b then ⟨-b,-a,0⟩ else err 20
def jQ (F:Int->Int->Bool->Int) (a b c d:Int):Sp:=
 d9 (mn (mn (mn (F a c false) (F a d false)) (F b c false)) (F b d false)) (mx (mx (mx (F a c true) (F a d true)) (F b c true)) (F b d true))
def mF (x y:Int) (up:Bool):Int:=rd (x*y) 4294967296 up
def dF (x y:Int) (up:Bool):Int:=rd (sg (x*4294967296) y) (sg y y) up
def aD (a b c d:Int):Sp:=oI a b c d (jQ mF a b c d)
def oJ (a b c d:Int):Sp:=oI a b c d (bif decide (c<=0)&&decide (0<=d) then err 7 else jQ dF a b c d)
def abL (a b:Int):Int:=mx (mx a (-b)) 0
def abH (a b:Int):Int:=mx b (-a)
def vk (a b:Int):Sp:=bif au a b then d9 (rd (abL a b*abL a b) 4294967296 false) (rd (abH a b*abH a b) 4294967296 true) else err 20
def mM (a b:Int):Sp:=bif au a b then (bif decide (a<0) then err 2 else ⟨rtV a false,rtV b true,0⟩) else err 20
def okR (n d:Int):Bool:=decide (-4611686018427387904<=n)&&decide (n<=4611686018427387904)&&decide (1<=d)&&decide (d<=4611686018427387904)
def jO (a b n d:Int):Sp:=bif au a b then (bif okR n d then d9 (rd (mn (a*n) (b*n)) d false) (rd (mx (a*n) (b*n)) d true) else err 2) else err 20
def xCS (a b:Int):Int:=bif bif decide (a < -4503599627370496) then true else bif decide (a>b) then true else decide (b>4503599627370496) then 20 else 0
def vo (a b c d:Int):Int:=bif !(xCS a b != 0)&&!(xCS c d != 0) then 0 else bif xCS a b != 0 then xCS a b else xCS c d
def xTb (l h:Int):Bool:=bif decide (l < -4503599627370496) then true else decide (h>4503599627370496)
def Ci (g l h:Int):Sp:=⟨bif g != 0 then 0 else bif xTb l h then 0 else l,bif g != 0 then 0 else bif xTb l h then 0 else h,bif g != 0 then g else bif xTb l h then 6 else 0⟩
def Pp (a b c d:Int):Sp:=Ci (vo a b c d) (IntKind.i64.wrap (a+c)) (IntKind.i64.wrap (b+d))
def Pq (a b c d:Int):Sp:=Ci (vo a b c d) (IntKind.i64.wrap (a - d)) (IntKind.i64.wrap (b - c))
def tL (low lo:Int):Int:=bif decide (low<lo) then low else lo
def tH (low lo hi:Int):Int:=bif decide (low<lo) then hi else hi
def nL (low high lo hi:Int):Int:=bif decide (high>tH low lo hi) then tL low lo else tL low lo
def nH (low high lo hi:Int):Int:=bif decide (high>tH low lo hi) then high else tH low lo hi
def l1 (V:Int->Int->Bool->Int) (a c d:Int):Int:=nL (V a d false) (V a d true) (V a c false) (V a c true)
def h1 (V:Int->Int->Bool->Int) (a c d:Int):Int:=nH (V a d false) (V a d true) (V a c false) (V a c true)
def l2 (V:Int->Int->Bool->Int) (a b c d:Int):Int:=nL (V b c false) (V b c true) (l1 V a c d) (h1 V a c d)
def h2 (V:Int->Int->Bool->Int) (a b c d:Int):Int:=nH (V b c false) (V b c true) (l1 V a c d) (h1 V a c d)
def l3 (V:Int->Int->Bool->Int) (a b c d:Int):Int:=nL (V b d false) (V b d true) (l2 V a b c d) (h2 V a b c d)
def h3 (V:Int->Int->Bool->Int) (a b c d:Int):Int:=nH (V b d false) (V b d true) (l2 V a b c d) (h2 V a b c d)
def Bf (E:Int->Int->Bool->Int) (x y:Int):Bool:=bif E x y false != 0 then true else E x y true != 0
def ok4 (E:Int->Int->Bool->Int) (a b c d:Int):Bool:=(!Bf E a c&&!Bf E a d)&&(!Bf E b c&&!Bf E b d)
def bL (V E:Int->Int->Bool->Int) (a b c d:Int):Int:=bif ok4 E a b c d then (bif xTb (l3 V a b c d) (h3 V a b c d) then 0 else l3 V a b c d) else 0
def bH (V E:Int->Int->Bool->Int) (a b c d:Int):Int:=bif ok4 E a b c d then (bif xTb (l3 V a b c d) (h3 V a b c d) then 0 else h3 V a b c d) else 0
def bE (V E:Int->Int->Bool->Int) (a b c d:Int):Int:=bif ok4 E a b c d then (bif xTb (l3 V a b c d) (h3 V a b c d) then 6 else 0) else 6
def Pt (a b c d:Int):Sp:=⟨bif vo a b c d != 0 then 0 else bL p9 mK a b c d,bif vo a b c d != 0 then 0 else bH p9 mK a b c d,bif vo a b c d != 0 then vo a b c d else bE p9 mK a b c d⟩
def xsA (a b n:Int):Int:=bif decide (n<0) then IntKind.i64.wrap (0 - b) else a
def xsB (a b n:Int):Int:=bif decide (n<0) then IntKind.i64.wrap (0 - a) else b
def xsN (n:Int):Int:=bif decide (n<0) then IntKind.i64.wrap (0 - n) else n
def GJ (n:Int):Bool:=bif decide (n<0) then !decide (n < -4611686018427387904) else true
def Cj (a b n d:Int):Bool:=bif lu (xsA a b n) (xsN n) d false != 0 then true else lu (xsB a b n) (xsN n) d true != 0
def aG (a b n d:Int):Sp:=
 ⟨bif xCS a b != 0 then 0 else bif GJ n then (bif Cj a b n d then 0 else MR (xsA a b n) (xsN n) d false) else 0,
  bif xCS a b != 0 then 0 else bif GJ n then (bif Cj a b n d then 0 else MR (xsB a b n) (xsN n) d true) else 0,
  bif xCS a b != 0 then xCS a b else bif GJ n then (bif Cj a b n d then (if lu (xsB a b n) (xsN n) d true>lu (xsA a b n) (xsN n) d false then lu (xsB a b n) (xsN n) d true else lu (xsA a b n) (xsN n) d false) else 0) else 2⟩
theorem bJ {a b:Int}:au a b=true ↔ -4503599627370496<=a/\a<=b/\b<=4503599627370496:=by simp [au]
theorem Ah (a b:Int):xCS a b=bif au a b then 0 else 20:=by
 unfold xCS
 cases h:au a b with
 | true=>
  have:=bJ.1 h
  simp [show ¬ a < -4503599627370496 by omega,show ¬ a>b by omega,show ¬ b>4503599627370496 by omega]
 | false=>
  have:¬ (-4503599627370496<=a/\a<=b/\b<=4503599627370496):=fun k=>by rw [bJ.2 k] at h; cases h
  by_cases h1:a < -4503599627370496
  .simp [h1]
  .by_cases h2:a>b
   .simp [h1,h2]
   .simp [h1,h2,show b>4503599627370496 by omega]
theorem GK (a b c d:Int):vo a b c d=bif au a b&&au c d then 0 else 20:=by
 unfold vo
 rw [Ah,Ah]
 cases au a b <;> cases au c d <;> rfl
theorem Pv {l h:Int} (k:l<=h):xTb l h=!(okF l&&okF h):=by
 unfold xTb okF
 rw [Bool.eq_iff_iff]
 by_cases h1:l < -4503599627370496
 .simp [h1] <;> omega
 .simp [h1] <;> omega
theorem GL (a b c d l h:Int) (k:au a b=true->au c d=true->l<=h):Ci (vo a b c d) l h=oI a b c d (d9 l h):=by
 unfold Ci oI
 rw [GK]
 cases h1:au a b with
 | false=>simp [err]
 | true=>
  cases h2:au c d with
  | false=>simp [err]
  | true=>
   rw [Pv (k h1 h2)]
   unfold d9
   cases okF l&&okF h <;> simp [err]
theorem Pw (a b c d:Int):Pp a b c d=eH a b c d:=by
 unfold Pp eH
 rw [GL]
 .unfold oI
  cases h1:au a b <;> cases h2:au c d <;> try rfl
  have:=bJ.1 h1; have:=bJ.1 h2
  rw [i64w (by omega) (by omega),i64w (by omega) (by omega)]
 .intro h1 h2
  have:=bJ.1 h1; have:=bJ.1 h2
  rw [i64w (by omega) (by omega),i64w (by omega) (by omega)]; omega
theorem Px (a b c d:Int):Pq a b c d=vg a b c d:=by
 unfold Pq vg
 rw [GL]
 .unfold oI
  cases h1:au a b <;> cases h2:au c d <;> try rfl
  have:=bJ.1 h1; have:=bJ.1 h2
  rw [i64w (by omega) (by omega),i64w (by omega) (by omega)]
 .intro h1 h2
  have:=bJ.1 h1; have:=bJ.1 h2
  rw [i64w (by omega) (by omega),i64w (by omega) (by omega)]; omega
theorem Ck {a:Int} (h:lw a=true) (up:Bool):0<=rtV a up/\rtV a up<=8796093022208:=by
 obtain ⟨r0,r1,r2,r3⟩:=iO h
 unfold rtV
 cases up&&!(sqR a*sqR a==a*4294967296) <;> simp <;> omega
theorem Py (low high lo hi:Int):nL low high lo hi=mn lo low:=by
 unfold nL tL mn
 cases decide (high>tH low lo hi) <;> rfl
theorem Pz (low high lo hi:Int):nH low high lo hi=mx hi high:=by
 unfold nH tH mx
 cases decide (low<lo) <;> rfl
theorem lM (a b:Int):mn a b<=a/\mn a b<=b/\(mn a b=a\/mn a b=b):=by
 unfold mn
 by_cases h:b<a <;> simp [h] <;> omega
theorem fT (a b:Int):a<=mx a b/\b<=mx a b/\(mx a b=a\/mx a b=b):=by
 unfold mx
 by_cases h:a<b <;> simp [h] <;> omega
theorem Ai (n d:Int) (hd:0<d):rd n d false<=rd n d true:=by
 unfold rd
 simp only [cond_true,cond_false]
 have h1:=Int.mul_ediv_add_emod n d
 have h2:=Int.emod_nonneg n (show d≠0 by omega)
 have h3:=Int.emod_lt_of_pos n hd
 have:=D6 (p:=n) hd
 rw [this]; split <;> omega
theorem PD (V E F:Int->Int->Bool->Int) (a b c d:Int) (hF:∀ x y,(x=a\/x=b)->(y=c\/y=d)->F x y false<=F x y true)
  (hE:∀ x y,(x=a\/x=b)->(y=c\/y=d)->(Bf E x y=!(okF (F x y false)&&okF (F x y true))/\(Bf E x y=false->V x y false=F x y false/\V x y true=F x y true))):
  (⟨bL V E a b c d,bH V E a b c d,bE V E a b c d⟩:Sp)=jQ F a b c d:=by
 obtain ⟨e1,v1⟩:=hE a c (.inl rfl) (.inl rfl)
 obtain ⟨e2,v2⟩:=hE a d (.inl rfl) (.inr rfl)
 obtain ⟨e3,v3⟩:=hE b c (.inr rfl) (.inl rfl)
 obtain ⟨e4,v4⟩:=hE b d (.inr rfl) (.inr rfl)
 have f1:=hF a c (.inl rfl) (.inl rfl)
 have f2:=hF a d (.inl rfl) (.inr rfl)
 have f3:=hF b c (.inr rfl) (.inl rfl)
 have f4:=hF b d (.inr rfl) (.inr rfl)
 unfold bL bH bE
 cases hk:ok4 E a b c d with
 | false=>
  have:(okF (mn (mn (mn (F a c false) (F a d false)) (F b c false)) (F b d false))&&okF (mx (mx (mx (F a c true) (F a d true)) (F b c true)) (F b d true)))=false:=by
   cases hh:okF (mn (mn (mn (F a c false) (F a d false)) (F b c false)) (F b d false))&&okF (mx (mx (mx (F a c true) (F a d true)) (F b c true)) (F b d true)) with
   | false=>rfl
   | true=>
    simp only [Bool.and_eq_true,aH] at hh
    have m1:=lM (F a c false) (F a d false); have m2:=lM (mn (F a c false) (F a d false)) (F b c false); have m3:=lM (mn (mn (F a c false) (F a d false)) (F b c false)) (F b d false)
    have n1:=fT (F a c true) (F a d true); have n2:=fT (mx (F a c true) (F a d true)) (F b c true); have n3:=fT (mx (mx (F a c true) (F a d true)) (F b c true)) (F b d true)
    have g:∀ x y,F x y false<=F x y true->-4503599627370496<=F x y false->F x y true<=4503599627370496->(okF (F x y false)&&okF (F x y true))=true:=by
     intro x y k1 k2 k3
     rw [Bool.and_eq_true,aH,aH]; omega
    unfold ok4 at hk
    rw [e1,e2,e3,e4,g a c f1 (by omega) (by omega),g a d f2 (by omega) (by omega),g b c f3 (by omega) (by omega),g b d f4 (by omega) (by omega)] at hk
    cases hk
  unfold jQ d9
  rw [this]; rfl
 | true=>
  unfold ok4 at hk
  simp only [Bool.and_eq_true,Bool.not_eq_true'] at hk
  obtain ⟨⟨k1,k2⟩,k3,k4⟩:=hk
  obtain ⟨a1,a2⟩:=v1 k1; obtain ⟨b1,b2⟩:=v2 k2; obtain ⟨c1,c2⟩:=v3 k3; obtain ⟨d1,d2⟩:=v4 k4
  have el:l3 V a b c d=mn (mn (mn (F a c false) (F a d false)) (F b c false)) (F b d false):=by
   unfold l3 l2 l1; rw [Py,Py,Py,a1,b1,c1,d1]
  have eh:h3 V a b c d=mx (mx (mx (F a c true) (F a d true)) (F b c true)) (F b d true):=by
   unfold h3 h2 h1; rw [Pz,Pz,Pz,a2,b2,c2,d2]
  rw [el,eh]
  have m1:=lM (F a c false) (F a d false); have m2:=lM (mn (F a c false) (F a d false)) (F b c false); have m3:=lM (mn (mn (F a c false) (F a d false)) (F b c false)) (F b d false)
  have n1:=fT (F a c true) (F a d true); have n2:=fT (mx (F a c true) (F a d true)) (F b c true); have n3:=fT (mx (mx (F a c true) (F a d true)) (F b c true)) (F b d true)
  rw [Pv (by omega)]
  unfold jQ d9
  simp only [cond_true]
  cases okF (mn (mn (mn (F a c false) (F a d false)) (F b c false)) (F b d false))&&okF (mx (mx (mx (F a c true) (F a d true)) (F b c true)) (F b d true)) <;> rfl
theorem TY {e f:Int->Int->Bool->Int} {F:Int->Int->Bool->Int} {x y:Int} (h:(e x y false=0/\e x y true=0) ↔ (mJ (F x y false)=0/\mJ (F x y true)=0)):Bf e x y=!(okF (F x y false)&&okF (F x y true)):=by
 unfold Bf
 rcases oH (F x y false) with ⟨p1,p2,_⟩|⟨p1,p2,_⟩ <;> rcases oH (F x y true) with ⟨q1,q2,_⟩|⟨q1,q2,_⟩ <;> rw [p1,q1] at h <;> rw [p2,q2]
 .have:=h.2 ⟨rfl,rfl⟩; simp [this.1,this.2]
 all_goals
  simp only [Bool.and_true,Bool.and_false,Bool.not_false,Bool.false_and]
  by_cases h0:e x y false=0
  .by_cases h1:e x y true=0
   .have:=h.1 ⟨h0,h1⟩; omega
   .simp [h0,h1]
  .simp [h0]
theorem Je {x y:Int} (hx:okF x=true) (hy:okF y=true):Bf mK x y=!(okF (mF x y false)&&okF (mF x y true))/\(Bf mK x y=false->p9 x y false=mF x y false/\p9 x y true=mF x y true):=by
 obtain ⟨a1,a2,a3⟩:=GD hx
 obtain ⟨b1,b2,b3⟩:=GD hy
 have hb:sg x x*sg y y<=4503599627370496*4503599627370496:=Int.mul_le_mul a3 b3 b2 (by decide)
 obtain ⟨p1,p2⟩:=Pk (p:=sg x x*sg y y) (d:=4294967296) (Int.mul_nonneg a2 b2) (by omega) (by decide) (by decide) (Bc x y) (x*y) (GA x y)
 have e0:Gz x y=0:=by rw [KL,hx,hy]; rfl
 have eE:∀ up,mK x y up=xE (sg x x*sg y y) 4294967296 up (Bc x y):=fun up=>by unfold mK; rw [e0,a1,b1]; rfl
 have eV:∀ up,p9 x y up=xV (sg x x*sg y y) 4294967296 up (Bc x y):=fun up=>by unfold p9; rw [e0,a1,b1]; rfl
 have key:=TY (e:=mK) (f:=mK) (F:=mF) (x:=x) (y:=y) (by rw [eE,eE]; exact p1)
 refine ⟨key,fun h=>?_⟩
 rw [key] at h
 simp only [Bool.not_eq_false',Bool.and_eq_true] at h
 rw [eV,eV]
 refine p2 ?_ ?_
 .unfold mJ; rw [show rd (x*y) 4294967296 false=mF x y false from rfl,h.1]; rfl
 .unfold mJ; rw [show rd (x*y) 4294967296 true=mF x y true from rfl,h.2]; rfl
theorem Cm {a b:Int} (h:au a b=true):okF a=true/\okF b=true:=by
 have:=bJ.1 h
 exact ⟨aH.2 (by omega),aH.2 (by omega)⟩
theorem PE (a b c d:Int):Pt a b c d=aD a b c d:=by
 unfold Pt aD oI
 rw [GK]
 cases h1:au a b with
 | false=>simp [err]
 | true=>
  cases h2:au c d with
  | false=>simp [err]
  | true=>
   obtain ⟨ha,hb⟩:=Cm h1
   obtain ⟨hc,hd⟩:=Cm h2
   rw [<- PD p9 mK mF a b c d (fun x y _ _=>Ai _ _ (by decide)) fun x y hx hy=>Je (by rcases hx with rfl|rfl <;> assumption) (by rcases hy with rfl|rfl <;> assumption)]
   rfl
theorem mP {n m d:Int} (hd:0<d) (h:n<=m) (up:Bool):rd n d up<=rd m d up:=by
 unfold rd
 cases up with
 | false=>exact Int.ediv_le_ediv hd h
 | true=>
  have:=Int.ediv_le_ediv hd (show -m<=-n by omega)
  simp only [cond_true]; omega
theorem PG {x n d:Int} (hx:okF x=true) (hn:0<=n) (hr:okR n d=true) (hb:sg x x*n<18446744073709551615*d) (up:Bool):MR x n d up=Ag (rd (x*n) d up)/\lu x n d up=mJ (rd (x*n) d up):=by
 obtain ⟨a1,a2,a3⟩:=GD hx
 simp only [okR,Bool.and_eq_true,decide_eq_true_eq] at hr
 obtain ⟨⟨⟨n1,n2⟩,d1⟩,d2⟩:=hr
 have en:xSz n=n:=by rw [Pf (by omega) (by omega)]; rcases iN n with ⟨_,e⟩|⟨_,e⟩ <;> omega
 have esn:sg n n=n:=by rcases iN n with ⟨_,e⟩|⟨_,e⟩ <;> omega
 have ed:IntKind.u64.wrap d=d:=Jc (by omega) (by omega)
 have ok:MQ x n d=false:=by
  rw [KM]; unfold okS; rw [hx,decide_eq_true n1,decide_eq_true n2,decide_eq_true d1,decide_eq_true d2]; rfl
 have hm:sg x x*n<=4503599627370496*4611686018427387904:=Int.mul_le_mul a3 n2 hn (by decide)
 obtain ⟨v,e,_⟩:=Ph (p:=sg x x*n) (d:=d) (Int.mul_nonneg a2 hn) (by omega) (by omega) (by omega) up (Bc x n) (x*n) (by have:=GA x n; rw [esn] at this; exact this) (.inl hb)
 unfold MR lu
 rw [ok,a1,en,ed]
 exact ⟨v,e⟩
theorem PH {x n d:Int} (h:okR n d=false) (up:Bool):lu x n d up=2:=by
 unfold lu
 have:MQ x n d=true:=by
  rw [KM]; unfold okS okR at *; rw [h,Bool.and_false]; rfl
 rw [this]; rfl
theorem Jf (a b n d:Int) (hb:au a b=true->okR n d=true->abH a b*sg n n<18446744073709551615*d):aG a b n d=jO a b n d:=by
 unfold aG jO
 rw [Ah]
 cases h:au a b with
 | false=>simp [err]
 | true=>
  have k:=bJ.1 h
  cases hr:okR n d with
  | false=>
   have hx:GJ n=true->Cj a b n d=true/\lu (xsA a b n) (xsN n) d false=2/\lu (xsB a b n) (xsN n) d true=2:=by
    intro ho
    have hr2:okR (xsN n) d=false:=by
     unfold xsN
     by_cases hn:n<0
     .simp only [GJ,hn,decide_true,cond_true,Bool.not_eq_true',decide_eq_false_iff_not] at ho
      rw [decide_eq_true hn,cond_true,i64w (by omega) (by omega)]
      simp only [okR,Bool.and_eq_false_iff,decide_eq_false_iff_not] at hr ⊢
      omega
     .rw [decide_eq_false hn]; exact hr
    have e1:=PH (x:=xsA a b n) hr2 false
    have e2:=PH (x:=xsB a b n) hr2 true
    exact ⟨by unfold Cj; rw [e1]; rfl,e1,e2⟩
   cases ho:GJ n with
   | false=>simp [err]
   | true=>
    obtain ⟨h1,h2,h3⟩:=hx ho
    simp [h1,h2,h3,err]
  | true=>
   have hb:=hb h hr
   have hr':=hr
   simp only [okR,Bool.and_eq_true,decide_eq_true_eq] at hr'
   obtain ⟨⟨⟨n1,n2⟩,d1⟩,d2⟩:=hr'
   have ho:GJ n=true:=by
    unfold GJ
    by_cases hn:n<0
    .rw [decide_eq_true hn,decide_eq_false (by omega)]; rfl
    .rw [decide_eq_false hn]; rfl
   have m3:=fT b (-a)
   have core:∀ (x y m:Int),0<=m->m<=4611686018427387904->okF x=true->okF y=true->x<=y->sg x x<=abH a b->sg y y<=abH a b->abH a b*m<18446744073709551615*d ->
     (⟨bif (bif lu x m d false != 0 then true else lu y m d true != 0) then 0 else MR x m d false,bif (bif lu x m d false != 0 then true else lu y m d true != 0) then 0 else MR y m d true,
      bif (bif lu x m d false != 0 then true else lu y m d true != 0) then (if lu y m d true>lu x m d false then lu y m d true else lu x m d false) else 0⟩:Sp)=d9 (rd (x*m) d false) (rd (y*m) d true):=by
    intro x y m m0 m1 hx hy hxy sx sy hbm
    have hr2:okR m d=true:=by simp [okR]; omega
    have bx:sg x x*m<18446744073709551615*d:=Int.lt_of_le_of_lt (Int.mul_le_mul_of_nonneg_right sx m0) hbm
    have by':sg y y*m<18446744073709551615*d:=Int.lt_of_le_of_lt (Int.mul_le_mul_of_nonneg_right sy m0) hbm
    obtain ⟨v1,e1⟩:=PG hx m0 hr2 bx false
    obtain ⟨v2,e2⟩:=PG hy m0 hr2 by' true
    rw [v1,e1,v2,e2]
    unfold d9
    rcases oH (rd (x*m) d false) with ⟨p1,p2,p3⟩|⟨p1,p2,p3⟩ <;> rcases oH (rd (y*m) d true) with ⟨q1,q2,q3⟩|⟨q1,q2,q3⟩ <;> rw [p1,p2,p3,q1,q2,q3] <;> rfl
   unfold Cj
   rw [ho]
   simp only [bne_self_eq_false,cond_false,cond_true]
   by_cases hn:n<0
   .have ea:xsA a b n=-b:=by unfold xsA; rw [decide_eq_true hn,cond_true,i64w (by omega) (by omega)]; omega
    have eb:xsB a b n=-a:=by unfold xsB; rw [decide_eq_true hn,cond_true,i64w (by omega) (by omega)]; omega
    have en:xsN n=-n:=by unfold xsN; rw [decide_eq_true hn,cond_true,i64w (by omega) (by omega)]; omega
    have esn:sg n n=-n:=by rcases iN n with ⟨_,e⟩|⟨_,e⟩ <;> omega
    rw [esn] at hb
    rw [ea,eb,en]
    rw [core (-b) (-a) (-n) (by omega) (by omega) (aH.2 (by omega)) (aH.2 (by omega)) (by omega)
     (by unfold abH; rcases iN (-b) with ⟨_,e⟩|⟨_,e⟩ <;> omega) (by unfold abH; rcases iN (-a) with ⟨_,e⟩|⟨_,e⟩ <;> omega) hb]
    have hmul:b*n<=a*n:=Int.mul_le_mul_of_nonpos_right k.2.1 (by omega)
    have e1:mn (a*n) (b*n)=b*n:=by
     unfold mn; by_cases h2:b*n<a*n
     .rw [decide_eq_true h2]; rfl
     .rw [decide_eq_false h2]; simp only [cond_false]; omega
    have e2:mx (a*n) (b*n)=a*n:=by
     unfold mx; rw [decide_eq_false (by omega)]; rfl
    rw [e1,e2,Int.neg_mul_neg,Int.neg_mul_neg]
   .have ea:xsA a b n=a:=by unfold xsA; rw [decide_eq_false hn]; rfl
    have eb:xsB a b n=b:=by unfold xsB; rw [decide_eq_false hn]; rfl
    have en:xsN n=n:=by unfold xsN; rw [decide_eq_false hn]; rfl
    have esn:sg n n=n:=by rcases iN n with ⟨_,e⟩|⟨_,e⟩ <;> omega
    rw [esn] at hb
    rw [ea,eb,en]
    rw [core a b n (by omega) n2 (aH.2 (by omega)) (aH.2 (by omega)) k.2.1
     (by unfold abH; rcases iN a with ⟨_,e⟩|⟨_,e⟩ <;> omega) (by unfold abH; rcases iN b with ⟨_,e⟩|⟨_,e⟩ <;> omega) hb]
    have hmul:a*n<=b*n:=Int.mul_le_mul_of_nonneg_right k.2.1 (by omega)
    have e1:mn (a*n) (b*n)=a*n:=by
     unfold mn; rw [decide_eq_false (by omega)]; rfl
    have e2:mx (a*n) (b*n)=b*n:=by
     unfold mx; by_cases h2:a*n<b*n
     .rw [decide_eq_true h2]; rfl
     .rw [decide_eq_false h2]; simp only [cond_false]; omega
    rw [e1,e2]
end Go.Ar
namespace Go.Ar
open Go Go.Eng
end Go.Ar
namespace Go.Ar
open Go Go.Eng
noncomputable section
def shS:Sh:=.a [.i .i64,.i .i64]
def GM (s:Sp):Tm:=.u [.a [.n .i64 s.lo,.n .i64 s.hi],.n .i64 s.e]
def MU (F:Int->Int->Int->Int->Sp):aF:=aJ [shS,shS] none fun
 | [.n a,.n b,.n c,.n d]=>GM (F a b c d)
 | _=>.u []
def sUn (F:Int->Int->Sp):aF:=aJ [shS] none fun
 | [.n a,.n b]=>GM (F a b)
 | _=>.u []
def aaj (a b:Int):Int:=bif au a b then 0 else 20
def ab6:aF:=aJ [shS] none fun
 | [.n a,.n b]=>.n .i64 (aaj a b)
 | _=>.u []
end
end Go.Ar
namespace Go.Proofs.YtbhibbcjfgnmhaaGreatDoor.K
open Go Go.Eng Go.Ar
noncomputable section
theorem TZ (a b:Int):gD ((run c2 300).call 53 [.agg [.int true .i64 a,.int true .i64 b]] ⟨[],0,1⟩)=some (.tt,.int true .i64 (xCS a b)):=by kernel_rfl
theorem T9 (a b c d:Int):gD ((run c2 300).call 55 [.agg [.int true .i64 a,.int true .i64 b],.agg [.int true .i64 c,.int true .i64 d]] ⟨[],0,1⟩)=some (.tt,(GM (Pp a b c d)).av true):=by kernel_rfl
theorem Ua (a b c d:Int):gD ((run c2 300).call 54 [.agg [.int true .i64 a,.int true .i64 b],.agg [.int true .i64 c,.int true .i64 d]] ⟨[],0,1⟩)=some (.tt,(GM (Pq a b c d)).av true):=by kernel_rfl
theorem Ub (a b c d:Int):gD ((run c2 300).call 89 [.agg [.int true .i64 a,.int true .i64 b],.agg [.int true .i64 c,.int true .i64 d]] ⟨[],0,1⟩)=some (.tt,(GM (Pt a b c d)).av true):=by kernel_rfl
theorem Uc:PureOk Tryz.prog 53 ab6:=by
 refine jo (fun xs hk _=>?_) ⟨_,Tryz.func53,rfl⟩
 obtain ⟨a,_,rfl,h1⟩:=kn hk; obtain ⟨b,_,rfl,h2⟩:=kn h1; obtain rfl:=k0 h2
 have:=TZ a b
 rw [Ah] at this
 exact ⟨c2,300,_,GI,rfl,fun _=>rfl,rfl,this,trivial⟩
theorem Ud:PureOk Tryz.prog 55 (MU eH):=by
 refine jo (fun xs hk _=>?_) ⟨_,Tryz.func55,rfl⟩
 obtain ⟨a,_,rfl,h1⟩:=kn hk; obtain ⟨b,_,rfl,h2⟩:=kn h1; obtain ⟨c,_,rfl,h3⟩:=kn h2; obtain ⟨d,_,rfl,h4⟩:=kn h3; obtain rfl:=k0 h4
 exact ⟨c2,300,_,GI,rfl,fun _=>rfl,rfl,(T9 a b c d).trans (by rw [Pw]),trivial⟩
theorem Ue:PureOk Tryz.prog 54 (MU vg):=by
 refine jo (fun xs hk _=>?_) ⟨_,Tryz.func54,rfl⟩
 obtain ⟨a,_,rfl,h1⟩:=kn hk; obtain ⟨b,_,rfl,h2⟩:=kn h1; obtain ⟨c,_,rfl,h3⟩:=kn h2; obtain ⟨d,_,rfl,h4⟩:=kn h3; obtain rfl:=k0 h4
 exact ⟨c2,300,_,GI,rfl,fun _=>rfl,rfl,(Ua a b c d).trans (by rw [Px]),trivial⟩
theorem Uf:PureOk Tryz.prog 89 (MU aD):=by
 refine jo (fun xs hk _=>?_) ⟨_,Tryz.func89,rfl⟩
 obtain ⟨a,_,rfl,h1⟩:=kn hk; obtain ⟨b,_,rfl,h2⟩:=kn h1; obtain ⟨c,_,rfl,h3⟩:=kn h2; obtain ⟨d,_,rfl,h4⟩:=kn h3; obtain rfl:=k0 h4
 exact ⟨c2,300,_,GI,rfl,fun _=>rfl,rfl,(Ub a b c d).trans (by rw [PE]),trivial⟩
end
end Go.Proofs.YtbhibbcjfgnmhaaGreatDoor.K
namespace Go.Ar
open Go Go.Eng
end Go.Ar
namespace Go.Proofs.YtbhibbcjfgnmhaaGreatDoor.K
open Go Go.Eng Go.Ar
noncomputable section
end
end Go.Proofs.YtbhibbcjfgnmhaaGreatDoor.K
namespace Go.Ar
open Go
def PI (a b:Int):Sp:=Ci (xCS a b) (IntKind.i64.wrap (0 - b)) (IntKind.i64.wrap (0 - a))
theorem PK (a b:Int):PI a b=Be a b:=by
 unfold PI Be Ci
 rw [Ah]
 cases h:au a b with
 | false=>simp [err]
 | true=>
  have:=bJ.1 h
  rw [i64w (by omega) (by omega),i64w (by omega) (by omega)]
  have hb:xTb (0 - b) (0 - a)=false:=by
   unfold xTb
   rw [decide_eq_false (show ¬ (0 - b < -4503599627370496) by omega),decide_eq_false (show ¬ (0 - a>4503599627370496) by omega)]
   rfl
  rw [hb]
  simp
end Go.Ar
namespace Go.Vc
open Go Go.Eng Go.Ar
structure VF where
 ad:Int->Int->Int->Int->Sp
 su:Int->Int->Int->Int->Sp
 mu:Int->Int->Int->Int->Sp
 di:Int->Int->Int->Int->Sp
 sc:Int->Int->Int->Int->Sp
 sq:Int->Int->Sp
 rt:Int->Int->Sp
 ng:Int->Int->Sp
 ck:Int->Int->Int
 ok:Int->Int->Bool
noncomputable def vf0:VF:=⟨eH,vg,aD,oJ,jO,vk,mM,Be,aaj,au⟩
structure Ve where
 a:Int
 b:Int
 c:Int
 d:Int
 e:Int
 f:Int
def Ve.cells (v:Ve):List AV:=[.int true .i64 v.a,.int true .i64 v.b,.int true .i64 v.c,.int true .i64 v.d,.int true .i64 v.e,.int true .i64 v.f]
section
variable (F:VF) (v:Ve)
def nA:Sp:=F.ad (F.sq v.a v.b).lo (F.sq v.a v.b).hi (F.sq v.c v.d).lo (F.sq v.c v.d).hi
def nB:Sp:=F.ad (nA F v).lo (nA F v).hi (F.sq v.e v.f).lo (F.sq v.e v.f).hi
def nR:Sp:=F.rt (nB F v).lo (nB F v).hi
def nD1:Sp:=F.di v.a v.b (nR F v).lo (nR F v).hi
def nD2:Sp:=F.di v.c v.d (nR F v).lo (nR F v).hi
def nD3:Sp:=F.di v.e v.f (nR F v).lo (nR F v).hi
def fe (x y:Int):Int:=bif x==0 then y else x
def uZ:Bool:=!(v.a==0&&(v.b==0&&(v.c==0&&(v.d==0&&(v.e==0&&(v.f==0&&true))))))
def vCk:Int:=fe (fe (F.ck v.a v.b) (F.ck v.c v.d)) (F.ck v.e v.f)
def vC0:Int:=bif uZ v then vCk F v else 0
def uE:Int:=fe (fe (fe (fe (fe (fe (fe (fe (fe (vC0 F v) (F.sq v.a v.b).e) (F.sq v.c v.d).e) (F.sq v.e v.f).e) (nA F v).e) (nB F v).e) (nR F v).e) (nD1 F v).e) (nD2 F v).e) (nD3 F v).e
def uI (x:Int):Int:=bif uE F v != 0 then 0 else x
def uV:Ve:=⟨uI F v (nD1 F v).lo,uI F v (nD1 F v).hi,uI F v (nD2 F v).lo,uI F v (nD2 F v).hi,uI F v (nD3 F v).lo,uI F v (nD3 F v).hi⟩
def uO:Int:=bif uE F v != 0 then uE F v else 0
def f3 (a b c:Int):Int:=bif a != 0||!(a != 0)&&(b != 0||!(b != 0)&&c != 0) then bif a != 0 then a else bif b != 0 then b else c else 0
def wOk:Bool:=!bif F.ok v.a v.b then bif F.ok v.c v.d then F.ok v.e v.f else false else false
def w5:Int:=f3 (F.sq v.a v.b).e (F.sq v.c v.d).e (F.sq v.e v.f).e
end
structure VF.law (F:VF):Prop where
 ck:∀ a b,F.ck a b=bif F.ok a b then 0 else 20
 z:F.ok 0 0=true
theorem yz:vf0.law:=⟨fun _ _=>rfl,by decide⟩
theorem Jg {F:VF} (h:F.law) (v:Ve):vC0 F v=bif wOk F v then 20 else 0:=by
 unfold vC0 vCk wOk fe
 simp only [h.ck]
 cases hz:uZ v with
 | true=>cases F.ok v.a v.b <;> cases F.ok v.c v.d <;> cases F.ok v.e v.f <;> rfl
 | false=>
  unfold uZ at hz
  simp only [Bool.and_true,Bool.not_eq_false',Bool.and_eq_true,beq_iff_eq] at hz
  obtain ⟨h1,h2,h3,h4,h5,h6⟩:=hz
  rw [h1,h2,h3,h4,h5,h6,h.z]
  rfl
section
variable (F:VF) (v w:Ve) (X Y Z:Sp)
def bCk:Int:=bif uZ w then fe (fe (fe (vC0 F v) (F.ck w.a w.b)) (F.ck w.c w.d)) (F.ck w.e w.f) else vC0 F v
def tE (k:Int):Int:=fe (fe (fe k X.e) Y.e) Z.e
def tI (e x:Int):Int:=bif e != 0 then 0 else x
def tO (e:Int):Int:=bif e != 0 then e else 0
def z3 {β:Type} (f:Int->Int->Int->Int->Sp) (w:Ve) (x:Sp->Sp->Sp->β):β:=x (f v.a v.b w.a w.b) (f v.c v.d w.c w.d) (f v.e v.f w.e w.f)
def MV (f:Int->Int->Int->Int->Sp):Int:=z3 v f w fun X Y Z=>tE X Y Z (bCk F v w)
def dA:Sp:=F.ad (F.mu v.a v.b w.a w.b).lo (F.mu v.a v.b w.a w.b).hi (F.mu v.c v.d w.c w.d).lo (F.mu v.c v.d w.c w.d).hi
def dB:Sp:=F.ad (dA F v w).lo (dA F v w).hi (F.mu v.e v.f w.e w.f).lo (F.mu v.e v.f w.e w.f).hi
def dE:Int:=fe (fe (MV F v w F.mu) (dA F v w).e) (dB F v w).e
def bA:Sp:=⟨tI (dE F v w) (dB F v w).lo,tI (dE F v w) (dB F v w).hi,tO (dE F v w)⟩
def veP (v:Ve):Prop:=v.a=v.a/\v.b=v.b/\v.c=v.c/\v.d=v.d/\v.e=v.e/\v.f=v.f
def veQ (v:Ve):Prop:=(v.a=v.a/\v.b=v.b)/\(v.c=v.c/\v.d=v.d)/\v.e=v.e/\v.f=v.f
def vnD (w:Ve):Prop:=((uZ v=true->veQ v)/\(uZ w=true->veQ w))/\((F.mu v.e v.f w.e w.f).lo=(F.mu v.e v.f w.e w.f).lo/\(F.mu v.e v.f w.e w.f).hi=(F.mu v.e v.f w.e w.f).hi)/\((dE F v w != 0)=true->dE F v w=dE F v w)
theorem aak {F:VF} {v w:Ve}:vnD F v w:=by unfold vnD veQ; simp only [and_self,implies_true]
def MW:Bool:=bif wOk F v then true else wOk F w
end
theorem Jh {F:VF} (h:F.law) (v w:Ve):bCk F v w=bif MW F v w then 20 else 0:=by
 have h1:=Jg h v
 have h2:=Jg h w
 unfold bCk MW
 rw [h1]
 unfold vC0 at h2
 cases hv:wOk F v with
 | true=>cases uZ w <;> rfl
 | false=>
  have h3:fe (fe (fe (bif false then (20:Int) else 0) (F.ck w.a w.b)) (F.ck w.c w.d)) (F.ck w.e w.f)=vCk F w:=rfl
  rw [h3]
  exact h2
structure VF.law2 (F:VF):Prop extends F.law where
 ad:∀ a b c d,((F.ad a b c d).e==0)=false->(F.ad a b c d).lo=0/\(F.ad a b c d).hi=0
 ng:∀ a b,(F.ng a b).e=bif F.ok a b then 0 else 20
end Go.Vc
namespace Go.Proofs.YtbhibbcjfgnmhaaGreatDoor.K
open Go Go.Eng Go.Ar Go.Vc
noncomputable section
theorem PL (a b:Int):gD ((run c2 300).call 88 [.agg [.int true .i64 a,.int true .i64 b]] ⟨[],0,1⟩)=some (.tt,(GM (PI a b)).av true):=by kernel_rfl
theorem KN:PureOk Tryz.prog 88 (sUn Be):=by
 refine jo (fun xs hk _=>?_) ⟨_,Tryz.func88,rfl⟩
 obtain ⟨a,_,rfl,h1⟩:=kn hk; obtain ⟨b,_,rfl,h2⟩:=kn h1; obtain rfl:=k0 h2
 exact ⟨c2,300,_,GI,rfl,fun _=>rfl,rfl,(PL a b).trans (by rw [PK]),trivial⟩
def ab7 (F:VF):aF:=aJ [shS] none fun
 | [.n a,.n b]=>.n .i64 (F.ck a b)
 | _=>.u []
noncomputable def Ji (F:VF):List (FuncId×aF):=[(55,MU F.ad),(54,MU F.su),(89,MU F.mu),(88,sUn F.ng),(53,ab7 F)]
theorem MX:uR Tryz.prog (Ji vf0):=by
 intro x hx
 simp only [Ji,List.mem_cons,List.not_mem_nil,or_false] at hx
 rcases hx with rfl|rfl|rfl|rfl|rfl
 .exact Ud
 .exact Ue
 .exact Uf
 .exact KN
 .exact Uc
noncomputable def PM (F:VF):Ctx:=mkC Tryz.prog (Ji F) ext
theorem KO:CtxOk (PM vf0):=oD prog_ok MX ext_ok
def shV:Sh:=.a [.i .i64,.i .i64,.i .i64,.i .i64,.i .i64,.i .i64]
def sVD (D:Ve->Ve->Sp):aF:=aJ [shV,shV] none fun
 | [.n a,.n b,.n c,.n d,.n e,.n f,.n a1,.n b1,.n c1,.n d1,.n e1,.n f1]=>GM (D ⟨a,b,c,d,e,f⟩ ⟨a1,b1,c1,d1,e1,f1⟩)
 | _=>.u []
theorem kVV {xs:List Nu} (hk:xs.map Nu.isN=Sh.kindsL [shV,shV]):∃ a b c d e f a1 b1 c1 d1 e1 f1,xs=[.n a,.n b,.n c,.n d,.n e,.n f,.n a1,.n b1,.n c1,.n d1,.n e1,.n f1]:=by
 obtain ⟨a,_,rfl,h1⟩:=kn hk; obtain ⟨b,_,rfl,h2⟩:=kn h1; obtain ⟨c,_,rfl,h3⟩:=kn h2; obtain ⟨d,_,rfl,h4⟩:=kn h3; obtain ⟨e,_,rfl,h5⟩:=kn h4; obtain ⟨f,_,rfl,h6⟩:=kn h5; obtain ⟨a1,_,rfl,h7⟩:=kn h6; obtain ⟨b1,_,rfl,h8⟩:=kn h7; obtain ⟨c1,_,rfl,h9⟩:=kn h8; obtain ⟨d1,_,rfl,h10⟩:=kn h9; obtain ⟨e1,_,rfl,h11⟩:=kn h10; obtain ⟨f1,_,rfl,h12⟩:=kn h11; obtain rfl:=k0 h12
 exact ⟨a,b,c,d,e,f,a1,b1,c1,d1,e1,f1,rfl⟩
theorem PN (F:VF) (v w:Ve):gD ((run (PM F) 3000).call 37 [.agg v.cells,.agg w.cells] ⟨[],0,1⟩)=some (.p (vnD F v w),(GM (bA F v w)).av true):=by kernel_rfl
theorem Ug:PureOk Tryz.prog 37 (sVD (bA vf0)):=by
 refine jo (fun xs hk _=>?_) ⟨_,Tryz.func37,rfl⟩
 obtain ⟨a,b,c,d,e,f,a1,b1,c1,d1,e1,f1,rfl⟩:=kVV hk
 exact ⟨PM vf0,3000,_,KO,rfl,fun _=>rfl,rfl,PN vf0 ⟨a,b,c,d,e,f⟩ ⟨a1,b1,c1,d1,e1,f1⟩,aak⟩
theorem PO (F:VF) (v:Ve):gD ((run (PM F) 3000).call 34 [.agg v.cells] ⟨[],0,1⟩)=some (.p (uZ v=true->(v.a=v.a/\v.b=v.b)/\(v.c=v.c/\v.d=v.d)/\v.e=v.e/\v.f=v.f),(Tm.n .i64 (vC0 F v)).av true):=by kernel_rfl
end
end Go.Proofs.YtbhibbcjfgnmhaaGreatDoor.K
namespace Go.Vc
open Go Go.Eng Go.Ar
structure MF where
 dt:Ve->Ve->Sp
 o:Int->Int->Bool
structure Mat where
 x:Ve
 y:Ve
 z:Ve
def Mat.cells (m:Mat):List AV:=m.x.cells++m.y.cells++m.z.cells
def MF.ok (F:MF) (v:Ve):Bool:=bif F.o v.a v.b then bif F.o v.c v.d then F.o v.e v.f else false else false
def flip (m:Mat):Mat:=⟨⟨m.x.a,m.x.b,m.y.a,m.y.b,m.z.a,m.z.b⟩,⟨m.x.c,m.x.d,m.y.c,m.y.d,m.z.c,m.z.d⟩,⟨m.x.e,m.x.f,m.y.e,m.y.f,m.z.e,m.z.f⟩⟩
def ck (F:MF) (v:Ve):Int:=bif F.ok v then 0 else 20
def ckM (F:MF) (m:Mat):Int:=bif ck F m.x != 0||!(ck F m.x != 0)&&(ck F m.y != 0||!(ck F m.y != 0)&&ck F m.z != 0) then bif ck F m.x != 0 then ck F m.x else bif ck F m.y != 0 then ck F m.y else ck F m.z else 0
def okM (F:MF) (m:Mat):Bool:=bif F.ok m.x then bif F.ok m.y then F.ok m.z else false else false
def g3 (a b c:Int):Bool:=!(a != 0)&&(!(b != 0)&&!(c != 0))
def e3 (a b c:Int):Int:=bif g3 a b c then 0 else bif !(a != 0)&&(!(b != 0)&&c != 0||b != 0) then bif !(b != 0)&&c != 0 then c else b else a
def Uh (F:MF) (m:Mat) (v:Ve):Bool:=bif ckM F m != 0 then true else ck F v != 0
def GN (F:MF) (m:Mat) (v:Ve):Bool:=bif !okM F m then true else !F.ok v
section
variable (F:MF) (m:Mat) (v:Ve)
def tg:Bool:=g3 (F.dt m.x v).e (F.dt m.y v).e (F.dt m.z v).e
def puI (x:Int):Int:=bif !Uh F m v then bif tg F m v then x else 0 else 0
def rtI (x:Int):Int:=bif GN F m v then 0 else bif tg F m v then x else 0
def Ui:Ve:=⟨puI F m v (F.dt m.x v).lo,puI F m v (F.dt m.x v).hi,puI F m v (F.dt m.y v).lo,puI F m v (F.dt m.y v).hi,puI F m v (F.dt m.z v).lo,puI F m v (F.dt m.z v).hi⟩
def tuV:Ve:=⟨rtI F m v (F.dt m.x v).lo,rtI F m v (F.dt m.x v).hi,rtI F m v (F.dt m.y v).lo,rtI F m v (F.dt m.y v).hi,rtI F m v (F.dt m.z v).lo,rtI F m v (F.dt m.z v).hi⟩
def Uj:Int:=bif !Uh F m v then e3 (F.dt m.x v).e (F.dt m.y v).e (F.dt m.z v).e else 20
def tuO:Int:=bif GN F m v then 20 else e3 (F.dt m.x v).e (F.dt m.y v).e (F.dt m.z v).e
end
theorem Jj (F:MF) (m:Mat):ckM F m=bif okM F m then 0 else 20:=by
 unfold ckM okM ck
 cases F.ok m.x <;> cases F.ok m.y <;> cases F.ok m.z <;> rfl
theorem KP (F:MF) (m:Mat) (v:Ve):Uh F m v=GN F m v:=by
 unfold Uh GN
 rw [Jj]
 unfold ck
 cases okM F m <;> cases F.ok v <;> rfl
theorem KQ (F:MF) (m:Mat) (v:Ve):Ui F m v=tuV F m v/\Uj F m v=tuO F m v:=by
 have e:∀ x,puI F m v x=rtI F m v x:=fun x=>by
  unfold puI rtI
  rw [KP]
  cases GN F m v <;> rfl
 refine ⟨?_,?_⟩
 .unfold Ui tuV
  simp only [e]
 .unfold Uj tuO
  rw [KP]
  cases GN F m v <;> rfl
theorem KR (v:Ve):veP v:=⟨rfl,rfl,rfl,rfl,rfl,rfl⟩
def maP (m:Mat):Prop:=m.x.a=m.x.a/\m.x.b=m.x.b/\m.x.c=m.x.c/\m.x.d=m.x.d/\m.x.e=m.x.e/\m.x.f=m.x.f/\m.y.a=m.y.a/\m.y.b=m.y.b/\m.y.c=m.y.c/\m.y.d=m.y.d/\m.y.e=m.y.e/\m.y.f=m.y.f/\m.z.a=m.z.a/\m.z.b=m.z.b/\m.z.c=m.z.c/\m.z.d=m.z.d/\m.z.e=m.z.e/\m.z.f=m.z.f
theorem PQ (m:Mat):maP m:=⟨rfl,rfl,rfl,rfl,rfl,rfl,rfl,rfl,rfl,rfl,rfl,rfl,rfl,rfl,rfl,rfl,rfl,rfl⟩
structure TF where
 tv:Mat->Ve->Ve
 te:Mat->Ve->Int
 cm:Mat->Int
def f3b (a b c:Int):Bool:=!(a != 0)&&(!(b != 0)&&c != 0||b != 0)||a != 0
def er3 (a b c:Int):Int:=bif !(a != 0)&&(!(b != 0)&&c != 0||b != 0) then bif !(b != 0)&&c != 0 then c else b else a
section
variable (T:TF) (a b:Mat)
def pmB:Bool:=bif T.cm ⟨a.x,a.y,a.z⟩ != 0 then true else T.cm ⟨b.x,b.y,b.z⟩ != 0
def pmG:Bool:=g3 (T.te (flip b) a.x) (T.te (flip b) a.y) (T.te (flip b) a.z)
def pmV (v:Ve):Ve:=⟨bif !pmB T a b then bif pmG T a b then v.a else 0 else 0,bif !pmB T a b then bif pmG T a b then v.b else 0 else 0,bif !pmB T a b then bif pmG T a b then v.c else 0 else 0,bif !pmB T a b then bif pmG T a b then v.d else 0 else 0,bif !pmB T a b then bif pmG T a b then v.e else 0 else 0,bif !pmB T a b then bif pmG T a b then v.f else 0 else 0⟩
def GQ:Mat:=⟨pmV T a b (T.tv (flip b) a.x),pmV T a b (T.tv (flip b) a.y),pmV T a b (T.tv (flip b) a.z)⟩
def KS:Int:=bif !pmB T a b then e3 (T.te (flip b) a.x) (T.te (flip b) a.y) (T.te (flip b) a.z) else 20
def pmN:Prop:=(!pmB T a b)=true->veP a.x/\((!(T.te (flip b) a.x != 0))=true->veP a.y/\((!(T.te (flip b) a.y != 0))=true->veP a.z))
end
theorem aal (T:TF) (a b:Mat):pmN T a b:=fun _=>⟨KR _,fun _=>⟨KR _,fun _=>KR _⟩⟩
section
variable (F:MF) (a b:Mat)
def rmB:Bool:=bif !okM F a then true else !okM F b
def rg (r:Ve):Bool:=g3 (F.dt r (flip b).x).e (F.dt r (flip b).y).e (F.dt r (flip b).z).e
def rf (r:Ve):Bool:=f3b (F.dt r (flip b).x).e (F.dt r (flip b).y).e (F.dt r (flip b).z).e
def re (r:Ve):Int:=er3 (F.dt r (flip b).x).e (F.dt r (flip b).y).e (F.dt r (flip b).z).e
def rmG:Bool:=rg F b a.x&&(rg F b a.y&&rg F b a.z)
def rmI (x:Int):Int:=bif rmB F a b then 0 else bif rmG F a b then x else 0
def rmV (r:Ve):Ve:=⟨rmI F a b (F.dt r (flip b).x).lo,rmI F a b (F.dt r (flip b).x).hi,rmI F a b (F.dt r (flip b).y).lo,rmI F a b (F.dt r (flip b).y).hi,rmI F a b (F.dt r (flip b).z).lo,rmI F a b (F.dt r (flip b).z).hi⟩
def mulV:Mat:=⟨rmV F a b a.x,rmV F a b a.y,rmV F a b a.z⟩
def qa:Int:=bif rmB F a b then 20 else bif rmG F a b then 0 else bif rg F b a.x&&(rg F b a.y&&rf F b a.z||rf F b a.y) then bif rg F b a.y&&rf F b a.z then re F b a.z else re F b a.y else re F b a.x
end
theorem PR (a b c:Int):f3b a b c=!g3 a b c:=by
 unfold f3b g3
 cases a != 0 <;> cases b != 0 <;> cases c != 0 <;> rfl
theorem PS (a b c:Int):e3 a b c=bif g3 a b c then 0 else er3 a b c:=rfl
theorem KT (a b c:Int):(e3 a b c != 0)=!g3 a b c:=by
 unfold e3 g3
 cases h1:a != 0 <;> cases h2:b != 0 <;> cases h3:c != 0 <;> simp [h1,h2,h3]
theorem PT (F:MF) (b:Mat):okM F (flip b)=okM F b:=by
 unfold okM MF.ok flip
 cases F.o b.x.a b.x.b <;> cases F.o b.x.c b.x.d <;> cases F.o b.x.e b.x.f <;> cases F.o b.y.a b.y.b <;> cases F.o b.y.c b.y.d <;> cases F.o b.y.e b.y.f <;> cases F.o b.z.a b.z.b <;> cases F.o b.z.c b.z.d <;> cases F.o b.z.e b.z.f <;> rfl
def wQ (F:MF):TF:=⟨tuV F,tuO F,ckM F⟩
theorem XE {F:MF} (hc:∀ v w,F.dt v w=F.dt w v) (a b:Mat):GQ (wQ F) a b=mulV F a b/\KS (wQ F) a b=qa F a b:=by
 have eB:pmB (wQ F) a b=rmB F a b:=by
  show (bif ckM F a != 0 then true else ckM F b != 0)=_
  rw [Jj,Jj]
  unfold rmB
  cases okM F a <;> cases okM F b <;> rfl
 cases hB:rmB F a b with
 | true=>
  have e1:pmB (wQ F) a b=true:=by rw [eB,hB]
  refine ⟨?_,?_⟩
  .unfold GQ mulV pmV rmV rmI
   rw [e1,hB]; rfl
  .unfold KS qa
   rw [e1,hB]; rfl
 | false=>
  have e1:pmB (wQ F) a b=false:=by rw [eB,hB]
  have hh:okM F a=true/\okM F b=true:=by
   unfold rmB at hB
   cases ha:okM F a <;> cases hb:okM F b <;> rw [ha,hb] at hB <;> first|exact ⟨rfl,rfl⟩|cases hB
  have hr:F.ok a.x=true/\F.ok a.y=true/\F.ok a.z=true:=by
   have:=hh.1
   unfold okM at this
   cases h1:F.ok a.x <;> cases h2:F.ok a.y <;> cases h3:F.ok a.z <;> rw [h1,h2,h3] at this <;> first|exact ⟨rfl,rfl,rfl⟩|cases this
  have bd:∀ r,F.ok r=true->GN F (flip b) r=false:=fun r h=>by
   unfold GN
   rw [PT,hh.2,h]; rfl
  have te:∀ r,F.ok r=true->(wQ F).te (flip b) r=e3 (F.dt r (flip b).x).e (F.dt r (flip b).y).e (F.dt r (flip b).z).e:=fun r h=>by
   show tuO F (flip b) r=_
   unfold tuO
   rw [bd r h,hc _ r,hc _ r,hc _ r]; rfl
  have nz:∀ r,F.ok r=true->((wQ F).te (flip b) r != 0)=!rg F b r:=fun r h=>by
   rw [te r h,KT]; rfl
  have eG:pmG (wQ F) a b=rmG F a b:=by
   unfold pmG g3 rmG
   rw [nz _ hr.1,nz _ hr.2.1,nz _ hr.2.2,Bool.not_not,Bool.not_not,Bool.not_not]
  refine ⟨?_,?_⟩
  .cases hG:rmG F a b with
   | false=>
    rw [hG] at eG
    unfold GQ mulV pmV rmV rmI
    rw [e1,hB,eG,hG]; rfl
   | true=>
    have hG0:=hG
    rw [hG] at eG
    unfold rmG at hG
    simp only [Bool.and_eq_true] at hG
    have tv:∀ r,F.ok r=true->rg F b r=true->(wQ F).tv (flip b) r=⟨(F.dt r (flip b).x).lo,(F.dt r (flip b).x).hi,(F.dt r (flip b).y).lo,(F.dt r (flip b).y).hi,(F.dt r (flip b).z).lo,(F.dt r (flip b).z).hi⟩:=fun r h hg=>by
     show tuV F (flip b) r=_
     have htg:tg F (flip b) r=true:=by
      unfold tg
      rw [hc _ r,hc _ r,hc _ r]; exact hg
     unfold tuV rtI
     rw [bd r h,htg,hc _ r,hc _ r,hc _ r]; rfl
    unfold GQ mulV
    rw [tv _ hr.1 hG.1,tv _ hr.2.1 hG.2.1,tv _ hr.2.2 hG.2.2]
    unfold pmV rmV rmI
    rw [e1,hB,eG,hG0]; rfl
  .unfold KS qa
   rw [e1,hB]
   show e3 _ _ _=bif rmG F a b then 0 else _
   rw [te _ hr.1,te _ hr.2.1,te _ hr.2.2]
   have n1:=KT (F.dt a.x (flip b).x).e (F.dt a.x (flip b).y).e (F.dt a.x (flip b).z).e
   have n2:=KT (F.dt a.y (flip b).x).e (F.dt a.y (flip b).y).e (F.dt a.y (flip b).z).e
   have n3:=KT (F.dt a.z (flip b).x).e (F.dt a.z (flip b).y).e (F.dt a.z (flip b).z).e
   have f1:=PR (F.dt a.y (flip b).x).e (F.dt a.y (flip b).y).e (F.dt a.y (flip b).z).e
   have f2:=PR (F.dt a.z (flip b).x).e (F.dt a.z (flip b).y).e (F.dt a.z (flip b).z).e
   have d1:=PS (F.dt a.x (flip b).x).e (F.dt a.x (flip b).y).e (F.dt a.x (flip b).z).e
   have d2:=PS (F.dt a.y (flip b).x).e (F.dt a.y (flip b).y).e (F.dt a.y (flip b).z).e
   have d3:=PS (F.dt a.z (flip b).x).e (F.dt a.z (flip b).y).e (F.dt a.z (flip b).z).e
   unfold rmG rf rg re
   rw [f1,f2]
   generalize e3 (F.dt a.x (flip b).x).e (F.dt a.x (flip b).y).e (F.dt a.x (flip b).z).e=E1 at *
   generalize e3 (F.dt a.y (flip b).x).e (F.dt a.y (flip b).y).e (F.dt a.y (flip b).z).e=E2 at *
   generalize e3 (F.dt a.z (flip b).x).e (F.dt a.z (flip b).y).e (F.dt a.z (flip b).z).e=E3 at *
   generalize g3 (F.dt a.x (flip b).x).e (F.dt a.x (flip b).y).e (F.dt a.x (flip b).z).e=G1 at *
   generalize g3 (F.dt a.y (flip b).x).e (F.dt a.y (flip b).y).e (F.dt a.y (flip b).z).e=G2 at *
   generalize g3 (F.dt a.z (flip b).x).e (F.dt a.z (flip b).y).e (F.dt a.z (flip b).z).e=G3 at *
   unfold e3 g3
   rw [n1,n2,n3]
   cases G1 <;> cases G2 <;> cases G3 <;> simp only [cond_true,cond_false] at d1 d2 d3 <;> simp [d1,d2,d3]
end Go.Vc
namespace Go.Proofs.YtbhibbcjfgnmhaaGreatDoor.K
open Go Go.Eng Go.Ar Go.Vc
noncomputable section
def sVC (C:Ve->Int):aF:=aJ [shV] none fun
 | [.n a,.n b,.n c,.n d,.n e,.n f]=>.n .i64 (C ⟨a,b,c,d,e,f⟩)
 | _=>.u []
theorem kV {xs:List Nu} (hk:xs.map Nu.isN=Sh.kindsL [shV]):∃ a b c d e f,xs=[.n a,.n b,.n c,.n d,.n e,.n f]:=by
 obtain ⟨a,_,rfl,h1⟩:=kn hk; obtain ⟨b,_,rfl,h2⟩:=kn h1; obtain ⟨c,_,rfl,h3⟩:=kn h2; obtain ⟨d,_,rfl,h4⟩:=kn h3; obtain ⟨e,_,rfl,h5⟩:=kn h4; obtain ⟨f,_,rfl,h6⟩:=kn h5; obtain rfl:=k0 h6
 exact ⟨a,b,c,d,e,f,rfl⟩
def mf0:MF:=⟨bA vf0,au⟩
theorem PU:PureOk Tryz.prog 34 (sVC (ck mf0)):=by
 refine jo (fun xs hk _=>?_) ⟨_,Tryz.func34,rfl⟩
 obtain ⟨a,b,c,d,e,f,rfl⟩:=kV hk
 have r:=PO vf0 ⟨a,b,c,d,e,f⟩
 have e:vC0 vf0 ⟨a,b,c,d,e,f⟩=ck mf0 ⟨a,b,c,d,e,f⟩:=by
  rw [Jg yz]
  show (bif !(MF.ok mf0 ⟨a,b,c,d,e,f⟩) then (20:Int) else 0)=bif MF.ok mf0 ⟨a,b,c,d,e,f⟩ then 0 else 20
  cases MF.ok mf0 ⟨a,b,c,d,e,f⟩ <;> rfl
 rw [e] at r
 exact ⟨PM vf0,3000,_,KO,rfl,fun _=>rfl,rfl,r,fun _=>⟨⟨rfl,rfl⟩,⟨rfl,rfl⟩,rfl,rfl⟩⟩
def Jk (F:MF):List (FuncId×aF):=[(37,sVD F.dt),(34,sVC (ck F))]
theorem MZ:uR Tryz.prog (Jk mf0):=by
 intro x hx
 simp only [Jk,List.mem_cons,List.not_mem_nil,or_false] at hx
 rcases hx with rfl|rfl
 .exact Ug
 .exact PU
def Jl (F:MF):Ctx:=mkC Tryz.prog (Jk F) ext
theorem D7:CtxOk (Jl mf0):=oD prog_ok MZ ext_ok
def shM:Sh:=.a [.i .i64,.i .i64,.i .i64,.i .i64,.i .i64,.i .i64,.i .i64,.i .i64,.i .i64,.i .i64,.i .i64,.i .i64,.i .i64,.i .i64,.i .i64,.i .i64,.i .i64,.i .i64]
def PW (v:Ve) (e:Int):Tm:=.u [.a [.n .i64 v.a,.n .i64 v.b,.n .i64 v.c,.n .i64 v.d,.n .i64 v.e,.n .i64 v.f],.n .i64 e]
def sMC (C:Mat->Int):aF:=aJ [shM] none fun
 | [.n a,.n b,.n c,.n d,.n e,.n f,.n g,.n h,.n i,.n j,.n k,.n l,.n m,.n n,.n o,.n p,.n q,.n r]=>.n .i64 (C ⟨⟨a,b,c,d,e,f⟩,⟨g,h,i,j,k,l⟩,⟨m,n,o,p,q,r⟩⟩)
 | _=>.u []
def sMV (V:Mat->Ve->Ve) (E:Mat->Ve->Int):aF:=aJ [shM,shV] none fun
 | [.n a,.n b,.n c,.n d,.n e,.n f,.n g,.n h,.n i,.n j,.n k,.n l,.n m,.n n,.n o,.n p,.n q,.n r,.n a1,.n b1,.n c1,.n d1,.n e1,.n f1]=>PW (V ⟨⟨a,b,c,d,e,f⟩,⟨g,h,i,j,k,l⟩,⟨m,n,o,p,q,r⟩⟩ ⟨a1,b1,c1,d1,e1,f1⟩) (E ⟨⟨a,b,c,d,e,f⟩,⟨g,h,i,j,k,l⟩,⟨m,n,o,p,q,r⟩⟩ ⟨a1,b1,c1,d1,e1,f1⟩)
 | _=>.u []
theorem k6 {xs:List Nu} {K:List Nat} (hk:xs.map Nu.isN=0 :: 0 :: 0 :: 0 :: 0 :: 0 :: K):∃ (v:Ve) (ys:List Nu),xs=.n v.a :: .n v.b :: .n v.c :: .n v.d :: .n v.e :: .n v.f :: ys/\ys.map Nu.isN=K:=by
 obtain ⟨a,_,rfl,h1⟩:=kn hk; obtain ⟨b,_,rfl,h2⟩:=kn h1; obtain ⟨c,_,rfl,h3⟩:=kn h2; obtain ⟨d,_,rfl,h4⟩:=kn h3; obtain ⟨e,_,rfl,h5⟩:=kn h4; obtain ⟨f,ys,rfl,h6⟩:=kn h5
 exact ⟨⟨a,b,c,d,e,f⟩,ys,rfl,h6⟩
theorem M4 (F:MF) (m:Mat) (v:Ve):gD ((run (Jl F) 3000).call 17 [.agg m.cells,.agg v.cells] ⟨[],0,1⟩)=some (.tt,(PW (Ui F m v) (Uj F m v)).av true):=by kernel_rfl
theorem M5 (F:MF) (m:Mat) (v:Ve):gD ((run (Jl F) 3000).call 20 [.agg m.cells,.agg v.cells] ⟨[],0,1⟩)=some (.p (veP v),(PW (Ui F (flip m) v) (Uj F (flip m) v)).av true):=by kernel_rfl
theorem Jm (F:MF) (m:Mat):gD ((run (Jl F) 3000).call 35 [.agg m.cells] ⟨[],0,1⟩)=some (.tt,(Tm.n .i64 (ckM F m)).av true):=by kernel_rfl
theorem GR:PureOk Tryz.prog 17 (sMV (tuV mf0) (tuO mf0)):=by
 refine jo (fun xs hk _=>?_) ⟨_,Tryz.func17,rfl⟩
 obtain ⟨a,_,rfl,h1⟩:=k6 hk; obtain ⟨b,_,rfl,h2⟩:=k6 h1; obtain ⟨c,_,rfl,h3⟩:=k6 h2; obtain ⟨v,_,rfl,h4⟩:=k6 h3; obtain rfl:=k0 h4
 have r:=M4 mf0 ⟨a,b,c⟩ v
 rw [(KQ _ _ _).1,(KQ _ _ _).2] at r
 exact ⟨Jl mf0,3000,_,D7,rfl,fun _=>rfl,rfl,r,trivial⟩
theorem PX:PureOk Tryz.prog 20 (sMV (fun m=>tuV mf0 (flip m)) (fun m=>tuO mf0 (flip m))):=by
 refine jo (fun xs hk _=>?_) ⟨_,Tryz.func20,rfl⟩
 obtain ⟨a,_,rfl,h1⟩:=k6 hk; obtain ⟨b,_,rfl,h2⟩:=k6 h1; obtain ⟨c,_,rfl,h3⟩:=k6 h2; obtain ⟨v,_,rfl,h4⟩:=k6 h3; obtain rfl:=k0 h4
 have r:=M5 mf0 ⟨a,b,c⟩ v
 rw [(KQ _ _ _).1,(KQ _ _ _).2] at r
 exact ⟨Jl mf0,3000,_,D7,rfl,fun _=>rfl,rfl,r,KR v⟩
theorem M6:PureOk Tryz.prog 35 (sMC (ckM mf0)):=by
 refine jo (fun xs hk _=>?_) ⟨_,Tryz.func35,rfl⟩
 obtain ⟨a,_,rfl,h1⟩:=k6 hk; obtain ⟨b,_,rfl,h2⟩:=k6 h1; obtain ⟨c,_,rfl,h3⟩:=k6 h2; obtain rfl:=k0 h3
 exact ⟨Jl mf0,3000,_,D7,rfl,fun _=>rfl,rfl,Jm mf0 ⟨a,b,c⟩,trivial⟩
end
end Go.Proofs.YtbhibbcjfgnmhaaGreatDoor.K
namespace Go.Vc
open Go Go.Eng Go.Ar
theorem mn_eq (a b:Int):mn a b=if b<a then b else a:=by
 unfold mn; by_cases h:b<a <;> simp [h]
theorem mx_eq (a b:Int):mx a b=if a<b then b else a:=by
 unfold mx; by_cases h:a<b <;> simp [h]
theorem XF (p q r s:Int):mn (mn (mn p q) r) s=mn (mn (mn p r) q) s:=by
 simp only [mn_eq]
 repeat' split
 all_goals omega
theorem XG (p q r s:Int):mx (mx (mx p q) r) s=mx (mx (mx p r) q) s:=by
 simp only [mx_eq]
 repeat' split
 all_goals omega
theorem Cn (a b c d:Int):aD a b c d=aD c d a b:=by
 unfold aD oI jQ mF
 rw [Int.mul_comm c a,Int.mul_comm c b,Int.mul_comm d a,Int.mul_comm d b,XF (Ar.rd (a*c) 4294967296 false),XG (Ar.rd (a*c) 4294967296 true),Bool.and_comm]
theorem M7 (v w:Ve):MV vf0 v w vf0.mu=MV vf0 w v vf0.mu:=by
 have e:∀ a b c d,vf0.mu a b c d=vf0.mu c d a b:=Cn
 have hb:MW vf0 v w=MW vf0 w v:=by
  unfold MW
  cases wOk vf0 v <;> cases wOk vf0 w <;> rfl
 unfold MV z3
 rw [Jh yz,Jh yz,hb,e v.a,e v.c,e v.e]
theorem GU (v w:Ve):bA vf0 v w=bA vf0 w v:=by
 have e:∀ a b c d,vf0.mu a b c d=vf0.mu c d a b:=Cn
 have hA:dA vf0 v w=dA vf0 w v:=by
  unfold dA
  rw [e v.a,e v.c]
 have hB:dB vf0 v w=dB vf0 w v:=by
  unfold dB
  rw [hA,e v.e]
 have hE:dE vf0 v w=dE vf0 w v:=by
  unfold dE
  rw [M7,hA,hB]
 unfold bA
 rw [hE,hB]
end Go.Vc
namespace Go.Proofs.YtbhibbcjfgnmhaaGreatDoor.K
open Go Go.Eng Go.Ar Go.Vc
noncomputable section
def Jn (T:TF):List (FuncId×aF):=[(17,sMV T.tv T.te),(35,sMC T.cm)]
theorem M8:uR Tryz.prog (Jn (wQ mf0)):=by
 intro x hx
 simp only [Jn,List.mem_cons,List.not_mem_nil,or_false] at hx
 rcases hx with rfl|rfl
 .exact GR
 .exact M6
def XH (T:TF):Ctx:=mkC Tryz.prog (Jn T) ext
theorem Uk:CtxOk (XH (wQ mf0)):=oD prog_ok M8 ext_ok
def vv (m:Mat) (e:Int):Tm:=.u [.a [.n .i64 m.x.a,.n .i64 m.x.b,.n .i64 m.x.c,.n .i64 m.x.d,.n .i64 m.x.e,.n .i64 m.x.f,.n .i64 m.y.a,.n .i64 m.y.b,.n .i64 m.y.c,.n .i64 m.y.d,.n .i64 m.y.e,.n .i64 m.y.f,.n .i64 m.z.a,.n .i64 m.z.b,.n .i64 m.z.c,.n .i64 m.z.d,.n .i64 m.z.e,.n .i64 m.z.f],.n .i64 e]
def gVe:List Nu->Ve×List Nu
 | .n a :: .n b :: .n c :: .n d :: .n e :: .n f :: l=>(⟨a,b,c,d,e,f⟩,l)
 | l=>(⟨0,0,0,0,0,0⟩,l)
def gMa (l:List Nu):Mat×List Nu:=(⟨(gVe l).1,(gVe (gVe l).2).1,(gVe (gVe (gVe l).2).2).1⟩,(gVe (gVe (gVe l).2).2).2)
def sMM (V:Mat->Mat->Mat) (E:Mat->Mat->Int):aF:=aJ [shM,shM] none fun xs=>vv (V (gMa xs).1 (gMa (gMa xs).2).1) (E (gMa xs).1 (gMa (gMa xs).2).1)
theorem PY (T:TF) (a b:Mat):gD ((run (XH T) 3000).call 48 [.agg a.cells,.agg b.cells] ⟨[],0,1⟩)=some (.p (pmN T a b),(vv (GQ T a b) (KS T a b)).av true):=by kernel_rfl
theorem KU:PureOk Tryz.prog 48 (sMM (mulV mf0) (qa mf0)):=by
 refine jo (fun xs hk _=>?_) ⟨_,Tryz.func48,rfl⟩
 obtain ⟨a,_,rfl,h1⟩:=k6 hk; obtain ⟨b,_,rfl,h2⟩:=k6 h1; obtain ⟨c,_,rfl,h3⟩:=k6 h2; obtain ⟨a1,_,rfl,h4⟩:=k6 h3; obtain ⟨b1,_,rfl,h5⟩:=k6 h4; obtain ⟨c1,_,rfl,h6⟩:=k6 h5; obtain rfl:=k0 h6
 have r:=PY (wQ mf0) ⟨a,b,c⟩ ⟨a1,b1,c1⟩
 have e:=XE (F:=mf0) GU ⟨a,b,c⟩ ⟨a1,b1,c1⟩
 rw [e.1,e.2] at r
 exact ⟨XH (wQ mf0),3000,_,Uk,rfl,fun _=>rfl,rfl,r,aal _ _ _⟩
end
end Go.Proofs.YtbhibbcjfgnmhaaGreatDoor.K
namespace Go.Dg
def val:List Int->Int
 | []=>0
 | x :: l=>x+(1000000000:Int)*val l
def Dig (xs:List Int):Prop:=∀ x∈xs,0<=x/\x<(1000000000:Int)
def pw:Nat->Int
 | 0=>1
 | n+1=>(1000000000:Int)*pw n
theorem pw_pos:∀ n,0<pw n
 | 0=>by decide
 | n+1=>Int.mul_pos (by decide) (pw_pos n)
theorem Aj:∀ m n,pw (m+n)=pw m*pw n
 | 0,n=>by simp [pw]
 | m+1,n=>by rw [Nat.succ_add]; simp only [pw]; rw [Aj m n,Int.mul_assoc]
theorem jZ:Dig []:=fun _ h=>by cases h
theorem dI {x:Int} {l:List Int}:Dig (x :: l) ↔ (0<=x/\x<(1000000000:Int))/\Dig l:=by
 constructor
 .intro h; exact ⟨h x (by simp),fun y hy=>h y (by simp [hy])⟩
 .rintro ⟨h1,h2⟩ y hy
  rcases List.mem_cons.1 hy with rfl|hy
  .exact h1
  .exact h2 y hy
theorem KV {l m:List Int}:Dig (l++m) ↔ Dig l/\Dig m:=by
 constructor
 .intro h; exact ⟨fun y hy=>h y (by simp [hy]),fun y hy=>h y (by simp [hy])⟩
 .rintro ⟨h1,h2⟩ y hy
  rcases List.mem_append.1 hy with hy|hy
  .exact h1 y hy
  .exact h2 y hy
theorem Dig.take {l:List Int} (h:Dig l) (n:Nat):Dig (l.take n):=fun x hx=>h x (List.mem_of_mem_take hx)
theorem Dig.drop {l:List Int} (h:Dig l) (n:Nat):Dig (l.drop n):=fun x hx=>h x (List.mem_of_mem_drop hx)
theorem Dig.get {l:List Int} (h:Dig l) (i:Nat):0<=l.getD i 0/\l.getD i 0<(1000000000:Int):=by
 rw [List.getD_eq_getElem?_getD]
 cases e:l[i]? with
 | none=>exact ⟨Int.le_refl _,by decide⟩
 | some x=>exact h x (List.mem_of_getElem? e)
theorem Dig.set {l:List Int} (h:Dig l) (i:Nat) {x:Int} (hx:0<=x/\x<(1000000000:Int)):Dig (l.set i x):=fun y hy=>by
 rcases List.mem_or_eq_of_mem_set hy with h1|rfl
 .exact h y h1
 .exact hx
theorem D8:∀ (l m:List Int),val (l++m)=val l+pw l.length*val m
 | [],m=>by simp [val,pw]
 | x :: l,m=>by
  simp only [List.cons_append,val,List.length_cons,pw]
  rw [D8 l m,Int.mul_add,Int.mul_assoc]; omega
theorem ai:∀ {l:List Int},Dig l->0<=val l
 | [],_=>Int.le_refl _
 | x :: l,h=>by
  have h:=dI.1 h
  have:=ai h.2
  simp only [val]
  omega
theorem gP:∀ {l:List Int},Dig l->val l<pw l.length
 | [],_=>by decide
 | x :: l,h=>by
  have h:=dI.1 h
  have:=gP h.2
  simp only [val,List.length_cons,pw]
  have h3:(1000000000:Int)*val l+(1000000000:Int)<=(1000000000:Int)*pw l.length:=by
   have:(1000000000:Int)*(val l+1)<=(1000000000:Int)*pw l.length:=Int.mul_le_mul_of_nonneg_left (by omega) (by decide)
   rw [Int.mul_add] at this
   simpa using this
  have:=h.1.2
  omega
theorem lN:∀ (l:List Int) (i:Nat) (x:Int),i<l.length->val (l.set i x)=val l+pw i*(x - l.getD i 0)
 | [],i,x,h=>by simp at h
 | y :: l,0,x,h=>by simp [val,pw]; omega
 | y :: l,i+1,x,h=>by
  simp only [List.set_cons_succ,val,pw,List.getD_cons_succ]
  rw [lN l i x (by simpa using h),Int.mul_add,Int.mul_assoc]
  omega
theorem GV:∀ n,val (List.replicate n 0)=0
 | 0=>rfl
 | n+1=>by simp [List.replicate_succ,val,GV n]
theorem PZ (n:Nat):Dig (List.replicate n 0):=fun x hx=>by
 obtain rfl:=List.eq_of_mem_replicate hx
 decide
theorem dM {l:List Int} {n:Nat} (h:n<l.length):val (l.take (n+1))=val (l.take n)+pw n*l.getD n 0:=by
 rw [List.take_add_one,List.getElem?_eq_getElem h,D8,List.length_take,Nat.min_eq_left (by omega),List.getD_eq_getElem?_getD,List.getElem?_eq_getElem h]
 simp [val]
def aa (n:Nat):List Int:=
 if h:n=0 then [] else ((n % 1000000000:Nat):Int) :: aa (n / 1000000000)
termination_by n
decreasing_by exact Nat.div_lt_self (Nat.pos_of_ne_zero h) (by decide)
theorem fq:aa 0=[]:=by rw [aa]; simp
theorem fK {n:Nat} (h:n≠0):aa n=((n % 1000000000:Nat):Int) :: aa (n / 1000000000):=by rw [aa]; simp [h]
theorem Ak (n:Nat):val (aa n)=n:=by
 induction n using Nat.strongRecOn with
 | _ n ih=>
  by_cases h:n=0
  .subst h; rw [fq]; rfl
  .rw [fK h,val,ih _ (Nat.div_lt_self (Nat.pos_of_ne_zero h) (by decide))]
   omega
theorem aC (n:Nat):Dig (aa n):=by
 induction n using Nat.strongRecOn with
 | _ n ih=>
  by_cases h:n=0
  .subst h; rw [fq]; exact jZ
  .rw [fK h]
   exact dI.2 ⟨by omega,ih _ (Nat.div_lt_self (Nat.pos_of_ne_zero h) (by decide))⟩
def Top (l:List Int):Prop:=l=[]\/l.getD (l.length - 1) 0≠0
theorem Al {x y:Int} {l:List Int}:Top (x :: y :: l) ↔ Top (y :: l):=by
 constructor
 .intro h
  rcases h with h|h
  .cases h
  .exact .inr (by simpa using h)
 .intro h
  rcases h with h|h
  .cases h
  .exact .inr (by simpa using h)
theorem XI {l:List Int}:Dig l->Top l->l≠[]->val l≠0:=by
 induction l with
 | nil=>intro _ _ h; exact absurd rfl h
 | cons x l ih=>
  intro hd ht _
  have h:=dI.1 hd
  have h2:=ai h.2
  simp only [val]
  cases l with
  | nil=>
   rcases ht with ht|ht
   .cases ht
   .have:x≠0:=by simpa using ht
    simp only [val]; omega
  | cons y l=>
   have:=ih h.2 (Al.1 ht) (by simp)
   omega
theorem mQ:∀ {l:List Int},Dig l->Top l->aa (val l).toNat=l
 | [],_,_=>fq
 | x :: l,hd,ht=>by
  have h:=dI.1 hd
  have h2:=ai h.2
  have h0:val (x :: l)≠0:=XI hd ht (by simp)
  have h1:0<=val (x :: l):=ai hd
  have ht':Top l:=by
   cases l with
   | nil=>exact .inl rfl
   | cons y l=>exact Al.1 ht
  rw [fK (by omega)]
  simp only [val] at h1 ⊢
  have e1:(x+(1000000000:Int)*val l).toNat % 1000000000=x.toNat:=by omega
  have e2:(x+(1000000000:Int)*val l).toNat / 1000000000=(val l).toNat:=by omega
  rw [e1,e2,mQ h.2 ht',Int.toNat_of_nonneg h.1.1]
theorem qb (n:Nat):Top (aa n):=by
 induction n using Nat.strongRecOn with
 | _ n ih=>
  by_cases h:n=0
  .subst h; rw [fq]; exact .inl rfl
  .by_cases h2:n / 1000000000=0
   .rw [fK h,h2,fq]
    right
    simp
    omega
   .have:=ih (n / 1000000000) (Nat.div_lt_self (Nat.pos_of_ne_zero h) (by decide))
    rw [fK h]
    rw [fK h2] at this ⊢
    exact Al.2 this
theorem D9 {n:Nat} (h:n≠0):0<(aa n).length:=by rw [fK h]; simp
def tl (l:List Int):Nat->Nat
 | 0=>0
 | n+1=>if l.getD n 0=0 then tl l n else n+1
theorem WF (l:List Int):∀ n,tl l n<=n
 | 0=>Nat.le_refl _
 | n+1=>by
  simp only [tl]
  split
  .exact Nat.le_succ_of_le (WF l n)
  .exact Nat.le_refl _
theorem P5 {l:List Int}:∀ {n},n<=l.length->val (l.take (tl l n))=val (l.take n)
 | 0,_=>rfl
 | n+1,h=>by
  simp only [tl]
  split
  .rename_i h0
   rw [P5 (by omega),dM (by omega),h0]
   simp
  .rfl
theorem P6 {l:List Int}:∀ {n},n<=l.length->Top (l.take (tl l n))
 | 0,_=>.inl rfl
 | n+1,h=>by
  simp only [tl]
  split
  .exact P6 (by omega)
  .rename_i h0
   right
   rw [List.length_take,Nat.min_eq_left (by omega)]
   simpa [List.getD_eq_getElem?_getD,List.getElem?_take] using h0
theorem Ul {l:List Int} (h:Dig l):l.take (tl l l.length)=aa (val l).toNat:=by
 have h1:=mQ (h.take (tl l l.length)) (P6 (Nat.le_refl _))
 rw [P5 (Nat.le_refl _),List.take_length] at h1
 exact h1.symm
def vw (a b:List Int):Nat->Bool
 | 0=>false
 | n+1=>if a.getD n 0=b.getD n 0 then vw a b n else decide (a.getD n 0<b.getD n 0)
theorem Co {a b:List Int} (ha:Dig a) (hb:Dig b):∀ {n:Nat},n<=a.length->n<=b.length->(vw a b n=true ↔ val (a.take n)<val (b.take n))
 | 0,_,_=>by simp [vw,val]
 | n+1,h1,h2=>by
  have ih:=Co ha hb (n:=n) (by omega) (by omega)
  simp only [vw]
  rw [dM (by omega),dM (by omega)]
  split
  .rename_i he
   rw [ih,he]
   omega
  .rename_i he
   have x1:=gP (ha.take n)
   have x2:=gP (hb.take n)
   have y1:=ai (ha.take n)
   have y2:=ai (hb.take n)
   rw [List.length_take,Nat.min_eq_left (by omega)] at x1 x2
   have hp:=pw_pos n
   simp only [decide_eq_true_eq]
   constructor
   .intro hlt
    have:pw n*(a.getD n 0+1)<=pw n*b.getD n 0:=Int.mul_le_mul_of_nonneg_left (by omega) (by omega)
    rw [Int.mul_add] at this
    omega
   .intro hlt
    rcases (show a.getD n 0<b.getD n 0\/b.getD n 0<=a.getD n 0 by omega) with h|h
    .exact h
    .have:pw n*(b.getD n 0+1)<=pw n*a.getD n 0:=Int.mul_le_mul_of_nonneg_left (by omega) (by omega)
     rw [Int.mul_add] at this
     omega
theorem j6 {m n:Nat} (h:m<=n):pw m<=pw n:=by
 obtain ⟨k,rfl⟩:=Nat.le.dest h
 rw [Aj]
 have h1:=pw_pos m
 have h2:=pw_pos k
 calc pw m=pw m*1:=(Int.mul_one _).symm
  _<=pw m*pw k:=Int.mul_le_mul_of_nonneg_left h2 (Int.le_of_lt h1)
theorem P8 {l:List Int} (h:Dig l) (ht:Top l) (hne:l≠[]):pw (l.length - 1)<=val l:=by
 have hpos:0<l.length:=List.length_pos_iff.2 hne
 have h1:val l=val (l.take (l.length - 1))+pw (l.length - 1)*l.getD (l.length - 1) 0:=by
  have:=dM (l:=l) (n:=l.length - 1) (by omega)
  rw [show l.length - 1+1=l.length by omega,List.take_length] at this
  exact this
 have h2:=ai (h.take (l.length - 1))
 have h3:1<=l.getD (l.length - 1) 0:=by
  rcases ht with ht|ht
  .exact absurd ht hne
  .have:=h.get (l.length - 1); omega
 have h4:pw (l.length - 1)*1<=pw (l.length - 1)*l.getD (l.length - 1) 0:=Int.mul_le_mul_of_nonneg_left h3 (Int.le_of_lt (pw_pos _))
 omega
theorem Am {a b:List Int} (ha:Dig a) (hb:Dig b) (tb:Top b) (h:a.length<b.length):val a<val b:=by
 have h1:=gP ha
 have h2:=P8 hb tb (by rintro rfl; simp at h)
 have h3:=j6 (show a.length<=b.length - 1 by omega)
 omega
def KW (a b:List Int):Bool:=if a.length=b.length then vw a b a.length else decide (a.length<b.length)
theorem Cq {a b:List Int} (ha:Dig a) (hb:Dig b) (ta:Top a) (tb:Top b):KW a b=true ↔ val a<val b:=by
 unfold KW
 split
 .rename_i h
  rw [Co ha hb (Nat.le_refl _) (by omega),List.take_length,h,List.take_length]
 .rename_i h
  simp only [decide_eq_true_eq]
  constructor
  .exact fun hl=>Am ha hb tb hl
  .intro hv
   rcases Nat.lt_or_ge a.length b.length with h1|h1
   .exact h1
   .have:=Am hb ha ta (by omega)
    omega
def fr (x:Int):Int:=if x.tmod (1000000000:Int)<0 then x.tmod (1000000000:Int)+(1000000000:Int) else x.tmod (1000000000:Int)
end Go.Dg
namespace Go.Dg
open Go Go.Eng
theorem bt {p:Prop} [Decidable p] {b:Bool}:(bif decide p then b else false)=true ↔ p/\b=true:=by
 by_cases h:p <;> simp [h]
theorem nbt {p:Prop} [Decidable p] {b:Bool}:(!bif decide p then b else false)=true ↔ (p->b=false):=by
 by_cases h:p <;> simp [h]
theorem eb {x y:Int}:(x==y)=true ↔ x=y:=⟨eq_of_beq,fun h=>by rw [h]; exact beq_self_eq_true y⟩
theorem neb {x y:Int}:(x==y)=false ↔ x≠y:=by
 constructor
 .intro h e; rw [eb.2 e] at h; cases h
 .intro h
  cases e:(x==y) with
  | false=>rfl
  | true=>exact absurd (eb.1 e) h
theorem dt {p:Prop} [Decidable p]:decide p=true ↔ p:=decide_eq_true_iff
theorem ndt {p:Prop} [Decidable p]:(!decide p)=true ↔ ¬p:=by by_cases h:p <;> simp [h]
def Sm (d:List Int):Prop:=d.length<=500000
theorem Sm.le {d:List Int} (h:Sm d):d.length<=500000:=h
theorem iw {n:Int} (h0:-9223372036854775808<=n) (h1:n<9223372036854775808):IntKind.i64.wrap n=n:=Go.Ar.i64w h0 h1
end Go.Dg
namespace Go.Proofs.YtbhibbcjfgnmhaaGreatDoor.K
open Go Go.Eng
noncomputable section
def cL:Ctx:=mkN Tryz.prog (fun _=>none) hG0 [] [] lJ
def tlI (d:List Int) (y:Int):Int:=(Go.Dg.tl d y.toNat:Nat)
end
end Go.Proofs.YtbhibbcjfgnmhaaGreatDoor.K
namespace Go.Proofs.YtbhibbcjfgnmhaaGreatDoor.K
open Go Go.Eng Go.Dg
noncomputable section
theorem ig:CtxOk cL:=wM prog_ok (pX _) (fun x h=>by cases h) (fun x h=>by cases h)
theorem GX {d:List Int} {i:Int} (h:0<i):tlI d i=if d.getD (i - 1).toNat 0=0 then tlI d (i - 1) else i:=by
 unfold tlI
 obtain ⟨n,rfl⟩:∃ n:Nat,i=(n+1:Nat):=⟨(i - 1).toNat,by omega⟩
 have e1:((n+1:Nat):Int).toNat=n+1:=by omega
 have e2:(((n+1:Nat):Int) - 1).toNat=n:=by omega
 rw [e1,e2]
 simp only [tl]
 split <;> rfl
theorem Qa (d:List Int):0<=tlI d d.length/\tlI d d.length<=d.length:=by
 have:=WF d d.length
 unfold tlI
 rw [show ((d.length:Int)).toNat=d.length by omega]
 omega
theorem Qb {d:List Int} (h:Dig d):d.take (tlI d d.length).toNat=aa (val d).toNat:=by
 rw [<- Ul h]
 have e:(tlI d d.length).toNat=tl d d.length:=by
  unfold tlI
  rw [show ((d.length:Int)).toNat=d.length by omega]
  omega
 rw [e]
end
end Go.Proofs.YtbhibbcjfgnmhaaGreatDoor.K
namespace Go.Dg
def M9 (a b:List Int):Nat->Bool
 | 0=>false
 | n+1=>if a.getD n 0=b.getD n 0 then M9 a b n else true
def wR (a b:List Int) (i:Int):Bool:=M9 a b (i+1).toNat
theorem GY {a b:List Int} {i:Int} (h:0<=i):wR a b i=if a.getD i.toNat 0=b.getD i.toNat 0 then wR a b (i - 1) else true:=by
 unfold wR
 rw [show (i+1).toNat=i.toNat+1 by omega,show (i - 1+1).toNat=i.toNat by omega,M9]
theorem GZ {x y:Int}:(x != y)=true ↔ x≠y:=by simp
theorem KX {x y:Int}:(x != y)=false ↔ x=y:=by simp
theorem ab8 {x y:Int}:(!x != y)=true ↔ x=y:=by
 have:(!x != y)=(x==y):=by simp [bne]
 rw [this]; exact eb
theorem WG {p:Prop} [Decidable p] {b:Bool}:(decide p&&b)=true ↔ p/\b=true:=by
 by_cases h:p <;> simp [h]
end Go.Dg
namespace Go.Dg
open Go.Eng
def okL (neg:Bool) (d:List Int):Prop:=Dig d/\Top d/\(neg=true->d≠[])/\Sm d
def zv (neg:Bool) (d:List Int):Int:=bif neg then -val d else val d
theorem G5 {n k:Nat} (h:(n:Int)<pw k):(aa n).length<=k:=by
 rcases Nat.lt_or_ge k (aa n).length with h1|h1
 .have:=P8 (aC n) (qb n) (by intro e; rw [e] at h1; simp at h1)
  rw [Ak] at this
  have:=j6 (show k<=(aa n).length - 1 by omega)
  omega
 .exact h1
end Go.Dg
namespace Go.Dg
open Go Go.Eng
end Go.Dg
namespace Go.Dg
end Go.Dg
namespace Go.Dg
open Go Go.Eng
def aT:Nat->Int->List Int
 | 0,_=>[]
 | n+1,v=>v % 1000000000 :: aT n (v / 1000000000)
theorem cB:∀ (n:Nat) (v:Int),(aT n v).length=n
 | 0,_=>rfl
 | n+1,v=>by simp [aT,cB n]
theorem jI:∀ (n:Nat) (v:Int),Dig (aT n v)
 | 0,_=>jZ
 | n+1,v=>dI.2 ⟨by omega,jI n _⟩
theorem kW:∀ {n:Nat} {v:Int},0<=v->v<pw n->val (aT n v)=v
 | 0,v,h0,h1=>by
  have:pw 0=1:=rfl
  simp only [aT,val]; omega
 | n+1,v,h0,h1=>by
  simp only [aT,val]
  have h2:pw (n+1)=(1000000000:Int)*pw n:=rfl
  rw [kW (by omega) (by omega)]
  omega
theorem KY:∀ {d:List Int},Dig d->d=aT d.length (val d)
 | [],_=>rfl
 | x :: l,h=>by
  have h:=dI.1 h
  simp only [List.length_cons,aT,val]
  rw [show (x+(1000000000:Int)*val l) % (1000000000:Int)=x by omega,show (x+(1000000000:Int)*val l) / (1000000000:Int)=val l by omega,<- KY h.2]
theorem G6:∀ n,List.replicate n (0:Int)=aT n 0
 | 0=>rfl
 | n+1=>by simp [List.replicate_succ,aT,<- G6 n]
theorem qc {d:List Int} (h:Dig d) {n:Nat} {v:Int} (hl:d.length=n) (hv:val d=v):d=aT n v:=by
 subst hl hv; exact KY h
theorem ndf {p:Prop} [Decidable p] (h:¬p):decide p=false:=decide_eq_false h
def dA (a:List Int) (i:Int):Int:=val (a.drop (i+1).toNat)
theorem G7:∀ (n:Nat) (v:Int) (i:Nat),i<n->(aT n v).getD i 0=v / pw i % (1000000000:Int)
 | 0,_,_,h=>by omega
 | n+1,v,0,_=>by simp [aT,pw]
 | n+1,v,i+1,h=>by
  simp only [aT,List.getD_cons_succ]
  rw [G7 n _ i (by omega),Int.ediv_ediv_of_nonneg (by decide)]
  rfl
structure OkQ (p q:Bool) (n d:List Int):Prop where
 hn:okL p n
 hd:okL q d
 hq:q=false
 ne:d≠[]
 ln:n.length<=600
 ld:d.length<=600
 cop:Int.gcd (zv p n) (zv q d)=1
theorem Um {x y:Int} {k l:Nat} (hx:(x.natAbs:Int)<pw k) (hy:(y.natAbs:Int)<pw l):((x*y).natAbs:Int)<pw (k+l):=by
 rw [Int.natAbs_mul,Aj,Int.natCast_mul]
 have h0:(0:Int)<=x.natAbs:=by omega
 have h1:(0:Int)<=y.natAbs:=by omega
 have h2:=pw_pos k
 calc (x.natAbs:Int)*y.natAbs<=x.natAbs*pw l:=Int.mul_le_mul_of_nonneg_left (by omega) h0
  _<pw k*pw l:=Int.mul_lt_mul_of_pos_right hx (pw_pos l)
theorem len_mul {x y:Int} {k l:Nat} (hx:(x.natAbs:Int)<pw k) (hy:(y.natAbs:Int)<pw l):(aa (x*y).natAbs).length<=k+l:=G5 (Um hx hy)
end Go.Dg
namespace Go.Dg
theorem kg (n:Nat):pw (n+1)=1000000000*pw n:=rfl
end Go.Dg
namespace Go.Dg
open Go Go.Eng
theorem G8 {a:List Int} {i:Nat} (h:i<a.length):val (a.drop i)=a.getD i 0+1000000000*val (a.drop (i+1)):=by
 rw [List.drop_eq_getElem_cons h]
 show a[i]+1000000000*val (a.drop (i+1))=_
 congr 1
 simp [List.getD_eq_getElem?_getD,List.getElem?_eq_getElem h]
theorem getD_set {l:List Int} {i j:Nat} {x:Int} (h:i≠j):(l.set i x).getD j 0=l.getD j 0:=by
 simp [List.getD_eq_getElem?_getD,List.getElem?_set_ne h]
theorem gG {l:List Int} {i:Nat} {x:Int} (h:i<l.length):(l.set i x).getD i 0=x:=by
 simp [List.getD_eq_getElem?_getD,h]
structure PaI (a:List Int) (n i r:Int) (d:List Int):Prop where
 l:d.length=a.length
 dg:Dig d
 i0:-1<=i
 i1:i<a.length
 z:∀ j:Nat,(j:Int)<=i->d.getD j 0=0
 v:val d*n+pw (i+1).toNat*r=pw (i+1).toNat*val (a.drop (i+1).toNat)
 r0:0<=r
 r1:r<n
theorem PaI.start {a:List Int} {n:Int} (hn:0<n):PaI a n (a.length - 1) 0 (List.replicate a.length 0):=by
 refine ⟨by simp,PZ _,by omega,by omega,fun j hj=>?_,?_,Int.le_refl _,hn⟩
 .simp [List.getD_eq_getElem?_getD,List.getElem?_replicate]
  split <;> rfl
 .rw [GV,show ((a.length:Int) - 1+1).toNat=a.length by omega,List.drop_length]
  simp [val]
theorem PaI.step {a:List Int} {n i r:Int} {d:List Int} (ha:Dig a) (h:PaI a n i r d) (hi:0<=i):PaI a n (i - 1) ((r*1000000000+a.getD i.toNat 0).tmod n) (d.set i.toNat ((r*1000000000+a.getD i.toNat 0).tdiv n)):=by
 obtain ⟨l,dg,i0,i1,z,v,r0,r1⟩:=h
 have ga:=ha.get i.toNat
 have m0:0<=r*1000000000+a.getD i.toNat 0:=by omega
 have hn:0<n:=by omega
 have eq1:(r*1000000000+a.getD i.toNat 0).tmod n=(r*1000000000+a.getD i.toNat 0) % n:=Int.tmod_eq_emod_of_nonneg m0
 have eq2:(r*1000000000+a.getD i.toNat 0).tdiv n=(r*1000000000+a.getD i.toNat 0) / n:=Int.tdiv_eq_ediv_of_nonneg m0
 rw [eq1,eq2]
 have q0:0<=(r*1000000000+a.getD i.toNat 0) / n:=Int.ediv_nonneg m0 (by omega)
 have q1:(r*1000000000+a.getD i.toNat 0) / n<1000000000:=by
  apply Int.ediv_lt_of_lt_mul hn
  have:(r+1)*1000000000<=n*1000000000:=Int.mul_le_mul_of_nonneg_right (by omega) (by decide)
  omega
 have hil:i.toNat<d.length:=by omega
 have e0:(i - 1+1).toNat=i.toNat:=by omega
 have e1:(i+1).toNat=i.toNat+1:=by omega
 have ed:=Int.mul_ediv_add_emod (r*1000000000+a.getD i.toNat 0) n
 refine ⟨by simp [l],dg.set _ ⟨q0,q1⟩,by omega,by omega,fun j hj=>?_,?_,Int.emod_nonneg _ (by omega),Int.emod_lt_of_pos _ hn⟩
 .rw [getD_set (by omega)]
  exact z j (by omega)
 .rw [e0,lN _ _ _ hil,z i.toNat (by omega),G8 (by omega)]
  rw [e1,kg] at v
  generalize (r*1000000000+a.getD i.toNat 0) / n=q at *
  generalize (r*1000000000+a.getD i.toNat 0) % n=r' at *
  generalize val (a.drop (i.toNat+1))=V at *
  generalize a.getD i.toNat 0=x at *
  generalize pw i.toNat=p at *
  generalize val d=D at *
  grind
theorem PaI.fin {a:List Int} {n i r:Int} {d:List Int} (h:PaI a n i r d) (hi:¬ 0<=i):i=-1/\r=val a % n/\d=aT a.length (val a / n):=by
 obtain ⟨l,dg,i0,i1,z,v,r0,r1⟩:=h
 have e:i=-1:=by omega
 subst e
 have v:val d*n+1*r=1*val (a.drop 0):=v
 rw [List.drop_zero] at v
 have h1:val a / n=val d:=by
  rw [show val a=r+val d*n by omega,Int.add_mul_ediv_right _ _ (by omega),Int.ediv_eq_zero_of_lt r0 r1]
  omega
 have h2:val a % n=r:=by
  rw [show val a=r+val d*n by omega,Int.add_mul_emod_self_right]
  exact Int.emod_eq_of_lt r0 r1
 exact ⟨rfl,h2.symm,qc dg l h1.symm⟩
end Go.Dg
namespace Go.Proofs.YtbhibbcjfgnmhaaGreatDoor.K
open Go Go.Eng Go.Dg
noncomputable section
def zA (a:List Int) (n:Int):List AV:=[.lslice 0 a.length,.int true .i64 n]
def zH (a:List Int):Hp:=fI true hG0 [(.i64,a)]
def G9:AFr:=⟨153,none⟩
def Qc:Code:=jN Tryz.prog 153 0
noncomputable def Ao (a:List Int) (n:Int):St:=u7 cL 300 153 (zA a n) (zH a)
def Jo (i r:Int) (d:List Int):Patch:=⟨(7,.int true .i64 r) :: (8,.int true .i64 i) :: fG 15 20,[(1,.ints .i64 d)],[]⟩
def wS (a:List Int) (n:Int):SumL (Int×Int×List Int):=
 {
  S:=fun (i,r,d)=>Jo i r d
  I:=fun (i,r,d)=>PaI a n i r d
  μ:=fun (i,_,_)=>(i+1).toNat
  F:=fun _=>(.exit 0,Jo (-1) (val a % n) (aT a.length (val a / n)))
  next:=fun (i,r,d)=>(i - 1,(r*1000000000+a.getD i.toNat 0).tmod n,d.set i.toNat ((r*1000000000+a.getD i.toNat 0).tdiv n))
  ids:=fun _=>[]
  X:=fun (i,r,d) _=>some (Jo i r d,[]) }
def Ea (a:List Int) (n:Int):Prop:=((0:Int)=(0:Int)/\IntKind.i64.wrap ((↑a.length:Int) - (1:Int))=(↑a.length:Int) - (1:Int))/\List.replicate (↑a.length:Int).toNat (0:Int)=List.replicate a.length (0:Int)
theorem Na (a:List Int) (n:Int):fit (Ao a n) (Ao a n) (ae (Ao a n) ((wS a n).S (a.length - 1,0,List.replicate a.length 0))) ([])=some (.p (Ea a n)):=by kernel_rfl
def Jp (a:List Int) (n i r:Int) (d:List Int):Prop:=(decide (i>=(0:Int))=true->(((0:Int)<=i/\i<(↑a.length:Int))/\i.toNat<a.length)/\n≠(0:Int)/\n≠(0:Int)/\((0:Int)<=i/\i<(↑a.length:Int))/\((0:Int)+i).toNat<d.length)/\((!decide (i>=(0:Int)))=true->((r=r/\i=i)/\d=d)/\(wS a n).F (i,r,d)=(Ex.exit (0:Nat),Jo i r d))/\(decide (i>=(0:Int))=true->(((IntKind.i64.wrap (IntKind.i64.wrap (r*(1000000000:Int))+a.getD i.toNat (0:Int))).tmod n=(r*(1000000000:Int)+a.getD i.toNat (0:Int)).tmod n/\IntKind.i64.wrap (i - (1:Int))=i - (1:Int))/\d.set ((0:Int)+i).toNat (IntKind.i64.wrap ((IntKind.i64.wrap (IntKind.i64.wrap (r*(1000000000:Int))+a.getD i.toNat (0:Int))).tdiv n))=d.set i.toNat ((r*(1000000000:Int)+a.getD i.toNat (0:Int)).tdiv n))/\(wS a n).I ((wS a n).next (i,r,d))/\(wS a n).μ ((wS a n).next (i,r,d))<(wS a n).μ (i,r,d)/\(wS a n).F ((wS a n).next (i,r,d))=(wS a n).F (i,r,d))
theorem Un (a:List Int) (n i r:Int) (d:List Int):fw (Ao a n) ((wS a n).way ((i,r,d))) ((run cL 300).code G9 Qc (ae (Ao a n) ((wS a n).S (i,r,d))))=some (.p (Jp a n i r d)):=by kernel_rfl
theorem Qd {a:List Int} {n:Int} (ha:Dig a) (la:Sm a) (h0:1<=n) (h1:n<=1000000000):CodeOk cL G9 (.loop Qc) (Ao a n) ⟨.tt,[⟨.tt,.exit 0,ae (Ao a n) (Jo (-1) (val a % n) (aT a.length (val a / n)))⟩]⟩:=by
 have la:=la.le
 refine mG (bP ig 300) (wS a n) (y0:=((a.length:Int) - 1,0,List.replicate a.length 0)) (PaI.start (by omega)) ⟨_,Na a n,⟨⟨rfl,iw (by omega) (by omega)⟩,by rw [show ((a.length:Int)).toNat=a.length by omega]⟩⟩ (by kernel_rfl) (fun y hy=>?_) rfl
 obtain ⟨i,r,d⟩:=y
 have hI:PaI a n i r d:=hy
 obtain ⟨l,dg,i0,i1,z,v,r0,r1⟩:=id hI
 refine ⟨_,Un a n i r d,fun h=>?_,fun h=>⟨⟨⟨rfl,rfl⟩,rfl⟩,?_⟩,fun h=>?_⟩
 .have h:i>=0:=dt.1 h
  exact ⟨⟨⟨by omega,i1⟩,by omega⟩,by omega,by omega,⟨by omega,i1⟩,by omega⟩
 .obtain ⟨e1,e2,e3⟩:=hI.fin (ndt.1 h)
  show (Ex.exit 0,Jo (-1) (val a % n) (aT a.length (val a / n)))=_
  rw [e1,e2,<- e3]
 .have h:i>=0:=dt.1 h
  have g:=ha.get i.toNat
  have e1:IntKind.i64.wrap (r*1000000000)=r*1000000000:=iw (by omega) (by omega)
  have e2:IntKind.i64.wrap (r*1000000000+a.getD i.toNat 0)=r*1000000000+a.getD i.toNat 0:=iw (by omega) (by omega)
  have m0:0<=r*1000000000+a.getD i.toNat 0:=by omega
  have e3:IntKind.i64.wrap ((r*1000000000+a.getD i.toNat 0).tdiv n)=(r*1000000000+a.getD i.toNat 0).tdiv n:=by
   rw [Int.tdiv_eq_ediv_of_nonneg m0]
   have:=Int.ediv_nonneg m0 (show 0<=n by omega)
   have:=Int.ediv_le_self n m0
   exact iw (by omega) (by omega)
  refine ⟨⟨⟨by rw [e1,e2],iw (by omega) (by omega)⟩,by rw [e1,e2,e3,show ((0:Int)+i).toNat=i.toNat by omega]⟩,hI.step ha h,?_,rfl⟩
  show (i - 1+1).toNat<(i+1).toNat
  omega
def kr:AFr:=⟨152,none⟩
def trA:Code:=jN Tryz.prog 152 0
def trP (id:Nat) (y:Int):Patch:=⟨(0,.islice true id 0 y) :: fG 3 17,[],[]⟩
def trU (id:Nat) (d:List Int) (N:Int):SumL Int:=
 {
  S:=fun y=>trP id y
  I:=fun y=>0<=y/\y<=N
  μ:=fun y=>y.toNat
  F:=fun y=>(.exit 0,trP id (tlI d y))
  next:=fun y=>y - 1
  ids:=fun _=>[]
  X:=fun y _=>some (trP id y,[]) }
def trN (id:Nat) (d:List Int) (N y:Int):Prop:=((decide (y>(0:Int))=true->((0:Int)<=IntKind.i64.wrap (y - (1:Int))/\IntKind.i64.wrap (y - (1:Int))<y)/\((0:Int)+IntKind.i64.wrap (y - (1:Int))).toNat<d.length)/\((bif decide (y>(0:Int)) then d.getD ((0:Int)+IntKind.i64.wrap (y - (1:Int))).toNat (0:Int)==(0:Int) else false)=true->(0:Int)<=(0:Int)/\(0:Int)<=IntKind.i64.wrap (y - (1:Int))/\IntKind.i64.wrap (y - (1:Int))<=y))/\((!bif decide (y>(0:Int)) then d.getD ((0:Int)+IntKind.i64.wrap (y - (1:Int))).toNat (0:Int)==(0:Int) else false)=true->((0:Int)=(0:Int)/\y=y)/\(trU id d N).F y=(Ex.exit (0:Nat),trP id y))/\((bif decide (y>(0:Int)) then d.getD ((0:Int)+IntKind.i64.wrap (y - (1:Int))).toNat (0:Int)==(0:Int) else false)=true->((0:Int)+(0:Int)=(0:Int)/\IntKind.i64.wrap (y - (1:Int)) - (0:Int)=(trU id d N).next y)/\(trU id d N).I ((trU id d N).next y)/\(trU id d N).μ ((trU id d N).next y)<(trU id d N).μ y/\(trU id d N).F ((trU id d N).next y)=(trU id d N).F y)
theorem XJ {id:Nat} {d:List Int} {N y:Int} (hN:N=d.length) (ld:Sm d) (h0:0<=y) (h1:y<=N):trN id d N y:=by
 have ld:=ld.le
 have ez:∀ z:Int,(0+z).toNat=z.toNat:=fun z=>by rw [Int.zero_add]
 refine ⟨⟨fun h=>?_,fun h=>?_⟩,fun h=>⟨⟨rfl,rfl⟩,?_⟩,fun h=>?_⟩
 .have h:=of_decide_eq_true h
  rw [iw (by omega) (by omega)]
  omega
 .obtain ⟨h2,_⟩:=bt.1 h
  rw [iw (by omega) (by omega)]
  omega
 .show (Ex.exit 0,trP id (tlI d y))=_
  have h:=nbt.1 h
  by_cases h2:0<y
  .have h3:=neb.1 (h h2)
   rw [iw (by omega) (by omega),ez] at h3
   rw [GX h2,if_neg h3]
  .have:y=0:=by omega
   subst this; rfl
 .obtain ⟨h2,h3⟩:=bt.1 h
  have h2:0<y:=h2
  have h3:=eb.1 h3
  rw [iw (by omega) (by omega),ez] at h3
  rw [iw (by omega) (by omega)]
  refine ⟨⟨rfl,by show y - 1 - 0=y - 1; omega⟩,?_,?_,?_⟩
  .show 0<=y - 1/\y - 1<=N
   omega
  .show (y - 1).toNat<y.toNat
   omega
  .show (Ex.exit 0,trP id (tlI d (y - 1)))=(Ex.exit 0,trP id (tlI d y))
   rw [GX h2,if_pos h3]
theorem yA {S:St} {id:Nat} {d:List Int} {N:Int} (hN:N=d.length) (ld:Sm d) (hs:fit S S (ae S ((trU id d N).S N)) []=some (.p ((0:Int)=0/\N=N))) (ho:iL S.hp (((trU id d N).S N).old)=true)
  (hb:∀ y,fw S ((trU id d N).way y) ((run cL 300).code kr trA (ae S ((trU id d N).S y)))=some (.p (trN id d N y))):CodeOk cL kr (.loop trA) S ⟨.tt,[⟨.tt,.exit 0,ae S (trP id (tlI d N))⟩]⟩:=
 mG (bP ig 300) (trU id d N) (y0:=N) ⟨by omega,by omega⟩ ⟨_,hs,rfl,rfl⟩ ho (fun y hy=>⟨_,hb y,XJ hN ld hy.1 hy.2⟩) rfl
noncomputable def ptS (a d:List Int) (N:Int):St:=u7 cL 300 152 [.islice true 1 0 N] ⟨[⟨14,.ints .i64 d⟩,⟨0,.rows .i64 a⟩],2,17⟩
theorem Qe (a d:List Int) (N:Int):fit (ptS a d N) (ptS a d N) (ae (ptS a d N) ((trU 1 d N).S N)) []=some (.p ((0:Int)=0/\N=N)):=by kernel_rfl
theorem Uo (a d:List Int) (N y:Int):fw (ptS a d N) ((trU 1 d N).way y) ((run cL 300).code kr trA (ae (ptS a d N) ((trU 1 d N).S y)))=some (.p (trN 1 d N y)):=by kernel_rfl
theorem Uq (a:List Int) {d:List Int} {N:Int} (hN:N=d.length) (ld:Sm d):CodeOk cL kr (.loop trA) (ptS a d N) ⟨.tt,[⟨.tt,.exit 0,ae (ptS a d N) (trP 1 (tlI d N))⟩]⟩:=yA hN ld (Qe a d N) (by kernel_rfl) (fun y=>Uo a d N y)
noncomputable def cPt (a:List Int) (n:Int):Ctx:=bu cL [cK 153 (Ao a n).hp.clock G9 Qc (Ao a n) (.exit 0) (Jo (-1) (val a % n) (aT a.length (val a / n))),cK 152 20 kr trA (ptS a (aT a.length (val a / n)) a.length) (.exit 0) (trP 1 (tlI (aT a.length (val a / n)) a.length))]
theorem XK {a:List Int} {n:Int} (ha:Dig a) (la:Sm a) (h0:1<=n) (h1:n<=1000000000):CtxOk (cPt a n):=
 aQ ig (Qd ha la h0 h1) (aQ ig (Uq a (cB _ _ ▸ rfl) (by show (aT _ _).length<=500000; rw [cB]; exact la)) (dG ig))
def Ur (a:List Int) (n:Int):Prop:=(((↑a.length:Int)=(↑a.length:Int)/\(0:Int)<=(↑a.length:Int)/\(↑a.length:Int)<=(1048576:Int))/\At (G9) (G9) (Qc) (Qc) (Ao a n) (Ao a n)/\At (kr) (kr) (trA) (trA) (ptS a (aT a.length (val a / n)) a.length) (ptS a (aT a.length (val a / n)) a.length))
def XL (a:List Int) (n:Int):AV:=(AV.tuple [AV.islice true 1 (0:Int) (tlI (aT a.length (val a / n)) (↑a.length:Int)),AV.int true IntKind.i64 (val a % n)])
def XM (a:List Int) (n:Int):Hp:=⟨[{ wr:=14,body:=ABody.ints IntKind.i64 (aT a.length (val a / n)) },{ wr:=(0:Nat),body:=ABody.rows IntKind.i64 a }],2,26⟩
theorem ab9 (a:List Int) (n:Int):(run (cPt a n) 300).call 153 (zA a n) (zH a)=some ⟨.p (Ur a n),[⟨.tt,XL a n,XM a n⟩]⟩:=by kernel_rfl
def XN:List Nu->List (List Int)->Option (Prop×To)
 | [.n n],[a]=>some (Dig a/\a.length<=500000/\1<=n/\n<=1000000000,.tu [.li false (aa (val a / n).toNat),.nu .i64 (val a % n)])
 | _,_=>none
theorem XO {a:List Int} {n:Int} (ha:Dig a) (h0:1<=n):val (aT a.length (val a / n))=val a / n:=by
 have h1:=ai ha
 have h2:=gP ha
 have h3:=Int.ediv_le_self n h1
 exact kW (Int.ediv_nonneg h1 (by omega)) (by omega)
theorem KZ {d:List Int} {N:Int} (h:Dig d) (hN:N=d.length):List.take (tlI d N).toNat (List.drop (Int.toNat 0) d)=aa (val d).toNat:=by
 rw [show Int.toNat 0=0 from rfl,List.drop_zero,hN]
 exact Qb h
theorem part_ok:NOk Tryz.prog (fun _=>none) hG0 153 (eT hG0 .i64 [.li,.nu (.i .i64)] XN):=by
 refine fJ (fun xs ys p t e h=>?_) ⟨_,Tryz.func153,rfl⟩
 unfold XN at e
 split at e
 .rename_i n a
  cases e
  obtain ⟨ha,la,h0,h1⟩:=h
  refine ⟨cPt a n,300,zA a n,_,_,_,_,_,XK ha la h0 h1,rfl,rfl,⟨rfl,⟨rfl,rfl⟩,trivial⟩,ab9 a n,rfl,⟨⟨rfl,by omega,by omega⟩,⟨rfl,rfl,rfl⟩,⟨rfl,rfl,rfl⟩⟩,rfl,rfl,?_⟩
  have hl:=Qa (aT a.length (val a / n))
  rw [cB] at hl
  refine ⟨⟨⟨by omega,by omega,by rw [cB]; omega⟩,?_⟩,rfl⟩
  show List.take _ (List.drop _ (aT a.length (val a / n)))=aa (val a / n).toNat
  rw [KZ (jI _ _) (by rw [cB]),XO ha h0]
 .cases e
end
end Go.Proofs.YtbhibbcjfgnmhaaGreatDoor.K
namespace Go.Dg
open Go Go.Eng
theorem Cr {n j k:Nat} {v:Int} (h0:0<=v) (h:v<pw k) (hj:k<=j):(aT n v).getD j 0=0:=by
 rcases Nat.lt_or_ge j n with h1|h1
 .rw [G7 n v j h1]
  have:=j6 hj
  rw [Int.ediv_eq_zero_of_lt h0 (by omega)]
  rfl
 .rw [List.getD_eq_getElem?_getD,List.getElem?_eq_none (by rw [cB]; exact h1)]
  rfl
theorem Ec:∀ {d:List Int} {k:Nat},Dig d->(∀ j,k<=j->d.getD j 0=0)->val d<pw k
 | [],k,_,_=>pw_pos k
 | x :: l,0,h,z=>by
  have h':=dI.1 h
  have z0:x=0:=z 0 (Nat.le_refl _)
  have:=Ec (k:=0) h'.2 (fun j _=>z (j+1) (by omega))
  have e:pw 0=1:=rfl
  show x+1000000000*val l<pw 0
  omega
 | x :: l,k+1,h,z=>by
  have h':=dI.1 h
  have:=Ec (k:=k) h'.2 (fun j hj=>z (j+1) (by omega))
  rw [kg]
  show x+1000000000*val l<_
  omega
def tmV (a b:List Int) (i:Int):Int:=val (a.take i.toNat)*val b
theorem Jq {a b:List Int} (ha:Dig a) (hb:Dig b) {i:Int} (h0:0<=i) (h1:i<=a.length):0<=tmV a b i/\tmV a b i<pw (i.toNat+b.length):=by
 have t0:=ai (ha.take i.toNat)
 have t1:=gP (ha.take i.toNat)
 have b0:=ai hb
 have b1:=gP hb
 rw [List.length_take,Nat.min_eq_left (by omega)] at t1
 refine ⟨Int.mul_nonneg t0 b0,?_⟩
 rw [Aj]
 have p:=pw_pos i.toNat
 calc val (a.take i.toNat)*val b<=pw i.toNat*val b:=Int.mul_le_mul_of_nonneg_right (by omega) b0
  _<pw i.toNat*pw b.length:=Int.mul_lt_mul_of_pos_left b1 p
structure TmI (a b:List Int) (i k c:Int) (d:List Int):Prop where
 l:d.length=a.length+b.length
 dg:Dig d
 k0:0<=k
 k1:k<=b.length
 c0:0<=c
 c1:c<1000000000
 v:val d+pw (i.toNat+k.toNat)*c=tmV a b i+pw i.toNat*(a.getD i.toNat 0*val (b.take k.toNat))
 z:∀ j:Nat,i.toNat+b.length<=j->d.getD j 0=0
theorem TmI.start {a b:List Int} (ha:Dig a) (hb:Dig b) {i:Int} (h0:0<=i) (h1:i<a.length):TmI a b i 0 0 (aT (a.length+b.length) (tmV a b i)):=by
 obtain ⟨t0,t1⟩:=Jq ha hb h0 (Int.le_of_lt h1)
 have t2:=j6 (show i.toNat+b.length<=a.length+b.length by omega)
 refine ⟨cB _ _,jI _ _,Int.le_refl _,by omega,Int.le_refl _,by decide,?_,fun j hj=>Cr t0 t1 hj⟩
 rw [kW t0 (by omega)]
 simp [val]
theorem TmI.num {a b:List Int} (ha:Dig a) (hb:Dig b) {i k c:Int} {d:List Int} (h:TmI a b i k c d) (hk:k<b.length):0<=a.getD i.toNat 0*b.getD k.toNat 0/\a.getD i.toNat 0*b.getD k.toNat 0<=999999998000000001/\0<=d.getD (i.toNat+k.toNat) 0/\d.getD (i.toNat+k.toNat) 0<1000000000:=by
 have g1:=ha.get i.toNat
 have g2:=hb.get k.toNat
 have g3:=h.dg.get (i.toNat+k.toNat)
 refine ⟨Int.mul_nonneg g1.1 g2.1,?_,g3⟩
 exact Int.mul_le_mul (show a.getD i.toNat 0<=999999999 by omega) (show b.getD k.toNat 0<=999999999 by omega) g2.1 (by decide)
theorem TmI.step {a b:List Int} (ha:Dig a) (hb:Dig b) {i k c:Int} {d:List Int} (h:TmI a b i k c d) (hi:i<a.length) (hk:k<b.length):
  TmI a b i (k+1) ((d.getD (i.toNat+k.toNat) 0+a.getD i.toNat 0*b.getD k.toNat 0+c).tdiv 1000000000) (d.set (i.toNat+k.toNat) ((d.getD (i.toNat+k.toNat) 0+a.getD i.toNat 0*b.getD k.toNat 0+c).tmod 1000000000)):=by
 obtain ⟨m0,m1,m2,m3⟩:=h.num ha hb hk
 obtain ⟨l,dg,k0,k1,c0,c1,v,z⟩:=h
 have n0:0<=d.getD (i.toNat+k.toNat) 0+a.getD i.toNat 0*b.getD k.toNat 0+c:=by omega
 rw [Int.tdiv_eq_ediv_of_nonneg n0,Int.tmod_eq_emod_of_nonneg n0]
 have ek:(k+1).toNat=k.toNat+1:=by omega
 have hl:i.toNat+k.toNat<d.length:=by omega
 refine ⟨by simp [l],dg.set _ (by omega),by omega,by omega,by omega,by omega,?_,fun j hj=>?_⟩
 .rw [ek,lN _ _ _ hl,dM (by omega),<- Nat.add_assoc,kg]
  have ed:=Int.mul_ediv_add_emod (d.getD (i.toNat+k.toNat) 0+a.getD i.toNat 0*b.getD k.toNat 0+c) 1000000000
  rw [Aj] at v ⊢
  generalize (d.getD (i.toNat+k.toNat) 0+a.getD i.toNat 0*b.getD k.toNat 0+c) / 1000000000=Q at *
  generalize (d.getD (i.toNat+k.toNat) 0+a.getD i.toNat 0*b.getD k.toNat 0+c) % 1000000000=R at *
  generalize d.getD (i.toNat+k.toNat) 0=x at *
  generalize a.getD i.toNat 0=y at *
  generalize b.getD k.toNat 0=w at *
  generalize pw i.toNat=p at *
  generalize pw k.toNat=q at *
  generalize tmV a b i=V at *
  generalize val (b.take k.toNat)=u at *
  generalize val d=D at *
  grind
 .rw [getD_set (by omega)]
  exact z j hj
def tmW (a b:List Int) (i:Int):Int:=tmV a b i+pw i.toNat*(a.getD i.toNat 0*val b)
theorem XP {a b:List Int} {i:Int} (h0:0<=i) (h1:i<a.length):tmW a b i=tmV a b (i+1):=by
 unfold tmW tmV
 rw [show (i+1).toNat=i.toNat+1 by omega,dM (by omega)]
 grind
theorem TmI.fin {a b:List Int} {i k c:Int} {d:List Int} (h:TmI a b i k c d) (hk:¬ k<b.length):k=b.length/\c=tmW a b i / pw (i.toNat+b.length)/\d=aT (a.length+b.length) (tmW a b i % pw (i.toNat+b.length)):=by
 obtain ⟨l,dg,k0,k1,c0,c1,v,z⟩:=h
 have e:k=b.length:=by omega
 subst e
 have d0:=ai dg
 have d1:=Ec dg z
 have p:=pw_pos (i.toNat+b.length)
 rw [show ((b.length:Int)).toNat=b.length by omega,List.take_length] at v
 have hW:tmW a b i=val d+pw (i.toNat+b.length)*c:=v.symm
 refine ⟨rfl,?_,qc dg l ?_⟩
 .rw [hW,Int.add_mul_ediv_left _ _ (by omega),Int.ediv_eq_zero_of_lt d0 d1]; omega
 .rw [hW,Int.add_mul_emod_self_left,Int.emod_eq_of_lt d0 d1]
theorem XQ {a b:List Int} (ha:Dig a) (hb:Dig b) {i:Int} (h0:0<=i) (h1:i<a.length):
  (aT (a.length+b.length) (tmW a b i % pw (i.toNat+b.length))).set (i.toNat+b.length) (tmW a b i / pw (i.toNat+b.length))=aT (a.length+b.length) (tmV a b (i+1)):=by
 obtain ⟨t0,t1⟩:=Jq ha hb (show 0<=i+1 by omega) (show i+1<=a.length by omega)
 have p:=pw_pos (i.toNat+b.length)
 rw [XP h0 h1]
 rw [show (i+1).toNat+b.length=(i.toNat+b.length)+1 by omega,kg] at t1
 have m0:=Int.emod_nonneg (tmV a b (i+1)) (show pw (i.toNat+b.length)≠0 by omega)
 have m1:=Int.emod_lt_of_pos (tmV a b (i+1)) p
 have m2:=j6 (show i.toNat+b.length<=a.length+b.length by omega)
 have q0:=Int.ediv_nonneg t0 (show 0<=pw (i.toNat+b.length) by omega)
 have q1:tmV a b (i+1) / pw (i.toNat+b.length)<1000000000:=Int.ediv_lt_of_lt_mul p (by omega)
 have ed:=Int.mul_ediv_add_emod (tmV a b (i+1)) (pw (i.toNat+b.length))
 apply qc ((jI _ _).set _ ⟨q0,q1⟩)
 .rw [List.length_set,cB]
 .rw [lN _ _ _ (by rw [cB]; omega),Cr m0 m1 (Nat.le_refl _),kW m0 (by omega)]
  rw [Int.sub_zero]
  omega
theorem XR {a b:List Int} (ha:Dig a) (hb:Dig b):val (aT (a.length+b.length) (tmV a b a.length))=val a*val b:=by
 obtain ⟨t0,t1⟩:=Jq ha hb (show 0<=(a.length:Int) by omega) (Int.le_refl _)
 rw [show ((a.length:Int)).toNat=a.length by omega] at t1
 rw [kW t0 t1]
 unfold tmV
 rw [show ((a.length:Int)).toNat=a.length by omega,List.take_length]
end Go.Dg
namespace Go.Proofs.YtbhibbcjfgnmhaaGreatDoor.K
open Go Go.Eng Go.Dg
noncomputable section
def zB (a b:List Int):List AV:=[.lslice 0 a.length,.lslice 1 b.length]
def zG (a b:List Int):Hp:=fI true hG0 [(.i64,a),(.i64,b)]
def xZ:AFr:=⟨141,none⟩
def Jr:Code:=jN Tryz.prog 141 0
def Qf:Code:=jN Tryz.prog 141 1
noncomputable def toS (a b:List Int):St:=u7 cL 300 141 (zB a b) (zG a b)
def tmL (a b:List Int):Nat:=a.length+b.length
def toP (i:Int) (d:List Int):Patch:=⟨fG 6 6++(20,.int true .i64 i) :: fG 21 41,[(2,.ints .i64 d)],[]⟩
def toU (a b:List Int):SumL Int:=
 {
  S:=fun i=>toP i (aT (tmL a b) (tmV a b i))
  I:=fun i=>0<=i/\i<=a.length
  μ:=fun i=>(a.length - i).toNat
  F:=fun _=>(.exit 0,toP a.length (aT (tmL a b) (tmV a b a.length)))
  next:=fun i=>i+1
  ids:=fun _=>[]
  X:=fun i _=>some (toP i (aT (tmL a b) (tmV a b i)),[]) }
noncomputable def Ap (a b:List Int) (i:Int):St:=ab4 cL 300 xZ Jr (ae (toS a b) ((toU a b).S i))
def tiP (k c:Int) (d:List Int):Patch:=⟨(8,.int true .i64 c) :: fG 9 3++(27,.int true .i64 k) :: fG 28 26,[(2,.ints .i64 d)],[]⟩
def tiX (a b:List Int) (i:Int):Patch:=tiP b.length (tmW a b i / pw (i.toNat+b.length)) (aT (tmL a b) (tmW a b i % pw (i.toNat+b.length)))
def tiU (a b:List Int) (i:Int):SumL (Int×Int×List Int):=
 {
  S:=fun (k,c,d)=>tiP k c d
  I:=fun (k,c,d)=>TmI a b i k c d
  μ:=fun (k,_,_)=>(b.length - k).toNat
  F:=fun _=>(.exit 2,tiX a b i)
  next:=fun (k,c,d)=>(k+1,(d.getD (i.toNat+k.toNat) 0+a.getD i.toNat 0*b.getD k.toNat 0+c).tdiv 1000000000,d.set (i.toNat+k.toNat) ((d.getD (i.toNat+k.toNat) 0+a.getD i.toNat 0*b.getD k.toNat 0+c).tmod 1000000000))
  ids:=fun _=>[]
  X:=fun (k,c,d) _=>some (tiP k c d,[]) }
noncomputable def XT (a b:List Int) (i:Int):Ctx:=bu cL [cK 141 (Ap a b i).hp.clock xZ Qf (Ap a b i) (.exit 2) (tiX a b i)]
def hZ (l:List (Nat×AV)):Nat->Nat->Option AV:=fun _ t=>match l with
 | []=>none
 | x :: l=>match Nat.beq t x.1 with
  | true=>some x.2
  | false=>hZ l 0 t
termination_by structural l
def cHz (t:Nat):Ctx:=gK cL (hZ [(t,.bool false false)])
theorem XU (t:Nat):CtxOk (cHz t):=cz ig _
def Ha (a b:List Int):Prop:=(0:Int)=(0:Int)/\List.replicate (IntKind.i64.wrap ((↑a.length:Int)+(↑b.length:Int))).toNat (0:Int)=aT (tmL a b) (tmV a b (0:Int))
theorem Qg (a b:List Int):fit (toS a b) (toS a b) (ae (toS a b) ((toU a b).S 0)) ([])=some (.p (Ha a b)):=by kernel_rfl
def Hd (a b:List Int) (i:Int):Prop:=((0:Int)=(0:Int)/\(0:Int)=(0:Int))/\aT (tmL a b) (tmV a b i)=aT (tmL a b) (tmV a b i)
theorem Qh (a b:List Int) (i:Int):fit (Ap a b i) (Ap a b i) (ae (Ap a b i) ((tiU a b i).S (0,0,aT (tmL a b) (tmV a b i)))) ([])=some (.p (Hd a b i)):=by kernel_rfl
def Js (a b:List Int) (i k c:Int) (d:List Int):Prop:=(decide (k<(↑b.length:Int))=true->(((0:Int)<=k/\k<(↑b.length:Int))/\k.toNat<b.length)/\(((0:Int)<=IntKind.i64.wrap (i+k)/\IntKind.i64.wrap (i+k)<IntKind.i64.wrap ((↑a.length:Int)+(↑b.length:Int)))/\((0:Int)+IntKind.i64.wrap (i+k)).toNat<d.length)/\((0:Int)<=IntKind.i64.wrap (i+k)/\IntKind.i64.wrap (i+k)<IntKind.i64.wrap ((↑a.length:Int)+(↑b.length:Int)))/\((0:Int)+IntKind.i64.wrap (i+k)).toNat<d.length)/\((!decide (k<(↑b.length:Int)))=true->((c=c/\k=k)/\d=d)/\(tiU a b i).F (k,c,d)=(Ex.exit (2:Nat),tiP k c d))/\(decide (k<(↑b.length:Int))=true->((IntKind.i64.wrap ((IntKind.i64.wrap (IntKind.i64.wrap (d.getD ((0:Int)+IntKind.i64.wrap (i+k)).toNat (0:Int)+IntKind.i64.wrap (a.getD i.toNat (0:Int)*b.getD k.toNat (0:Int)))+c)).tdiv (1000000000:Int))=(d.getD (i.toNat+k.toNat) (0:Int)+a.getD i.toNat (0:Int)*b.getD k.toNat (0:Int)+c).tdiv (1000000000:Int)/\IntKind.i64.wrap (k+(1:Int))=k+(1:Int))/\d.set ((0:Int)+IntKind.i64.wrap (i+k)).toNat ((IntKind.i64.wrap (IntKind.i64.wrap (d.getD ((0:Int)+IntKind.i64.wrap (i+k)).toNat (0:Int)+IntKind.i64.wrap (a.getD i.toNat (0:Int)*b.getD k.toNat (0:Int)))+c)).tmod (1000000000:Int))=d.set (i.toNat+k.toNat) ((d.getD (i.toNat+k.toNat) (0:Int)+a.getD i.toNat (0:Int)*b.getD k.toNat (0:Int)+c).tmod (1000000000:Int)))/\(tiU a b i).I ((tiU a b i).next (k,c,d))/\(tiU a b i).μ ((tiU a b i).next (k,c,d))<(tiU a b i).μ (k,c,d)/\(tiU a b i).F ((tiU a b i).next (k,c,d))=(tiU a b i).F (k,c,d))
theorem Us (a b:List Int) (i k c:Int) (d:List Int):fw (Ap a b i) ((tiU a b i).way ((k,c,d))) ((run cL 300).code xZ Qf (ae (Ap a b i) ((tiU a b i).S (k,c,d))))=some (.p (Js a b i k c d)):=by kernel_rfl
def Jt (a b:List Int) (i:Int):Prop:=(decide (i<(↑a.length:Int))=true->(((0:Int)<=i/\i<(↑a.length:Int))/\i.toNat<a.length)/\At (xZ) (xZ) (Qf) (Qf) (Ap a b i) (Ap a b i)/\((0:Int)<=IntKind.i64.wrap (i+(↑b.length:Int))/\IntKind.i64.wrap (i+(↑b.length:Int))<IntKind.i64.wrap ((↑a.length:Int)+(↑b.length:Int)))/\((0:Int)+IntKind.i64.wrap (i+(↑b.length:Int))).toNat<(aT (tmL a b) (tmW a b i % pw (i.toNat+b.length))).length)/\((!decide (i<(↑a.length:Int)))=true->(i=i/\aT (tmL a b) (tmV a b i)=aT (tmL a b) (tmV a b i))/\(toU a b).F i=(Ex.exit (0:Nat),toP i (aT (tmL a b) (tmV a b i))))/\(decide (i<(↑a.length:Int))=true->(IntKind.i64.wrap (i+(1:Int))=(toU a b).next i/\(aT (tmL a b) (tmW a b i % pw (i.toNat+b.length))).set ((0:Int)+IntKind.i64.wrap (i+(↑b.length:Int))).toNat (tmW a b i / pw (i.toNat+b.length))=aT (tmL a b) (tmV a b ((toU a b).next i)))/\(toU a b).I ((toU a b).next i)/\(toU a b).μ ((toU a b).next i)<(toU a b).μ i/\(toU a b).F ((toU a b).next i)=(toU a b).F i)
theorem Ut (a b:List Int) (i:Int):fw (toS a b) ((toU a b).way (i)) ((run (XT a b i) 300).code xZ Jr (ae (toS a b) ((toU a b).S i)))=some (.p (Jt a b i)):=by kernel_rfl
def Nb (a b:List Int) (i:Int):Prop:=decide (i<(↑a.length:Int))=false/\(true=true->(i=i/\aT (tmL a b) (tmV a b i)=aT (tmL a b) (tmV a b i))/\(toU a b).F i=(Ex.exit (0:Nat),toP i (aT (tmL a b) (tmV a b i))))
theorem XV (a b:List Int) (i:Int):fw (toS a b) ((toU a b).way (i)) ((run (cHz 21) 300).code xZ Jr (ae (toS a b) ((toU a b).S i)))=some (.p (Nb a b i)):=by kernel_rfl
end
end Go.Proofs.YtbhibbcjfgnmhaaGreatDoor.K
