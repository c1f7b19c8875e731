/- What is proved: MtfTwo returns true, whatever the input (part 8). No conditions beyond those of the row. -/
import Derived.Test.YtbiiiloimbjpaaaGreatDoorPF
import Derived.Test.YtbiiiloimbjpaaaGreatDoorPG
import Derived.Shelf.Small.Bits
import Derived.Shelf.Strconv.Itoa0
import Derived.Shelf.Bits.Mul64
import Derived.Test.YtbiiiloimbjpaaaGreatDoorProg
import Derived.Laws.Externs
import Derived.KernelRfl
import Derived.Laws.BitsLemmas
open Go.IntKind (i64 u64)
set_option linter.unusedVariables false
set_option linter.unusedSimpArgs false
set_option linter.unusedSectionVars false
/-
 DERIVED: THE SHELF's CONTRACTS AT THIS DUMP, IN PLAIN WORDS (tools/lay-plain.mjs out of 'TryzShelf.lean', which tools/lay-shelf.mjs wrote): THE SAME DECLARATIONS UNDER THE SAME NAMES: 'import', 'namespace', 'open', 'def', 'theorem' AND NOTHING ELSE: no command of the shelf's: FOR A HAND-IN. Each laying: the table of numbers ('.._ren') and one theorem, a field a fact of the dump's own or the kernel's comparison;each contract: ONE APPLICATION.
-/
namespace Go.Proofs
open Go.Shelf
def Tryz.lays134_ren:Go.Shelf.Ren:=⟨fun|134=>145|129=>152|n=>n,fun|53=>128|3=>3|4=>4|46=>52|5=>5|9=>9|n=>n,fun|n=>n⟩
theorem Tryz.lays134:Go.Proofs.Lays.n134 Tryz.prog Tryz.lays134_ren:={
 mixed:=by kernel_rfl
 f129:=Tryz.func152.trans (bL some (by kernel_rfl))
 f134:=Tryz.func145.trans (bL some (by kernel_rfl))
 t3:=Tryz.underlying3
 a3:=Tryz.isAgg3
 z3:=Tryz.sizeOf3
 v3:=Tryz.zeroValue3
 t4:=Tryz.underlying4
 a4:=Tryz.isAgg4
 z4:=Tryz.sizeOf4
 v4:=Tryz.zeroValue4
 t5:=Tryz.underlying5
 a5:=Tryz.isAgg5
 z5:=Tryz.sizeOf5
 v5:=Tryz.zeroValue5
 t9:=Tryz.underlying9
 a9:=Tryz.isAgg9
 z9:=Tryz.sizeOf9
 v9:=Tryz.zeroValue9
 t46:=Tryz.underlying52
 a46:=Tryz.isAgg52
 z46:=Tryz.sizeOf52
 v46:=Tryz.zeroValue52
 t53:=Tryz.underlying128
 a53:=Tryz.isAgg128
 z53:=Tryz.sizeOf128
 v53:=Tryz.zeroValue128 }
theorem Tryz.bits_LeadingZeros64 (x:Int) (w:World) (E:0<=x) (h1:x<=18446744073709551615):
  Calls Tryz.prog 145 #[.int .u64 x] w fun e w'=>e=.returned (.int .i64 (64 - (Lib.bitLen x.toNat:Int)))/\w'=w:=Any.bits_LeadingZeros64 Tryz.lays134 x w E h1
def Tryz.lays264_ren:Go.Shelf.Ren:=⟨fun|264=>130|n=>n,fun|53=>128|46=>52|n=>n,fun|n=>n⟩
theorem Tryz.lays264:Go.Proofs.Lays.n264 Tryz.prog Tryz.lays264_ren:={
 mixed:=by kernel_rfl
 f264:=Tryz.func130.trans (bL some (by kernel_rfl))
 t46:=Tryz.underlying52
 a46:=Tryz.isAgg52
 z46:=Tryz.sizeOf52
 v46:=Tryz.zeroValue52
 t53:=Tryz.underlying128
 a53:=Tryz.isAgg128
 z53:=Tryz.sizeOf128
 v53:=Tryz.zeroValue128 }
open Go.RowKit Go.Lib in
theorem Tryz.bits_Mul64 (x y:Nat) (E:x<18446744073709551616) (J:y<18446744073709551616) (w:World):
  Calls Tryz.prog 130 #[.int .u64 x,.int .u64 y] w fun e w'=>e=.returned (.tuple #[.int .u64 ((x*y / 18446744073709551616:Nat):Int),.int .u64 ((x*y % 18446744073709551616:Nat):Int)])/\w'=w:=Any.bits_Mul64 Tryz.lays264 x y E J w
end Go.Proofs
namespace Go.Proofs.YtbiiiloimbjpaaaGreatDoor.K
open Go Go.Eng
theorem all_names:(Tryz.prog.funcs.toList.all fun fn=>!(fn.name=="runtime.NumGoroutine"))=true:=by kernel_rfl
theorem prog_ok:ProgOk Tryz.prog:=by
 refine ⟨fun f fn h _=>?_,by kernel_rfl⟩;have h1:fn∈Tryz.prog.funcs.toList:=by rw [Array.mem_toList_iff];exact yV h
 have:=zg.1 all_names fn h1;simpa using this
theorem mkInt_rel {σ:Sg} {s:Bool} {k:IntKind} {n:Int}:VRel σ (gB s k n) (.int k n):=by
 cases s with
 | true=>rfl
 | false=>
  unfold gB xA
  cases n with
  | ofNat m=>cases m <;> rfl
  | negSucc m=>cases m <;> rfl
def Pq (s b:Bool) (v:AV):Option (Nd×AV):=
 match s with
 | true=>some (.p (b=true),v)
 | false=>match b with
  | true=>some (.tt,v)
  | false=>none
theorem Bj {s b:Bool} {v w:AV} {nd:Nd} (e:Pq s b v=some (nd,w)) (hn:nd.val):w=v/\b=true:=by
 unfold Pq at e;split at e
 .cases e;exact ⟨rfl,hn⟩
 .split at e
  .cases e;exact ⟨rfl,rfl⟩
  .cases e
def ext (f:FuncId) (args:List AV):Option (Nd×AV):=
 match Nat.beq f 131 with
 | true=>match args with
  | [.int s .u64 x,.int s' .u64 y,.int d .u64 c]=>Pq (s||s'||d) (decide (0<=x/\0<=y/\0<=c/\c<=1)) (.tuple [gB (s||s'||d) .u64 ((x+y+c) % 18446744073709551616),gB (s||s'||d) .u64 ((x+y+c) / 18446744073709551616)])
  | _=>none
 | false=>none
theorem add64_run (x y c:Int) (f:0<=x) (g:0<=y) (d:0<=c) (h:c<=1) (w:World):
  (callFunc 131 #[.int .u64 x,.int .u64 y,.int .u64 c]).run Tryz.prog w=.ok (.value (.tuple #[.int .u64 ((x+y+c) % 18446744073709551616),.int .u64 ((x+y+c) / 18446744073709551616)])) w:=by
 rw [run_callFunc_extern Tryz.func131 (by kernel_rfl) (by kernel_rfl) (by kernel_rfl) (e:=add64Entry) (by kernel_rfl),run_add64 x y c f g d h];rfl
theorem ext_ok:O1 Tryz.prog ext:=by
 intro f args nd v e hn σ A W ha;unfold ext at e;split at e
 .rename_i j;have:=aP j;subst this;split at e
  .rename_i s x s' y k c;obtain ⟨rfl,hd⟩:=Bj e hn;have hd:=bK hd;obtain ⟨V,L,i,rfl,o,p,d,rfl,q,l,g,rfl,h⟩:=ha;rw [d,g,show l=[] from h] at i;have n:A=#[.int .u64 x,.int .u64 y,.int .u64 c]:=by
    apply kR.1;simpa using i
   subst n;exact ⟨_,⟨_,rfl,_,_,rfl,mkInt_rel,_,_,rfl,mkInt_rel,rfl⟩,add64_run x y c hd.1 hd.2.1 hd.2.2.1 hd.2.2.2 W⟩
  .cases e
 .cases e
def RF:List AV->Option (Nd×AV)
 | [.int s .u64 x]=>some (.p (0<=x/\x<=18446744073709551615),gB s .i64 (64 - (Lib.bitLen x.toNat:Int)))
 | _=>none
def two64:Int:=18446744073709551616
def Cy:List AV->Option (Nd×AV)
 | [.int s .u64 x,.int s' .u64 y]=>Pq (s||s') (decide (0<=x/\x<18446744073709551616/\0<=y/\y<18446744073709551616)) (.tuple [gB (s||s') .u64 (x*y / two64),gB (s||s') .u64 (x*y % two64)])
 | _=>none
theorem an6:PureOk Tryz.prog 145 RF:=by
 refine Iz ⟨_,Tryz.func145,rfl⟩ fun args nd v e hn σ A W ha=>?_;unfold RF at e;split at e
 .rename_i s x;cases e;have hd:=hn;obtain ⟨V,L,d,rfl,c⟩:=ha;rw [show L=[] from c] at d;have f:A=#[.int .u64 x]:=by
   apply kR.1;simpa using d
  subst f;exact ⟨_,mkInt_rel,Tryz.bits_LeadingZeros64 x W hd.1 hd.2⟩
 .cases e
theorem RH:PureOk Tryz.prog 130 Cy:=by
 refine Iz ⟨_,Tryz.func130,rfl⟩ fun args nd v e hn σ A W ha=>?_;unfold Cy at e;split at e
 .rename_i s x s' y;obtain ⟨rfl,hd⟩:=Bj e hn;obtain ⟨h1,h2,h3,k⟩:=bK hd;obtain ⟨V,L,f,rfl,l,g,c,rfl,d⟩:=ha;rw [c,show g=[] from d] at f;have h:A=#[.int .u64 x,.int .u64 y]:=by
   apply kR.1;simpa using f
  subst h;refine ⟨.tuple #[.int .u64 (x*y / two64),.int .u64 (x*y % two64)],⟨_,rfl,_,_,rfl,mkInt_rel,_,_,rfl,mkInt_rel,rfl⟩,?_⟩;have:=Tryz.bits_Mul64 x.toNat y.toNat (by omega) (by omega) W;rw [iN h1,iN h3] at this;have i:((x.toNat*y.toNat / 18446744073709551616:Nat):Int)=x*y / two64:=by rw [mX,gu,iN h1,iN h3];rfl
  have j:((x.toNat*y.toNat % 18446744073709551616:Nat):Int)=x*y % two64:=by rw [uP,gu,iN h1,iN h3];rfl
  rw [i,j] at this;exact this
 .cases e
noncomputable def aja:List (FuncId×eT):=[(145,RF),(130,Cy)]
theorem aec:Cr Tryz.prog aja:=by
 intro x c;simp only [aja,aN,eX,eY] at c;rcases c with rfl|rfl
 .exact an6
 .exact RH
noncomputable def cD0:Ctx:=mkC Tryz.prog aja lw
theorem Ms:CtxOk cD0:=wO prog_ok aec (iY _)
noncomputable def cD:Ctx:={ cD0 with loop:=fun fr a s=>match Nat.beq fr.fn 133 with|true=>ED (run cD0 60) fr a 3 s|false=>none }
theorem an7:CtxOk cD:=by
 refine ⟨Ms.prog,Ms.con,Ms.ext,fun fr a s q e=>?_,fun _ _ _ _ _ _ _ e=>(by cases e)⟩;have e:(match Nat.beq fr.fn 133 with|true=>ED (run cD0 60) fr a 3 s|false=>none)=some q:=e;split at e
 .exact EF (dw Ms 60) 3 s q e
 .cases e
theorem aed (hi lo y:Int):jr ((run cD 100).call 133 [.int true .u64 hi,.int true .u64 lo,.int true .u64 y] ⟨[],0,1⟩)=some (.p (ah8 hi lo y),.tuple [.int true .u64 (aea hi lo y),.int true .u64 (aeb hi lo y)]):=by kernel_rfl
def Mt:List AV->Option (Nd×AV)
 | [.int s .u64 hi,.int s' .u64 lo,.int c .u64 y]=>Pq (s||s'||c) (decide (0<=hi/\hi<y/\y<18446744073709551616/\0<=lo/\lo<18446744073709551616))
   (.tuple [gB (s||s'||c) .u64 ((hi*two64+lo) / y),gB (s||s'||c) .u64 ((hi*two64+lo) % y)])
 | _=>none
theorem ajb:PureOk Tryz.prog 133 Mt:=by
 refine YB (C:=cD) an7 (fun _=>rfl) (n:=100) (fun args nd v e hn=>?_) ⟨_,Tryz.func133,rfl⟩;unfold Mt at e;split at e
 .rename_i s hi s' lo i y;obtain ⟨rfl,hb⟩:=Bj e hn;obtain ⟨h1,h2,h3,j,o⟩:=bK hb;refine ⟨[.int true .u64 hi,.int true .u64 lo,.int true .u64 y],_,_,fun σ L h=>h,aed hi lo y,?_⟩;obtain ⟨c,p2,d⟩:=YS hi.toNat lo.toNat y.toNat (by omega) (by omega) (by omega);rw [iN h1,iN j,iN (show 0<=y by omega)] at c p2 d;refine ⟨c,fun τ V k σ=>?_⟩;obtain ⟨K,rfl,p,q,f,rfl,r,l,g,rfl,e3⟩:=k;rw [show l=[] from e3] at g;rw [g] at f;refine ⟨K,rfl,_,_,f,?_,_,_,rfl,?_,rfl⟩
  .rw [p2];exact mkInt_rel
  .rw [d];exact mkInt_rel
 .cases e
end Go.Proofs.YtbiiiloimbjpaaaGreatDoor.K
namespace Go.Ar
open Go
def two64:Int:=18446744073709551616
def okF (a:Int):Bool:=decide (-4503599627370496<=a)&&decide (a<=4503599627370496)
def rd (n d:Int) (c:Bool):Int:=bif c then -(-n / d) else n / d
def xq (v:Int):Int:=bif okF v then v else 0
def IW (v:Int):Int:=bif okF v then 0 else 6
def sg (a b:Int):Int:=bif decide (b<0) then -a else a
def okS (a n d:Int):Bool:=okF a&&(decide (-4611686018427387904<=n)&&decide (n<=4611686018427387904)&&decide (1<=d)&&decide (d<=4611686018427387904))
def RI (a n d:Int) (c:Bool):Int:=bif okS a n d then xq (rd (a*n) d c) else 0
def RJ (a n d:Int) (c:Bool):Int:=bif okS a n d then IW (rd (a*n) d c) else 2
def xC (a:Int):Int:=bif bif decide (a < -4503599627370496) then true else decide (a>4503599627370496) then 2 else 0
def xSz (a:Int):Int:=bif decide (a<0) then u64.wrap (u64.wrap (i64.wrap (0 - i64.wrap (a+1)))+1) else u64.wrap a
def xHi (p:Int):Int:=p / two64
def xLo (p:Int):Int:=p % two64
def xNo (p d:Int):Bool:=decide (xHi p>=d)
def xN (p d:Int) (c neg:Bool):Int:=bif xNo p d then 0 else
 bif bif !(c==neg) then decide ((xHi p*two64+xLo p) % d>0) else false then u64.wrap ((xHi p*two64+xLo p) / d+1) else (xHi p*two64+xLo p) / d
def YT (p d:Int) (c neg:Bool):Bool:=bif !(bif xNo p d then false else true) then true else decide (xN p d c neg>4503599627370496)
def xV (p d:Int) (c neg:Bool):Int:=bif YT p d c neg then 0 else bif neg then i64.wrap (0 - i64.wrap (xN p d c neg)) else i64.wrap (xN p d c neg)
def xE (p d:Int) (c neg:Bool):Int:=bif YT p d c neg then 6 else 0
def Mv (a b:Int):Bool:=!(decide (a<0)==decide (b<0))
def xIn (a b:Int):Prop:=decide (0<=a/\a<18446744073709551616/\0<=b/\b<18446744073709551616)=true
def YU (p d:Int):Prop:=decide (0<=xHi p/\xHi p<d/\d<18446744073709551616/\0<=xLo p/\xLo p<18446744073709551616)=true
theorem i64w {n:Int} (c:-9223372036854775808<=n) (h1:n<9223372036854775808):i64.wrap n=n:=by rw [IntKind.wrap_i64];omega
theorem mg {n:Int} (c:0<=n) (h1:n<18446744073709551616):u64.wrap n=n:=by rw [IntKind.wrap_u64];omega
theorem IX {a:Int} (c:-9223372036854775808<=a) (h1:a<9223372036854775808):xSz a=sg a a:=by
 unfold xSz sg;by_cases h:a<0
 .simp only [h,iD,aQ];rw [i64w (n:=a+1) (by omega) (by omega),i64w (n:=0 - (a+1)) (by omega) (by omega),mg (n:=0 - (a+1)) (by omega) (by omega),mg (by omega) (by omega)];omega
 .simp only [h,iB,aR];rw [mg (by omega) (by omega)]
theorem KJ (a:Int):0<=sg a a:=by
 unfold sg;by_cases h:a<0
 .simp only [h,iD,aQ];omega
 .simp only [h,iB,aR];omega
theorem gW {a:Int}:okF a=true ↔ -4503599627370496<=a/\a<=4503599627370496:=by simp [okF]
theorem sJ {a:Int}:okF a=false ↔ a < -4503599627370496\/4503599627370496<a:=by rw [<- DK,gW];omega
theorem YV (a:Int):xC a=bif okF a then 0 else 2:=by
 unfold xC
 cases h:okF a with
 | true=>
  have:=gW.1 h;simp [show ¬ a < -4503599627370496 by omega,show ¬ a>4503599627370496 by omega]
 | false=>
  rcases sJ.1 h with h|h
  .simp [h]
  .simp [show ¬ a < -4503599627370496 by omega,h]
theorem Cz {p d:Int} (hd:0<d):-p / d=-(p / d) - (if 0<p % d then 1 else 0):=by
 have h1:=gL p d;have h2:=dE p (show d≠0 by omega);have h3:=d9 p hd;split
 .have c:(-p) / d=-(p / d) - 1/\(-p) % d=d - p % d:=by
   rw [Int.ediv_emod_unique hd];refine ⟨?_,by omega,by omega⟩;rw [uY,rY];omega
  exact c.1
 .have:p % d=0:=by omega
  have c:(-p) / d=-(p / d)/\(-p) % d=0:=by rw [Int.ediv_emod_unique hd];refine ⟨?_,by omega,by omega⟩;rw [rY];omega
  omega
theorem an8 {p d:Int} (hp:0<=p) (u:p<340282366920938463463374607431768211456) (hd:0<d) (o:d<18446744073709551616) (c neg:Bool) (n:Int) (hn:n=bif neg then -p else p) (i:p<18446744073709551615*d\/(!(c==neg))=false):
  xV p d c neg=xq (rd n d c)/\xE p d c neg=IW (rd n d c)/\(xNo p d=false->YU p d):=by
 have x:xHi p*two64+xLo p=p:=by unfold xHi xLo;have:=gL p two64;rw [eO] at this;exact this
 have y:0<=xLo p:=dE p (by decide);have l1:xLo p<18446744073709551616:=d9 p (by decide);have z:0<=xHi p:=bu hp (by decide);have J:0<=p / d:=bu hp (by omega);have r0:=dE p (show d≠0 by omega);have rv:rd n d c=bif neg then -(p / d+(if (!(c==neg))=true/\0<p % d then 1 else 0)) else p / d+(if (!(c==neg))=true/\0<p % d then 1 else 0):=by subst hn;unfold rd;cases neg <;> cases c <;> simp [Cz hd] <;> split <;> omega
 by_cases j:xHi p>=d
 .-- A f r not fit
  have l:xNo p d=true:=by simp [xNo,j]
  have D:18446744073709551616<=p / d:=by
   rw [jf hd];have h2:d*two64<=xHi p*two64:=bG j (by decide);have h3:(18446744073709551616:Int)*d=d*two64:=by rw [eO];rfl
   omega
  have hb:YT p d c neg=true:=by simp [YT,l]
  have g:okF (rd n d c)=false:=by rw [sJ,rv];cases neg <;> simp <;> split <;> omega
  refine ⟨by simp [xV,hb,xq,g],by simp [xE,hb,IW,g],fun h=>by rw [l] at h;cases h⟩
 .have l:xNo p d=false:=by simp [xNo];omega
  have q:p<d*18446744073709551616:=by
   have h2:(xHi p+1)*two64<=d*two64:=bG (by omega) (by decide);rw [iQ] at h2;unfold two64 at *
   omega
  have K:p / d<18446744073709551616:=by rw [Dp hd];rw [eO];exact q
  have s:xV p d c neg=xq (rd n d c)/\xE p d c neg=IW (rd n d c):=by
   have hN:xN p d c neg=p / d+(if (!(c==neg))=true/\0<p % d then 1 else 0):=by
    unfold xN;rw [l,x]
    cases E:!(c==neg) with
    | false=>simp
    | true=>
     by_cases t:0<p % d
     .simp only [aQ,aR,t,iD,gt_iff_lt,and_self,bn];rw [mg (by omega)];have:p / d≠18446744073709551615:=by
       intro hq;have H:p / d*d<=p:=oP p (by omega);rw [hq] at H;rcases i with i|i
       .omega
       .rw [E] at i;cases i
      omega
     .simp [t]
   generalize I:p / d+(if (!(c==neg))=true/\0<p % d then 1 else 0)=k at hN rv;have k0:0<=k:=by rw [<- I];split <;> omega
   unfold xV xE YT;rw [l,hN,rv];by_cases hb:k>4503599627370496
   .have g:okF (bif neg then -k else k)=false:=by
     rw [sJ];cases neg <;> simp <;> omega
    simp [hb,xq,IW,g]
   .have g:okF (bif neg then -k else k)=true:=by
     rw [gW];cases neg <;> simp <;> omega
    simp only [hb,iB,aQ,aR,oU,xq,IW,g];refine ⟨?_,trivial⟩;rw [i64w (n:=k) (by omega) (by omega),i64w (n:=0 - k) (by omega) (by omega)];cases neg <;> simp
  refine ⟨s.1,s.2,fun _=>?_⟩;unfold YU;rw [aT];exact ⟨z,by omega,o,y,l1⟩
def Pt (a n d:Int):Bool:=bif xC a != 0 then true else bif decide (n < -4611686018427387904) then true else bif decide (n>4611686018427387904) then true else bif decide (d<1) then true else decide (d>4611686018427387904)
def Mw (a n d:Int) (c:Bool):Int:=bif Pt a n d then 0 else xV (xSz a*xSz n) (u64.wrap d) c (Mv a n)
def qN (a n d:Int) (c:Bool):Int:=bif Pt a n d then 2 else xE (xSz a*xSz n) (u64.wrap d) c (Mv a n)
def ajc (a n d:Int):Prop:=(!Pt a n d)=true->(d=d/\n=n)/\d=d/\xIn (xSz a) (xSz n)/\d=d/\((!xNo (xSz a*xSz n) (u64.wrap d))=true->YU (xSz a*xSz n) (u64.wrap d))
theorem jY (a:Int):(a<0/\sg a a=-a)\/(0<=a/\sg a a=a):=by
 unfold sg;by_cases h:a<0
 .left;simp [h]
 .right;simp [h];omega
theorem Pv (a b:Int):a*b=bif Mv a b then -(sg a a*sg b b) else sg a a*sg b b:=by unfold Mv sg;by_cases h:a<0 <;> by_cases k:b<0 <;> simp [h,k,rZ,rY]
theorem YW {p d:Int} (hp:0<=p) (c:d<18446744073709551616) (h:xNo p d=false):YU p d:=by unfold YU;rw [aT];simp [xNo] at h;exact ⟨bu hp (by decide),by omega,c,dE p (by decide),d9 p (by decide)⟩
theorem Bn {a b:Int} (ha:0<=a) (c:a<18446744073709551616) (hb:0<=b) (d:b<18446744073709551616):xIn a b:=by unfold xIn;rw [aT];exact ⟨ha,c,hb,d⟩
theorem Pw {a:Int} (h:okF a=true):xSz a=sg a a/\0<=sg a a/\sg a a<=4503599627370496:=by have h:=gW.1 h;refine ⟨IX (by omega) (by omega),KJ a,?_⟩;rcases jY a with ⟨_,e⟩|⟨_,e⟩ <;> omega
theorem Gx (a n d:Int):Pt a n d=!okS a n d:=by
 unfold Pt okS;rw [YV];rw [gq]
 cases okF a with
 | false=>simp
 | true=>
  simp only [aQ,DF,aR,uV,gN,Bool.and_eq_false_iff,kK];by_cases h1:n < -4611686018427387904
  .simp [h1]
  .by_cases h2:n>4611686018427387904
   .simp [h1,h2]
   .by_cases h3:d<1
    .simp [h1,h2,h3]
    .simp [h1,h2,h3] <;> omega
theorem Px (a n d:Int):ajc a n d:=by intro h;rw [Gx,Eb] at h;simp only [okS,aF,aT] at h;obtain ⟨ha,⟨⟨f,g⟩,i⟩,j⟩:=h;obtain ⟨a1,a2,k⟩:=Pw ha;have c:xSz n=sg n n:=IX (by omega) (by omega);have l:=jY n;rw [a1,c,mg (n:=d) (by omega) (by omega)];refine ⟨⟨rfl,rfl⟩,rfl,Bn a2 (by omega) (by omega) (by omega),rfl,fun hn=>?_⟩;exact YW (aV a2 (by omega)) (by omega) (by simpa using hn)
theorem IY (v:Int):(IW v=0/\okF v=true/\xq v=v)\/(IW v=6/\okF v=false/\xq v=0):=by unfold IW xq;cases okF v <;> simp
def sqQ (i r:Int):Int:=u64.wrap ↑(BitVec.ofInt u64.bits r ||| BitVec.ofInt u64.bits (u64.wrap (1*2 ^ min (i64.wrap (42 - i)).toNat u64.bits))).toNat
def ajd (H L t:Int):Bool:=bif decide (xHi (t*t)<H) then true else bif xHi (t*t)==H then decide (xLo (t*t)<=L) else false
def EO (H L i r:Int):Int:=bif ajd H L (sqQ i r) then sqQ i r else r
def vE (H L:Int):Nat->Int->Int->Int
 | 0,_,r=>r
 | n+1,i,r=>vE H L n (i64.wrap (i+1)) (EO H L i r)
theorem KL (n:Int):0<=u64.wrap n/\u64.wrap n<18446744073709551616:=by rw [IntKind.wrap_u64];omega
end Go.Ar
namespace Go.Proofs.YtbiiiloimbjpaaaGreatDoor.K
open Go Go.Eng Go.Ar
noncomputable def aje:List (FuncId×eT):=[(130,Cy),(133,Mt)]
theorem aee:Cr Tryz.prog aje:=by
 intro x c;simp only [aje,aN,eX,eY] at c;rcases c with rfl|rfl
 .exact RH
 .exact ajb
noncomputable def c1:Ctx:=mkC Tryz.prog aje ext
theorem Py:CtxOk c1:=wO prog_ok aee ext_ok
theorem JF (a n d:Int):jr ((run c1 300).call 68 [.int true .i64 a,.int true .i64 n,.int true .i64 d] ⟨[],0,1⟩)=some (.p (ajc a n d),.tuple [.int true .i64 (Mw a n d false),.int true .i64 (qN a n d false)]):=by kernel_rfl
theorem Pz (a n d:Int):jr ((run c1 300).call 69 [.int true .i64 a,.int true .i64 n,.int true .i64 d] ⟨[],0,1⟩)=some (.p (ajc a n d),.tuple [.int true .i64 (Mw a n d true),.int true .i64 (qN a n d true)]):=by kernel_rfl
end Go.Proofs.YtbiiiloimbjpaaaGreatDoor.K
namespace Go.Proofs.YtbiiiloimbjpaaaGreatDoor.K
open Go Go.Eng Go.Ar
noncomputable section
def sqS (c:Bool) (H L:Int):St:=⟨[⟨0,.bool false c⟩,⟨0,.ptr 0 0⟩,⟨0,.tuple []⟩,⟨61,.int false .u64 0⟩,⟨62,.bool false false⟩,⟨63,.int false .u64 0⟩,⟨0,.tuple []⟩,⟨0,.tuple []⟩,⟨64,.int false .i64 0⟩,
 ⟨0,.tuple []⟩,⟨0,.tuple []⟩,⟨0,.tuple []⟩,⟨0,.tuple []⟩,⟨0,.tuple []⟩,⟨0,.tuple []⟩,⟨0,.tuple []⟩,⟨0,.tuple []⟩,⟨0,.tuple []⟩,⟨0,.tuple []⟩,⟨0,.tuple []⟩,⟨0,.tuple []⟩,⟨0,.tuple []⟩,⟨0,.tuple []⟩,⟨0,.tuple []⟩,⟨0,.tuple []⟩,⟨0,.tuple []⟩,⟨0,.tuple []⟩,⟨0,.tuple []⟩,⟨0,.tuple []⟩,⟨0,.tuple []⟩,⟨0,.tuple []⟩,⟨0,.tuple []⟩,⟨0,.tuple []⟩,⟨0,.tuple []⟩],[],
 ⟨[⟨48,.cells [.int true .u64 H,.int true .u64 L]⟩],1,65⟩⟩
def sqP (i r:Int):Patch:=⟨[(5,.int true .u64 r),(8,.int true .i64 i),(6,.any false),(7,.any false),(9,.any false),(10,.any false),(11,.any false),(12,.any false),(13,.any false),(14,.any false),(15,.any false),(16,.any false),(17,.any false),(18,.any false),(19,.any false),(20,.any false),(21,.any false),(22,.any false)],[],[]⟩
def sqO (r:Int):Patch:=⟨[(5,.int true .u64 r),(8,.any false),(6,.any false),(7,.any false),(9,.any false),(10,.any false),(11,.any false),(12,.any false),(13,.any false),(14,.any false),(15,.any false),(16,.any false),(17,.any false),(18,.any false),(19,.any false),(20,.any false),(21,.any false),(22,.any false)],[],[]⟩
def YX:AFr:=⟨116,none⟩
noncomputable def sqA:Code:=fP Tryz.prog 116 0
def sqU (H L:Int):Sum (Int×Int):=
 {
  S:=fun y=>sqP y.1 y.2
  I:=fun y=>0<=y.1/\y.1<=43
  μ:=fun y=>(43 - y.1).toNat
  F:=fun y=>(.exit 0,sqO (vE H L (43 - y.1).toNat y.1 y.2))
  next:=fun y=>(i64.wrap (y.1+1),EO H L y.1 y.2)
  ids:=[]
  X:=fun y _=>some (sqO y.2,[]) }
def an9 (H L i r:Int):Prop:=
 (decide (i<43)=true->0<=i64.wrap (42 - i)/\xIn (sqQ i r) (sqQ i r)/\H=H/\L=L) /\
 ((!decide (i<43))=true->r=r/\(sqU H L).F (i,r)=(.exit 0,sqO r)) /\
 (decide (i<43)=true->(EO H L i r=EO H L i r/\i64.wrap (i+1)=i64.wrap (i+1)) /\
  (sqU H L).I ((sqU H L).next (i,r))/\(sqU H L).μ ((sqU H L).next (i,r))<(sqU H L).μ (i,r)/\(sqU H L).F ((sqU H L).next (i,r))=(sqU H L).F (i,r))
theorem ajf (c:Bool) (H L i r:Int):dQ (sqS c H L) ((sqU H L).way (i,r)) ((run c1 300).code YX sqA (aJ (sqS c H L) ((sqU H L).S (i,r))))=some (.p (an9 H L i r)):=by kernel_rfl
end
end Go.Proofs.YtbiiiloimbjpaaaGreatDoor.K
namespace Go.Ar
open Go
theorem ajg (i k:Nat) (hi:i<=42) (g:2 ^ (43 - i)*k<2 ^ 43):sqQ (i:Int) ((2 ^ (43 - i)*k:Nat):Int)=((2 ^ (43 - i)*k+2 ^ (42 - i):Nat):Int):=by
 have c:i64.wrap (42 - (i:Int))=((42 - i:Nat):Int):=by rw [i64w (by omega) (by omega)];omega
 have d:min (((42 - i:Nat):Int)).toNat u64.bits=42 - i:=by rw [uM];exact iP (dF (Nat.sub_le _ _) (by decide))
 have f:2 ^ (42 - i)<=2 ^ 42:=kM (by decide) (by omega);have e3:u64.wrap (1*2 ^ (42 - i))=((2 ^ (42 - i):Nat):Int):=by rw [Int.one_mul,show (2:Int) ^ (42 - i)=((2 ^ (42 - i):Nat):Int) from (DT 2 _).symm];generalize 2 ^ (42 - i)=P at f;exact mg (by omega) (by omega)
 unfold sqQ;rw [c,d,e3];rw [Go.Eng.dOr_eq _ _ (by omega) (by omega)]
 congr 1
 rw [<- Dk (Nat.pow_lt_pow_right (by decide) (by omega)) k]
theorem aef (t n:Nat) (g:t<18446744073709551616):ajd (xHi (n:Int)) (xLo (n:Int)) (t:Int)=decide (t*t<=n):=by
 unfold ajd xHi xLo two64;have c:((t:Int)*t) / 18446744073709551616=((t*t / 18446744073709551616:Nat):Int):=by rw [mX,gu];rfl
 have d:((t:Int)*t) % 18446744073709551616=((t*t % 18446744073709551616:Nat):Int):=by rw [uP,gu];rfl
 have e3:(n:Int) / 18446744073709551616=((n / 18446744073709551616:Nat):Int):=by rw [mX];rfl
 have f:(n:Int) % 18446744073709551616=((n % 18446744073709551616:Nat):Int):=by rw [uP];rfl
 rw [c,d,e3,f];generalize t*t=m;rw [gq];by_cases h1:m / 18446744073709551616<n / 18446744073709551616
 .have:((m / 18446744073709551616:Nat):Int)<((n / 18446744073709551616:Nat):Int):=by omega
  simp only [this,iD,aQ,true_iff,aT];omega
 .have:¬ ((m / 18446744073709551616:Nat):Int)<((n / 18446744073709551616:Nat):Int):=by omega
  simp only [this,iB,aR,aT];by_cases h2:m / 18446744073709551616=n / 18446744073709551616
  .rw [h2];simp only [beq_self_eq_true,aQ,aT];omega
  .have:(((m / 18446744073709551616:Nat):Int)==((n / 18446744073709551616:Nat):Int))=false:=by
    rw [dm];omega
   rw [this];simp only [aR,y8,false_iff];omega
theorem Bo (n:Nat):∀ (m i k:Nat),i+m=43->2 ^ (43 - i)*k<2 ^ 43->(2 ^ (43 - i)*k)*(2 ^ (43 - i)*k)<=n->n<(2 ^ (43 - i)*k+2 ^ (43 - i))*(2 ^ (43 - i)*k+2 ^ (43 - i)) ->
  ∃ r:Nat,vE (xHi (n:Int)) (xLo (n:Int)) m (i:Int) ((2 ^ (43 - i)*k:Nat):Int)=(r:Int)/\r*r<=n/\n<(r+1)*(r+1)/\r<2 ^ 43
 | 0,i,k,hi,h1,h2,h3=>by
  have:i=43:=by omega
  subst this;exact ⟨2 ^ (43 - 43)*k,rfl,h2,h3,h1⟩
 | m+1,i,k,hi,h1,h2,h3=>by
  have p:2 ^ (43 - i)=2*2 ^ (43 - (i+1)):=by rw [show 43 - i=(43 - (i+1))+1 by omega,iC];omega
  have g:i64.wrap ((i:Int)+1)=((i+1:Nat):Int):=by rw [i64w (by omega) (by omega)];omega
  have f:=ajg i k (by omega) h1;rw [show 42 - i=43 - (i+1) by omega] at f;simp only [vE];rw [g];unfold EO;rw [f];generalize hq:2 ^ (43 - (i+1))=q at *
  have j:1<=q:=by rw [<- hq];exact DC
  have hb:2 ^ (43 - i)*k+q<2 ^ 43:=by
   rw [p];have d:2 ^ (43 - i)*(2 ^ i)=2 ^ 43:=by rw [<- kV];congr 1;omega
   rw [p] at d;have:k<2 ^ i:=by rw [p,<- d] at h1;exact Nat.lt_of_mul_lt_mul_left h1
   have l:2*q*(k+1)<=2*q*2 ^ i:=mU _ this;rw [d,iR] at l;omega
  rw [aef _ n (by omega)];by_cases h:(2 ^ (43 - i)*k+q)*(2 ^ (43 - i)*k+q)<=n
  .rw [aI h,aQ];have c:2 ^ (43 - i)*k+q=q*(2*k+1):=by rw [p,iR,rX,<- jO,bZ q 2]
   have o:q*(2*k+1)+q=2 ^ (43 - i)*k+2 ^ (43 - i):=by rw [<- c,p];omega
   rw [c] at h hb ⊢;have:=Bo n m (i+1) (2*k+1) (by omega) (by rw [hq];exact hb) (by rw [hq];exact h) (by rw [hq,o];exact h3);rw [hq] at this;exact this
  .rw [aG h,aR];have c:2 ^ (43 - i)*k=q*(2*k):=by rw [p,<- jO,bZ q 2]
   rw [c] at h h1 h2 ⊢;have:=Bo n m (i+1) (2*k) (by omega) (by rw [hq];exact h1) (by rw [hq];exact h2) (by rw [hq];omega);rw [hq] at this;exact this
theorem aeg (a:Nat) (ha:a<=4503599627370496):∃ r:Nat,vE (xHi (u64.wrap a*4294967296)) (xLo (u64.wrap a*4294967296)) 43 0 0=(r:Int)/\r*r<=a*4294967296/\a*4294967296<(r+1)*(r+1)/\r<2 ^ 43:=by rw [mg (n:=(a:Int)) (by omega) (by omega)];have:=Bo (a*4294967296) 43 0 0 rfl (by decide) (by omega) (by simp;omega);simpa using this
theorem PD {n r s:Nat} (h1:r*r<=n) (h2:n<(r+1)*(r+1)) (h3:s*s<=n) (c:n<(s+1)*(s+1)):r=s:=by
 rcases Nat.lt_trichotomy r s with h|h|h
 .have:=rU (show r+1<=s from h) (show r+1<=s from h);omega
 .exact h
 .have:=rU (show s+1<=r from h) (show s+1<=r from h);omega
def vF (a:Int):Int:=u64.wrap a*4294967296
def sqR (a:Int):Int:=vE (xHi (vF a)) (xLo (vF a)) 43 0 0
def KM (a:Int):Bool:=bif xC a != 0 then true else decide (a<0)
def YY (a:Int):Int:=bif !(sqR a*sqR a / two64==xHi (vF a)&&(sqR a*sqR a % two64==xLo (vF a)&&true)) then u64.wrap (sqR a+1) else sqR a
def EP (a:Int) (c:Bool):Int:=bif KM a then 0 else bif decide ((bif c then YY a else sqR a)>4503599627370496) then 0 else i64.wrap (bif c then YY a else sqR a)
def YZ (a:Int) (c:Bool):Int:=bif KM a then 2 else bif decide ((bif c then YY a else sqR a)>4503599627370496) then 6 else 0
def rtV (a:Int) (c:Bool):Int:=bif c&&!(sqR a*sqR a==a*4294967296) then sqR a+1 else sqR a
def qO (a:Int):Bool:=okF a&&decide (0<=a)
def Y0 (a:Int) (c:Bool):Int:=bif qO a then rtV a c else 0
def aia (a:Int):Int:=bif qO a then 0 else 2
theorem PE (a:Int):KM a=!qO a:=by
 unfold KM qO;rw [YV]
 cases okF a with
 | false=>simp
 | true=>by_cases h:a<0 <;> simp [h] <;> omega
theorem qE {a:Int} (h:qO a=true):0<=sqR a/\sqR a*sqR a<=a*4294967296/\a*4294967296<(sqR a+1)*(sqR a+1)/\sqR a<8796093022208:=by
 simp only [qO,aF,aT] at h;obtain ⟨h1,h2⟩:=h;have h1:=gW.1 h1;obtain ⟨r,e,r1,c,d⟩:=aeg a.toNat (by omega);rw [iN h2] at e;have e:sqR a=r:=e;rw [e];have c1:((r*r:Nat):Int)=(r:Int)*r:=gu r r;have c2:(((r+1)*(r+1):Nat):Int)=((r:Int)+1)*(r+1):=by rw [gu];rfl
 refine ⟨by omega,by omega,by omega,by omega⟩
theorem Uq (a:Int) (c:Bool):EP a c=Y0 a c/\YZ a c=aia a:=by
 unfold EP YZ Y0 aia;rw [PE]
 cases h:qO a with
 | false=>simp
 | true=>
  obtain ⟨r0,r1,g,i⟩:=qE h;simp only [qO,aF,aT] at h;obtain ⟨h1,h2⟩:=h;have h1:=gW.1 h1;have d:(bif c then YY a else sqR a)=rtV a c:=by
   cases c with
   | false=>rfl
   | true=>
    have f:vF a=a*4294967296:=by unfold vF;rw [mg (by omega) (by omega)]
    have:(sqR a*sqR a / two64==xHi (vF a)&&(sqR a*sqR a % two64==xLo (vF a)&&true))=(sqR a*sqR a==a*4294967296):=by rw [f];unfold xHi xLo two64;rw [gq];simp only [Bool.and_true,aF,dV];omega
    unfold YY rtV;rw [this,mg (by omega) (by omega)];rfl
  rw [d];have hb:0<=rtV a c/\rtV a c<=8796093022208:=by unfold rtV;cases c&&!(sqR a*sqR a==a*4294967296) <;> simp <;> omega
  simp only [oU,aR,aQ];rw [aG (by omega),i64w (by omega) (by omega)];exact ⟨rfl,rfl⟩
end Go.Ar
namespace Go.Ar
open Go Go.Eng
noncomputable section
def two (a b:Int):Tm:=.u [.n .i64 a,.n .i64 b]
def Mx (c:Bool):eT:=fD [.i .i64,.i .i64,.i .i64] none fun
 | [.n a,.n n,.n d]=>two (Mw a n d c) (qN a n d c)
 | _=>.u []
def Ur (c:Bool):eT:=fD [.i .i64] none fun
 | [.n a]=>two (EP a c) (YZ a c)
 | _=>.u []
end
end Go.Ar
namespace Go.Proofs.YtbiiiloimbjpaaaGreatDoor.K
open Go Go.Eng Go.Ar
noncomputable section
theorem Y3 (c:Bool) (H L:Int):fit (sqS c H L) (sqS c H L) (aJ (sqS c H L) ((sqU H L).S (0,0))) []=some (.p ((0:Int)=0/\(0:Int)=0)):=by kernel_rfl
theorem aoa (H L i r:Int) (h:0<=i/\i<=43):an9 H L i r:=by
 refine ⟨fun hi=>?_,fun hi=>⟨rfl,?_⟩,fun hi=>⟨⟨rfl,rfl⟩,?_⟩⟩
 .have hi:=bK hi;refine ⟨by rw [i64w (by omega) (by omega)];omega,?_,rfl,rfl⟩;have:=KL (↑(BitVec.ofInt u64.bits r ||| BitVec.ofInt u64.bits (u64.wrap (1*2 ^ min (i64.wrap (42 - i)).toNat u64.bits))).toNat);exact Bn this.1 this.2 this.1 this.2
 .have:i=43:=by simp at hi;omega
  subst this;rfl
 .have hi:=bK hi;have e:i64.wrap (i+1)=i+1:=i64w (by omega) (by omega);have c:(43 - i).toNat=(43 - (i+1)).toNat+1:=by omega
  refine ⟨?_,?_,?_⟩
  .show 0<=i64.wrap (i+1)/\i64.wrap (i+1)<=43;rw [e];omega
  .show (43 - i64.wrap (i+1)).toNat<(43 - i).toNat;rw [e];omega
  .show (Ex.exit 0,sqO (vE H L (43 - i64.wrap (i+1)).toNat (i64.wrap (i+1)) (EO H L i r)))=(Ex.exit 0,sqO (vE H L (43 - i).toNat i r));rw [c,vE,e]
theorem aeh (c:Bool) (H L:Int):CodeOk c1 YX (.loop sqA) (sqS c H L) ⟨.tt,[⟨.tt,.exit 0,aJ (sqS c H L) (sqO (vE H L 43 0 0))⟩]⟩:=by
 have d:(sqU H L).F (0,0)=(.exit 0,sqO (vE H L 43 0 0)):=by show (Ex.exit 0,sqO (vE H L (43 - (0:Int)).toNat 0 0))=_;rw [show (43 - (0:Int)).toNat=43 from by decide]
 have f:kz (sqS c H L).hp ((sqU H L).S (0,0)).old=true:=by kernel_rfl
 have h1:(sqU H L).I (0,0):=⟨by decide,by decide⟩;exact Ui (dw Py 300) (sqU H L) h1 ⟨_,Y3 c H L,rfl,rfl⟩ f (fun y g=>⟨_,ajf c H L y.1 y.2,aoa H L y.1 y.2 g⟩) d
noncomputable def c1s (c:Bool) (a:Int):Ctx:=bN c1 [dK 116 65 YX sqA (sqS c (xHi (vF a)) (xLo (vF a))) (.exit 0) (sqO (vE (xHi (vF a)) (xLo (vF a)) 43 0 0))]
theorem Y4 (c:Bool) (a:Int):CtxOk (c1s c a):=bE Py (aeh c _ _) (bJ Py)
def aob (c:Bool) (a:Int):Prop:=At YX YX sqA sqA (sqS c (xHi (vF a)) (xLo (vF a))) (sqS c (xHi (vF a)) (xLo (vF a)))
def aib (a:Int):Prop:=(!KM a)=true->xIn (u64.wrap a) 4294967296/\aob false a
def aic (a:Int):Prop:=(!KM a)=true->xIn (u64.wrap a) 4294967296/\aob true a/\xIn (sqR a) (sqR a)/\xHi (vF a)=xHi (vF a)/\xLo (vF a)=xLo (vF a)
theorem RL (a:Int):jr ((run (c1s false a) 300).call 70 [.int true .i64 a] ⟨[],0,1⟩)=some (.p (aib a),.tuple [.int true .i64 (EP a false),.int true .i64 (YZ a false)]):=by kernel_rfl
theorem Y5 (a:Int):jr ((run (c1s true a) 300).call 71 [.int true .i64 a] ⟨[],0,1⟩)=some (.p (aic a),.tuple [.int true .i64 (EP a true),.int true .i64 (YZ a true)]):=by kernel_rfl
theorem KN (a:Int):aic a:=by intro h;rw [PE,Eb] at h;obtain ⟨r0,r1,c,d⟩:=qE h;simp only [qO,aF,aT] at h;have h1:=gW.1 h.1;rw [mg (n:=a) (by omega) (by omega)];exact ⟨Bn (by omega) (by omega) (by decide) (by decide),⟨rfl,rfl,rfl⟩,Bn (by omega) (by omega) (by omega) (by omega),rfl,rfl⟩
theorem Wh (a:Int):aib a:=fun h=>⟨(KN a h).1,rfl,rfl,rfl⟩
theorem MB:PureOk Tryz.prog 68 (Mx false):=by refine ma (fun xs c _=>?_) ⟨_,Tryz.func68,rfl⟩;obtain ⟨a,_,rfl,h1⟩:=kn c;obtain ⟨n,_,rfl,h2⟩:=kn h1;obtain ⟨d,_,rfl,h3⟩:=kn h2;obtain rfl:=k0 h3;exact ⟨c1,300,_,Py,rfl,fun _=>rfl,rfl,JF a n d,Px a n d⟩
theorem RN:PureOk Tryz.prog 69 (Mx true):=by refine ma (fun xs c _=>?_) ⟨_,Tryz.func69,rfl⟩;obtain ⟨a,_,rfl,h1⟩:=kn c;obtain ⟨n,_,rfl,h2⟩:=kn h1;obtain ⟨d,_,rfl,h3⟩:=kn h2;obtain rfl:=k0 h3;exact ⟨c1,300,_,Py,rfl,fun _=>rfl,rfl,Pz a n d,Px a n d⟩
theorem PG:PureOk Tryz.prog 70 (Ur false):=by refine ma (fun xs c _=>?_) ⟨_,Tryz.func70,rfl⟩;obtain ⟨a,_,rfl,h1⟩:=kn c;obtain rfl:=k0 h1;exact ⟨c1s false a,300,_,Y4 false a,rfl,fun _=>rfl,rfl,RL a,Wh a⟩
theorem Wj:PureOk Tryz.prog 71 (Ur true):=by refine ma (fun xs c _=>?_) ⟨_,Tryz.func71,rfl⟩;obtain ⟨a,_,rfl,h1⟩:=kn c;obtain rfl:=k0 h1;exact ⟨c1s true a,300,_,Y4 true a,rfl,fun _=>rfl,rfl,Y5 a,KN a⟩
noncomputable def aei:List (FuncId×eT):=[(68,Mx false),(69,Mx true),(70,Ur false),(71,Ur true),(130,Cy)]
theorem Us:Cr Tryz.prog aei:=by
 intro x c;simp only [aei,aN,eX,eY] at c;rcases c with rfl|rfl|rfl|rfl|rfl
 .exact MB
 .exact RN
 .exact PG
 .exact Wj
 .exact RH
noncomputable def c2:Ctx:=mkC Tryz.prog aei ext
theorem PH:CtxOk c2:=wO prog_ok Us ext_ok
end
end Go.Proofs.YtbiiiloimbjpaaaGreatDoor.K
namespace Go.Ar
open Go
structure Sp where
 lo:Int
 hi:Int
 e:Int
def err (e:Int):Sp:=⟨0,0,e⟩
def fQ (a b:Int):Bool:=decide (-4503599627370496<=a)&&(decide (a<=b)&&decide (b<=4503599627370496))
def nM (lo hi:Int):Sp:=bif okF lo&&okF hi then ⟨lo,hi,0⟩ else err 6
def mn (a b:Int):Int:=bif decide (b<a) then b else a
def mx (a b:Int):Int:=bif decide (a<b) then b else a
def MC (a b c d:Int) (r:Sp):Sp:=bif fQ a b&&fQ c d then r else err 20
def qP (a b c d:Int):Sp:=MC a b c d (nM (a+c) (b+d))
def ME (a b:Int):Sp:=bif fQ a b then ⟨-b,-a,0⟩ else err 20
def abL (a b:Int):Int:=mx (mx a (-b)) 0
def abH (a b:Int):Int:=mx b (-a)
def oh (a b:Int):Sp:=bif fQ a b then nM (rd (abL a b*abL a b) 4294967296 false) (rd (abH a b*abH a b) 4294967296 true) else err 20
def uk (a b:Int):Sp:=bif fQ a b then (bif decide (a<0) then err 2 else ⟨rtV a false,rtV b true,0⟩) else err 20
def okR (n d:Int):Bool:=decide (-4611686018427387904<=n)&&decide (n<=4611686018427387904)&&decide (1<=d)&&decide (d<=4611686018427387904)
def ol (a b n d:Int):Sp:=bif fQ a b then (bif okR n d then nM (rd (mn (a*n) (b*n)) d false) (rd (mx (a*n) (b*n)) d true) else err 2) else err 20
def xCS (a b:Int):Int:=bif bif decide (a < -4503599627370496) then true else bif decide (a>b) then true else decide (b>4503599627370496) then 20 else 0
def Ut (a b c d:Int):Int:=bif !(xCS a b != 0)&&!(xCS c d != 0) then 0 else bif xCS a b != 0 then xCS a b else xCS c d
def xTb (l h:Int):Bool:=bif decide (l < -4503599627370496) then true else decide (h>4503599627370496)
def Y6 (g l h:Int):Sp:=⟨bif g != 0 then 0 else bif xTb l h then 0 else l,bif g != 0 then 0 else bif xTb l h then 0 else h,bif g != 0 then g else bif xTb l h then 6 else 0⟩
def Y7 (a b c d:Int):Sp:=Y6 (Ut a b c d) (i64.wrap (a+c)) (i64.wrap (b+d))
def RO (a b:Int):Sp:=
 ⟨bif xCS a b != 0 then 0 else bif decide (a<0) then 0 else bif xTb (EP a false) (EP b true) then 0 else EP a false,
  bif xCS a b != 0 then 0 else bif decide (a<0) then 0 else bif xTb (EP a false) (EP b true) then 0 else EP b true,
  bif xCS a b != 0 then xCS a b else bif decide (a<0) then 2 else bif xTb (EP a false) (EP b true) then 6 else 0⟩
def tL (low lo:Int):Int:=bif decide (low<lo) then low else lo
def tH (low lo hi:Int):Int:=bif decide (low<lo) then hi else hi
def nL (low c lo hi:Int):Int:=bif decide (c>tH low lo hi) then tL low lo else tL low lo
def nH (low c lo hi:Int):Int:=bif decide (c>tH low lo hi) then c else tH low lo hi
def l1 (V:Int->Int->Bool->Int) (a c d:Int):Int:=nL (V a d false) (V a d true) (V a c false) (V a c true)
def h1 (V:Int->Int->Bool->Int) (a c d:Int):Int:=nH (V a d false) (V a d true) (V a c false) (V a c true)
def l2 (V:Int->Int->Bool->Int) (a b c d:Int):Int:=nL (V b c false) (V b c true) (l1 V a c d) (h1 V a c d)
def h2 (V:Int->Int->Bool->Int) (a b c d:Int):Int:=nH (V b c false) (V b c true) (l1 V a c d) (h1 V a c d)
def l3 (V:Int->Int->Bool->Int) (a b c d:Int):Int:=nL (V b d false) (V b d true) (l2 V a b c d) (h2 V a b c d)
def h3 (V:Int->Int->Bool->Int) (a b c d:Int):Int:=nH (V b d false) (V b d true) (l2 V a b c d) (h2 V a b c d)
def xsA (a b n:Int):Int:=bif decide (n<0) then i64.wrap (0 - b) else a
def xsB (a b n:Int):Int:=bif decide (n<0) then i64.wrap (0 - a) else b
def xsN (n:Int):Int:=bif decide (n<0) then i64.wrap (0 - n) else n
def PI (n:Int):Bool:=bif decide (n<0) then !decide (n < -4611686018427387904) else true
def KO (a b n d:Int):Bool:=bif qN (xsA a b n) (xsN n) d false != 0 then true else qN (xsB a b n) (xsN n) d true != 0
def p9 (a b n d:Int):Sp:=
 ⟨bif xCS a b != 0 then 0 else bif PI n then (bif KO a b n d then 0 else Mw (xsA a b n) (xsN n) d false) else 0,
  bif xCS a b != 0 then 0 else bif PI n then (bif KO a b n d then 0 else Mw (xsB a b n) (xsN n) d true) else 0,
  bif xCS a b != 0 then xCS a b else bif PI n then (bif KO a b n d then (if qN (xsB a b n) (xsN n) d true>qN (xsA a b n) (xsN n) d false then qN (xsB a b n) (xsN n) d true else qN (xsA a b n) (xsN n) d false) else 0) else 2⟩
theorem dx {a b:Int}:fQ a b=true ↔ -4503599627370496<=a/\a<=b/\b<=4503599627370496:=by simp [fQ]
theorem yn (a b:Int):xCS a b=bif fQ a b then 0 else 20:=by
 unfold xCS
 cases h:fQ a b with
 | true=>
  have:=dx.1 h;simp [show ¬ a < -4503599627370496 by omega,show ¬ a>b by omega,show ¬ b>4503599627370496 by omega]
 | false=>
  have:¬ (-4503599627370496<=a/\a<=b/\b<=4503599627370496):=fun k=>by rw [dx.2 k] at h;cases h
  by_cases h1:a < -4503599627370496
  .simp [h1]
  .by_cases h2:a>b
   .simp [h1,h2]
   .simp [h1,h2,show b>4503599627370496 by omega]
theorem Y8 (a b c d:Int):Ut a b c d=bif fQ a b&&fQ c d then 0 else 20:=by unfold Ut;rw [yn,yn];cases fQ a b <;> cases fQ c d <;> rfl
theorem Y9 {l h:Int} (k:l<=h):xTb l h=!(okF l&&okF h):=by
 unfold xTb okF;rw [gq];by_cases h1:l < -4503599627370496
 .simp [h1] <;> omega
 .simp [h1] <;> omega
theorem Za (a b c d l h:Int) (k:fQ a b=true->fQ c d=true->l<=h):Y6 (Ut a b c d) l h=MC a b c d (nM l h):=by
 unfold Y6 MC;rw [Y8]
 cases h1:fQ a b with
 | false=>simp [err]
 | true=>
  cases h2:fQ c d with
  | false=>simp [err]
  | true=>
   rw [Y9 (k h1 h2)];unfold nM;cases okF l&&okF h <;> simp [err]
theorem Zb (a b c d:Int):Y7 a b c d=qP a b c d:=by
 unfold Y7 qP;rw [Za]
 .unfold MC;cases h1:fQ a b <;> cases h2:fQ c d <;> try rfl
  have:=dx.1 h1;have:=dx.1 h2;rw [i64w (by omega) (by omega),i64w (by omega) (by omega)]
 .intro h1 h2;have:=dx.1 h1;have:=dx.1 h2;rw [i64w (by omega) (by omega),i64w (by omega) (by omega)];omega
theorem KP {a:Int} (h:qO a=true) (c:Bool):0<=rtV a c/\rtV a c<=8796093022208:=by obtain ⟨r0,r1,d,f⟩:=qE h;unfold rtV;cases c&&!(sqR a*sqR a==a*4294967296) <;> simp <;> omega
theorem Wl (a b:Int):RO a b=uk a b:=by
 unfold RO uk;rw [yn]
 cases h1:fQ a b with
 | false=>simp [err]
 | true=>
  have h:=dx.1 h1;by_cases h2:a<0
  .simp [h2,err]
  .have ha:qO a=true:=by simp [qO,okF];omega
   have hb:qO b=true:=by simp [qO,okF];omega
   have ra:=KP ha false;have d:=KP hb true;rw [(Uq a false).1,(Uq b true).1];unfold Y0;rw [ha,hb];have c:xTb (rtV a false) (rtV b true)=false:=by unfold xTb;rw [aG (by omega),aG (by omega)];rfl
   simp [h2,c]
theorem aoc (a b:Int):mn a b<=a/\mn a b<=b/\(mn a b=a\/mn a b=b):=by unfold mn;by_cases h:b<a <;> simp [h] <;> omega
theorem tN (a b:Int):a<=mx a b/\b<=mx a b/\(mx a b=a\/mx a b=b):=by unfold mx;by_cases h:a<b <;> simp [h] <;> omega
theorem aid (n d:Int) (hd:0<d):rd n d false<=rd n d true:=by unfold rd;simp only [aQ,aR];have h1:=gL n d;have h2:=dE n (show d≠0 by omega);have h3:=d9 n hd;have:=Cz (p:=n) hd;rw [this];split <;> omega
def pwS (v:Int):Int:=u64.wrap (if i64.wrap (0 - v)>v then i64.wrap (0 - v) else v)
def pw2 (v:Int):Int:=1*pwS v
def pw3 (v:Int):Int:=pw2 v % two64
def pw4 (v:Int):Int:=pw3 v+0+0
def pw5 (v:Int):Int:=pw4 v % 18446744073709551616
def pw6 (v:Int):Int:=pw5 v*pwS v
def pw7 (v:Int):Int:=pw6 v % two64
def pw8 (v:Int):Int:=u64.wrap (pw2 v / two64+pw4 v / 18446744073709551616)
def pw9 (v:Int):Int:=pw8 v*pwS v
def aej (v:Int):Int:=pw9 v % two64
def aek (v:Int):Int:=pw7 v+0+0
def ael (v:Int):Int:=u64.wrap (pw6 v / two64+aek v / 18446744073709551616)
def aem (v:Int):Int:=aej v+ael v+0
def aen (v:Int):Int:=aem v % 18446744073709551616
def aeo:Int:=2 ^ min (Int.ofNat 32).toNat u64.bits
def Wm (v:Int):Bool:=decide ((aen v).fdiv aeo>0)
def ajh (v:Int):Int:=u64.wrap (pw9 v / two64+aem v / 18446744073709551616)
def Zc (v:Int):Bool:=decide (ajh v>0)
def aep (v:Int):Int:=aek v % 18446744073709551616
def RP (v:Int):Int:=bif Wm v then 0 else bif Zc v then 0 else
 u64.wrap ↑(BitVec.ofInt u64.bits ((aep v).fdiv aeo) ||| BitVec.ofInt u64.bits (u64.wrap (aen v*aeo))).toNat
def aji (v:Int):Int:=u64.wrap ↑(BitVec.ofInt u64.bits (aep v) &&& BitVec.ofInt u64.bits 4294967295).toNat
def FR (v:Int):Bool:=bif !(bif Wm v then false else bif Zc v then false else true) then true else decide (RP v>4503599627370496)
def pwD (v:Int):Int:=bif FR v then 0 else i64.wrap (RP v)
def pwU (v:Int):Int:=bif FR v then 0 else bif bif Wm v then false else bif Zc v then false else decide (aji v>0) then i64.wrap (i64.wrap (RP v)+1) else i64.wrap (RP v)
def pwE (v:Int):Int:=bif FR v then 6 else 0
def aeq (x y:Int):Prop:=decide (0<=x/\0<=y/\(0:Int)<=0/\(0:Int)<=1)=true
def pwN (v:Int):Prop:=(xIn 1 (pwS v)/\aeq (pw3 v) 0)/\(xIn (pw5 v) (pwS v)/\aeq (pw7 v) 0)/\xIn (pw8 v) (pwS v)/\aeq (aej v) (ael v)
def sqD (v:Int):Int:=bif decide (v*v / 4294967296>4503599627370496) then 0 else rd (v*v) 4294967296 false
def sqU (v:Int):Int:=bif decide (v*v / 4294967296>4503599627370496) then 0 else rd (v*v) 4294967296 true
def sqE (v:Int):Int:=bif decide (v*v / 4294967296>4503599627370496) then 6 else 0
theorem ajj {v:Int} (h:okF v=true):pwS v=sg v v:=by have h:=gW.1 h;unfold pwS;rw [i64w (n:=0 - v) (by omega) (by omega)];rcases jY v with ⟨h1,e⟩|⟨h1,e⟩ <;> rw [e] <;> split <;> rw [mg (by omega) (by omega)] <;> omega
theorem aod (n:Nat) (h:n<18446744073709551616):u64.wrap ↑(BitVec.ofInt u64.bits (n:Int) &&& BitVec.ofInt u64.bits 4294967295).toNat=((n % 4294967296:Nat):Int):=Go.Eng.dLow_eq n h
theorem ajk {v:Int} (h:okF v=true):pwD v=sqD v/\pwU v=sqU v/\pwE v=sqE v/\pwN v:=by
 obtain ⟨_,r,z⟩:=Pw h;have s:=ajj h;have es:v*v=sg v v*sg v v:=by
  rcases jY v with ⟨_,e⟩|⟨_,e⟩ <;> rw [e]
  rw [rZ,rY,Int.neg_neg]
 have hq:sg v v*sg v v<=4503599627370496*4503599627370496:=bC z z r (by decide);have N:0<=sg v v*sg v v:=aV r r;have A:pw2 v=sg v v:=by unfold pw2;rw [s];omega
 have D:pw3 v=sg v v:=by unfold pw3 two64;rw [A];omega
 have q4:pw4 v=sg v v:=by unfold pw4;rw [D];omega
 have E:pw5 v=sg v v:=by unfold pw5;rw [q4];omega
 have H:pw6 v=sg v v*sg v v:=by unfold pw6;rw [E,s]
 have I:pw8 v=0:=by unfold pw8 two64;rw [A,q4,mg] <;> omega
 have J:pw9 v=0:=by unfold pw9;rw [I];omega
 have f:aej v=0:=by unfold aej two64;rw [J];rfl
 generalize hP:sg v v*sg v v=P at *
 have K:pw7 v=P % 18446744073709551616:=by unfold pw7 two64;rw [H]
 have g:aek v=P % 18446744073709551616:=by unfold aek;rw [K];omega
 have j:ael v=P / 18446744073709551616:=by unfold ael two64;rw [H,g,mg] <;> omega
 have k:aem v=P / 18446744073709551616:=by unfold aem;rw [f,j];omega
 have l:aen v=P / 18446744073709551616:=by unfold aen;rw [k];omega
 have o:aeo=4294967296:=by decide
 have p:Wm v=decide (4294967296<=P / 18446744073709551616):=by unfold Wm;rw [l,o,lT _ (by decide)];rw [gq];simp only [aT];omega
 have t:ajh v=0:=by unfold ajh two64;rw [J,k,mg] <;> omega
 have d:Zc v=false:=by unfold Zc;rw [t];rfl
 have q:aep v=P % 18446744073709551616:=by unfold aep;rw [g];omega
 have nd:pwN v:=by unfold pwN;rw [s,D,E,K,I,f,j];refine ⟨⟨Bn (by omega) (by omega) (by omega) (by omega),?_⟩,⟨Bn (by omega) (by omega) (by omega) (by omega),?_⟩,Bn (by omega) (by omega) (by omega) (by omega),?_⟩ <;> unfold aeq <;> rw [aT] <;> omega
 have u:aji v=P % 4294967296:=by unfold aji;rw [q];obtain ⟨n,hn⟩:=mR (show 0<=P % 18446744073709551616 by omega);rw [hn,aod n (by omega)];omega
 have x:FR v=decide (v*v / 4294967296>4503599627370496)/\(FR v=false->RP v=P / 4294967296/\Wm v=false):=by
  unfold FR;rw [d,p];by_cases hb:4294967296<=P / 18446744073709551616
  .refine ⟨?_,fun h=>by simp [hb] at h⟩;rw [es];simp [hb];omega
  .have y:RP v=P / 4294967296:=by
    unfold RP;rw [p,d,q,l,o,aG hb];simp only [aR];rw [lT _ (by decide),mg (n:=P / 18446744073709551616*4294967296) (by omega) (by omega)];obtain ⟨n,hn⟩:=mR (show 0<=P % 18446744073709551616 / 4294967296 by omega);obtain ⟨m,O⟩:=mR (show 0<=P / 18446744073709551616 by omega);rw [hn,O,show (m:Int)*4294967296=((m*4294967296:Nat):Int) by omega,Go.Eng.dOr_eq _ _ (by omega) (by omega)];have:n ||| m*4294967296=m*4294967296+n:=by rw [Nat.or_comm,bZ];exact (Dk (i:=32) (show n<2 ^ 32 by omega) m).symm
    rw [this];omega
   rw [y,aG hb,es];exact ⟨rfl,fun _=>⟨rfl,rfl⟩⟩
 obtain ⟨c,L⟩:=x;refine ⟨?_,?_,?_,nd⟩
 .unfold pwD sqD
  cases hb:FR v with
  | true=>rw [<- c,hb];rfl
  | false=>
   rw [<- c,hb,(L hb).1,es];rw [hb] at c;have c:=dJ c.symm;rw [es] at c;simp only [aR];rw [i64w (by omega) (by omega)];rfl
 .unfold pwU sqU
  cases hb:FR v with
  | true=>rw [<- c,hb];rfl
  | false=>
   obtain ⟨Q,W⟩:=L hb;rw [<- c,hb,Q,W,d,u,es];rw [hb] at c;have c:=dJ c.symm;rw [es] at c;simp only [aR];rw [i64w (n:=P / 4294967296) (by omega) (by omega),i64w (n:=P / 4294967296+1) (by omega) (by omega)];unfold rd;simp only [aQ];by_cases M:P % 4294967296>0
   .rw [aI M];simp only [aQ];omega
   .rw [aG M];simp only [aR];omega
 .unfold pwE sqE;rw [c]
def xaM (a b:Int):Int:=if i64.wrap (0 - b)>a then i64.wrap (0 - b) else a
def Zd (a b:Int):Int:=if 0>xaM a b then 0 else xaM a b
def Ze (a b:Int):Int:=if i64.wrap (0 - a)>b then i64.wrap (0 - a) else b
def xaL (a b:Int):Int:=bif xCS a b != 0 then 0 else bif xTb (Zd a b) (Ze a b) then 0 else Zd a b
def xaH (a b:Int):Int:=bif xCS a b != 0 then 0 else bif xTb (Zd a b) (Ze a b) then 0 else Ze a b
def MG (a b:Int):Bool:=bif sqE (xaL a b) != 0 then true else sqE (xaH a b) != 0
def Zf (a b:Int):Sp:=
 ⟨bif xCS a b != 0 then 0 else bif MG a b then 0 else bif xTb (sqD (xaL a b)) (sqU (xaH a b)) then 0 else sqD (xaL a b),
  bif xCS a b != 0 then 0 else bif MG a b then 0 else bif xTb (sqD (xaL a b)) (sqU (xaH a b)) then 0 else sqU (xaH a b),
  bif xCS a b != 0 then xCS a b else bif MG a b then 6 else bif xTb (sqD (xaL a b)) (sqU (xaH a b)) then 6 else 0⟩
def aie (a b:Int):Prop:=(!(xCS a b != 0))=true->okF (xaL a b)=true/\okF (xaH a b)=true
theorem aif {a b:Int} (h:fQ a b=true):xaL a b=abL a b/\xaH a b=abH a b/\0<=abL a b/\abL a b<=abH a b/\abH a b<=4503599627370496:=by
 have k:=dx.1 h;have c:Zd a b=abL a b:=by
  unfold Zd xaM abL mx;rw [i64w (by omega) (by omega)];by_cases h1:a < -b
  .rw [aC (show 0 - b>a by omega),aI h1];simp only [aQ];by_cases h2:-b<0
   .rw [aC (by omega),aI h2];rfl
   .rw [aB (by omega),aG h2];simp only [aR];omega
  .rw [aB (show ¬ 0 - b>a by omega),aG h1];simp only [aR];by_cases h2:a<0
   .rw [aC (by omega),aI h2];rfl
   .rw [aB (by omega),aG h2];rfl
 have d:Ze a b=abH a b:=by
  unfold Ze abH mx;rw [i64w (by omega) (by omega)];by_cases h1:b < -a
  .rw [aC (show 0 - a>b by omega),aI h1];simp only [aQ];omega
  .rw [aB (show ¬ 0 - a>b by omega),aG h1];rfl
 have f:0<=abL a b/\abL a b<=abH a b/\abH a b<=4503599627370496:=by unfold abL abH;have i:=tN a (-b);have j:=tN (mx a (-b)) 0;have l:=tN b (-a);omega
 have g:xTb (abL a b) (abH a b)=false:=by unfold xTb;rw [aG (by omega),aG (by omega)];rfl
 unfold xaL xaH;rw [c,d,g,yn,h];exact ⟨rfl,rfl,f⟩
theorem Wn (a b:Int):aie a b:=by
 intro h;rw [yn] at h
 cases k:fQ a b with
 | false=>rw [k] at h;cases h
 | true=>
  obtain ⟨c,d,f,g,i⟩:=aif k;rw [c,d,gW,gW];omega
theorem Zg (a b:Int):Zf a b=oh a b:=by
 unfold Zf oh;rw [yn]
 cases h:fQ a b with
 | false=>simp [err]
 | true=>
  obtain ⟨k,l,c,g,o⟩:=aif h;unfold MG;rw [k,l];have q:abL a b*abL a b<=abH a b*abH a b:=bC g g c (by omega);have p:0<=abL a b*abL a b:=aV c c;unfold sqE sqD sqU nM;generalize r:abL a b*abL a b=P at *
  generalize s:abH a b*abH a b=Q at *
  have i:rd P 4294967296 false=P / 4294967296:=rfl;have j:rd Q 4294967296 true=Q / 4294967296+(if 0<Q % 4294967296 then 1 else 0):=by unfold rd;simp only [aQ];rw [Cz (by decide)];omega
  have d:okF (rd P 4294967296 false)=!decide (P / 4294967296>4503599627370496):=by rw [i];unfold okF;rw [aI (show (-4503599627370496:Int)<=P / 4294967296 by omega),uV,gq];simp only [aT,gN,kK];omega
  cases hp:decide (P / 4294967296>4503599627370496) with
  | true=>rw [d,hp];simp [err]
  | false=>
   have n:=dJ hp
   cases hq:decide (Q / 4294967296>4503599627370496) with
   | true=>
    have f:=bK hq;have:okF (rd Q 4294967296 true)=false:=by rw [sJ,j];split <;> omega
    rw [this];simp [err]
   | false=>
    have f:=dJ hq;simp only [aR,aQ,DF];rw [Y9 (by rw [i,j];split <;> omega)];cases okF (rd P 4294967296 false)&&okF (rd Q 4294967296 true) <;> simp [err]
theorem Zh {x n d:Int} (g:okF x=true) (hn:0<=n) (h:okR n d=true) (hb:sg x x*n<18446744073709551615*d) (c:Bool):Mw x n d c=xq (rd (x*n) d c)/\qN x n d c=IW (rd (x*n) d c):=by
 obtain ⟨a1,a2,j⟩:=Pw g;simp only [okR,aF,aT] at h;obtain ⟨⟨⟨k,i⟩,l⟩,o⟩:=h;have q:xSz n=n:=by rw [IX (by omega) (by omega)];rcases jY n with ⟨_,e⟩|⟨_,e⟩ <;> omega
 have f:sg n n=n:=by rcases jY n with ⟨_,e⟩|⟨_,e⟩ <;> omega
 have r:u64.wrap d=d:=mg (by omega) (by omega);have ok:Pt x n d=false:=by rw [Gx];unfold okS;rw [g,aI k,aI i,aI l,aI o];rfl
 have s:sg x x*n<=4503599627370496*4611686018427387904:=bC j i hn (by decide);obtain ⟨v,e,_⟩:=an8 (p:=sg x x*n) (d:=d) (aV a2 hn) (by omega) (by omega) (by omega) c (Mv x n) (x*n) (by have:=Pv x n;rw [f] at this;exact this) (.inl hb);unfold Mw qN;rw [ok,a1,q,r];exact ⟨v,e⟩
theorem Zi {x n d:Int} (h:okR n d=false) (c:Bool):qN x n d c=2:=by
 unfold qN;have:Pt x n d=true:=by rw [Gx];unfold okS okR at *;rw [h,zw];rfl
 rw [this];rfl
theorem RQ (a b n d:Int) (hb:fQ a b=true->okR n d=true->abH a b*sg n n<18446744073709551615*d):p9 a b n d=ol a b n d:=by
 unfold p9 ol;rw [yn]
 cases h:fQ a b with
 | false=>simp [err]
 | true=>
  have k:=dx.1 h
  cases r:okR n d with
  | false=>
   have t:PI n=true->KO a b n d=true/\qN (xsA a b n) (xsN n) d false=2/\qN (xsB a b n) (xsN n) d true=2:=by
    intro l;have c:okR (xsN n) d=false:=by
     unfold xsN;by_cases hn:n<0
     .simp only [PI,hn,iD,aQ,gN,kK] at l;rw [aI hn,aQ,i64w (by omega) (by omega)];simp only [okR,Bool.and_eq_false_iff,kK] at r ⊢;omega
     .rw [aG hn];exact r
    have f:=Zi (x:=xsA a b n) c false;have i:=Zi (x:=xsB a b n) c true;exact ⟨by unfold KO;rw [f];rfl,f,i⟩
   cases l:PI n with
   | false=>simp [err]
   | true=>
    obtain ⟨h1,h2,h3⟩:=t l;simp [h1,h2,h3,err]
  | true=>
   have hb:=hb h r;have o:=r;simp only [okR,aF,aT] at o;obtain ⟨⟨⟨W,K⟩,d1⟩,d2⟩:=o;have l:PI n=true:=by
    unfold PI;by_cases hn:n<0
    .rw [aI hn,aG (by omega)];rfl
    .rw [aG hn];rfl
   have m3:=tN b (-a);have g:∀ (x y m:Int),0<=m->m<=4611686018427387904->okF x=true->okF y=true->x<=y->sg x x<=abH a b->sg y y<=abH a b->abH a b*m<18446744073709551615*d ->
     (⟨bif (bif qN x m d false != 0 then true else qN y m d true != 0) then 0 else Mw x m d false,bif (bif qN x m d false != 0 then true else qN y m d true != 0) then 0 else Mw y m d true,
      bif (bif qN x m d false != 0 then true else qN y m d true != 0) then (if qN y m d true>qN x m d false then qN y m d true else qN x m d false) else 0⟩:Sp)=nM (rd (x*m) d false) (rd (y*m) d true):=by
    intro x y m s m1 t L M N O p;have c:okR m d=true:=by simp [okR];omega
    have P:sg x x*m<18446744073709551615*d:=oL (bG N s) p;have u:sg y y*m<18446744073709551615*d:=oL (bG O s) p;obtain ⟨v1,f⟩:=Zh t s c P false;obtain ⟨Q,i⟩:=Zh L s c u true;rw [v1,f,Q,i];unfold nM;rcases IY (rd (x*m) d false) with ⟨D,p2,E⟩|⟨D,p2,E⟩ <;> rcases IY (rd (y*m) d true) with ⟨H,I,J⟩|⟨H,I,J⟩ <;> rw [D,p2,E,H,I,J] <;> rfl
   unfold KO;rw [l];simp only [DF,aR,aQ];by_cases hn:n<0
   .have z:xsA a b n=-b:=by unfold xsA;rw [aI hn,aQ,i64w (by omega) (by omega)];omega
    have eb:xsB a b n=-a:=by unfold xsB;rw [aI hn,aQ,i64w (by omega) (by omega)];omega
    have A:xsN n=-n:=by unfold xsN;rw [aI hn,aQ,i64w (by omega) (by omega)];omega
    have j:sg n n=-n:=by rcases jY n with ⟨_,e⟩|⟨_,e⟩ <;> omega
    rw [j] at hb;rw [z,eb,A];rw [g (-b) (-a) (-n) (by omega) (by omega) (gW.2 (by omega)) (gW.2 (by omega)) (by omega)
     (by unfold abH;rcases jY (-b) with ⟨_,e⟩|⟨_,e⟩ <;> omega) (by unfold abH;rcases jY (-a) with ⟨_,e⟩|⟨_,e⟩ <;> omega) hb]
    have q:b*n<=a*n:=Int.mul_le_mul_of_nonpos_right k.2.1 (by omega);have f:mn (a*n) (b*n)=b*n:=by
     unfold mn;by_cases h2:b*n<a*n
     .rw [aI h2];rfl
     .rw [aG h2];simp only [aR];omega
    have i:mx (a*n) (b*n)=a*n:=by unfold mx;rw [aG (by omega)];rfl
    rw [f,i,Int.neg_mul_neg,Int.neg_mul_neg]
   .have z:xsA a b n=a:=by unfold xsA;rw [aG hn];rfl
    have eb:xsB a b n=b:=by unfold xsB;rw [aG hn];rfl
    have A:xsN n=n:=by unfold xsN;rw [aG hn];rfl
    have j:sg n n=n:=by rcases jY n with ⟨_,e⟩|⟨_,e⟩ <;> omega
    rw [j] at hb;rw [z,eb,A];rw [g a b n (by omega) K (gW.2 (by omega)) (gW.2 (by omega)) k.2.1
     (by unfold abH;rcases jY a with ⟨_,e⟩|⟨_,e⟩ <;> omega) (by unfold abH;rcases jY b with ⟨_,e⟩|⟨_,e⟩ <;> omega) hb]
    have q:a*n<=b*n:=bG k.2.1 (by omega);have f:mn (a*n) (b*n)=a*n:=by unfold mn;rw [aG (by omega)];rfl
    have i:mx (a*n) (b*n)=b*n:=by
     unfold mx;by_cases h2:a*n<b*n
     .rw [aI h2];rfl
     .rw [aG h2];simp only [aR];omega
    rw [f,i]
end Go.Ar
namespace Go.Ar
open Go Go.Eng
def PK (a i:Int):Bool:=(a.fdiv (2 ^ min (u64.wrap i).toNat u64.bits)).tmod 2==1
def Zj (a n d i r:Int):Int:=bif PK a i then u64.wrap (u64.wrap (2*r)+n.tmod d) else u64.wrap (2*r)
def aer (a n d i q:Int):Int:=bif PK a i then u64.wrap (u64.wrap (2*q)+u64.wrap (n.tdiv d)) else u64.wrap (2*q)
def Wo (a n d i r:Int):Bool:=decide (Zj a n d i r>=d)
def Zk (a n d i r:Int):Int:=u64.wrap (Zj a n d i r - d)
def Wp (a n d i r:Int):Bool:=decide (Zk a n d i r>=d)
def aes (a n d i r:Int):Int:=u64.wrap (Zk a n d i r - d)
def ajl (a n d i r:Int):Bool:=decide (aes a n d i r>=d)
def aet (a n d i q:Int):Int:=u64.wrap (aer a n d i q+1)
def ovQ (a n d i q r:Int):Int:=bif !Wo a n d i r then aer a n d i q else bif !Wp a n d i r then aet a n d i q else u64.wrap (aet a n d i q+1)
def ovR (a n d i r:Int):Int:=bif !Wo a n d i r then Zj a n d i r else bif !Wp a n d i r then Zk a n d i r else aes a n d i r
def PL (a n d i q r:Int):Bool:=decide (ovQ a n d i q r>4503599627370496)
def ovO (q r:Int):Patch:=⟨bS 12 37++[(9,.int true .u64 q),(10,.int true .u64 r),(11,.any false)],[],[]⟩
def IZ:Patch:=⟨bS 9 40++[(6,.int false .u64 0),(7,.bool false false),(8,.bool false false)],[],[]⟩
def ovF (a n d:Int):Nat->Int->Int->Int->Ex×Patch
 | 0,_,q,r=>(.exit 0,ovO q r)
 | k+1,i,q,r=>bif PL a n d i q r then (.ret,IZ) else ovF a n d k (i64.wrap (i - 1)) (ovQ a n d i q r) (ovR a n d i r)
theorem Uu (a n d k:Nat) (ha:a<18446744073709551616) (hn:n<=4611686018427387904) (hd:1<=d) (L:d<=4611686018427387904) (M:k<=63) (hq:a / 2 ^ (k+1)*n / d<=4503599627370496):
  ovQ a n d k ((a / 2 ^ (k+1)*n / d:Nat):Int) ((a / 2 ^ (k+1)*n % d:Nat):Int)=((a / 2 ^ k*n / d:Nat):Int)/\ovR a n d k ((a / 2 ^ (k+1)*n % d:Nat):Int)=((a / 2 ^ k*n % d:Nat):Int) /\
  0<=u64.wrap (k:Int)/\(Wo a n d k ((a / 2 ^ (k+1)*n % d:Nat):Int)=true->Wp a n d k ((a / 2 ^ (k+1)*n % d:Nat):Int)=true->ajl a n d k ((a / 2 ^ (k+1)*n % d:Nat):Int)=true->False):=by
 have y:a / 2 ^ k=2*(a / 2 ^ (k+1))+a / 2 ^ k % 2:=by rw [iC,<- Dq];omega
 have i:PK a k=decide (a / 2 ^ k % 2=1):=by unfold PK;rw [mg (by omega) (by omega),uM,iP (dF M (by decide))];rw [show (2:Int) ^ k=((2 ^ k:Nat):Int) from (DT 2 k).symm,lT _ (oM _),<- mX];rw [cO (oM _),gq,dV,aT];omega
 generalize N:a / 2 ^ (k+1)=A at *
 generalize O:a / 2 ^ k=B at *
 have f:0<d:=by omega
 have r0:A*n % d<d:=jQ _ f;have m0:n % d<d:=jQ _ f;have n0:n / d<=n:=zm n d;have E:=oO (A*n) d;have e2:=oO n d;generalize P:A*n / d=q at *
 generalize W:A*n % d=r at *
 have tq:(n:Int).tdiv d=((n / d:Nat):Int):=by rw [bV (oM _),<- mX]
 have tr:(n:Int).tmod d=((n % d:Nat):Int):=by rw [cO (oM _),<- uP]
 generalize aa:n / d=u at *
 generalize ab:n % d=w at *
 obtain ⟨R,l⟩:∃ R,R=2*r+(if B % 2=1 then w else 0):=⟨_,rfl⟩;obtain ⟨Q,o⟩:∃ Q,Q=2*q+(if B % 2=1 then u else 0):=⟨_,rfl⟩;have ac:R<3*d:=by rw [l];split <;> omega
 have z:B*n=d*Q+R:=by
  rcases yS B with h|h
  .rw [h] at y;rw [o,l,h,y];simp only [DU,bz,gP];rw [jO,<- E,iR,Nat.mul_left_comm]
  .rw [h] at y;rw [o,l,h,y];simp only [bn];rw [dR,jO,<- E,iR,Nat.mul_left_comm 2 d q,iR,Nat.one_mul];omega
 have D:Zj a n d k (r:Int)=(R:Int):=by
  unfold Zj;rw [i,tr,mg (n:=2*(r:Int)) (by omega) (by omega)];rcases yS B with h|h
  .simp only [h,DU,iB,aR];rw [l,h];simp
  .simp only [h,iD,aQ];rw [mg (by omega) (by omega),l,h];simp
 have H:aer a n d k (q:Int)=(Q:Int):=by
  unfold aer;rw [i,tq,mg (n:=2*(q:Int)) (by omega) (by omega),mg (n:=(u:Int)) (by omega) (by omega)];rcases yS B with h|h
  .simp only [h,DU,iB,aR];rw [o,h];simp
  .simp only [h,iD,aQ];rw [mg (by omega) (by omega),o,h];simp
 have ae:Q<=4611686018427387904+9007199254740992:=by rw [o];split <;> omega
 have g:Wo a n d k (r:Int)=decide (d<=R):=by unfold Wo;rw [D,gq,aT,aT];omega
 have I:aet a n d k (q:Int)=((Q+1:Nat):Int):=by unfold aet;rw [H,mg (by omega) (by omega)];omega
 have c:∀ j s:Nat,s<d->R=j*d+s->B*n / d=Q+j/\B*n % d=s:=by
  intro j s J hj;have:B*n=s+d*(Q+j):=by rw [z,hj,iR,bZ j d];omega
  rw [this,Nat.add_mul_div_left _ _ f,Nat.add_mul_mod_self_left,uQ J,DI J];omega
 by_cases c1:d<=R
 .have r1:Zk a n d k (r:Int)=((R - d:Nat):Int):=by unfold Zk;rw [D,mg (by omega) (by omega)];omega
  have p:Wp a n d k (r:Int)=decide (d<=R - d):=by unfold Wp;rw [r1,gq,aT,aT];omega
  by_cases c2:d<=R - d
  .have K:aes a n d k (r:Int)=((R - d - d:Nat):Int):=by unfold aes;rw [r1,mg (by omega) (by omega)];omega
   obtain ⟨t,x⟩:=c 2 (R - d - d) (by omega) (by omega);refine ⟨?_,?_,by rw [mg (by omega) (by omega)];omega,fun _ _ h=>?_⟩
   .unfold ovQ;rw [g,p,aI c1,aI c2,I,t];simp only [oU,aR];rw [mg (by omega) (by omega)];omega
   .unfold ovR;rw [g,p,aI c1,aI c2,K,x];rfl
   .unfold ajl at h;rw [K,aT] at h;omega
  .obtain ⟨t,x⟩:=c 1 (R - d) (by omega) (by omega);refine ⟨?_,?_,by rw [mg (by omega) (by omega)];omega,fun _ h _=>?_⟩
   .unfold ovQ;rw [g,p,aI c1,aG c2,I,t];rfl
   .unfold ovR;rw [g,p,aI c1,aG c2,r1,x];rfl
   .rw [p,aT] at h;omega
 .obtain ⟨t,x⟩:=c 0 R (by omega) (by omega);refine ⟨?_,?_,by rw [mg (by omega) (by omega)];omega,fun h _ _=>?_⟩
  .unfold ovQ;rw [g,aG c1,H,t];rfl
  .unfold ovR;rw [g,aG c1,D,x];rfl
  .rw [g,aT] at h;omega
theorem Uv (a n d:Nat) (ha:a<18446744073709551616) (hn:n<=4611686018427387904) (hd:1<=d) (c:d<=4611686018427387904):∀ k,k<=64->a / 2 ^ k*n / d<=4503599627370496 ->
  ovF a n d k ((k:Int) - 1) ((a / 2 ^ k*n / d:Nat):Int) ((a / 2 ^ k*n % d:Nat):Int)=bif decide (a*n / d<=4503599627370496) then (.exit 0,ovO ((a*n / d:Nat):Int) ((a*n % d:Nat):Int)) else (.ret,IZ)
 | 0,_,hq=>by
  rw [Nat.pow_zero,Nat.div_one] at hq ⊢;rw [aI hq];rfl
 | k+1,i,hq=>by
  obtain ⟨f,g,_,_⟩:=Uu a n d k ha hn hd c (by omega) hq;have e:((k+1:Nat):Int) - 1=(k:Int):=by omega
  rw [e];simp only [ovF];unfold PL;rw [f,g];have mono:a / 2 ^ k*n / d<=a*n / d:=Nat.div_le_div_right (jI n (zm a _));by_cases h:a / 2 ^ k*n / d<=4503599627370496
  .rw [aG (by omega),aR,show i64.wrap ((k:Int) - 1)=(k:Int) - 1 from i64w (by omega) (by omega)];exact Uv a n d ha hn hd c k (by omega) h
  .rw [aI (by omega),aQ,aG (by omega)];rfl
theorem aeu {p d:Int} (hd:0<d) (c neg:Bool):rd (bif neg then -p else p) d c=bif neg then -(p / d+(if (!(c==neg))=true/\0<p % d then 1 else 0)) else p / d+(if (!(c==neg))=true/\0<p % d then 1 else 0):=by unfold rd;cases neg <;> cases c <;> simp [Cz hd] <;> split <;> omega
def oNo (p d:Int):Bool:=!decide (p / d<=4503599627370496)
def oQ (p d:Int):Int:=bif oNo p d then 0 else p / d
def aig (p d:Int):Bool:=bif oNo p d then false else decide (p % d>0)
def oK (p d:Int) (c neg:Bool):Int:=bif bif aig p d then !(c==neg) else false then u64.wrap (oQ p d+1) else oQ p d
def oV (p d:Int) (c neg:Bool):Int:=bif !(bif oNo p d then false else true) then 0 else bif decide (oK p d c neg>4503599627370496) then 0 else bif neg then i64.wrap (0 - i64.wrap (oK p d c neg)) else i64.wrap (oK p d c neg)
def oB (p d:Int) (c neg:Bool):Bool:=bif !(bif oNo p d then false else true) then false else bif decide (oK p d c neg>4503599627370496) then false else true
theorem aev {k:Int} (f:0<=k) (h1:k<=9223372036854775807) (neg:Bool) (v:Int) (d:v=bif neg then -k else k):
  (bif decide (k>4503599627370496) then 0 else bif neg then i64.wrap (0 - i64.wrap k) else i64.wrap k)=xq v/\(bif decide (k>4503599627370496) then false else true)=okF v:=by
 subst d;by_cases hb:k>4503599627370496
 .have c:okF (bif neg then -k else k)=false:=by
   rw [sJ];cases neg <;> simp <;> omega
  simp [hb,xq,c]
 .have c:okF (bif neg then -k else k)=true:=by
   rw [gW];cases neg <;> simp <;> omega
  simp only [hb,iB,aR,xq,c,aQ];refine ⟨?_,trivial⟩;rw [i64w (n:=k) (by omega) (by omega),i64w (n:=0 - k) (by omega) (by omega)];cases neg <;> simp
theorem aoe {p d:Int} (hp:0<=p) (hd:0<d) (c neg:Bool) (n:Int) (hn:n=bif neg then -p else p):oV p d c neg=xq (rd n d c)/\oB p d c neg=okF (rd n d c):=by
 have j:0<=p / d:=bu hp (by omega);have rv:=aeu (p:=p) hd c neg;rw [<- hn] at rv;by_cases f:p / d<=4503599627370496
 .have e:oNo p d=false:=by simp [oNo,f]
  have g:oK p d c neg=p / d+(if (!(c==neg))=true/\0<p % d then 1 else 0):=by
   unfold oK aig oQ;rw [e];simp only [aR]
   cases k:!(c==neg) with
   | false=>cases decide (p % d>0) <;> simp
   | true=>
    by_cases h:p % d>0
    .rw [aI h];simp only [aQ,true_and];rw [aC (by omega),mg (by omega) (by omega)]
    .rw [aG h];simp only [aR,true_and];rw [aB (by omega)];omega
  have hb:0<=oK p d c neg/\oK p d c neg<=9223372036854775807:=by rw [g];split <;> omega
  have:=aev hb.1 hb.2 neg (rd n d c) (by rw [rv,g]);unfold oV oB;rw [e];exact this
 .have e:oNo p d=true:=by simp [oNo,f]
  have i:okF (rd n d c)=false:=by rw [sJ,rv];cases neg <;> simp <;> split <;> omega
  unfold oV oB xq;rw [e,i];exact ⟨rfl,rfl⟩
def rs2 (a i:Int):Int:=bif decide (i64.wrap (2*i)>=32) then (a.fdiv (2 ^ min (u64.wrap (i64.wrap (i64.wrap (2*i) - 32))).toNat i64.bits)).tmod 4 else 0
def rs6 (a i rest:Int):Int:=i64.wrap (i64.wrap (4*rest)+rs2 a i)
def rs8 (c:Int):Int:=i64.wrap (i64.wrap (4*c)+1)
def rsG (a i c rest:Int):Bool:=decide (rs6 a i rest>=rs8 c)
def wR (a i c rest:Int):Int:=bif rsG a i c rest then i64.wrap (i64.wrap (2*c)+1) else i64.wrap (2*c)
def wS (a i c rest:Int):Int:=bif rsG a i c rest then i64.wrap (rs6 a i rest - rs8 c) else rs6 a i rest
def rsO (c rest:Int):Patch:=⟨bS 7 43++[(5,.int true .i64 c),(6,.int true .i64 rest)],[],[]⟩
def rsF (a:Int):Nat->Int->Int->Int->Int×Int
 | 0,_,c,d=>(c,d)
 | k+1,i,c,d=>rsF a k (i64.wrap (i - 1)) (wR a i c d) (wS a i c d)
theorem ajm (a k:Nat) (ha:a<=4503599627370496) (c:k<=42):rs2 a k=((a*4294967296 / 4 ^ k % 4:Nat):Int):=by
 unfold rs2;rw [i64w (n:=2*(k:Int)) (by omega) (by omega)];by_cases h:16<=k
 .rw [aI (by omega),aQ,i64w (n:=2*(k:Int) - 32) (by omega) (by omega),mg (by omega) (by omega)];rw [show (2*(k:Int) - 32).toNat=2*(k - 16) by omega,iP (dF (show 2*(k - 16)<=64 by omega) (by decide))];rw [show (2:Int) ^ (2*(k - 16))=((4 ^ (k - 16):Nat):Int) from (DT 2 (2*(k - 16))).symm.trans (by rw [Nat.pow_mul])];rw [lT _ (oM _),<- mX,cO (oM _)];have:a*4294967296 / 4 ^ k=a / 4 ^ (k - 16):=by
   rw [show 4 ^ k=4294967296*4 ^ (k - 16) by rw [show (4294967296:Nat)=4 ^ 16 by decide,<- kV];congr 1;omega];rw [<- Dq,Nat.mul_div_cancel _ (by decide)]
  rw [this];omega
 .rw [aG (by omega),aR];have:a*4294967296 / 4 ^ k=a*4 ^ (16 - k):=by
   rw [show (4294967296:Nat)=4 ^ (16 - k)*4 ^ k by rw [<- kV,show 16 - k+k=16 by omega]];rw [<- jO,Nat.mul_div_cancel _ (Nat.pow_pos (by decide))]
  rw [this,show 16 - k=(15 - k)+1 by omega,iC,<- jO,Nat.mul_mod_left];rfl
theorem aew (a k P d:Nat) (ha:a<=4503599627370496) (q:k<=42) (r:P=a*4294967296 / 4 ^ (k+1)) (h1:d*d<=P) (h2:P<(d+1)*(d+1)) (h3:d<=8796093022208):
  ∃ f:Nat,wR a k d ((P - d*d:Nat):Int)=(f:Int)/\wS a k d ((P - d*d:Nat):Int)=((a*4294967296 / 4 ^ k - f*f:Nat):Int)/\f*f<=a*4294967296 / 4 ^ k/\a*4294967296 / 4 ^ k<(f+1)*(f+1):=by
 have u:a*4294967296 / 4 ^ k=4*P+a*4294967296 / 4 ^ k % 4:=by rw [r,iC,<- Dq];omega
 have s:=ajm a k ha q;generalize a*4294967296 / 4 ^ k=Q at *
 have h:P - d*d<=2*d:=by rw [dR,iR] at h2;omega
 generalize x:P - d*d=R at *
 have i:rs6 a k (R:Int)=((4*R+Q % 4:Nat):Int):=by unfold rs6;rw [s,i64w (n:=4*(R:Int)) (by omega) (by omega),i64w (by omega) (by omega)];omega
 have p:rs8 (d:Int)=((4*d+1:Nat):Int):=by unfold rs8;rw [i64w (n:=4*(d:Int)) (by omega) (by omega),i64w (by omega) (by omega)];omega
 have g:rsG a k d (R:Int)=decide (4*d+1<=4*R+Q % 4):=by unfold rsG;rw [i,p,gq,aT,aT];omega
 have j:(2*d)*(2*d)=4*(d*d):=by rw [Nat.mul_mul_mul_comm]
 have l:(2*d+1)*(2*d+1)=4*(d*d)+4*d+1:=by rw [dR,iR,j];omega
 have t:(2*d+1+1)*(2*d+1+1)=4*(d*d)+8*d+4:=by rw [dR,iR,l];omega
 have o:(d+1)*(d+1)=d*d+2*d+1:=by rw [dR,iR];omega
 rw [o] at h2;generalize d*d=S at *
 by_cases c:4*d+1<=4*R+Q % 4
 .refine ⟨2*d+1,?_,?_,by omega,by omega⟩
  .unfold wR;rw [g,aI c,aQ,i64w (n:=2*(d:Int)) (by omega) (by omega),i64w (by omega) (by omega)];omega
  .unfold wS;rw [g,aI c,aQ,i,p,i64w (by omega) (by omega)];omega
 .refine ⟨2*d,?_,?_,by omega,by omega⟩
  .unfold wR;rw [g,aG c,aR,i64w (by omega) (by omega)];omega
  .unfold wS;rw [g,aG c,aR,i];omega
theorem Uw (a:Nat) (ha:a<=4503599627370496):∀ k c:Nat,k<=43->c*c<=a*4294967296 / 4 ^ k->a*4294967296 / 4 ^ k<(c+1)*(c+1) ->
  ∃ r:Nat,rsF a k ((k:Int) - 1) (c:Int) ((a*4294967296 / 4 ^ k - c*c:Nat):Int)=((r:Int),((a*4294967296 - r*r:Nat):Int))/\r*r<=a*4294967296/\a*4294967296<(r+1)*(r+1)
 | 0,c,_,h1,h2=>by
  rw [Nat.pow_zero,Nat.div_one] at h1 h2 ⊢;exact ⟨c,by rw [rsF],h1,h2⟩
 | k+1,c,o,h1,h2=>by
  have g:c<=8796093022208:=by
   rcases aX 8796093022208 c with h|h
   .have f:8796093022209<=c:=by omega
    have h3:8796093022209*8796093022209<=c*c:=rU f f;have p:a*4294967296 / 4 ^ (k+1)<=a*4294967296:=zm _ _;omega
   .exact h
  obtain ⟨d,i,j,l,n⟩:=aew a k _ c ha (by omega) rfl h1 h2 g;have e:((k+1:Nat):Int) - 1=(k:Int):=by omega
  rw [e];rw [rsF];rw [i,j,show i64.wrap ((k:Int) - 1)=(k:Int) - 1 from i64w (by omega) (by omega)];exact Uw a ha k d (by omega) l n
def rsV (a:Int) (c:Bool):Int:=bif bif c then decide ((rsF a 43 42 0 0).2>0) else false then i64.wrap ((rsF a 43 42 0 0).1+1) else (rsF a 43 42 0 0).1
theorem z43 (n:Nat) (h:n<=4503599627370496):n*4294967296 / 4 ^ 43=0:=uQ (by
 have:(4:Nat) ^ 43=77371252455336267181195264:=by decide
 omega)
theorem ajn (n:Nat) (h:n<=4503599627370496):∃ r:Nat,rsF n 43 42 0 0=((r:Int),((n*4294967296 - r*r:Nat):Int))/\r*r<=n*4294967296/\n*4294967296<(r+1)*(r+1):=by have z:=z43 n h;obtain ⟨r,e,k1,k2⟩:=Uw n h 43 0 (by decide) (by rw [z];decide) (by rw [z];decide);rw [z,show ((43:Nat):Int) - 1=42 by decide,Nat.mul_zero,Nat.sub_zero,Int.natCast_zero] at e;exact ⟨r,e,k1,k2⟩
theorem Zl {a:Int} (h:qO a=true) (c:Bool):rsV a c=rtV a c:=by
 obtain ⟨r0,r1,i,j⟩:=qE h;simp only [qO,aF,aT] at h;have h1:=gW.1 h.1;obtain ⟨n,rfl⟩:=mR h.2;obtain ⟨r,e,k1,k2⟩:=ajn n (by omega);obtain ⟨s,g⟩:=mR r0;rw [g] at r1 i j;have c1:((s*s:Nat):Int)=(s:Int)*s:=gu s s;have c2:(((s+1)*(s+1):Nat):Int)=((s:Int)+1)*(s+1):=by rw [gu];rfl
 have d:r=s:=PD k1 k2 (by omega) (by omega);subst d;obtain ⟨w,k⟩:∃ w:Nat,w=n*4294967296 - r*r:=⟨_,rfl⟩;rw [<- k] at e;have f:decide ((w:Int)>0)=!((r:Int)*r==(n:Int)*4294967296):=by
  rw [gq,aT,gN,dm];constructor
  .intro l o;omega
  .intro l;omega
 rw [rsV,rtV,e,g];rw [f]
 cases c with
 | false=>rfl
 | true=>
  cases hb:((r:Int)*r==(n:Int)*4294967296) with
  | true=>rfl
  | false=>
   simp only [aQ,uV,zu];exact i64w (by omega) (by omega)
def rRt (x:Int):Bool:=bif decide (x>=-4503599627370496) then decide (x<=4503599627370496) else false
def Zm (a n d:Int):Bool:=bif !rRt a then true else bif decide (n < -4611686018427387904) then true else bif decide (n>4611686018427387904) then true else bif decide (d<1) then true else decide (d>4611686018427387904)
def ajo (a n d:Int) (c:Bool):Bool:=bif !oB (xSz a*xSz n) (u64.wrap d) c (Mv a n) then true else !rRt (oV (xSz a*xSz n) (u64.wrap d) c (Mv a n))
def aex (a n d:Int) (c:Bool):Int:=bif Zm a n d then 0 else bif ajo a n d c then 0 else oV (xSz a*xSz n) (u64.wrap d) c (Mv a n)
def aey (a n d:Int) (c:Bool):Int:=bif Zm a n d then 2 else bif ajo a n d c then 6 else 0
theorem MH (x:Int):rRt x=okF x:=by
 unfold rRt okF;by_cases h:x>=-4503599627370496
 .rw [aI h];rfl
 .rw [aG h];rfl
theorem Ux (a n d:Int):Zm a n d=!okS a n d:=by have:=Gx a n d;unfold Zm;unfold Pt at this;rw [MH];rw [YV] at this;rw [<- this];cases okF a <;> rfl
theorem Zn (v:Int):okF (xq v)=true:=by
 unfold xq
 cases h:okF v with
 | true=>exact h
 | false=>rfl
theorem Uy (a n d:Int) (c:Bool):aex a n d c=RI a n d c/\aey a n d c=RJ a n d c:=by
 unfold aex aey RI RJ ajo;rw [Ux]
 cases h:okS a n d with
 | false=>exact ⟨rfl,rfl⟩
 | true=>
  simp only [okS,aF,aT] at h;obtain ⟨ha,⟨⟨i,j⟩,k⟩,l⟩:=h;obtain ⟨a1,a2,o⟩:=Pw ha;have f:xSz n=sg n n:=IX (by omega) (by omega);have g:=KJ n;rw [a1,f,mg (n:=d) (by omega) (by omega)];obtain ⟨v,b⟩:=aoe (p:=sg a a*sg n n) (d:=d) (aV a2 g) (by omega) c (Mv a n) (a*n) (Pv a n);rw [v,b,MH,Zn];unfold xq IW;cases okF (rd (a*n) d c) <;> exact ⟨rfl,rfl⟩
def pN (o x y c:Int):Int:=i64.wrap (i64.wrap (o+i64.wrap (x*y))+c)
def MI (x:Int):List Int->List Int->Int->List Int
 | y :: ys,o :: os,c=>(pN o x y c).tmod 65536 :: MI x ys os (i64.wrap ((pN o x y c).tdiv 65536))
 | [],_ :: os,c=>c :: os
 | _,[],_=>[]
def FT:List Int->List Int->List Int->List Int
 | x :: xs,ys,out=>match MI x ys out 0 with
  | o :: os=>o :: FT xs ys os
  | []=>[]
 | [],_,out=>out
def dgP:Nat->Int->List Int
 | 0,_=>[]
 | k+1,v=>v.tmod 65536 :: dgP k (i64.wrap (v.tdiv 65536))
def ul:Nat->List Int
 | 0=>[]
 | k+1=>0 :: ul k
def pwL (k:Nat) (v:Int):List Int:=FT (FT [1] (dgP k v) (ul (1+k))) (dgP k v) (ul (1+k+k))
def nxP (o x:Int):Int:=i64.wrap (i64.wrap (o*65536)+x)
def PM:List Int->Int->Int
 | [],o=>o
 | x :: xs,o=>PM xs (nxP o x)
def MJ:List Int->Int->Bool
 | [],_=>true
 | x :: xs,o=>match xs with
  | []=>!decide (o>68719476736)
  | _ :: _=>!decide (o>68719476736)&&MJ xs (nxP o x)
def Zo (k:Nat) (v:Int):List Int:=((pwL k v).drop 2).reverse
def ajp (l:List Int):Bool:=match l with
 | a :: b :: _=>bif decide (a>0) then true else decide (b>0)
 | _=>false
def oq (k:Nat) (v:Int) (c:Bool):Int:=match Zo k v with
 | []=>0
 | t :: r=>bif (bif c then ajp (pwL k v) else false) then i64.wrap (PM r (nxP 0 t)+1) else PM r (nxP 0 t)
def tY (k:Nat) (v:Int):Bool:=match Zo k v with
 | []=>true
 | t :: r=>MJ r (nxP 0 t)
def mK:List Int->Int
 | []=>0
 | x :: l=>x+65536*mK l
def yo (l:List Int):Prop:=∀ x∈l,0<=x/\x<65536
theorem fe {x:Int} {l:List Int}:yo (x :: l) ↔ (0<=x/\x<65536)/\yo l:=by simp [yo]
theorem yt:∀ {l:List Int},yo l->0<=mK l
 | [],_=>by simp [mK]
 | x :: l,h=>by
  have h:=fe.1 h;have:=yt h.2;simp only [mK];omega
theorem aof {o x y c:Int} (g:0<=o/\o<65536) (f:0<=x/\x<65536) (d:0<=y/\y<65536) (h:0<=c/\c<65536):pN o x y c=o+x*y+c/\0<=x*y/\x*y<=65535*65535:=by have h1:0<=x*y:=aV f.1 d.1;have h2:x*y<=65535*65535:=bC (by omega) (by omega) d.1 (by decide);unfold pN;rw [i64w (n:=x*y) (by omega) (by omega),i64w (n:=o+x*y) (by omega) (by omega),i64w (by omega) (by omega)];exact ⟨rfl,h1,h2⟩
theorem Uz {x:Int} (n:0<=x/\x<65536):∀ (ys out:List Int) (c:Int),yo ys->yo out->(0<=c/\c<65536)->ys.length<out.length->(∀ j,ys.length<=j->∀ z,out[j]?=some z->z=0) ->
  yo (MI x ys out c)/\(MI x ys out c).length=out.length/\mK (MI x ys out c)=mK out+x*mK ys+c/\∀ j,ys.length+1<=j->∀ z,(MI x ys out c)[j]?=some z->z=0
 | ys,[],c,_,_,_,h,_=>by simp at h
 | [],o :: os,c,_,f,l,_,i=>by
  have f:=fe.1 f;have q:o=0:=i 0 (bD _) o rfl;subst q;refine ⟨fe.2 ⟨l,f.2⟩,rfl,by simp only [MI,mK];omega,fun j g z d=>?_⟩
  cases j with
  | zero=>simp at g
  | succ j=>exact i (j+1) (kU _) z d
 | y :: ys,o :: os,c,k,f,l,r,i=>by
  have k:=fe.1 k;have f:=fe.1 f;obtain ⟨e,I,J⟩:=aof f.1 n k.1 l;have p:0<=pN o x y c:=by omega
  have K:pN o x y c<4294967296:=by omega
  have s:(pN o x y c).tmod 65536=pN o x y c % 65536:=cO p;have t:i64.wrap ((pN o x y c).tdiv 65536)=pN o x y c / 65536:=by rw [bV p,i64w (by omega) (by omega)]
  obtain ⟨i1,u,D,E⟩:=Uz n ys os (pN o x y c / 65536) k.2 f.2 (by omega) (by simpa using r) fun j g z d=>i (j+1) (by simp;omega) z (by simpa using d);simp only [MI];rw [s,t];refine ⟨fe.2 ⟨by omega,i1⟩,by simp [u],?_,fun j g z d=>?_⟩
  .simp only [mK];rw [D,e];have H:x*(y+65536*mK ys)=x*y+65536*(x*mK ys):=by rw [dU,ze]
   rw [H];generalize x*mK ys=A;omega
  .cases j with
   | zero=>simp at g
   | succ j=>exact E j (by simp at g;omega) z (by simpa using d)
theorem I1:∀ (xs ys out:List Int),yo xs->yo ys->yo out->out.length=xs.length+ys.length->(∀ j,ys.length<=j->∀ z,out[j]?=some z->z=0) ->
  yo (FT xs ys out)/\(FT xs ys out).length=out.length/\mK (FT xs ys out)=mK out+mK xs*mK ys
 | [],ys,out,_,_,f,_,_=>⟨f,rfl,by simp [FT,mK]⟩
 | x :: xs,ys,out,d,i,f,g,p=>by
  have d:=fe.1 d;obtain ⟨r1,c,k,l⟩:=Uz d.1 ys out 0 i f (by omega) (by simp at g;omega) p;simp only [FT]
  cases n:MI x ys out 0 with
  | nil=>rw [n] at c;simp at c g;omega
  | cons o os=>
   rw [n] at r1 c k l;have r1:=fe.1 r1;obtain ⟨i1,r,q⟩:=I1 xs ys os d.2 i r1.2 (by simp at c g;omega) fun j s z h=>l (j+1) (by omega) z (by simpa using h);refine ⟨fe.2 ⟨r1.1,i1⟩,by simp at c ⊢;omega,?_⟩;simp only [mK] at k ⊢;rw [q,iQ,dU,dM];omega
theorem I4:∀ k,yo (ul k)/\(ul k).length=k/\mK (ul k)=0/\∀ (j:Nat) z,(ul k)[j]?=some z->z=0
 | 0=>⟨fun x h=>(by cases h),rfl,rfl,fun j z h=>(by simp [ul] at h)⟩
 | k+1=>by
  obtain ⟨h1,h2,h3,c⟩:=I4 k;refine ⟨fe.2 ⟨by omega,h1⟩,by simp [ul,h2],by simp [ul,mK,h3],fun j z h=>?_⟩
  cases j with
  | zero=>simp [ul] at h;exact h.symm
  | succ j=>exact c j z (by simpa [ul] using h)
theorem Zp:∀ (k:Nat) (v:Int),0<=v->v<9223372036854775808->v<65536 ^ k->yo (dgP k v)/\(dgP k v).length=k/\mK (dgP k v)=v
 | 0,v,c,_,h1=>by
  rw [Int.pow_zero] at h1;exact ⟨fun x h=>(by cases h),rfl,by simp only [dgP,mK];omega⟩
 | k+1,v,c,hb,h1=>by
  have d:i64.wrap (v.tdiv 65536)=v / 65536:=by rw [bV c,i64w (by omega) (by omega)]
  obtain ⟨i1,f,g⟩:=Zp k (v / 65536) (by omega) (by omega) (by rw [zC] at h1;omega);simp only [dgP];rw [d,cO c];exact ⟨fe.2 ⟨by omega,i1⟩,by simp [f],by simp only [mK,g];omega⟩
theorem aez (k:Nat) (v:Int) (i:0<=v) (hb:v<9223372036854775808) (h1:v<65536 ^ k):yo (pwL k v)/\(pwL k v).length=1+k+k/\mK (pwL k v)=v*v:=by obtain ⟨c,d,l⟩:=Zp k v i hb h1;obtain ⟨n,f,z3,o⟩:=I4 (1+k);obtain ⟨p,g,q,r⟩:=I4 (1+k+k);obtain ⟨s,p2,t⟩:=I1 [1] (dgP k v) (ul (1+k)) (fe.2 ⟨by omega,fun x h=>by cases h⟩) c n (by simp [f,d]) fun j _ z h=>o j z h;obtain ⟨u,y,A⟩:=I1 _ (dgP k v) (ul (1+k+k)) s c p (by rw [p2,f,d,g]) fun j _ z h=>r j z h;refine ⟨u,by rw [pwL,y,g],?_⟩;rw [pwL,A,t,q,z3,l];simp [mK]
def tvP:List Int->Int->Int
 | [],o=>o
 | x :: xs,o=>tvP xs (o*65536+x)
theorem UA:∀ {l:List Int} {o:Int},yo l->0<=o->o<=tvP l o/\(l≠[]->o<=tvP l o / 65536)
 | [],o,_,h=>⟨by simp [tvP],fun h=>absurd rfl h⟩
 | x :: l,o,hd,h=>by
  have hd:=fe.1 hd;obtain ⟨i1,c⟩:=UA (l:=l) (o:=o*65536+x) hd.2 (by omega);simp only [tvP];exact ⟨by omega,fun _=>by omega⟩
theorem Gy:∀ {l:List Int} {o:Int},yo l->0<=o->l≠[]->MJ l o=decide (tvP l o / 65536<=68719476736)/\(MJ l o=true->PM l o=tvP l o)
 | [],o,_,_,h=>absurd rfl h
 | [x],o,hd,h,_=>by
  have hd:=fe.1 hd;have e:(o*65536+x) / 65536=o:=by omega
  have j:MJ [x] o=!decide (o>68719476736):=rfl;have g:tvP [x] o=o*65536+x:=rfl;have i:PM [x] o=nxP o x:=rfl;rw [j,g,i];refine ⟨by rw [gq,gN,kK,aT];omega,fun f=>?_⟩;rw [gN,kK] at f;unfold nxP;rw [i64w (n:=o*65536) (by omega) (by omega),i64w (by omega) (by omega)]
 | x :: y :: l,o,hd,h,_=>by
  have hd:=fe.1 hd;have m:=UA (l:=x :: y :: l) (o:=o) (fe.2 hd) h;have d:MJ (x :: y :: l) o=(!decide (o>68719476736)&&MJ (y :: l) (nxP o x)):=rfl;have i:PM (x :: y :: l) o=PM (y :: l) (nxP o x):=rfl;have g:tvP (x :: y :: l) o=tvP (y :: l) (o*65536+x):=rfl;by_cases c:o>68719476736
  .have p:=m.2 (by simp);rw [d,aI c];refine ⟨?_,fun f=>by simp at f⟩;rw [aG (by omega)];rfl
  .have e:nxP o x=o*65536+x:=by
    unfold nxP;rw [i64w (n:=o*65536) (by omega) (by omega),i64w (by omega) (by omega)]
   obtain ⟨i1,k⟩:=Gy (l:=y :: l) (o:=o*65536+x) hd.2 (by omega) (by simp);rw [d,i,g,e,aG c];exact ⟨by rw [i1];rfl,fun f=>k (by simpa using f)⟩
theorem KQ:∀ (l:List Int) (x o:Int),tvP (l++[x]) o=tvP l o*65536+x
 | [],x,o=>rfl
 | y :: l,x,o=>by simp only [zf,tvP];exact KQ l x _
theorem Zq:∀ l:List Int,tvP l.reverse 0=mK l
 | []=>rfl
 | x :: l=>by rw [List.reverse_cons,KQ,Zq l];simp only [mK];omega
def tO (v:Int):Bool:=decide (v*v / 4294967296 / 65536>68719476736)
def pV (v:Int) (c:Bool):Int:=bif tO v then 0 else rd (v*v) 4294967296 c
def pB (v:Int) (c:Bool):Bool:=bif tO v then false else decide (rd (v*v) 4294967296 c<=4503599627370496)
theorem UB (k:Nat) (J:1<=k) (v:Int) (u:0<=v) (hb:v<=4503599627370496) (h1:v<65536 ^ k):∃ t r,Zo k v=t :: r/\(r=[]->k=1) /\
  (2<=k->MJ r (nxP 0 t)=!tO v)/\(k=1->tO v=false/\r=[])/\(tO v=false->∀ c,oq k v c=rd (v*v) 4294967296 c):=by
 obtain ⟨l1,l2,l3⟩:=aez k v u (by omega) h1
 match y:pwL k v,l1,l2,l3 with
 | [],_,l2,_=>simp at l2;omega
 | [_],_,l2,_=>simp at l2;omega
 | a :: b :: l,l1,l2,l3=>
  have a1:=fe.1 l1;have s:=fe.1 a1.2;simp only [mK] at l3;have K:l.length=2*k - 1:=by simp at l2;omega
  have z:Zo k v=l.reverse:=by unfold Zo;rw [y];rfl
  have hq:v*v / 4294967296=mK l/\v*v % 4294967296=a+65536*b:=by have:=yt s.2;generalize v*v=P at l3 ⊢;omega
  have hd:yo l.reverse:=fun x D=>s.2 x (List.mem_reverse.1 D)
  cases i:l.reverse with
  | nil=>
   have:l.length=0:=by rw [<- List.length_reverse,i];rfl
   omega
  | cons t r=>
   have f:r.length=2*k - 2:=by have:=bL List.length i;simp at this;omega
   rw [i] at hd;have hd:=fe.1 hd;have tv:=Zq l;rw [i] at tv;simp only [tvP] at tv;have g:nxP 0 t=0*65536+t:=by unfold nxP;rw [i64w (n:=0*65536) (by omega) (by omega),i64w (by omega) (by omega)]
   have low:ajp (a :: b :: l)=decide (0<v*v % 4294967296):=by
    have j:ajp (a :: b :: l)=(bif decide (a>0) then true else decide (b>0)):=rfl;rw [j,hq.2];by_cases ha:a>0
    .rw [aI ha,aQ,aI (by omega)]
    .rw [aG ha,aR,gq,aT,aT];omega
   have out:(r≠[]->MJ r (nxP 0 t)=true)->mK l / 65536<=68719476736->∀ c,oq k v c=rd (v*v) 4294967296 c:=by
    intro E H c;have I:PM r (nxP 0 t)=mK l:=by
     by_cases hn:r=[]
     .subst hn;rw [g];exact tv
     .have:=(Gy (l:=r) (o:=nxP 0 t) hd.2 (by rw [g];omega) hn).2 (E hn);rw [this,g,tv]
    unfold oq;rw [z,i];simp only;rw [I,y,low];have L:=yt s.2;unfold rd
    cases c with
    | false=>simp [hq.1]
    | true=>
     simp only [aQ];have:=Cz (p:=v*v) (d:=4294967296) (by decide);rw [this,hq.1];by_cases q:0<v*v % 4294967296
     .rw [aI q,aQ,aC q,i64w (by omega) (by omega)];omega
     .rw [aG q,aR,aB q];omega
   refine ⟨t,r,by rw [z,i],fun h=>?_,fun h2=>?_,fun h1=>⟨?_,?_⟩,fun A c=>?_⟩
   .subst h;simp at f;omega
   .have hn:r≠[]:=by intro h;subst h;simp at f;omega
    have:=(Gy (l:=r) (o:=nxP 0 t) hd.2 (by rw [g];omega) hn).1;rw [this,g,tv];unfold tO;rw [hq.1,gq,aT,gN,kK];omega
   .subst h1;unfold tO;rw [aG];rw [Int.pow_one] at h1;have:v*v<=65535*65535:=bC (by omega) (by omega) u (by decide);generalize v*v=P at this ⊢;omega
   .subst h1;exact gK.1 (by omega)
   .unfold tO at A;rw [hq.1,kK] at A;refine out (fun hn=>?_) (by omega) c;have:=(Gy (l:=r) (o:=nxP 0 t) hd.2 (by rw [g];omega) hn).1;rw [this,g,tv,aI (by omega)]
end Go.Ar
namespace Go.Ar
open Go Go.Eng
noncomputable section
def shS:Sh:=.a [.i .i64,.i .i64]
def yu (s:Sp):Tm:=.u [.a [.n .i64 s.lo,.n .i64 s.hi],.n .i64 s.e]
def Zr (F:Int->Int->Int->Int->Sp):eT:=fD [shS,shS] none fun
 | [.n a,.n b,.n c,.n d]=>yu (F a b c d)
 | _=>.u []
def sUn (F:Int->Int->Sp):eT:=fD [shS] none fun
 | [.n a,.n b]=>yu (F a b)
 | _=>.u []
def sSc (F:Int->Int->Int->Int->Sp):eT:=fD [shS,.i .i64,.i .i64] none fun
 | [.n a,.n b,.n n,.n d]=>yu (F a b n d)
 | _=>.u []
def Zt (a b:Int):Int:=bif fQ a b then 0 else 20
def aeA:eT:=fD [shS] none fun
 | [.n a,.n b]=>.n .i64 (Zt a b)
 | _=>.u []
def aog:eT:=fD [.i .i64,.c (.int false .i64 2)] (some fun
 | [.n v]=>okF v
 | _=>false) fun
 | [.n v]=>.u [.n .i64 (sqD v),.n .i64 (sqU v),.n .i64 (sqE v)]
 | _=>.u []
def PN (a n d:Int):Bool:=decide (a*n / d<=4503599627370496)
def aih:eT:=fD [.i .u64,.i .u64,.i .u64] (some fun
 | [.n a,.n n,.n d]=>decide (0<=a/\a<18446744073709551616/\0<=n/\n<=4611686018427387904/\1<=d/\d<=4611686018427387904)
 | _=>false) fun
 | [.n a,.n n,.n d]=>.u [.n .u64 (bif !PN a n d then 0 else a*n / d),.t (bif !PN a n d then false else decide (a*n % d>0)),.t (bif !PN a n d then false else true)]
 | _=>.u []
def MK (d:Bool):eT:=fD [.i .i64,.c (.bool false d)] (some fun
 | [.n a]=>qO a
 | _=>false) fun
 | [.n a]=>.n .i64 (rtV a d)
 | _=>.u []
def Gz (c:Bool):eT:=fD [.i .i64,.i .i64,.i .i64] none fun
 | [.n a,.n n,.n d]=>two (RI a n d c) (RJ a n d c)
 | _=>.u []
def UC (d:Bool):eT:=fD [.i .i64,.c (.int false .i64 2),.c (.bool false d)] (some fun
 | [.n v]=>decide (0<=v)&&okF v
 | _=>false) fun
 | [.n v]=>.u [.n .i64 (pV v d),.t (pB v d)]
 | _=>.u []
def orS (s t:eT):eT:=fun args=>match s args with
 | some x=>some x
 | none=>t args
theorem Zu {P:Program} {f:FuncId} {s t:eT} (c:PureOk P f s) (d:PureOk P f t):PureOk P f (orS s t):=by
 refine ⟨c.fn,fun args nd v e=>?_⟩;unfold orS at e;split at e
 .rename_i x g;cases e;exact c.run args nd v g
 .exact d.run args nd v e
end
end Go.Ar
namespace Go.Proofs.YtbiiiloimbjpaaaGreatDoor.K
open Go Go.Eng Go.Ar
noncomputable section
theorem aeB (a b:Int):jr ((run c2 300).call 67 [.agg [.int true .i64 a,.int true .i64 b]] ⟨[],0,1⟩)=some (.tt,.int true .i64 (xCS a b)):=by kernel_rfl
theorem aeC (a b c d:Int):jr ((run c2 300).call 32 [.agg [.int true .i64 a,.int true .i64 b],.agg [.int true .i64 c,.int true .i64 d]] ⟨[],0,1⟩)=some (.tt,(yu (Y7 a b c d)).av true):=by kernel_rfl
theorem Zw (a b:Int):jr ((run c2 300).call 35 [.agg [.int true .i64 a,.int true .i64 b]] ⟨[],0,1⟩)=some (.tt,(yu (RO a b)).av true):=by kernel_rfl
theorem Wq (a b n d:Int):jr ((run c2 300).call 34 [.agg [.int true .i64 a,.int true .i64 b],.int true .i64 n,.int true .i64 d] ⟨[],0,1⟩)=some (.tt,(yu (p9 a b n d)).av true):=by kernel_rfl
theorem aeD (v:Int):jr ((run c2 300).call 92 [.int true .i64 v,.int false .i64 2] ⟨[],0,1⟩)=some (.p (pwN v),.tuple [.int true .i64 (pwD v),.int true .i64 (pwU v),.int true .i64 (pwE v)]):=by kernel_rfl
theorem ajq:PureOk Tryz.prog 92 aog:=by refine ma (fun xs c hN=>?_) ⟨_,Tryz.func92,rfl⟩;obtain ⟨v,_,rfl,h1⟩:=kn c;obtain rfl:=k0 h1;obtain ⟨d,f,e3,hn⟩:=ajk hN;have:=aeD v;rw [d,f,e3] at this;exact ⟨c2,300,_,PH,rfl,fun _=>rfl,rfl,this,hn⟩
noncomputable def aoh:List (FuncId×eT):=(92,aog) :: aei
theorem aeE:Cr Tryz.prog aoh:=fun x c=>by
 rcases aN.1 c with rfl|c
 .exact ajq
 .exact Us x c
noncomputable def c3:Ctx:=mkC Tryz.prog aoh ext
theorem aoi:CtxOk c3:=wO prog_ok aeE ext_ok
theorem aeF (a b:Int):jr ((run c3 300).call 33 [.agg [.int true .i64 a,.int true .i64 b]] ⟨[],0,1⟩)=some (.p (aie a b),(yu (Zf a b)).av true):=by kernel_rfl
theorem UD:PureOk Tryz.prog 67 aeA:=by refine ma (fun xs c _=>?_) ⟨_,Tryz.func67,rfl⟩;obtain ⟨a,_,rfl,h1⟩:=kn c;obtain ⟨b,_,rfl,h2⟩:=kn h1;obtain rfl:=k0 h2;have:=aeB a b;rw [yn] at this;exact ⟨c2,300,_,PH,rfl,fun _=>rfl,rfl,this,trivial⟩
theorem UE:PureOk Tryz.prog 32 (Zr qP):=by refine ma (fun xs f _=>?_) ⟨_,Tryz.func32,rfl⟩;obtain ⟨a,_,rfl,h1⟩:=kn f;obtain ⟨b,_,rfl,h2⟩:=kn h1;obtain ⟨c,_,rfl,h3⟩:=kn h2;obtain ⟨d,_,rfl,g⟩:=kn h3;obtain rfl:=k0 g;exact ⟨c2,300,_,PH,rfl,fun _=>rfl,rfl,(aeC a b c d).trans (by rw [Zb]),trivial⟩
theorem PO:PureOk Tryz.prog 35 (sUn uk):=by refine ma (fun xs c _=>?_) ⟨_,Tryz.func35,rfl⟩;obtain ⟨a,_,rfl,h1⟩:=kn c;obtain ⟨b,_,rfl,h2⟩:=kn h1;obtain rfl:=k0 h2;exact ⟨c2,300,_,PH,rfl,fun _=>rfl,rfl,(Zw a b).trans (by rw [Wl]),trivial⟩
theorem UF:PureOk Tryz.prog 33 (sUn oh):=by refine ma (fun xs c _=>?_) ⟨_,Tryz.func33,rfl⟩;obtain ⟨a,_,rfl,h1⟩:=kn c;obtain ⟨b,_,rfl,h2⟩:=kn h1;obtain rfl:=k0 h2;exact ⟨c3,300,_,aoi,rfl,fun _=>rfl,rfl,(aeF a b).trans (by rw [Zg]),Wn a b⟩
theorem KR:PureOk Tryz.prog 34 (sSc p9):=by refine ma (fun xs c _=>?_) ⟨_,Tryz.func34,rfl⟩;obtain ⟨a,_,rfl,h1⟩:=kn c;obtain ⟨b,_,rfl,h2⟩:=kn h1;obtain ⟨n,_,rfl,h3⟩:=kn h2;obtain ⟨d,_,rfl,f⟩:=kn h3;obtain rfl:=k0 f;exact ⟨c2,300,_,PH,rfl,fun _=>rfl,rfl,Wq a b n d,trivial⟩
noncomputable def c0:Ctx:=mkC Tryz.prog [] ext
theorem yx:CtxOk c0:=wO prog_ok (fun _ h=>by cases h) ext_ok
noncomputable def c0u:Ctx:=tK c0 146 3
theorem ajr:CtxOk c0u:=pX yx _ _
def Zx:AFr:=⟨146,none⟩
noncomputable def ovA:Code:=fP Tryz.prog 146 0
def ovS (a n d:Int):St:=⟨[⟨0,.int true .u64 a⟩,⟨0,.int true .u64 n⟩,⟨0,.int true .u64 d⟩,⟨0,.tuple []⟩,⟨0,.tuple []⟩,⟨0,.tuple []⟩,⟨3,.int false .u64 0⟩,⟨4,.bool false false⟩,⟨5,.bool false false⟩,⟨6,.int false .u64 0⟩,⟨7,.int false .u64 0⟩,⟨8,.int false .i64 63⟩]++Ml 37,[],⟨[],0,9⟩⟩
def ovP (i q r:Int):Patch:=⟨bS 12 37++[(9,.int true .u64 q),(10,.int true .u64 r),(11,.int true .i64 i)],[],[]⟩
def ovU (a n d:Nat):Sum (Int×Int×Int):=
 {
  S:=fun y=>ovP y.1 y.2.1 y.2.2
  I:=fun y=>∃ k:Nat,k<=64/\a / 2 ^ k*n / d<=4503599627370496/\y=((k:Int) - 1,((a / 2 ^ k*n / d:Nat):Int),((a / 2 ^ k*n % d:Nat):Int))
  μ:=fun y=>(y.1+1).toNat
  F:=fun y=>ovF a n d (y.1+1).toNat y.1 y.2.1 y.2.2
  next:=fun y=>(i64.wrap (y.1 - 1),ovQ a n d y.1 y.2.1 y.2.2,ovR a n d y.1 y.2.2)
  ids:=[]
  X:=fun y x=>match x with
   | .ret=>some (IZ,[])
   | _=>some (ovO y.2.1 y.2.2,[]) }
def aoj (a n d:Nat) (i q r:Int):Prop:=
 (decide (i>=0)=true->(0<=u64.wrap i/\(PK a i=true->(d:Int)≠0/\(d:Int)≠0))/\(Wo a n d i r=true->Wp a n d i r=true->ajl a n d i r=true->False)) /\
 ((!decide (i>=0))=true->(q=q/\r=r)/\(ovU a n d).F (i,q,r)=(.exit 0,ovO q r)) /\
 ((decide (i>=0)&&!PL a n d i q r)=true->(ovQ a n d i q r=ovQ a n d i q r/\ovR a n d i r=ovR a n d i r/\i64.wrap (i - 1)=i64.wrap (i - 1)) /\
  (ovU a n d).I ((ovU a n d).next (i,q,r))/\(ovU a n d).μ ((ovU a n d).next (i,q,r))<(ovU a n d).μ (i,q,r)/\(ovU a n d).F ((ovU a n d).next (i,q,r))=(ovU a n d).F (i,q,r)) /\
 ((decide (i>=0)&&PL a n d i q r)=true->(ovU a n d).F (i,q,r)=(.ret,IZ))
theorem ajs (a n d:Nat) (i q r:Int):dQ (ovS a n d) ((ovU a n d).way (i,q,r)) ((run c0u 300).code Zx ovA (aJ (ovS a n d) ((ovU a n d).S (i,q,r))))=some (.p (aoj a n d i q r)):=by kernel_rfl
theorem Zy (a n d:Nat):fit (ovS a n d) (ovS a n d) (aJ (ovS a n d) ((ovU a n d).S (63,0,0))) []=some (.p ((0:Int)=0/\(0:Int)=0/\(63:Int)=63)):=by kernel_rfl
theorem aok (a n d:Nat) (ha:a<18446744073709551616) (hn:n<=4611686018427387904) (hd:1<=d) (c:d<=4611686018427387904) (y:Int×Int×Int) (l:(ovU a n d).I y):aoj a n d y.1 y.2.1 y.2.2:=by
 obtain ⟨k,r,hq,rfl⟩:=l
 cases k with
 | zero=>
  have g:decide ((((0:Nat):Int) - 1)>=0)=false:=by decide
  refine ⟨fun h=>?_,fun _=>⟨⟨rfl,rfl⟩,rfl⟩,fun h=>?_,fun h=>?_⟩
  .rw [show ((0:Nat):Int) - 1=-1 from rfl] at h;cases h
  .simp only [g,rV] at h;cases h
  .simp only [g,rV] at h;cases h
 | succ k=>
  obtain ⟨i,o,p,q⟩:=Uu a n d k ha hn hd c (by omega) hq;have e:((k+1:Nat):Int) - 1=(k:Int):=by omega
  have j:((k:Int)+1).toNat=k+1:=by omega
  simp only [e];have f:i64.wrap ((k:Int) - 1)=(k:Int) - 1:=i64w (by omega) (by omega);refine ⟨fun _=>⟨⟨p,fun _=>⟨by omega,by omega⟩⟩,q⟩,fun h=>?_,fun h=>⟨⟨rfl,rfl,rfl⟩,?_,?_,?_⟩,fun h=>?_⟩
  .rw [aI (by omega)] at h;cases h
  .simp only [aF,gN] at h;have h2:=h.2;unfold PL at h2;rw [i] at h2;have h2:=dJ h2;refine ⟨k,by omega,by omega,?_⟩;show (i64.wrap ((k:Int) - 1),_,_)=_;rw [f,i,o]
  .show (i64.wrap ((k:Int) - 1)+1).toNat<((k:Int)+1).toNat;rw [f];omega
  .simp only [aF,gN] at h;show ovF a n d (i64.wrap ((k:Int) - 1)+1).toNat (i64.wrap ((k:Int) - 1)) _ _=ovF a n d ((k:Int)+1).toNat k _ _;rw [j,ovF,h.2,aR,f,show ((k:Int) - 1+1).toNat=k by omega];rfl
  .simp only [aF] at h;show ovF a n d ((k:Int)+1).toNat k _ _=_;rw [j,ovF,h.2,aQ]
def wT (a n d:Nat):Bool:=decide (a*n / d<=4503599627370496)
theorem aeG (a n d:Nat) (ha:a<18446744073709551616) (hn:n<=4611686018427387904) (hd:1<=d) (c:d<=4611686018427387904):
  CodeOk c0 Zx (.loop ovA) (ovS a n d) ⟨.tt,[⟨.b (wT a n d),.exit 0,aJ (ovS a n d) (ovO ((a*n / d:Nat):Int) ((a*n % d:Nat):Int))⟩,⟨.b (!wT a n d),.ret,aJ (ovS a n d) IZ⟩]⟩:=by
 have z:a / 2 ^ 64=0:=uQ ha;have f:(ovU a n d).F (63,0,0)=bif wT a n d then (.exit 0,ovO ((a*n / d:Nat):Int) ((a*n % d:Nat):Int)) else (.ret,IZ):=by have:=Uv a n d ha hn hd c 64 (by decide) (by rw [z];simp);rw [z] at this;simp only [Nat.zero_mul,Nat.zero_div,Nat.zero_mod] at this;exact this
 have g:kz (ovS a n d).hp ((ovU a n d).S (63,0,0)).old=true:=by kernel_rfl
 have h1:(ovU a n d).I (63,0,0):=⟨64,by decide,by rw [z];simp,by rw [z];simp⟩;exact adZ (dw ajr 300) (ovU a n d) h1 ⟨_,Zy a n d,rfl,rfl,rfl⟩ g (fun y h=>⟨_,ajs a n d y.1 y.2.1 y.2.2,aok a n d ha hn hd c y h⟩) f
noncomputable def c0o (a n d:Nat):Ctx:=bN c0 [Ad 146 9 Zx ovA (ovS a n d) (wT a n d) (.exit 0) (ovO ((a*n / d:Nat):Int) ((a*n % d:Nat):Int)) .ret IZ]
theorem ajt (a n d:Nat) (ha:a<18446744073709551616) (hn:n<=4611686018427387904) (hd:1<=d) (c:d<=4611686018427387904):CtxOk (c0o a n d):=wP yx (aeG a n d ha hn hd c) (bJ yx)
def aol (a n d:Nat):Prop:=At Zx Zx ovA ovA (ovS a n d) (ovS a n d)
theorem Zz (a n d:Nat):jr ((run (c0o a n d) 300).call 146 [.int true .u64 a,.int true .u64 n,.int true .u64 d] ⟨[],0,1⟩)=some (.p (aol a n d),
  .tuple [.int true .u64 (bif !wT a n d then 0 else ((a*n / d:Nat):Int)),.bool true (bif !wT a n d then false else decide (((a*n % d:Nat):Int)>0)),.bool true (bif !wT a n d then false else true)]):=by kernel_rfl
theorem aeH:PureOk Tryz.prog 146 aih:=by
 refine ma (fun xs f hN=>?_) ⟨_,Tryz.func146,rfl⟩;obtain ⟨a,_,rfl,h1⟩:=kn f;obtain ⟨n,_,rfl,h2⟩:=kn h1;obtain ⟨d,_,rfl,h3⟩:=kn h2;obtain rfl:=k0 h3;obtain ⟨g,p2,h,j,k,l⟩:=bK hN;obtain ⟨a,rfl⟩:=mR g;obtain ⟨n,rfl⟩:=mR h;obtain ⟨d,rfl⟩:=mR (show 0<=d by omega);have c:(a:Int)*n / d=((a*n / d:Nat):Int):=by rw [mX,gu]
 have i:(a:Int)*n % d=((a*n % d:Nat):Int):=by rw [uP,gu]
 have e3:PN a n d=wT a n d:=by unfold PN wT;rw [c,gq,aT,aT];generalize a*n / d=q;omega
 refine ⟨c0o a n d,300,.p (aol a n d),ajt a n d (by omega) (by omega) (by omega) (by omega),rfl,fun _=>rfl,rfl,(Zz a n d).trans ?_,⟨rfl,rfl,rfl⟩⟩;rw [<- c,<- i,<- e3];rfl
noncomputable def aju:List (FuncId×eT):=[(146,aih)]
theorem aeI:Cr Tryz.prog aju:=by
 intro x c;simp only [aju,aN,eX,eY] at c;rcases c with rfl
 .exact aeH
noncomputable def c4:Ctx:=mkC Tryz.prog aju ext
theorem aii:CtxOk c4:=wO prog_ok aeI ext_ok
def aom (l:List Nu):Prop:=(match l with
 | [.n a,.n n,.n d]=>decide (0<=a/\a<18446744073709551616/\0<=n/\n<=4611686018427387904/\1<=d/\d<=4611686018427387904)
 | _=>false)=true
def ajv (a n d:Int):Prop:=(!Zm a n d)=true->aom [.n (xSz a),.n (xSz n),.n (u64.wrap d)]
theorem ZA (a n d:Int):jr ((run c4 300).call 96 [.int true .i64 a,.int true .i64 n,.int true .i64 d] ⟨[],0,1⟩)=some (.p (ajv a n d),.tuple [.int true .i64 (aex a n d false),.int true .i64 (aey a n d false)]):=by kernel_rfl
theorem ZB (a n d:Int):jr ((run c4 300).call 97 [.int true .i64 a,.int true .i64 n,.int true .i64 d] ⟨[],0,1⟩)=some (.p (ajv a n d),.tuple [.int true .i64 (aex a n d true),.int true .i64 (aey a n d true)]):=by kernel_rfl
theorem aeJ {a n d:Int} (h:0<=a/\a<18446744073709551616/\0<=n/\n<=4611686018427387904/\1<=d/\d<=4611686018427387904):aom [.n a,.n n,.n d]:=aI h
theorem PQ (a n d:Int):ajv a n d:=by intro h;rw [Ux,Eb] at h;simp only [okS,aF,aT] at h;obtain ⟨ha,⟨⟨f,g⟩,i⟩,j⟩:=h;obtain ⟨a1,a2,k⟩:=Pw ha;have c:xSz n=sg n n:=IX (by omega) (by omega);have l:=jY n;rw [a1,c,mg (n:=d) (by omega) (by omega)];exact aeJ ⟨by omega,by omega,by omega,by omega,by omega,by omega⟩
theorem aeK:PureOk Tryz.prog 96 (Gz false):=by refine ma (fun xs c _=>?_) ⟨_,Tryz.func96,rfl⟩;obtain ⟨a,_,rfl,h1⟩:=kn c;obtain ⟨n,_,rfl,h2⟩:=kn h1;obtain ⟨d,_,rfl,h3⟩:=kn h2;obtain rfl:=k0 h3;obtain ⟨l1,l2⟩:=Uy a n d false;exact ⟨c4,300,.p _,aii,rfl,fun _=>rfl,rfl,(ZA a n d).trans (by rw [l1,l2];rfl),PQ a n d⟩
theorem aeL:PureOk Tryz.prog 97 (Gz true):=by refine ma (fun xs c _=>?_) ⟨_,Tryz.func97,rfl⟩;obtain ⟨a,_,rfl,h1⟩:=kn c;obtain ⟨n,_,rfl,h2⟩:=kn h1;obtain ⟨d,_,rfl,h3⟩:=kn h2;obtain rfl:=k0 h3;obtain ⟨l1,l2⟩:=Uy a n d true;exact ⟨c4,300,.p _,aii,rfl,fun _=>rfl,rfl,(ZB a n d).trans (by rw [l1,l2];rfl),PQ a n d⟩
def ZC:AFr:=⟨98,none⟩
noncomputable def rsA:Code:=fP Tryz.prog 98 0
def rsS (c:Bool) (a:Int):St:=⟨[⟨0,.int true .i64 a⟩,⟨0,.bool false c⟩,⟨0,.tuple []⟩,⟨0,.tuple []⟩,⟨3,.int false .i64 0⟩,⟨4,.int false .i64 0⟩,⟨5,.int false .i64 0⟩,⟨6,.int false .i64 42⟩]++Ml 42,[],⟨[],0,7⟩⟩
def rsP (i c rest:Int):Patch:=⟨bS 8 42++[(5,.int true .i64 c),(6,.int true .i64 rest),(7,.int true .i64 i)],[],[]⟩
def rsU (a:Int):Sum (Int×Int×Int):=
 {
  S:=fun y=>rsP y.1 y.2.1 y.2.2
  I:=fun y=>-1<=y.1/\y.1<=42
  μ:=fun y=>(y.1+1).toNat
  F:=fun y=>(.exit 0,rsO (rsF a (y.1+1).toNat y.1 y.2.1 y.2.2).1 (rsF a (y.1+1).toNat y.1 y.2.1 y.2.2).2)
  next:=fun y=>(i64.wrap (y.1 - 1),wR a y.1 y.2.1 y.2.2,wS a y.1 y.2.1 y.2.2)
  ids:=[]
  X:=fun y _=>some (rsO y.2.1 y.2.2,[]) }
def aon (a i c rest:Int):Prop:=
 (decide (i>=0)=true->decide (i64.wrap (2*i)>=32)=true->0<=u64.wrap (i64.wrap (i64.wrap (2*i) - 32))) /\
 ((!decide (i>=0))=true->(c=c/\rest=rest)/\(rsU a).F (i,c,rest)=(.exit 0,rsO c rest)) /\
 (decide (i>=0)=true->(wR a i c rest=wR a i c rest/\wS a i c rest=wS a i c rest/\i64.wrap (i - 1)=i64.wrap (i - 1)) /\
  (rsU a).I ((rsU a).next (i,c,rest))/\(rsU a).μ ((rsU a).next (i,c,rest))<(rsU a).μ (i,c,rest)/\(rsU a).F ((rsU a).next (i,c,rest))=(rsU a).F (i,c,rest))
theorem ajw (d:Bool) (a i c rest:Int):dQ (rsS d a) ((rsU a).way (i,c,rest)) ((run c0 300).code ZC rsA (aJ (rsS d a) ((rsU a).S (i,c,rest))))=some (.p (aon a i c rest)):=by kernel_rfl
theorem ZE (c:Bool) (a:Int):fit (rsS c a) (rsS c a) (aJ (rsS c a) ((rsU a).S (42,0,0))) []=some (.p ((0:Int)=0/\(0:Int)=0/\(42:Int)=42)):=by kernel_rfl
theorem aoo (a i c rest:Int) (h:-1<=i/\i<=42):aon a i c rest:=by
 refine ⟨fun _ _=>(KL _).1,fun hi=>⟨⟨rfl,rfl⟩,?_⟩,fun hi=>⟨⟨rfl,rfl,rfl⟩,?_⟩⟩
 .have:i=-1:=by simp at hi;omega
  subst this;rfl
 .have hi:=bK hi;have e:i64.wrap (i - 1)=i - 1:=i64w (by omega) (by omega);have d:(i+1).toNat=(i - 1+1).toNat+1:=by omega
  refine ⟨?_,?_,?_⟩
  .show -1<=i64.wrap (i - 1)/\i64.wrap (i - 1)<=42;rw [e];omega
  .show (i64.wrap (i - 1)+1).toNat<(i+1).toNat;rw [e];omega
  .show (Ex.exit 0,rsO (rsF a (i64.wrap (i - 1)+1).toNat (i64.wrap (i - 1)) (wR a i c rest) (wS a i c rest)).1 (rsF a (i64.wrap (i - 1)+1).toNat (i64.wrap (i - 1)) (wR a i c rest) (wS a i c rest)).2)=(Ex.exit 0,rsO (rsF a (i+1).toNat i c rest).1 (rsF a (i+1).toNat i c rest).2);rw [d,rsF,e]
theorem aeM (c:Bool) (a:Int):CodeOk c0 ZC (.loop rsA) (rsS c a) ⟨.tt,[⟨.tt,.exit 0,aJ (rsS c a) (rsO (rsF a 43 42 0 0).1 (rsF a 43 42 0 0).2)⟩]⟩:=by
 have d:(rsU a).F (42,0,0)=(.exit 0,rsO (rsF a 43 42 0 0).1 (rsF a 43 42 0 0).2):=by show (Ex.exit 0,rsO (rsF a ((42:Int)+1).toNat 42 0 0).1 (rsF a ((42:Int)+1).toNat 42 0 0).2)=_;rw [show ((42:Int)+1).toNat=43 from by decide]
 have f:kz (rsS c a).hp ((rsU a).S (42,0,0)).old=true:=by kernel_rfl
 have h1:(rsU a).I (42,0,0):=⟨by decide,by decide⟩;exact Ui (dw yx 300) (rsU a) h1 ⟨_,ZE c a,rfl,rfl,rfl⟩ f (fun y g=>⟨_,ajw c a y.1 y.2.1 y.2.2,aoo a y.1 y.2.1 y.2.2 g⟩) d
noncomputable def c0s (c:Bool) (a:Int):Ctx:=bN c0 [dK 98 7 ZC rsA (rsS c a) (.exit 0) (rsO (rsF a 43 42 0 0).1 (rsF a 43 42 0 0).2)]
theorem ZF (c:Bool) (a:Int):CtxOk (c0s c a):=bE yx (aeM c a) (bJ yx)
def aeN (c:Bool) (a:Int):Prop:=At ZC ZC rsA rsA (rsS c a) (rsS c a)
theorem RS (a:Int):jr ((run (c0s false a) 300).call 98 [.int true .i64 a,.bool false false] ⟨[],0,1⟩)=some (.p (aeN false a),.int true .i64 (rsV a false)):=by kernel_rfl
theorem RU (a:Int):jr ((run (c0s true a) 300).call 98 [.int true .i64 a,.bool false true] ⟨[],0,1⟩)=some (.p (aeN true a),.int true .i64 (rsV a true)):=by kernel_rfl
theorem Ws:PureOk Tryz.prog 98 (MK false):=by refine ma (fun xs c hN=>?_) ⟨_,Tryz.func98,rfl⟩;obtain ⟨a,_,rfl,h1⟩:=kn c;obtain rfl:=k0 h1;exact ⟨c0s false a,300,.p (aeN false a),ZF false a,rfl,fun _=>rfl,rfl,(RS a).trans (by rw [Zl hN];rfl),⟨rfl,rfl,rfl⟩⟩
theorem Wt:PureOk Tryz.prog 98 (MK true):=by refine ma (fun xs c hN=>?_) ⟨_,Tryz.func98,rfl⟩;obtain ⟨a,_,rfl,h1⟩:=kn c;obtain rfl:=k0 h1;exact ⟨c0s true a,300,.p (aeN true a),ZF true a,rfl,fun _=>rfl,rfl,(RU a).trans (by rw [Zl hN];rfl),⟨rfl,rfl,rfl⟩⟩
noncomputable def ajx:List (FuncId×eT):=[(96,Gz false),(97,Gz true),(98,orS (MK false) (MK true))]
theorem aeO:Cr Tryz.prog ajx:=by
 intro x c;simp only [ajx,aN,eX,eY] at c;rcases c with rfl|rfl|rfl
 .exact aeK
 .exact aeL
 .exact Zu Ws Wt
def aij (b:Bool):Option AV:=match b with
 | true=>some (.bool false true)
 | false=>some (.bool false false)
def pwH (K S:Nat) (c d:Nat):Option AV:=match Nat.beq d 5 with
 | true=>match Nat.ble 19 c&&Nat.blt c (32+12*K) with
  | true=>aij (Nat.blt c (21+12*K))
  | false=>match Nat.ble S c&&Nat.blt c (S+12+12*K) with
   | true=>aij (Nat.blt c (S+2+12*K))
   | false=>none
 | false=>none
noncomputable def cPw (K:Nat):Ctx:={ c0 with hint:=pwH K (79+50*K) }
theorem uA (K:Nat):CtxOk (cPw K):=⟨yx.prog,yx.con,yx.ext,yx.loop,yx.two⟩
def ndD:Nat->Int->Prop
 | 0,v=>decide (v>0)=false
 | k+1,v=>decide (v>0)=true/\ndD k (i64.wrap (v.tdiv 65536))
theorem arz (v:Int):jr ((run (cPw 0) 900).call 136 [.int true .i64 v,.int false .i64 2,.bool false false] ⟨[],0,1⟩)=some (.p (ndD 0 v/\ndD 0 v),.tuple [.int false .i64 0,.bool false true]):=by kernel_rfl
theorem arB (v:Int):jr ((run (cPw 1) 900).call 136 [.int true .i64 v,.int false .i64 2,.bool false false] ⟨[],0,1⟩)=some (.p (ndD 1 v/\ndD 1 v),.tuple [.int true .i64 (oq 1 v false),.bool true (decide (oq 1 v false<=4503599627370496))]):=by kernel_rfl
theorem arC (v:Int):jr ((run (cPw 2) 900).call 136 [.int true .i64 v,.int false .i64 2,.bool false false] ⟨[],0,1⟩)=some (.p (ndD 2 v/\ndD 2 v),.tuple [.int true .i64 (bif tY 2 v then oq 2 v false else 0),.bool true (bif tY 2 v then decide (oq 2 v false<=4503599627370496) else false)]):=by kernel_rfl
theorem arD (v:Int):jr ((run (cPw 3) 900).call 136 [.int true .i64 v,.int false .i64 2,.bool false false] ⟨[],0,1⟩)=some (.p (ndD 3 v/\ndD 3 v),.tuple [.int true .i64 (bif tY 3 v then oq 3 v false else 0),.bool true (bif tY 3 v then decide (oq 3 v false<=4503599627370496) else false)]):=by kernel_rfl
theorem arE (v:Int):jr ((run (cPw 4) 900).call 136 [.int true .i64 v,.int false .i64 2,.bool false false] ⟨[],0,1⟩)=some (.p (ndD 4 v/\ndD 4 v),.tuple [.int true .i64 (bif tY 4 v then oq 4 v false else 0),.bool true (bif tY 4 v then decide (oq 4 v false<=4503599627370496) else false)]):=by kernel_rfl
theorem arF (v:Int):jr ((run (cPw 0) 900).call 136 [.int true .i64 v,.int false .i64 2,.bool false true] ⟨[],0,1⟩)=some (.p (ndD 0 v/\ndD 0 v),.tuple [.int false .i64 0,.bool false true]):=by kernel_rfl
theorem arG (v:Int):jr ((run (cPw 1) 900).call 136 [.int true .i64 v,.int false .i64 2,.bool false true] ⟨[],0,1⟩)=some (.p (ndD 1 v/\ndD 1 v),.tuple [.int true .i64 (oq 1 v true),.bool true (decide (oq 1 v true<=4503599627370496))]):=by kernel_rfl
theorem arH (v:Int):jr ((run (cPw 2) 900).call 136 [.int true .i64 v,.int false .i64 2,.bool false true] ⟨[],0,1⟩)=some (.p (ndD 2 v/\ndD 2 v),.tuple [.int true .i64 (bif tY 2 v then oq 2 v true else 0),.bool true (bif tY 2 v then decide (oq 2 v true<=4503599627370496) else false)]):=by kernel_rfl
theorem arI (v:Int):jr ((run (cPw 3) 900).call 136 [.int true .i64 v,.int false .i64 2,.bool false true] ⟨[],0,1⟩)=some (.p (ndD 3 v/\ndD 3 v),.tuple [.int true .i64 (bif tY 3 v then oq 3 v true else 0),.bool true (bif tY 3 v then decide (oq 3 v true<=4503599627370496) else false)]):=by kernel_rfl
theorem arJ (v:Int):jr ((run (cPw 4) 900).call 136 [.int true .i64 v,.int false .i64 2,.bool false true] ⟨[],0,1⟩)=some (.p (ndD 4 v/\ndD 4 v),.tuple [.int true .i64 (bif tY 4 v then oq 4 v true else 0),.bool true (bif tY 4 v then decide (oq 4 v true<=4503599627370496) else false)]):=by kernel_rfl
theorem nd0 {v:Int} (h:v=0):ndD 0 v:=by subst h;rfl
theorem ndS {k:Nat} {v:Int} (c:0<v) (hb:v<=4503599627370496) (h:ndD k (v / 65536)):ndD (k+1) v:=by refine ⟨aI c,?_⟩;rw [bV (by omega),i64w (by omega) (by omega)];exact h
theorem pick (v:Int) (h:0<=v) (i:okF v=true):0<=v /\
  ((ndD 0 v/\True/\(∀ c,pV v c=0)/\(∀ c,pB v c=true)) ∨
   (ndD 1 v/\(∀ c,oq 1 v c=pV v c)/\(∀ c,decide (pV v c<=4503599627370496)=pB v c)) ∨
   (ndD 2 v/\(∀ c,(bif tY 2 v then oq 2 v c else 0)=pV v c)/\(∀ c,(bif tY 2 v then decide (oq 2 v c<=4503599627370496) else false)=pB v c)) ∨
   (ndD 3 v/\(∀ c,(bif tY 3 v then oq 3 v c else 0)=pV v c)/\(∀ c,(bif tY 3 v then decide (oq 3 v c<=4503599627370496) else false)=pB v c)) ∨
   (ndD 4 v/\(∀ c,(bif tY 4 v then oq 4 v c else 0)=pV v c)/\(∀ c,(bif tY 4 v then decide (oq 4 v c<=4503599627370496) else false)=pB v c))):=by
 have hb:=(gW.1 i).2;refine ⟨h,?_⟩;have d:∀ k,2<=k->v<65536 ^ k->(∀ c,(bif tY k v then oq k v c else 0)=pV v c)/\(∀ c,(bif tY k v then decide (oq k v c<=4503599627370496) else false)=pB v c):=by
  intro k j h1;obtain ⟨t,r,e,_,g,_,o⟩:=UB k (by omega) v h hb h1;have l:tY k v=!tO v:=by unfold tY;rw [e];exact g j
  rw [l];refine ⟨fun c=>?_,fun c=>?_⟩
  .unfold pV
   cases f:tO v with
   | true=>rfl
   | false=>rw [o f];rfl
  .unfold pB
   cases f:tO v with
   | true=>rfl
   | false=>rw [o f];rfl
 by_cases c0:v=0
 .subst c0;exact .inl ⟨nd0 rfl,trivial,fun c=>by cases c <;> rfl,fun c=>by cases c <;> rfl⟩
 .by_cases c1:v<65536
  .obtain ⟨t,r,e,_,_,g,o⟩:=UB 1 (by omega) v h hb (by rw [Int.pow_one];exact c1);obtain ⟨f,_⟩:=g rfl;refine .inr (.inl ⟨ndS (by omega) hb (nd0 (by omega)),fun c=>?_,fun c=>?_⟩)
   .rw [o f];unfold pV;rw [f];rfl
   .unfold pV pB;rw [f];rfl
  .by_cases c2:v<4294967296
   .exact .inr (.inr (.inl ⟨ndS (by omega) hb (ndS (by omega) (by omega) (nd0 (by omega))),d 2 (by decide) (by rw [show (65536:Int) ^ 2=4294967296 by decide];exact c2)⟩))
   .by_cases c3:v<281474976710656
    .exact .inr (.inr (.inr (.inl ⟨ndS (by omega) hb (ndS (by omega) (by omega) (ndS (by omega) (by omega) (nd0 (by omega)))),d 3 (by decide) (by rw [show (65536:Int) ^ 3=281474976710656 by decide];exact c3)⟩)))
    .exact .inr (.inr (.inr (.inr ⟨ndS (by omega) hb (ndS (by omega) (by omega) (ndS (by omega) (by omega) (ndS (by omega) (by omega) (nd0 (by omega))))),d 4 (by decide) (by rw [show (65536:Int) ^ 4=18446744073709551616 by decide];omega)⟩)))
def two' (x:Int) (b:Bool):AV:=.tuple [.int true .i64 x,.bool true b]
theorem ZG:PureOk Tryz.prog 136 (UC false):=by
 refine num_ok' (fun xs d hN=>?_) ⟨_,Tryz.func136,rfl⟩;obtain ⟨v,_,rfl,h1⟩:=kn d;obtain rfl:=k0 h1;have hN:(decide (0<=v)&&okF v)=true:=hN;simp only [aF,aT] at hN;obtain ⟨k1,k2⟩:=pick v hN.1 hN.2;rcases k2 with ⟨e,r1,c⟩|⟨e,r1,c⟩|⟨e,r1,c⟩|⟨e,r1,c⟩|⟨e,r1,c⟩
 .exact ⟨cPw 0,900,.p (ndD 0 v/\ndD 0 v),.tuple [.int false .i64 0,.bool false true],uA 0,rfl,fun _=>rfl,rfl,arz v,⟨e,e⟩,fun τ W h=>by show VRel τ (two' _ _) W;rw [show (two' (pV v false) (pB v false))=two' 0 true by rw [c.1 false,c.2 false]];exact h⟩
 .exact ⟨cPw 1,900,.p (ndD 1 v/\ndD 1 v),two' (pV v false) (pB v false),uA 1,rfl,fun _=>rfl,rfl,(arB v).trans (by rw [r1 false,c false];rfl),⟨e,e⟩,fun τ W h=>h⟩
 .exact ⟨cPw 2,900,.p (ndD 2 v/\ndD 2 v),two' (pV v false) (pB v false),uA 2,rfl,fun _=>rfl,rfl,(arC v).trans (by rw [r1 false,c false];rfl),⟨e,e⟩,fun τ W h=>h⟩
 .exact ⟨cPw 3,900,.p (ndD 3 v/\ndD 3 v),two' (pV v false) (pB v false),uA 3,rfl,fun _=>rfl,rfl,(arD v).trans (by rw [r1 false,c false];rfl),⟨e,e⟩,fun τ W h=>h⟩
 .exact ⟨cPw 4,900,.p (ndD 4 v/\ndD 4 v),two' (pV v false) (pB v false),uA 4,rfl,fun _=>rfl,rfl,(arE v).trans (by rw [r1 false,c false];rfl),⟨e,e⟩,fun τ W h=>h⟩
theorem ZH:PureOk Tryz.prog 136 (UC true):=by
 refine num_ok' (fun xs d hN=>?_) ⟨_,Tryz.func136,rfl⟩;obtain ⟨v,_,rfl,h1⟩:=kn d;obtain rfl:=k0 h1;have hN:(decide (0<=v)&&okF v)=true:=hN;simp only [aF,aT] at hN;obtain ⟨k1,k2⟩:=pick v hN.1 hN.2;rcases k2 with ⟨e,r1,c⟩|⟨e,r1,c⟩|⟨e,r1,c⟩|⟨e,r1,c⟩|⟨e,r1,c⟩
 .exact ⟨cPw 0,900,.p (ndD 0 v/\ndD 0 v),.tuple [.int false .i64 0,.bool false true],uA 0,rfl,fun _=>rfl,rfl,arF v,⟨e,e⟩,fun τ W h=>by show VRel τ (two' _ _) W;rw [show (two' (pV v true) (pB v true))=two' 0 true by rw [c.1 true,c.2 true]];exact h⟩
 .exact ⟨cPw 1,900,.p (ndD 1 v/\ndD 1 v),two' (pV v true) (pB v true),uA 1,rfl,fun _=>rfl,rfl,(arG v).trans (by rw [r1 true,c true];rfl),⟨e,e⟩,fun τ W h=>h⟩
 .exact ⟨cPw 2,900,.p (ndD 2 v/\ndD 2 v),two' (pV v true) (pB v true),uA 2,rfl,fun _=>rfl,rfl,(arH v).trans (by rw [r1 true,c true];rfl),⟨e,e⟩,fun τ W h=>h⟩
 .exact ⟨cPw 3,900,.p (ndD 3 v/\ndD 3 v),two' (pV v true) (pB v true),uA 3,rfl,fun _=>rfl,rfl,(arI v).trans (by rw [r1 true,c true];rfl),⟨e,e⟩,fun τ W h=>h⟩
 .exact ⟨cPw 4,900,.p (ndD 4 v/\ndD 4 v),two' (pV v true) (pB v true),uA 4,rfl,fun _=>rfl,rfl,(arJ v).trans (by rw [r1 true,c true];rfl),⟨e,e⟩,fun τ W h=>h⟩
noncomputable def aop:List (FuncId×eT):=(136,orS (UC false) (UC true)) :: ajx
theorem aeP:Cr Tryz.prog aop:=fun x c=>by
 rcases aN.1 c with rfl|c
 .exact Zu ZG ZH
 .exact aeO x c
noncomputable def c6:Ctx:=mkC Tryz.prog aop ext
theorem aoq:CtxOk c6:=wO prog_ok aeP ext_ok
end
end Go.Proofs.YtbiiiloimbjpaaaGreatDoor.K
namespace Go.Ar
open Go Go.Eng
def rR (a b:Int):Bool:=bif rRt a then (bif rRt b then decide (a<=b) else false) else false
theorem aor (a b:Int):rR a b=fQ a b:=by unfold rR;rw [MH,MH];unfold okF fQ;by_cases h1:-4503599627370496<=a <;> by_cases h2:a<=b <;> by_cases h3:b<=4503599627370496 <;> simp [h1,h2,h3] <;> omega
end Go.Ar
namespace Go.Proofs.YtbiiiloimbjpaaaGreatDoor.K
open Go Go.Eng Go.Ar
noncomputable section
end
end Go.Proofs.YtbiiiloimbjpaaaGreatDoor.K
namespace Go.Ar
open Go
def ZI (a b:Int):Sp:=⟨bif !rR a b then 0 else i64.wrap (0 - b),bif !rR a b then 0 else i64.wrap (0 - a),bif !rR a b then 20 else 0⟩
theorem ZJ (a b:Int):ZI a b=ME a b:=by
 unfold ZI ME;rw [aor]
 cases h:fQ a b with
 | false=>rfl
 | true=>
  have:=dx.1 h;rw [i64w (by omega) (by omega),i64w (by omega) (by omega)];simp
end Go.Ar
namespace Go.Vc
open Go Go.Eng Go.Ar
structure VF where
 ad:Int->Int->Int->Int->Sp
 su:Int->Int->Int->Int->Sp
 mu:Int->Int->Int->Int->Sp
 di:Int->Int->Int->Int->Sp
 sc:Int->Int->Int->Int->Sp
 sq:Int->Int->Sp
 rt:Int->Int->Sp
 ng:Int->Int->Sp
 ck:Int->Int->Int
 ok:Int->Int->Bool
structure Ve where
 a:Int
 b:Int
 c:Int
 d:Int
 e:Int
 f:Int
def Ve.cells (v:Ve):List AV:=[.int true .i64 v.a,.int true .i64 v.b,.int true .i64 v.c,.int true .i64 v.d,.int true .i64 v.e,.int true .i64 v.f]
section
variable (F:VF) (v:Ve)
def f3 (a b c:Int):Int:=bif a != 0||!(a != 0)&&(b != 0||!(b != 0)&&c != 0) then bif a != 0 then a else bif b != 0 then b else c else 0
def wOk:Bool:=!bif F.ok v.a v.b then bif F.ok v.c v.d then F.ok v.e v.f else false else false
end
structure VF.law (F:VF):Prop where
 ck:∀ a b,F.ck a b=bif F.ok a b then 0 else 20
 z:F.ok 0 0=true
section
variable (F:VF) (v w:Ve) (X Y Z:Sp)
def z3 {g:Type} (f:Int->Int->Int->Int->Sp) (w:Ve) (x:Sp->Sp->Sp->g):g:=x (f v.a v.b w.a w.b) (f v.c v.d w.c w.d) (f v.e v.f w.e w.f)
def dA:Sp:=F.ad (F.mu v.a v.b w.a w.b).lo (F.mu v.a v.b w.a w.b).hi (F.mu v.c v.d w.c w.d).lo (F.mu v.c v.d w.c w.d).hi
def arK:Bool:=bif wOk F v then true else wOk F w
def rD (x y z:Int):Int:=bif arK F v w then x else bif z3 v F.mu w (fun X Y Z=>f3 X.e Y.e Z.e) != 0 then y else bif (dA F v w).e != 0 then z else 0
end
structure VF.law2 (F:VF):Prop extends F.law where
 ad:∀ a b c d,((F.ad a b c d).e==0)=false->(F.ad a b c d).lo=0/\(F.ad a b c d).hi=0
 ng:∀ a b,(F.ng a b).e=bif F.ok a b then 0 else 20
end Go.Vc
namespace Go.Proofs.YtbiiiloimbjpaaaGreatDoor.K
open Go Go.Eng Go.Ar Go.Vc
noncomputable section
theorem ZK (a b:Int):jr ((run c6 300).call 26 [.agg [.int true .i64 a,.int true .i64 b]] ⟨[],0,1⟩)=some (.tt,(yu (ZI a b)).av true):=by kernel_rfl
theorem aeQ:PureOk Tryz.prog 26 (sUn ME):=by refine ma (fun xs c _=>?_) ⟨_,Tryz.func26,rfl⟩;obtain ⟨a,_,rfl,h1⟩:=kn c;obtain ⟨b,_,rfl,h2⟩:=kn h1;obtain rfl:=k0 h2;exact ⟨c6,300,_,aoq,rfl,fun _=>rfl,rfl,(ZK a b).trans (by rw [ZJ]),trivial⟩
end
end Go.Proofs.YtbiiiloimbjpaaaGreatDoor.K
namespace Go.Vc
open Go Go.Eng Go.Ar
structure MF where
 dt:Ve->Ve->Sp
 o:Int->Int->Bool
structure Mat where
 x:Ve
 y:Ve
 z:Ve
def Mat.cells (m:Mat):List AV:=m.x.cells++m.y.cells++m.z.cells
def MF.ok (F:MF) (v:Ve):Bool:=bif F.o v.a v.b then bif F.o v.c v.d then F.o v.e v.f else false else false
def g3 (a b c:Int):Bool:=!(a != 0)&&(!(b != 0)&&!(c != 0))
def e3 (a b c:Int):Int:=bif g3 a b c then 0 else bif !(a != 0)&&(!(b != 0)&&c != 0||b != 0) then bif !(b != 0)&&c != 0 then c else b else a
section
variable (F:MF) (m:Mat) (v:Ve)
end
structure TF where
 tv:Mat->Ve->Ve
 te:Mat->Ve->Int
 cm:Mat->Int
section
variable (T:TF) (a b:Mat)
end
section
variable (F:MF) (a b:Mat)
end
end Go.Vc
namespace Go.Proofs.YtbiiiloimbjpaaaGreatDoor.K
open Go Go.Eng Go.Ar Go.Vc
noncomputable section
theorem k6 {xs:List Nu} {K:List Nat} (g:xs.map Nu.isN=0 :: 0 :: 0 :: 0 :: 0 :: 0 :: K):∃ (v:Ve) (ys:List Nu),xs=.n v.a :: .n v.b :: .n v.c :: .n v.d :: .n v.e :: .n v.f :: ys/\ys.map Nu.isN=K:=by obtain ⟨a,_,rfl,h1⟩:=kn g;obtain ⟨b,_,rfl,h2⟩:=kn h1;obtain ⟨c,_,rfl,h3⟩:=kn h2;obtain ⟨d,_,rfl,h⟩:=kn h3;obtain ⟨e,_,rfl,i⟩:=kn h;obtain ⟨f,ys,rfl,j⟩:=kn i;exact ⟨⟨a,b,c,d,e,f⟩,ys,rfl,j⟩
end
end Go.Proofs.YtbiiiloimbjpaaaGreatDoor.K
