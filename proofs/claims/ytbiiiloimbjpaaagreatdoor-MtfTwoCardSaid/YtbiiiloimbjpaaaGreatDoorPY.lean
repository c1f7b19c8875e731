/- What is proved: MtfTwo returns true, whatever the input (part 25). No conditions beyond those of the row. -/
import Derived.Test.YtbiiiloimbjpaaaGreatDoorPI
import Derived.Test.YtbiiiloimbjpaaaGreatDoorPJ
import Derived.Test.YtbiiiloimbjpaaaGreatDoorPM
import Derived.Test.YtbiiiloimbjpaaaGreatDoorPN
import Derived.Test.YtbiiiloimbjpaaaGreatDoorPO
import Derived.Test.YtbiiiloimbjpaaaGreatDoorPP
import Derived.Test.YtbiiiloimbjpaaaGreatDoorPQ
import Derived.Test.YtbiiiloimbjpaaaGreatDoorPR
import Derived.Test.YtbiiiloimbjpaaaGreatDoorPS
import Derived.Test.YtbiiiloimbjpaaaGreatDoorPT
import Derived.Test.YtbiiiloimbjpaaaGreatDoorPU
import Derived.Test.YtbiiiloimbjpaaaGreatDoorPV
import Derived.Test.YtbiiiloimbjpaaaGreatDoorPW
import Derived.Test.YtbiiiloimbjpaaaGreatDoorPX
import Derived.KernelRfl
open Go.IntKind (i64 u64)
set_option linter.unusedVariables false
set_option linter.unusedSimpArgs false
set_option linter.unusedSectionVars false
namespace Go.Ln
open Go.Sn
theorem asi (q:Nat) (h:q<55):gJ q=true:=by
 match q,h with
 | 0,_=>exact ao2
 | 1,_=>exact ao3
 | 2,_=>exact ao4
 | 3,_=>exact ao5
 | 4,_=>exact ao6
 | 5,_=>exact ao7
 | 6,_=>exact ao8
 | 7,_=>exact ao9
 | 8,_=>exact apa
 | 9,_=>exact apb
 | 10,_=>exact akW
 | 11,_=>exact akX
 | 12,_=>exact akY
 | 13,_=>exact akZ
 | 14,_=>exact ak0
 | 15,_=>exact ak1
 | 16,_=>exact ak2
 | 17,_=>exact ak3
 | 18,_=>exact ak4
 | 19,_=>exact ak5
 | 20,_=>exact ak6
 | 21,_=>exact ak7
 | 22,_=>exact ak8
 | 23,_=>exact ak9
 | 24,_=>exact ala
 | 25,_=>exact alb
 | 26,_=>exact alc
 | 27,_=>exact ald
 | 28,_=>exact ale
 | 29,_=>exact alf
 | 30,_=>exact alg
 | 31,_=>exact alh
 | 32,_=>exact ali
 | 33,_=>exact alj
 | 34,_=>exact alk
 | 35,_=>exact alm
 | 36,_=>exact aln
 | 37,_=>exact alo
 | 38,_=>exact alp
 | 39,_=>exact alq
 | 40,_=>exact alr
 | 41,_=>exact als
 | 42,_=>exact alu
 | 43,_=>exact alv
 | 44,_=>exact alx
 | 45,_=>exact aly
 | 46,_=>exact alz
 | 47,_=>exact alA
 | 48,_=>exact alB
 | 49,_=>exact alC
 | 50,_=>exact alD
 | 51,_=>exact alE
 | 52,_=>exact alF
 | 53,_=>exact alG
 | 54,_=>exact alH
 | n+55,h=>omega
theorem asj:Am*(((300*54+183)*65536:Nat):Rat)+Am*65536<=8 / 5:=by decide +kernel
theorem asl {b:Nat} (h:b<=300*54+183):Am*((b*65536:Nat):Rat)+Am*65536<=8 / 5:=by
 have h1:b*65536<=(300*54+183)*65536:=jI _ h;have h2:((b*65536:Nat):Rat)<=(((300*54+183)*65536:Nat):Rat):=by exact_mod_cast h1
 have h3:=bA h2 akV.1;have:=asj;grind
theorem alI (q:Nat) (h:q<55) (a:yP (Am*((300*q*65536:Nat):Rat)) (Bv q).1 (Bv q).2.1 (Bv q).2.2):(∀ i,i<QC q->wZ Am (aby q) 0 (300*q+i))/\(Nat.beq q 54=true->wZ Am (aby q) 0 (300*q+QC q))/\(Nat.beq q 54=false->yP (Am*(((300*q+QC q)*65536:Nat):Rat)) (Bv (q+1)).1 (Bv (q+1)).2.1 (Bv (q+1)).2.2):=
 abx akV.1 akV.2 asg (by decide) (asl (by
  unfold QC
  cases g:Nat.beq q 54 with
  | true=>have:=aP g;show 300*q+183<=_;omega
  | false=>have:=Nat.ne_of_beq_eq_false g;show 300*q+300<=_;omega)) a (asi q h)
theorem alJ:∀ q,q<55->yP (Am*((300*q*65536:Nat):Rat)) (Bv q).1 (Bv q).2.1 (Bv q).2.2
 | 0,_=>by
  rw [show ((300*0*65536:Nat):Rat)=0 by decide +kernel,Rat.mul_zero];exact ⟨⟨by decide +kernel,by decide +kernel⟩,⟨by decide +kernel,by decide +kernel⟩⟩
 | q+1,h=>by
  have g:Nat.beq q 54=false:=by
   cases g:Nat.beq q 54 with
   | true=>have:=aP g;omega
   | false=>rfl
  have r:=(alI q (by omega) (alJ q (by omega))).2.2 g;have e:300*q+QC q=300*(q+1):=by unfold QC;rw [g];show 300*q+300=_;omega
  rw [e] at r;exact r
theorem alK {u:Nat} (d:0<u) (h1:u<1073741824):∃ k:Int,agk (Am*(u:Rat)) k:=by
 have a:∀ b j,b=u / 65536->j=u % 65536->∃ c,wZ Am c 0 b/\¬(b=c/\j=0):=by
  intro b j hb f;by_cases g:b=300*54+183
  .refine ⟨aby 54,?_,fun h=>by have:b=1099511627776:=h.1;omega⟩;have:=(alI 54 (by decide) (alJ 54 (by decide))).2.1 rfl;rw [g];exact this
  .have hq:b / 300<55:=by omega
   refine ⟨aby (b / 300),?_,?_⟩
   .have:=(alI (b / 300) hq (alJ _ hq)).1 (b % 300) (by
     unfold QC
     cases w:Nat.beq (b / 300) 54 with
     | true=>have:=aP w;show b % 300<183;omega
     | false=>show b % 300<300;omega)
    rwa [show 300*(b / 300)+b % 300=b by omega] at this
   .intro h;generalize b / 300=q at *
    cases q with
    | zero=>have:b=0:=h.1;omega
    | succ q=>have:b=1099511627776:=h.1;omega
 obtain ⟨c,k1,k2⟩:=a _ _ rfl rfl;have:=k1 (u % 65536) (by omega) k2;rwa [show u / 65536*65536+u % 65536=u by omega] at this
end Go.Ln
namespace Go.Dg
open Go Go.Eng Go.Sn Go.Ln
def quN (m d:Int):Bool:=decide (0<=m)&&(decide (m<=d)&&(d==4294967296&&m.tmod 4==0))
theorem SC {m:Int} (d:0<m) (h1:m<4294967296) (f:m % 4=0):∃ k,QA ((m:Rat) / ((4294967296:Int):Rat)) k:=by
 obtain ⟨k,a⟩:=alK (u:=(m / 4).toNat) (by omega) (by omega);refine ⟨k,?_⟩;have e:Am*(((m / 4).toNat:Nat):Rat)=hp*((m:Rat) / ((4294967296:Int):Rat)):=by
  have b:(m:Rat)=4*(((m / 4).toNat:Nat):Rat):=by
   have:m=4*(((m / 4).toNat:Nat):Int):=by omega
   have h:=bL (fun z:Int=>(z:Rat)) this;simp only [ji,Rat.intCast_natCast] at h;rw [h];have:((4:Int):Rat)=4:=by decide +kernel
   rw [this]
  have c:((4294967296:Int):Rat)=4294967296:=by decide +kernel
  rw [b,c];unfold Am;grind
 unfold agk at a;unfold QA tru;rw [<- e];exact a
theorem alL {m:Int} (a:0<m) (h1:m<4294967296) (b:m % 4=0):SinG m 4294967296:=by obtain ⟨k,c⟩:=SC a h1 b;exact (Nc a h1 (by decide) c).1
theorem abz {m d:Int} (h:quN m d=true):0<=m/\m<=d/\(d=4294967296/\m.tmod 4=0)/\(m=0\/m=d\/3*m=d\/SinG m d):=by
 unfold quN at h;simp only [aF,aT,dV] at h;obtain ⟨a,b,rfl,f⟩:=h;refine ⟨a,b,⟨rfl,f⟩,?_⟩;by_cases z:m=0
 .exact .inl z
 by_cases c:m=4294967296
 .exact .inr (.inl c)
 by_cases z3:3*m=4294967296
 .exact .inr (.inr (.inl z3))
 exact .inr (.inr (.inr (alL (by omega) (by omega) (by rw [cO a] at f;exact f))))
theorem alM:aA (4294967296:Int).toNat=fH:=by have:=kF Qx Qy;rw [yE] at this;exact this
theorem aiC {m n:Nat} (h:m<=n):pw m<=pw n:=by obtain ⟨k,rfl⟩:∃ k,n=m+k:=⟨n - m,by omega⟩;rw [yz];have a:=pw_pos m;have b:=pw_pos k;have:pw m*1<=pw m*pw k:=bq (by omega) (by omega);omega
theorem asn {m:Int} (c:0<m) (h1:m<=4294967296) (a:m.tmod 4=0):Dig (aA (RG*m).toNat)/\Top (aA (RG*m).toNat)/\((aA (RG*m).toNat).length=6\/(aA (RG*m).toNat).length=7)/\4294967296000000000000000000000000000000000000<=val (aA (RG*m).toNat)/\aA (4294967296:Int).toNat=fH:=by
 rw [cO (by omega)] at a;have b:4<=m:=by omega
 have lo:RG*4<=RG*m:=bq b (by decide);have hi:RG*m<=RG*4294967296:=bq h1 (by decide);have d:(4294967296000000000000000000000000000000000000:Int)<=RG*4:=by decide
 have f:RG*4294967296<pw 7:=by decide
 have v:val (aA (RG*m).toNat)=RG*m:=by rw [jZ];omega
 refine ⟨bU _,mD _,?_,by omega,alM⟩;have h:(aA (RG*m).toNat).length<=7:=by
  rcases aX 7 (aA (RG*m).toNat).length with g|g
  .have:=I7 (bU (RG*m).toNat) (mD _) (fun e=>by rw [e] at g;cases g);have:=aiC (show 7<=(aA (RG*m).toNat).length - 1 by omega);omega
  .exact g
 have i:6<=(aA (RG*m).toNat).length:=by
  rcases aX (aA (RG*m).toNat).length 6 with g|g
  .have:=eF (bU (RG*m).toNat);have:=aiC (show (aA (RG*m).toNat).length<=5 by omega);have j:pw 5<=RG*4:=by decide
   omega
  .exact g
 omega
def wr (x:Int):Int:=i64.wrap x
def siR (n d:Int):Int:=(wr (n.tmod d+d)).tmod d
def siQ (n d:Int):Int:=wr ((wr (4*siR n d)).tdiv d)
def siM (n d:Int):Int:=wr (wr (4*siR n d) - wr (siQ n d*d))
def siK (n d more:Int):Int:=(wr (siQ n d+more)).tmod 4
def siA (q n d:Int):Int:=bif q==0||q==2 then siM n d else wr (d - siM n d)
def snR (n d:Int):Int:=n % d
def snQ (n d:Int):Int:=4*snR n d / d
def snM (n d:Int):Int:=4*snR n d % d
def snK (n d more:Int):Int:=(snQ n d+more) % 4
def snA (more n d:Int):Int:=bif snK n d more==0||snK n d more==2 then snM n d else d - snM n d
def qG (d:Int):Bool:=bif decide (d<1) then true else decide (d>4294967296)
def snN (more n d:Int):Bool:=qG d||quN (snA more n d) d
def j6 (more n d:Int):Int:=bif qG d then 0 else bif snK n d more==0||snK n d more==1 then jD (snA more n d) d else -jE (snA more n d) d
def kg (more n d:Int):Int:=bif qG d then 0 else bif snK n d more==0||snK n d more==1 then jE (snA more n d) d else -jD (snA more n d) d
def snE (d:Int):Int:=bif qG d then 2 else 0
theorem kH {x:Int} (h1:-9223372036854775808<=x) (h2:x<=9223372036854775807):wr x=x:=by exact iw h1 (by omega)
theorem QD {n d:Int} (a:1<=d):(n.tmod d+d).tmod d=n % d/\0<=n.tmod d+d/\n.tmod d+d<2*d:=by
 have b:0<=n % d:=dE _ (by omega);have c:n % d<d:=d9 _ (by omega);have h:n.tmod d=n % d\/n.tmod d=n % d - d:=by
  rw [Int.tmod_eq_emod];split
  .left;omega
  .right;omega
 refine ⟨?_,by omega,by omega⟩;rw [cO (by omega)];rcases h with h|h
 .rw [h,Int.add_emod_right,Int.emod_emod_of_dvd _ (Int.dvd_refl d)]
 .rw [h,Int.sub_add_cancel,Int.emod_emod_of_dvd _ (Int.dvd_refl d)]
theorem CX {n d:Int} (g:1<=d) (h1:d<=4294967296):siR n d=snR n d/\siQ n d=snQ n d/\siM n d=snM n d/\0<=snQ n d/\snQ n d<=3/\0<=snM n d/\snM n d<d:=by
 obtain ⟨t1,l,m⟩:=QD (n:=n) g;have r0:0<=snR n d:=dE _ (by omega);have r1:snR n d<d:=d9 _ (by omega);have a:siR n d=snR n d:=by unfold siR;rw [kH (by omega) (by omega),t1];rfl
 have b:wr (4*snR n d)=4*snR n d:=kH (by omega) (by omega);have c:0<=snQ n d:=bu (by omega) (by omega);have o:snQ n d<4:=(Dp (by omega)).2 (by omega);have f:siQ n d=snQ n d:=by unfold siQ;rw [a,b,bV (by omega)];exact kH (by show _<=snQ n d;omega) (by show snQ n d<=_;omega)
 have h:0<=snM n d:=dE _ (by omega);have i:snM n d<d:=d9 _ (by omega);have j:siM n d=snM n d:=by have hd:4*snR n d=d*snQ n d+snM n d:=(gL _ _).symm;have k:0<=d*snQ n d:=aV (by omega) c;unfold siM;rw [a,b,f,eO (snQ n d) d,kH (x:=d*snQ n d) (by omega) (by omega),kH (by omega) (by omega)];omega
 exact ⟨a,f,j,c,by omega,h,i⟩
theorem aso {n d more:Int} (a:1<=d) (h1:d<=4294967296) (h2:0<=more) (h3:more<=1):siK n d more=snK n d more/\0<=snK n d more/\snK n d more<=3:=by obtain ⟨_,e,_,c,f,_,_⟩:=CX (n:=n) a h1;refine ⟨?_,dE _ (by decide),by have:=d9 (snQ n d+more) (b:=4) (by decide);unfold snK;omega⟩;unfold siK snK;rw [e,kH (by omega) (by omega),cO (by omega)]
theorem asq {n d more:Int} (a:1<=d) (h1:d<=4294967296):siA (snK n d more) n d=snA more n d:=by obtain ⟨_,_,e,_,_,b,c⟩:=CX (n:=n) a h1;unfold siA snA;rw [e,kH (by omega) (by omega)]
theorem aiD {m d:Int} (h:quN m d=true):0<=jD m d/\jD m d<=13000000000/\0<=jE m d/\jE m d<=13000000000:=by
 obtain ⟨_,_,_,g⟩:=abz h;unfold jD jE;by_cases z:m=0
 .rw [aC z,aC z];omega
 by_cases c:m=d
 .rw [aB z,aB z,aC c,aC c];omega
 by_cases z3:3*m=d
 .rw [aB z,aB z,aB c,aB c,aC z3,aC z3];omega
 rw [aB z,aB z,aB c,aB c,aB z3,aB z3];rcases g with g|g|g|g
 .exact absurd g z
 .exact absurd g c
 .exact absurd g z3
 have p:=lm;have:=g.far;have:=g.hi;have a:0<=qV m d:=bu (aV (by omega) (by decide)) (by omega);have b:qV m d<=12884901888:=by
  refine gM p ?_;have e:(12884901888:Int)*PP=3*PP*4294967296:=by decide
  rw [e];exact bG (by omega) (by decide)
 omega
end Go.Dg
namespace Go.Proofs.YtbiiiloimbjpaaaGreatDoor.K
open Go Go.Eng Go.Dg Go.Ar Go.Vc
noncomputable section
def alN:List Sh:=[.i .i64,.i .i64]
def agm (N:Int->Int->Bool) (V:Int->Int->Int×Int):eT:=fD alN (some fun|[.n m,.n d]=>N m d|_=>false) fun
 | [.n m,.n d]=>.a [.n .i64 (V m d).1,.n .i64 (V m d).2]
 | _=>.u []
theorem uq {x:Option CR} {nd:Nd} {l:List AV} {h:Hp} (e:x=some ⟨nd,[⟨.tt,.agg l,h⟩]⟩):jr x=some (nd,.agg l):=by rw [e];rfl
theorem alO:PureOk Tryz.prog 104 (agm quN fun m d=>(jD m d,jE m d)):=by
 refine num_ok' (fun xs s hN=>?_) ⟨_,Tryz.func104,rfl⟩;obtain ⟨m,_,rfl,h1⟩:=kn s;obtain ⟨d,_,rfl,h2⟩:=kn h1;obtain rfl:=k0 h2;have hN:quN m d=true:=hN;obtain ⟨j,k,t,h⟩:=abz hN;have K:1<=d:=by omega
 have L:d<=4294967296:=by omega
 have q:i64.wrap (3*m)=3*m:=iw (by omega) (by omega);by_cases b:m=0
 .refine ⟨cQu [(14,true)],300,.p _,_,M9 _,rfl,fun _=>rfl,rfl,uq (asa m d),dV.2 b,fun τ W h=>?_⟩;show VRel τ (.agg [.int true .i64 (jD m d),.int true .i64 (jE m d)]) W;unfold jD jE;rw [aC b,aC b];exact h
 by_cases hd:m=d
 .refine ⟨cQu [(14,false),(19,true)],300,.p _,_,M9 _,rfl,fun _=>rfl,rfl,uq (asb m d),⟨dm.2 b,dV.2 hd⟩,fun τ W h=>?_⟩;show VRel τ (.agg [.int true .i64 (jD m d),.int true .i64 (jE m d)]) W;unfold jD jE;rw [aB b,aB b,aC hd,aC hd];exact h
 by_cases h3:3*m=d
 .refine ⟨cQu [(14,false),(19,false),(25,true)],300,.p _,_,M9 _,rfl,fun _=>rfl,rfl,uq (asc m d),⟨dm.2 b,dm.2 hd,?_⟩,fun τ W h=>?_⟩
  .rw [q];exact dV.2 h3
  show VRel τ (.agg [.int true .i64 (jD m d),.int true .i64 (jE m d)]) W;unfold jD jE;rw [aB b,aB b,aB hd,aB hd,aC h3,aC h3];exact h
 have g:SinG m d:=by
  rcases h with h|h|h|h
  .exact absurd h b
  .exact absurd h hd
  .exact absurd h h3
  .exact h
 have p:=lm;have l:0<m:=by omega
 have fr:=g.far;have hi:=g.hi;obtain ⟨M,N⟩:=Na l k;obtain ⟨e3,c⟩:=agh l k (by omega);have u:val (aA RGT.toNat)=RG:=dv (by decide);have v:val (aA m.toNat)=m:=dv j;have O:val (aA d.toNat)=d:=dv (by omega);have f:val [100000000]=100000000:=CS _;have P:0<RG:=by decide
 have Q:val (aA (RG*m).toNat)=RG*m:=dv (aV (by omega) j);have X:(aA RGT.toNat).length<=6:=qU (a:=RGT) (by decide) (by decide);have Y:(aA m.toNat).length<=2:=rA j (by rw [show pw 2=1000000000000000000 from by decide];omega);have w:0<(aA d.toNat).length:=Qq (by omega);have la:(aA (RG*m).toNat).length<=7:=rA (aV (by omega) j) (by
  have:RG*m<=RG*4294967296:=bq (by omega) (by omega);have e:RG*4294967296<pw 7:=by decide
  omega)
 have ls:(quS m d).length<=6:=by rw [e3];exact qU (by omega) (by omega)
 have i:0<(quS m d).length:=by rw [e3];exact Qq (by omega)
 have dS:Dig (quS m d):=by rw [e3];exact bU _
 have x:Top (quS m d):=by rw [e3];exact mD _
 have n:Dig [100000000]:=GH (by decide) (by decide);have y:Top [100000000]:=by have:=mD 100000000;rwa [show aA 100000000=[100000000] from by rw [kE (by decide),show 100000000 / 1000000000=0 from rfl,gU];rfl] at this
 have z:d<=RG*m:=by
  have:RG*1<=RG*m:=bq (by omega) (by omega);have e:(4294967296:Int)<RG:=by decide
  omega
 have A:¬ EU (quS m d) [100000000]<=0:=fun hh=>by
  have:=(afK dS n x y (by omega) (by show 1<=500000;omega)).2 (by rw [c,f];omega);omega
 have r:val (aA (val (quS m d) - val [100000000]).toNat)=rC m d - 100000000:=by rw [c,f];exact dv (by omega)
 have D:val (aA (val (quS m d)+val [100000000]).toNat)=rC m d+100000000:=by rw [c,f];exact dv (by omega)
 have E:DwD (aA (val (quS m d) - val [100000000]).toNat):=by rw [c,f];exact abb (by omega) (by omega)
 have F:DwD (aA (val (quS m d)+val [100000000]).toNat):=by
  rw [c,f];refine abb (by omega) ?_;have:(100000000:Int)<PP:=by decide
  omega
 obtain ⟨H,I⟩:=abd g;have o:OvG (aA (RG*m).toNat) (aA d.toNat):=by obtain ⟨rfl,dq⟩:=t;exact asn (by omega) k dq
 refine ⟨cQu [(14,false),(19,false),(25,false),(55,false),(67,false)],300,.p _,_,M9 _,rfl,fun _=>rfl,rfl,uq (ar9 m d),?_,fun τ W h=>?_⟩
 .unfold UX;rw [r,D,u,v];refine ⟨⟨dm.2 b,dm.2 hd,by rw [q];exact dm.2 h3⟩,⟨⟨aba,by decide,by decide⟩,⟨l,by omega⟩,⟨⟨rfl,rfl⟩,bU _,bU _,by omega⟩,⟨by omega,by omega⟩,⟨rfl,rfl⟩,o⟩,⟨rfl,rfl,aoT l k g⟩,⟨⟨rfl,by show _<=_;omega,by show 1<=500000;omega⟩,aG A⟩,⟨⟨rfl,dS,n,i,by omega,by show 1<=_;omega,by rw [c,f];omega⟩,rfl,rfl,E⟩,⟨rfl,dS,n,.inl i,by omega,by show 1<=_;omega⟩,⟨rfl,rfl,F⟩,KU.2 g.same⟩
 .show VRel τ (.agg [.int true .i64 (jD m d),.int true .i64 (jE m d)]) W;unfold jD jE;rw [aB b,aB b,aB hd,aB hd,aB h3,aB h3];have J:Sz m d=.agg [.int true .i64 (qV m d),.int true .i64 (qV m d+1)]:=by
   unfold Sz;rw [r];show AV.agg [.int true .i64 (qV m d),.int true .i64 (i64.wrap (qV m d+1))]=_;rw [iw (by omega) (by omega)]
  rw [<- J];exact h
def apc (N:Int->Int->Bool) (V:Int->Int->Int×Int):List (FuncId×eT):=[(104,agm N V)]
def cSi (N:Int->Int->Bool) (V:Int->Int->Int×Int) (b:Bool) (q:Int):Ctx:=eZ (mkC Tryz.prog (apc N V) ext) (hZ [(15,.bool false b),(32,.int false .i64 q)])
theorem abA (b:Bool) (q:Int):CtxOk (cSi quN (fun m d=>(jD m d,jE m d)) b q):=bW (wO prog_ok (fun x a=>by
 rcases lU.1 a with rfl
 exact alO) ext_ok) _
def FW (N:Int->Int->Bool) (L H:Int->Int->Int) (E:Int->Int):eT:=fD alN (some fun|[.n m,.n d]=>N m d|_=>false) fun
 | [.n m,.n d]=>.u [.a [.n .i64 (L m d),.n .i64 (H m d)],.n .i64 (E d)]
 | _=>.u []
def siN (N:Int->Int->Bool) (n d more q:Int):Prop:=((decide (d<1)=true->true=false)/\(decide (d<1)=false->decide (d>4294967296)=false))/\(d≠0/\d≠0)/\d≠0/\siK n d more=q/\N (siA q n d) d=true
def siL (V:Int->Int->Int×Int) (q n d:Int):Int:=bif q==0||q==1 then (V (siA q n d) d).1 else wr (0 - (V (siA q n d) d).2)
def siH (V:Int->Int->Int×Int) (q n d:Int):Int:=bif q==0||q==1 then (V (siA q n d) d).2 else wr (0 - (V (siA q n d) d).1)
def siO (V:Int->Int->Int×Int) (q n d:Int):AV:=.tuple [.agg [.int true .i64 (siL V q n d),.int true .i64 (siH V q n d)],.int false .i64 0]
def siX (f:FuncId) (N:Int->Int->Bool) (V:Int->Int->Int×Int) (n d more q:Int):Prop:=jr ((run (cSi N V false q) 300).call f [.int true .i64 n,.int true .i64 d] ⟨[],0,1⟩)=some (.p (siN N n d more q),siO V q n d)
theorem alP (N:Int->Int->Bool) (V:Int->Int->Int×Int) (n d:Int):siX 30 N V n d 0 0:=by unfold siX;kernel_rfl
theorem alQ (N:Int->Int->Bool) (V:Int->Int->Int×Int) (n d:Int):siX 30 N V n d 0 1:=by unfold siX;kernel_rfl
theorem alR (N:Int->Int->Bool) (V:Int->Int->Int×Int) (n d:Int):siX 30 N V n d 0 2:=by unfold siX;kernel_rfl
theorem alS (N:Int->Int->Bool) (V:Int->Int->Int×Int) (n d:Int):siX 30 N V n d 0 3:=by unfold siX;kernel_rfl
theorem apd (N:Int->Int->Bool) (V:Int->Int->Int×Int) (n d:Int):siX 29 N V n d 1 0:=by unfold siX;kernel_rfl
theorem ape (N:Int->Int->Bool) (V:Int->Int->Int×Int) (n d:Int):siX 29 N V n d 1 1:=by unfold siX;kernel_rfl
theorem apf (N:Int->Int->Bool) (V:Int->Int->Int×Int) (n d:Int):siX 29 N V n d 1 2:=by unfold siX;kernel_rfl
theorem apg (N:Int->Int->Bool) (V:Int->Int->Int×Int) (n d:Int):siX 29 N V n d 1 3:=by unfold siX;kernel_rfl
def siB (d:Int):Prop:=(decide (d<1)=true->true=true)/\(decide (d<1)=false->decide (d>4294967296)=true)
theorem alT (N:Int->Int->Bool) (V:Int->Int->Int×Int) (n d:Int):jr ((run (cSi N V true 0) 300).call 30 [.int true .i64 n,.int true .i64 d] ⟨[],0,1⟩)=some (.p (siB d),.tuple [.agg [.int false .i64 0,.int false .i64 0],.int false .i64 2]):=by kernel_rfl
theorem aph (N:Int->Int->Bool) (V:Int->Int->Int×Int) (n d:Int):jr ((run (cSi N V true 0) 300).call 29 [.int true .i64 n,.int true .i64 d] ⟨[],0,1⟩)=some (.p (siB d),.tuple [.agg [.int false .i64 0,.int false .i64 0],.int false .i64 2]):=by kernel_rfl
theorem abB {f:FuncId} {more:Int} (b:0<=more/\more<=1) (fn:∃ fn:Func,Tryz.prog.funcs[f]?=some fn/\fn.body.isSome=true)
  (h:∀ n d q,0<=q->q<=3->siX f quN (fun m d=>(jD m d,jE m d)) n d more q)
  (hb:∀ n d,jr ((run (cSi quN (fun m d=>(jD m d,jE m d)) true 0) 300).call f [.int true .i64 n,.int true .i64 d] ⟨[],0,1⟩)=some (.p (siB d),.tuple [.agg [.int false .i64 0,.int false .i64 0],.int false .i64 2])):
  PureOk Tryz.prog f (FW (snN more) (j6 more) (kg more) snE):=by
 refine num_ok' (fun xs j hN=>?_) fn;obtain ⟨n,_,rfl,h1⟩:=kn j;obtain ⟨d,_,rfl,h2⟩:=kn h1;obtain rfl:=k0 h2;have hN:snN more n d=true:=hN
 cases a:qG d with
 | true=>
  refine ⟨_,300,_,_,abA true 0,rfl,fun _=>rfl,rfl,hb n d,?_,fun τ W h=>?_⟩
  .refine ⟨fun _=>rfl,fun h=>?_⟩;unfold qG at a;rw [h] at a;exact a
  .show VRel τ (.tuple [.agg [.int true .i64 (j6 more n d),.int true .i64 (kg more n d)],.int true .i64 (snE d)]) W;have e:j6 more n d=0/\kg more n d=0/\snE d=2:=by
    unfold j6 kg snE;rw [a];exact ⟨rfl,rfl,rfl⟩
   rw [e.1,e.2.1,e.2.2];exact h
 | false=>
  have hd:decide (d<1)=false/\decide (d>4294967296)=false:=by
   unfold qG at a
   cases h3:decide (d<1) with
   | true=>rw [h3] at a;cases a
   | false=>rw [h3] at a;exact ⟨rfl,a⟩
  have c:1<=d:=by have:=dJ hd.1;omega
  have g:d<=4294967296:=by have:=dJ hd.2;omega
  have hq:quN (snA more n d) d=true:=by unfold snN at hN;rw [a] at hN;exact hN
  obtain ⟨k1,k2,k⟩:=aso (n:=n) c g b.1 b.2;have i:=asq (n:=n) (more:=more) c g;obtain ⟨l,o,r,s⟩:=aiD hq;refine ⟨_,300,_,_,abA false (snK n d more),rfl,fun _=>rfl,rfl,h n d _ k2 k,?_,fun τ W h=>?_⟩
  .refine ⟨⟨fun h=>(by rw [hd.1] at h;cases h),fun _=>hd.2⟩,⟨by omega,by omega⟩,by omega,k1,?_⟩;rw [i];exact hq
  .show VRel τ (.tuple [.agg [.int true .i64 (j6 more n d),.int true .i64 (kg more n d)],.int true .i64 (snE d)]) W;have e:j6 more n d=siL (fun m d=>(jD m d,jE m d)) (snK n d more) n d/\kg more n d=siH (fun m d=>(jD m d,jE m d)) (snK n d more) n d/\snE d=0:=by
    unfold j6 kg snE siL siH;rw [a,i]
    dsimp only
    rw [kH (x:=0 - jE (snA more n d) d) (by omega) (by omega),kH (x:=0 - jD (snA more n d) d) (by omega) (by omega),zD,zD];exact ⟨rfl,rfl,rfl⟩
   rw [e.1,e.2.1,e.2.2];exact h
theorem q4 {q:Int} (a:0<=q) (h1:q<=3):q=0\/q=1\/q=2\/q=3:=by omega
theorem U6:PureOk Tryz.prog 30 (FW (snN 0) (j6 0) (kg 0) snE):=abB (by decide) ⟨_,Tryz.func30,rfl⟩ (fun n d q a h1=>by
 rcases q4 a h1 with rfl|rfl|rfl|rfl
 .exact alP _ _ n d
 .exact alQ _ _ n d
 .exact alR _ _ n d
 .exact alS _ _ n d) (fun n d=>alT _ _ n d)
theorem La:PureOk Tryz.prog 29 (FW (snN 1) (j6 1) (kg 1) snE):=abB (by decide) ⟨_,Tryz.func29,rfl⟩ (fun n d q a h1=>by
 rcases q4 a h1 with rfl|rfl|rfl|rfl
 .exact apd _ _ n d
 .exact ape _ _ n d
 .exact apf _ _ n d
 .exact apg _ _ n d) (fun n d=>aph _ _ n d)
end
end Go.Proofs.YtbiiiloimbjpaaaGreatDoor.K
namespace Go.Proofs.YtbiiiloimbjpaaaGreatDoor.K
open Go Go.Eng Go.Dg
noncomputable section
def mi (l:List (Nat×AV)):Nat->Nat->Option AV:=fun _ t=>match l with
 | []=>none
 | x :: l=>match Nat.beq t x.1 with
  | true=>some x.2
  | false=>mi l 0 t
termination_by structural l
def leH (a b:List Int):Hp:=iZ true hG0 [(.i64,a),(.i64,b)]
def Jn (a b:List Int):List AV:=[.lslice 0 a.length,.lslice 1 b.length]
def cLe (d:Bool):Ctx:=eZ cL (mi [(10,.bool false d)])
theorem Nf (d:Bool):CtxOk (cLe d):=bW kv _
noncomputable def leS (a b:List Int):St:=qM (cLe false) 300 82 (Jn a b) (leH a b)
def abC:AFr:=⟨82,none⟩
def leA:Code:=fP Tryz.prog 82 0
def leP (i:Int):Patch:=⟨(5,.int true .i64 i) :: bS 19 22,[],[]⟩
def leR (r:Bool):Patch:=⟨(4,.bool true r) :: (5,.any false) :: bS 19 22,[],[]⟩
def leX:Patch:=⟨(5,.any false) :: bS 19 22,[],[]⟩
def leU (a b:List Int):SumL Int:=
 {
  S:=leP
  I:=fun i=>-1<=i/\i<a.length
  μ:=fun i=>(i+1).toNat
  F:=fun i=>bif tQ a b i then (.ret,leR (Gh a b i)) else (.exit 0,leX)
  next:=fun i=>i64.wrap (i - 1)
  ids:=fun _=>[]
  X:=fun i x=>match x with
   | .ret=>some (leR (decide (a.getD i.toNat 0<b.getD i.toNat 0)),[])
   | .exit _=>some (leX,[])
   | _=>none }
def Fa (p q:Bool) (a b:List Int):List AV:=[.agg [.bool true p,.lslice 0 a.length],.agg [.bool true q,.lslice 1 b.length]]
def cSa (d:Bool):Ctx:=eZ cL (mi [(19,.bool false d)])
theorem Ng (d:Bool):CtxOk (cSa d):=bW kv _
noncomputable def saS (p q:Bool) (a b:List Int):St:=qM (cSa false) 300 54 (Fa p q a b) (leH a b)
def abD:AFr:=⟨54,none⟩
def saA:Code:=fP Tryz.prog 54 0
def saP (i:Int):Patch:=⟨(5,.int true .i64 i) :: bS 20 18,[],[]⟩
def saR:Patch:=⟨(4,.bool true false) :: (5,.any false) :: bS 20 18,[],[]⟩
def saX:Patch:=⟨(5,.any false) :: bS 20 18,[],[]⟩
def saU (a b:List Int):SumL Int:=
 {
  S:=saP
  I:=fun i=>0<=i/\i<=a.length
  μ:=fun i=>(a.length - i).toNat
  F:=fun i=>bif yA a b i then (.ret,saR) else (.exit 0,saX)
  next:=fun i=>i64.wrap (i+1)
  ids:=fun _=>[]
  X:=fun i x=>match x with
   | .ret=>some (saR,[])
   | .exit _=>some (saX,[])
   | _=>none }
def Bw (p:Bool) (a:List Int):List AV:=[.agg [.bool true p,.lslice 0 a.length]]
def riH (a:List Int):Hp:=iZ true hG0 [(.i64,a)]
def cRi (z:Bool):Ctx:=eZ cL (mi [(7,.bool false z),(10,.bool false true),(46,.bool false true)])
theorem Nh (z:Bool):CtxOk (cRi z):=bW kv _
noncomputable def riS (p:Bool) (a:List Int):St:=qM (cRi false) 300 83 (Bw p a) (riH a)
def abE:AFr:=⟨83,none⟩
def riA:Code:=fP Tryz.prog 83 0
def riP (i:Int):Patch:=⟨(3,.int true .i64 i) :: bS 11 21,[],[]⟩
def riU (a:List Int):SumL Int:=
 {
  S:=riP
  I:=fun i=>0<=i/\i<=a.length
  μ:=fun i=>(a.length - i).toNat
  F:=fun _=>(.exit 0,riP a.length)
  next:=fun i=>i64.wrap (i+1)
  ids:=fun _=>[]
  X:=fun i x=>match x with
   | .exit _=>some (riP i,[])
   | .ret=>some (⟨(2,.any false) :: (3,.any false) :: bS 11 21,[],[]⟩,[])
   | _=>none }
def QE (a b:List Int):Prop:=i64.wrap ((↑a.length:Int) - (1:Int))=i64.wrap ((↑a.length:Int) - (1:Int))
theorem abF (a b:List Int):fit (leS a b) (leS a b) (aJ (leS a b) ((leU a b).S (i64.wrap ((a.length:Int) - 1)))) ([])=some (.p (QE a b)):=by kernel_rfl
def SE (a b:List Int) (i:Int):Prop:=(decide (i>=0)=true->(((0:Int)<=i/\i<(↑a.length:Int))/\i.toNat<a.length/\((0:Int)<=i/\i<(↑b.length:Int))/\i.toNat<b.length)/\((a.getD i.toNat (0:Int) != b.getD i.toNat (0:Int))=true->((0:Int)<=i/\i<(↑a.length:Int))/\i.toNat<a.length/\((0:Int)<=i/\i<(↑b.length:Int))/\i.toNat<b.length))/\((!decide (i>=0))=true->(leU a b).F i=(Ex.exit (0:Nat),leX))/\((decide (i>=0)&&!a.getD i.toNat (0:Int) != b.getD i.toNat (0:Int))=true->i64.wrap (i - (1:Int))=(leU a b).next i/\(leU a b).I ((leU a b).next i)/\(leU a b).μ ((leU a b).next i)<(leU a b).μ i/\(leU a b).F ((leU a b).next i)=(leU a b).F i)/\((decide (i>=0)&&a.getD i.toNat (0:Int) != b.getD i.toNat (0:Int))=true->decide (a.getD i.toNat (0:Int)<b.getD i.toNat (0:Int))=decide (a.getD i.toNat (0:Int)<b.getD i.toNat (0:Int))/\(leU a b).F i=(Ex.ret,leR (decide (a.getD i.toNat (0:Int)<b.getD i.toNat (0:Int)))))
theorem agn (a b:List Int) (i:Int):dQ (leS a b) ((leU a b).way (i)) ((run (cLe false) 300).code abC leA (aJ (leS a b) ((leU a b).S i)))=some (.p (SE a b i)):=by kernel_rfl
def QF (p q:Bool) (a b:List Int):Prop:=(0:Int)=0
theorem abG (p q:Bool) (a b:List Int):fit (saS p q a b) (saS p q a b) (aJ (saS p q a b) ((saU a b).S 0)) ([])=some (.p (QF p q a b)):=by kernel_rfl
def SF (p q:Bool) (a b:List Int) (i:Int):Prop:=(decide (i<(↑a.length:Int))=true->((0:Int)<=i/\i<(↑a.length:Int))/\i.toNat<a.length/\((0:Int)<=i/\i<(↑b.length:Int))/\i.toNat<b.length)/\((!decide (i<(↑a.length:Int)))=true->(saU a b).F i=(Ex.exit (0:Nat),saX))/\((decide (i<(↑a.length:Int))&&!a.getD i.toNat (0:Int) != b.getD i.toNat (0:Int))=true->i64.wrap (i+1)=(saU a b).next i/\(saU a b).I ((saU a b).next i)/\(saU a b).μ ((saU a b).next i)<(saU a b).μ i/\(saU a b).F ((saU a b).next i)=(saU a b).F i)/\((decide (i<(↑a.length:Int))&&a.getD i.toNat (0:Int) != b.getD i.toNat (0:Int))=true->false=false/\(saU a b).F i=(Ex.ret,saR))
theorem agp (p q:Bool) (a b:List Int) (i:Int):dQ (saS p q a b) ((saU a b).way (i)) ((run (cSa false) 300).code abD saA (aJ (saS p q a b) ((saU a b).S i)))=some (.p (SF p q a b i)):=by kernel_rfl
def QG (p:Bool) (a:List Int):Prop:=(0:Int)=0
theorem abI (p:Bool) (a:List Int):fit (riS p a) (riS p a) (aJ (riS p a) ((riU a).S 0)) ([])=some (.p (QG p a)):=by kernel_rfl
def SG (p:Bool) (a:List Int) (i:Int):Prop:=(decide (i<(↑a.length:Int))=true->((0:Int)<=i/\i<(↑a.length:Int))/\i.toNat<a.length/\(decide (a.getD i.toNat (0:Int)<0)=false->((0:Int)<=i/\i<(↑a.length:Int))/\i.toNat<a.length))/\((!decide (i<(↑a.length:Int)))=true->i=i/\(riU a).F i=(Ex.exit (0:Nat),riP i))/\((decide (i<(↑a.length:Int))&&!bif decide (a.getD i.toNat (0:Int)<0) then true else decide (a.getD i.toNat (0:Int)>=1000000000))=true->i64.wrap (i+1)=(riU a).next i/\(riU a).I ((riU a).next i)/\(riU a).μ ((riU a).next i)<(riU a).μ i/\(riU a).F ((riU a).next i)=(riU a).F i)/\((decide (i<(↑a.length:Int))&&bif decide (a.getD i.toNat (0:Int)<0) then true else decide (a.getD i.toNat (0:Int)>=1000000000))=true->(riU a).F i=(Ex.ret,{ tm:=((2:Nat),AV.any false) :: ((3:Nat),AV.any false) :: bS (11:Nat) (21:Nat),old:=[],new:=[] }))
theorem agq (p:Bool) (a:List Int) (i:Int):dQ (riS p a) ((riU a).way (i)) ((run (cRi false) 300).code abE riA (aJ (riS p a) ((riU a).S i)))=some (.p (SG p a i)):=by kernel_rfl
theorem agr (a b:List Int) (d:Sm a) (g:a.length=b.length):CodeOk (cLe false) abC (.loop leA) (leS a b) ⟨.tt,[⟨.b (tQ a b (a.length - 1)),.ret,aJ (leS a b) (leR (Gh a b (a.length - 1)))⟩,⟨.b (!tQ a b (a.length - 1)),.exit 0,aJ (leS a b) leX⟩]⟩:=by
 have d:=d.le;have f:i64.wrap ((a.length:Int) - 1)=a.length - 1:=iw (by omega) (by omega);refine IV (dw (Nf false) 300) (leU a b) (y0:=i64.wrap ((a.length:Int) - 1)) (by rw [f];exact ⟨by omega,by omega⟩) ⟨_,abF a b,rfl⟩ (by kernel_rfl) (fun i hi=>⟨_,agn a b i,?_⟩) (by rw [f];rfl);obtain ⟨i0,i1⟩:=(show -1<=i/\i<a.length from hi);refine ⟨fun h=>?_,fun h=>?_,fun h=>?_,fun h=>?_⟩
 .have h:=dt.1 h;exact ⟨by omega,fun _=>by omega⟩
 .have h:=ndt.1 h;have:i=-1:=by omega
  subst this;rfl
 .obtain ⟨c,h⟩:=FU.1 h;have h:=ZY.1 h;have e:i64.wrap (i - 1)=i - 1:=iw (by omega) (by omega);refine ⟨rfl,?_,?_,?_⟩
  .show -1<=i64.wrap (i - 1)/\i64.wrap (i - 1)<a.length;rw [e];omega
  .show (i64.wrap (i - 1)+1).toNat<(i+1).toNat;rw [e];omega
  .show (bif tQ a b (i64.wrap (i - 1)) then (Ex.ret,leR (Gh a b (i64.wrap (i - 1)))) else (.exit 0,leX))=bif tQ a b i then (Ex.ret,leR (Gh a b i)) else (.exit 0,leX);rw [e,CG c,PY c,aC h,aC h]
 .obtain ⟨c,h⟩:=FU.1 h;have h:=vH.1 h;refine ⟨rfl,?_⟩;show (bif tQ a b i then (Ex.ret,leR (Gh a b i)) else (.exit 0,leX))=_;rw [CG c,PY c,aB h,aB h];rfl
theorem ags (p q:Bool) (a b:List Int) (d:Sm a) (f:a.length=b.length):CodeOk (cSa false) abD (.loop saA) (saS p q a b) ⟨.tt,[⟨.b (yA a b 0),.ret,aJ (saS p q a b) saR⟩,⟨.b (!yA a b 0),.exit 0,aJ (saS p q a b) saX⟩]⟩:=by
 have d:=d.le;refine IV (dw (Ng false) 300) (saU a b) (y0:=0) ⟨by omega,by omega⟩ ⟨_,abG p q a b,rfl⟩ (by kernel_rfl) (fun i hi=>⟨_,agp p q a b i,?_⟩) rfl;obtain ⟨i0,i1⟩:=(show 0<=i/\i<=a.length from hi);refine ⟨fun h=>?_,fun h=>?_,fun h=>?_,fun h=>?_⟩
 .have h:=dt.1 h;omega
 .have h:=ndt.1 h;have:i=a.length:=by omega
  show (bif yA a b i then (Ex.ret,saR) else (.exit 0,saX))=_;unfold yA;rw [show (a.length - i).toNat=0 by omega];rfl
 .obtain ⟨c,h⟩:=FU.1 h;have h:=ZY.1 h;have e:i64.wrap (i+1)=i+1:=iw (by omega) (by omega);refine ⟨rfl,?_,?_,?_⟩
  .show 0<=i64.wrap (i+1)/\i64.wrap (i+1)<=a.length;rw [e];omega
  .show (a.length - i64.wrap (i+1)).toNat<(a.length - i).toNat;rw [e];omega
  .show (bif yA a b (i64.wrap (i+1)) then (Ex.ret,saR) else (.exit 0,saX))=bif yA a b i then (Ex.ret,saR) else (.exit 0,saX);rw [e,PZ i0 c,aC h]
 .obtain ⟨c,h⟩:=FU.1 h;have h:=vH.1 h;refine ⟨rfl,?_⟩;show (bif yA a b i then (Ex.ret,saR) else (.exit 0,saX))=_;rw [PZ i0 c,aB h];rfl
theorem agt (p:Bool) (a:List Int) (b:Sm a) (hd:Dig a):CodeOk (cRi false) abE (.loop riA) (riS p a) ⟨.tt,[⟨.tt,.exit 0,aJ (riS p a) (riP a.length)⟩]⟩:=by
 have b:=b.le;refine jX (dw (Nh false) 300) (riU a) (y0:=0) ⟨by omega,by omega⟩ ⟨_,abI p a,rfl⟩ (by kernel_rfl) (fun i hi=>⟨_,agq p a i,?_⟩) rfl;obtain ⟨i0,i1⟩:=(show 0<=i/\i<=a.length from hi);have d:=hd.get i.toNat;refine ⟨fun h=>?_,fun h=>?_,fun h=>?_,fun h=>?_⟩
 .have h:=dt.1 h;refine ⟨by omega,by omega,fun _=>by omega⟩
 .have h:=ndt.1 h;have:i=a.length:=by omega
  subst this;exact ⟨rfl,rfl⟩
 .obtain ⟨c,h⟩:=FU.1 h;have e:i64.wrap (i+1)=i+1:=iw (by omega) (by omega);refine ⟨rfl,?_,?_,rfl⟩
  .show 0<=i64.wrap (i+1)/\i64.wrap (i+1)<=a.length;rw [e];omega
  .show (a.length - i64.wrap (i+1)).toNat<(a.length - i).toNat;rw [e];omega
 .obtain ⟨c,h⟩:=FU.1 h;have h:=bo.1 h;rcases h with h|h
  .omega
  .have:=dt.1 h;omega
noncomputable def alU (a b:List Int):Ctx:=bN (cLe false) [Ad 82 (leS a b).hp.clock abC leA (leS a b) (tQ a b (a.length - 1)) .ret (leR (Gh a b (a.length - 1))) (.exit 0) leX]
theorem agu (a b:List Int) (c:Sm a) (d:a.length=b.length):CtxOk (alU a b):=wP (Nf false) (agr a b c d) (bJ (Nf false))
noncomputable def alV (p q:Bool) (a b:List Int):Ctx:=bN (cSa false) [Ad 54 (saS p q a b).hp.clock abD saA (saS p q a b) (yA a b 0) .ret saR (.exit 0) saX]
theorem agv (p q:Bool) (a b:List Int) (c:Sm a) (d:a.length=b.length):CtxOk (alV p q a b):=wP (Ng false) (ags p q a b c d) (bJ (Ng false))
noncomputable def alW (p:Bool) (a:List Int):Ctx:=bN (cRi false) [dK 83 (riS p a).hp.clock abE riA (riS p a) (.exit 0) (riP a.length)]
theorem agw (p:Bool) (a:List Int) (b:Sm a) (hd:Dig a):CtxOk (alW p a):=bE (Nh false) (agt p a b hd) (bJ (Nh false))
def abJ (a b:List Int):Prop:=(((↑a.length:Int) != (↑b.length:Int))=false/\At (abC) (abC) (leA) (leA) (leS a b) (leS a b))
def agx (a b:List Int):AV:=(AV.bool true (bif !tQ a b ((↑a.length:Int) - (1:Int)) then false else Gh a b ((↑a.length:Int) - (1:Int))))
def agy (a b:List Int):Hp:=⟨[{ wr:=(0:Nat),body:=ABody.rows i64 b },{ wr:=(0:Nat),body:=ABody.rows i64 a }],2,15⟩
theorem api (a b:List Int):(run (alU a b) 300).call 82 (Jn a b) (leH a b)=some ⟨.p (abJ a b),[⟨.tt,agx a b,agy a b⟩]⟩:=by kernel_rfl
def abK (a b:List Int):Prop:=(((↑a.length:Int) != (↑b.length:Int))=true)
def agz (a b:List Int):AV:=(AV.bool true (decide ((↑a.length:Int)<(↑b.length:Int))))
def agA (a b:List Int):Hp:=⟨[{ wr:=(0:Nat),body:=ABody.rows i64 b },{ wr:=(0:Nat),body:=ABody.rows i64 a }],2,14⟩
theorem apj (a b:List Int):(run (cLe true) 300).call 82 (Jn a b) (leH a b)=some ⟨.p (abK a b),[⟨.tt,agz a b,agA a b⟩]⟩:=by kernel_rfl
def abM (p q:Bool) (a b:List Int):Prop:=((((!p==q)=true->true=false)/\((!p==q)=false->((↑a.length:Int) != (↑b.length:Int))=false))/\At (abD) (abD) (saA) (saA) (saS p q a b) (saS p q a b))
def agB (p q:Bool) (a b:List Int):AV:=(AV.bool true (bif !yA a b (0:Int) then true else false))
def agC (p q:Bool) (a b:List Int):Hp:=⟨[{ wr:=(0:Nat),body:=ABody.rows i64 b },{ wr:=(0:Nat),body:=ABody.rows i64 a }],2,23⟩
theorem apk (p q:Bool) (a b:List Int):(run (alV p q a b) 300).call 54 (Fa p q a b) (leH a b)=some ⟨.p (abM p q a b),[⟨.tt,agB p q a b,agC p q a b⟩]⟩:=by kernel_rfl
def abN (p q:Bool) (a b:List Int):Prop:=(((!p==q)=true->true=true)/\((!p==q)=false->((↑a.length:Int) != (↑b.length:Int))=true))
def agD (p q:Bool) (a b:List Int):AV:=(AV.bool false false)
def agE (p q:Bool) (a b:List Int):Hp:=⟨[{ wr:=(0:Nat),body:=ABody.rows i64 b },{ wr:=(0:Nat),body:=ABody.rows i64 a }],2,20⟩
theorem apl (p q:Bool) (a b:List Int):(run (cSa true) 300).call 54 (Fa p q a b) (leH a b)=some ⟨.p (abN p q a b),[⟨.tt,agD p q a b,agE p q a b⟩]⟩:=by kernel_rfl
def agF (p:Bool) (a:List Int):Prop:=(((↑a.length:Int)==0)=false/\At (abE) (abE) (riA) (riA) (riS p a) (riS p a)/\(decide ((↑a.length:Int)<=600)=true->((0:Int)<=i64.wrap ((↑a.length:Int) - (1:Int))/\i64.wrap ((↑a.length:Int) - (1:Int))<(↑a.length:Int))/\(i64.wrap ((↑a.length:Int) - (1:Int))).toNat<a.length/\(a.getD (i64.wrap ((↑a.length:Int) - (1:Int))).toNat (0:Int) != (0:Int))=true)/\(decide ((↑a.length:Int)<=600)=false->false=true))
def alX (p:Bool) (a:List Int):AV:=(AV.bool false true)
def alY (p:Bool) (a:List Int):Hp:=⟨[{ wr:=(0:Nat),body:=ABody.rows i64 a }],1,27⟩
theorem asr (p:Bool) (a:List Int):(run (alW p a) 300).call 83 (Bw p a) (riH a)=some ⟨.p (agF p a),[⟨.tt,alX p a,alY p a⟩]⟩:=by kernel_rfl
def agG (p:Bool) (a:List Int):Prop:=(((↑a.length:Int)==0)=true/\(!p)=true)
def alZ (p:Bool) (a:List Int):AV:=(AV.bool false true)
def al0 (p:Bool) (a:List Int):Hp:=⟨[{ wr:=(0:Nat),body:=ABody.rows i64 a }],1,12⟩
theorem ass (p:Bool) (a:List Int):(run (cRi true) 300).call 83 (Bw p a) (riH a)=some ⟨.p (agG p a),[⟨.tt,alZ p a,al0 p a⟩]⟩:=by kernel_rfl
def leV:List Nu->List (List Int)->Option (Prop×To)
 | [],[a,b]=>some (Sm a/\Sm b,.bo (ja a b))
 | _,_=>none
theorem agH:NOk Tryz.prog (fun _=>none) hG0 82 (bQ hG0 .i64 [.li,.li] leV):=by
 refine Bi (show hG0.ok from rfl) rfl (fun _ _ h=>by cases h) (fun xs ys p t e h=>?_) ⟨_,Tryz.func82,rfl⟩;unfold leV at e;split at e
 .rename_i a b;cases e;obtain ⟨ha,hb⟩:=h;by_cases c:a.length=b.length
  .refine ⟨alU a b,300,Jn a b,_,_,_,_,_,agu a b ha c,rfl,rfl,⟨rfl,rfl,trivial⟩,api a b,rfl,⟨?_,rfl,rfl,rfl⟩,rfl,rfl,?_⟩
   .rw [c];exact KU.2 rfl
   .show (bif !tQ a b ((a.length:Int) - 1) then false else Gh a b ((a.length:Int) - 1))=ja a b;unfold ja tQ Gh;rw [aC c,show ((a.length:Int) - 1+1).toNat=a.length by omega]
    cases e:MO a b a.length with
    | true=>rfl
    | false=>rw [ZX _ e];rfl
  .refine ⟨cLe true,300,Jn a b,_,_,_,_,_,Nf true,rfl,rfl,⟨rfl,rfl,trivial⟩,apj a b,rfl,?_,rfl,rfl,?_⟩
   .exact vH.2 (by omega)
   .show decide ((a.length:Int)<b.length)=ja a b;unfold ja;rw [aB c];simp
 .cases e
def saV:List Nu->List (List Int)->Option (Prop×To)
 | [.t p,.t q],[a,b]=>some (Sm a/\Sm b,.bo (decide (p=q/\a=b)))
 | _,_=>none
theorem U7:NOk Tryz.prog (fun _=>none) hG0 54 (bQ hG0 .i64 [.st [.nu .b,.li],.st [.nu .b,.li]] saV):=by
 refine Bi (show hG0.ok from rfl) rfl (fun _ _ h=>by cases h) (fun xs ys p t e h=>?_) ⟨_,Tryz.func54,rfl⟩;unfold saV at e;split at e
 .rename_i p q a b;cases e;obtain ⟨ha,hb⟩:=h;by_cases c:p=q/\a.length=b.length
  .obtain ⟨rfl,c⟩:=c;refine ⟨alV p p a b,300,Fa p p a b,_,_,_,_,_,agv p p a b ha c,rfl,rfl,⟨⟨rfl,rfl,trivial⟩,⟨rfl,rfl,trivial⟩,trivial⟩,apk p p a b,rfl,⟨⟨fun h=>?_,fun _=>?_⟩,rfl,rfl,rfl⟩,rfl,rfl,?_⟩
   .simp at h
   .rw [c];exact KU.2 rfl
   .show (bif !yA a b 0 then true else false)=decide (p=p/\a=b);have:=ae0 (a:=a) (b:=b) c
    cases e:yA a b 0 with
    | true=>
     rw [e] at this;have d:a≠b:=fun h=>by have:=this.2 h;cases this
     simp [d]
    | false=>simp [this.1 e]
  .refine ⟨cSa true,300,Fa p q a b,_,_,_,_,_,Ng true,rfl,rfl,⟨⟨rfl,rfl,trivial⟩,⟨rfl,rfl,trivial⟩,trivial⟩,apl p q a b,rfl,⟨fun _=>rfl,fun h=>?_⟩,rfl,rfl,?_⟩
   .have h:p=q:=by simpa using h
    exact vH.2 (fun e=>c ⟨h,by omega⟩)
   .show false=decide (p=q/\a=b);symm;rw [kK]
    rintro ⟨h1,rfl⟩
    exact c ⟨h1,rfl⟩
 .cases e
def riV:List Nu->List (List Int)->Option (Prop×To)
 | [.t p],[a]=>some (okL p a/\a.length<=600,.pb true)
 | _,_=>none
theorem QH:NOk Tryz.prog (fun _=>none) hG0 83 (bQ hG0 .i64 [.st [.nu .b,.li]] riV):=by
 refine Bi (show hG0.ok from rfl) rfl (fun _ _ h=>by cases h) (fun xs ys p t e h=>?_) ⟨_,Tryz.func83,rfl⟩;unfold riV at e;split at e
 .rename_i p a;cases e;obtain ⟨⟨hd,f,hn,g⟩,i⟩:=h;by_cases c:a=[]
  .subst c;refine ⟨cRi true,300,Bw p [],_,_,_,_,_,Nh true,rfl,rfl,⟨⟨rfl,rfl,trivial⟩,trivial⟩,ass p [],rfl,⟨eb.2 rfl,?_⟩,rfl,rfl,rfl⟩
   cases p with
   | true=>exact absurd rfl (hn rfl)
   | false=>rfl
  .have d:0<a.length:=eU.2 c;refine ⟨alW p a,300,Bw p a,_,_,_,_,_,agw p a g hd,rfl,rfl,⟨⟨rfl,rfl,trivial⟩,trivial⟩,asr p a,rfl,⟨neb.2 (by omega),⟨rfl,rfl,rfl⟩,fun _=>?_,fun h=>?_⟩,rfl,rfl,rfl⟩
   .rw [iw (by omega) (by omega)];refine ⟨by omega,by omega,vH.2 ?_⟩;rw [show ((a.length:Int) - 1).toNat=a.length - 1 by omega];rcases f with h|h
    .exact absurd h c
    .exact h
   .have:=dJ h;omega
 .cases e
def tL1:List (FuncId×ku):=[(80,bQ hG0 .i64 [.nu .b,.li] mdV),(82,bQ hG0 .i64 [.li,.li] leV),(54,bQ hG0 .i64 [.st [.nu .b,.li],.st [.nu .b,.li]] saV),(83,bQ hG0 .i64 [.st [.nu .b,.li]] riV)]
def cL1:Ctx:=mkN Tryz.prog (fun _=>none) hG0 tL1 [] lw
theorem abO:∀ x∈tL1,NOk Tryz.prog (fun _=>none) hG0 x.1 x.2:=by
 intro x a;simp only [tL1,aN,eX,eY] at a;rcases a with rfl|rfl|rfl|rfl
 .exact aeZ
 .exact agH
 .exact U7
 .exact QH
theorem Bz:CtxOk cL1:=mf prog_ok (iY _) abO (fun x h=>by cases h)
def Jo (n:Int):List AV:=[.int true .i64 n]
noncomputable def ofS (n:Int):St:=qM cL1 300 49 (Jo n) hG0
def WT:AFr:=⟨49,none⟩
def ofA:Code:=fP Tryz.prog 49 0
def ofP (n:Int):Option (Int×List Int)->Patch
 | none=>⟨(0,.int true .i64 n) :: (5,.any false) :: bS 8 14,[],[]⟩
 | some (m,a)=>⟨(0,.int true .i64 m) :: (3,.islice true 1 0 a.length) :: (5,.any false) :: bS 8 14,[],[.ints .i64 a]⟩
def ofX (ds:List Int):Patch:=⟨(0,.any false) :: (3,.islice true 1 0 ds.length) :: (5,.any false) :: bS 8 14,[],[.ints .i64 ds]⟩
def ofU (n:Int):SumL (Option (Int×List Int)):=
 {
  S:=ofP n
  I:=fun y=>match y with
   | none=>n≠0
   | some (m,a)=>ofI n m a
  μ:=fun y=>match y with
   | none=>n.natAbs+1
   | some (m,_)=>m.natAbs
  F:=fun _=>(.exit 0,ofX (aA n.natAbs))
  next:=fun y=>match y with
   | none=>some (i64.wrap (n.tdiv 1000000000),[ofD n])
   | some (m,a)=>some (i64.wrap (m.tdiv 1000000000),a++[ofD m])
  ids:=fun y=>match y with
   | none=>[2]
   | some _=>[3]
  X:=fun y _=>match y with
   | none=>some (⟨(0,.any false) :: (5,.any false) :: bS 8 14,[],[]⟩,[])
   | some (_,a)=>some (ofX a,[1]) }
def j4 (p q:Bool) (a b:List Int):List AV:=Fa p q a b
def cSu:Ctx:=eZ cL1 (mi [(12,.bool false false),(17,.bool false false),(23,.bool false false)])
theorem SH:CtxOk cSu:=bW Bz _
noncomputable def suS (p q:Bool) (a b:List Int):St:=qM cSu 300 46 (j4 p q a b) (leH a b)
def WU:AFr:=⟨46,none⟩
def suA:Code:=fP Tryz.prog 46 0
def suP:Option (Int×Int×List Int)->Patch
 | none=>⟨(8,.any false) :: bS 28 36,[],[]⟩
 | some (i,c,a)=>⟨(5,.islice true 5 0 a.length) :: (6,.int true .i64 c) :: (7,.int true .i64 i) :: (8,.any false) :: bS 28 36,[],[.ints .i64 a]⟩
def suX (ds:List Int):Patch:=⟨(5,.islice true 5 0 ds.length) :: (6,.any false) :: (7,.any false) :: (8,.any false) :: bS 28 36,[],[.ints .i64 ds]⟩
def suN (a b:List Int):Nat:=max a.length b.length+1
def suU (a b:List Int):SumL (Option (Int×Int×List Int)):=
 {
  S:=suP
  I:=fun y=>match y with
   | none=>0<a.length
   | some (i,c,d)=>i=d.length/\1<=i/\i<=suN a b/\0<=c/\c<=1/\(i=suN a b->c=0)
  μ:=fun y=>match y with
   | none=>suN a b+1
   | some (i,_,_)=>(suN a b - i).toNat
  F:=fun y=>(.exit 0,suX (match y with
   | none=>ll a b (suN a b) 0 0 []
   | some (i,c,d)=>ll a b (suN a b - i).toNat i.toNat c d))
  next:=fun y=>match y with
   | none=>some (i64.wrap (0+1),i64.wrap ((suD a b 0 0).tdiv 1000000000),[(suD a b 0 0).tmod 1000000000])
   | some (i,c,d)=>some (i64.wrap (i+1),i64.wrap ((suD a b i c).tdiv 1000000000),d++[(suD a b i c).tmod 1000000000])
  ids:=fun y=>match y with
   | none=>[6]
   | some _=>[7]
  X:=fun y _=>match y with
   | none=>some (⟨(5,.any false) :: (6,.any false) :: (7,.any false) :: (8,.any false) :: bS 28 36,[],[]⟩,[])
   | some (_,_,d)=>some (suX d,[5]) }
def cDi:Ctx:=eZ cL1 (mi [(12,.bool false false),(18,.bool false false),(24,.bool false false),(33,.bool false false)])
theorem SI:CtxOk cDi:=bW Bz _
noncomputable def diS (p q:Bool) (a b:List Int):St:=qM cDi 300 53 (j4 p q a b) (leH a b)
def WV:AFr:=⟨53,none⟩
def diA:Code:=fP Tryz.prog 53 0
def diP:Option (Int×Int×List Int)->Patch
 | none=>⟨(8,.any false) :: bS 38 27,[],[]⟩
 | some (i,c,a)=>⟨(5,.islice true 5 0 a.length) :: (6,.int true .i64 c) :: (7,.int true .i64 i) :: (8,.any false) :: bS 38 27,[],[.ints .i64 a]⟩
def diX (ds:List Int):Patch:=⟨(5,.islice true 5 0 ds.length) :: (6,.any false) :: (7,.any false) :: (8,.any false) :: bS 38 27,[],[.ints .i64 ds]⟩
def diU (a b:List Int):SumL (Option (Int×Int×List Int)):=
 {
  S:=diP
  I:=fun y=>match y with
   | none=>0<a.length
   | some (i,c,d)=>i=d.length/\1<=i/\i<=a.length/\0<=c/\c<=1
  μ:=fun y=>match y with
   | none=>a.length+1
   | some (i,_,_)=>(a.length - i).toNat
  F:=fun y=>(.exit 0,diX (match y with
   | none=>lF a b a.length 0 0 []
   | some (i,c,d)=>lF a b (a.length - i).toNat i.toNat c d))
  next:=fun y=>match y with
   | none=>some (i64.wrap (0+1),diC a b 0 0,[diR a b 0 0])
   | some (i,c,d)=>some (i64.wrap (i+1),diC a b i c,d++[diR a b i c])
  ids:=fun y=>match y with
   | none=>[6]
   | some _=>[7]
  X:=fun y _=>match y with
   | none=>some (⟨(5,.any false) :: (6,.any false) :: (7,.any false) :: (8,.any false) :: bS 38 27,[],[]⟩,[])
   | some (_,_,d)=>some (diX d,[5]) }
def QI (n:Int):Prop:=n=n
theorem abP (n:Int):fit (ofS n) (ofS n) (aJ (ofS n) ((ofU n).S none)) ([])=some (.p (QI n)):=by kernel_rfl
def abQ (n:Int):Prop:=((!n != (0:Int))=true->(ofU n).F none=(Ex.exit (0:Nat),{ tm:=((0:Nat),AV.any false) :: ((5:Nat),AV.any false) :: bS (8:Nat) (14:Nat),old:=[],new:=[] }))/\((n != (0:Int))=true->((i64.wrap (n.tdiv (1000000000:Int))=i64.wrap (n.tdiv (1000000000:Int))/\(0:Nat)<1/\(↑(0:Nat):Int)=0/\(↑1:Int)=(↑[ofD n].length:Int))/\[bif decide (n.tmod (1000000000:Int)<0) then i64.wrap ((0:Int) - n.tmod (1000000000:Int)) else n.tmod (1000000000:Int)]=[ofD n])/\(ofU n).I ((ofU n).next none)/\(ofU n).μ ((ofU n).next none)<(ofU n).μ none/\(ofU n).F ((ofU n).next none)=(ofU n).F none)
theorem apm (n:Int):dQ (ofS n) ((ofU n).way (none)) ((run cL1 300).code WT ofA (aJ (ofS n) ((ofU n).S none)))=some (.p (abQ n)):=by kernel_rfl
def abR (n m:Int) (ds:List Int):Prop:=((m != (0:Int))=true->(0:Int)=0/\(0:Int)<(↑ds.length:Int)/\(↑ds.length:Int)=(↑ds.length:Int)/\(↑ds.length:Int)+(↑(1:Nat):Int)<=1048576)/\((!m != (0:Int))=true->(((0:Int)=0/\(↑ds.length:Int)=(↑ds.length:Int))/\ds=ds)/\(ofU n).F (some (m,ds))=(Ex.exit (0:Nat),ofX ds))/\((m != (0:Int))=true->((i64.wrap (m.tdiv (1000000000:Int))=i64.wrap (m.tdiv (1000000000:Int))/\(0:Int)=0/\(↑ds.length:Int)+(↑(1:Nat):Int)=(↑(ds++[ofD m]).length:Int))/\ds++[bif decide (m.tmod (1000000000:Int)<0) then i64.wrap ((0:Int) - m.tmod (1000000000:Int)) else m.tmod (1000000000:Int)]=ds++[ofD m])/\(ofU n).I ((ofU n).next (some (m,ds)))/\(ofU n).μ ((ofU n).next (some (m,ds)))<(ofU n).μ (some (m,ds))/\(ofU n).F ((ofU n).next (some (m,ds)))=(ofU n).F (some (m,ds)))
theorem apn (n m:Int) (ds:List Int):dQ (ofS n) ((ofU n).way (some (m,ds))) ((run cL1 300).code WT ofA (aJ (ofS n) ((ofU n).S (some (m,ds)))))=some (.p (abR n m ds)):=by kernel_rfl
theorem abS (p q:Bool) (a b:List Int):fit (suS p q a b) (suS p q a b) (aJ (suS p q a b) ((suU a b).S none)) ([])=some .tt:=by kernel_rfl
def abT (p q:Bool) (a b:List Int):Prop:=((bif decide ((0:Int)<(↑a.length:Int)) then true else bif decide ((0:Int)<(↑b.length:Int)) then true else false)=true->(decide ((0:Int)<(↑a.length:Int))=true->((0:Int)<=0/\(0:Int)<(↑a.length:Int))/\Int.toNat (0:Int)<a.length)/\(↑b.length:Int)=(↑b.length:Int)/\(decide ((0:Int)<(↑b.length:Int))=true->((0:Int)<=0/\(0:Int)<(↑b.length:Int))/\Int.toNat (0:Int)<b.length))/\((!bif decide ((0:Int)<(↑a.length:Int)) then true else bif decide ((0:Int)<(↑b.length:Int)) then true else false)=true->(suU a b).F none=(Ex.exit (0:Nat),{ tm:=((5:Nat),AV.any false) :: ((6:Nat),AV.any false) :: ((7:Nat),AV.any false) :: ((8:Nat),AV.any false) :: bS (28:Nat) (36:Nat),old:=[],new:=[] }))/\((bif decide ((0:Int)<(↑a.length:Int)) then true else bif decide ((0:Int)<(↑b.length:Int)) then true else false)=true->((((0:Nat)<1/\(↑(0:Nat):Int)=0/\(↑1:Int)=(↑[(suD a b (0:Int) (0:Int)).tmod (1000000000:Int)].length:Int))/\i64.wrap ((i64.wrap (i64.wrap ((bif decide ((0:Int)<(↑a.length:Int)) then a.getD (Int.toNat (0:Int)) (0:Int) else (0:Int))+bif decide ((0:Int)<(↑b.length:Int)) then b.getD (Int.toNat (0:Int)) (0:Int) else (0:Int))+0)).tdiv (1000000000:Int))=i64.wrap ((suD a b (0:Int) (0:Int)).tdiv (1000000000:Int))/\Int.ofNat 1=i64.wrap ((0:Int)+1))/\[(i64.wrap (i64.wrap ((bif decide ((0:Int)<(↑a.length:Int)) then a.getD (Int.toNat (0:Int)) (0:Int) else (0:Int))+bif decide ((0:Int)<(↑b.length:Int)) then b.getD (Int.toNat (0:Int)) (0:Int) else (0:Int))+0)).tmod (1000000000:Int)]=[(suD a b (0:Int) (0:Int)).tmod (1000000000:Int)])/\(suU a b).I ((suU a b).next none)/\(suU a b).μ ((suU a b).next none)<(suU a b).μ none/\(suU a b).F ((suU a b).next none)=(suU a b).F none)
theorem apo (p q:Bool) (a b:List Int):dQ (suS p q a b) ((suU a b).way (none)) ((run cSu 300).code WU suA (aJ (suS p q a b) ((suU a b).S none)))=some (.p (abT p q a b)):=by kernel_rfl
def abU (p q:Bool) (a b:List Int) (i c:Int) (ds:List Int):Prop:=((bif decide (i<(↑a.length:Int)) then true else bif decide (i<(↑b.length:Int)) then true else decide (c>0))=true->((decide (i<(↑a.length:Int))=true->((0:Int)<=i/\i<(↑a.length:Int))/\i.toNat<a.length)/\(↑b.length:Int)=(↑b.length:Int)/\(decide (i<(↑b.length:Int))=true->((0:Int)<=i/\i<(↑b.length:Int))/\i.toNat<b.length))/\(0:Int)=0/\(0:Int)<(↑ds.length:Int)/\(↑ds.length:Int)=(↑ds.length:Int)/\(↑ds.length:Int)+(↑(1:Nat):Int)<=1048576)/\((!bif decide (i<(↑a.length:Int)) then true else bif decide (i<(↑b.length:Int)) then true else decide (c>0))=true->(((0:Int)=0/\(↑ds.length:Int)=(↑ds.length:Int))/\ds=ds)/\(suU a b).F (some (i,c,ds))=(Ex.exit (0:Nat),suX ds))/\((bif decide (i<(↑a.length:Int)) then true else bif decide (i<(↑b.length:Int)) then true else decide (c>0))=true->((((0:Int)=0/\(↑ds.length:Int)+(↑(1:Nat):Int)=(↑(ds++[(suD a b i c).tmod (1000000000:Int)]).length:Int))/\i64.wrap ((i64.wrap (i64.wrap ((bif decide (i<(↑a.length:Int)) then a.getD i.toNat (0:Int) else (0:Int))+bif decide (i<(↑b.length:Int)) then b.getD i.toNat (0:Int) else (0:Int))+c)).tdiv (1000000000:Int))=i64.wrap ((suD a b i c).tdiv (1000000000:Int))/\i64.wrap (i+1)=i64.wrap (i+1))/\ds++[(i64.wrap (i64.wrap ((bif decide (i<(↑a.length:Int)) then a.getD i.toNat (0:Int) else (0:Int))+bif decide (i<(↑b.length:Int)) then b.getD i.toNat (0:Int) else (0:Int))+c)).tmod (1000000000:Int)]=ds++[(suD a b i c).tmod (1000000000:Int)])/\(suU a b).I ((suU a b).next (some (i,c,ds)))/\(suU a b).μ ((suU a b).next (some (i,c,ds)))<(suU a b).μ (some (i,c,ds))/\(suU a b).F ((suU a b).next (some (i,c,ds)))=(suU a b).F (some (i,c,ds)))
theorem apq (p q:Bool) (a b:List Int) (i c:Int) (ds:List Int):dQ (suS p q a b) ((suU a b).way (some (i,c,ds))) ((run cSu 300).code WU suA (aJ (suS p q a b) ((suU a b).S (some (i,c,ds)))))=some (.p (abU p q a b i c ds)):=by kernel_rfl
theorem abV (p q:Bool) (a b:List Int):fit (diS p q a b) (diS p q a b) (aJ (diS p q a b) ((diU a b).S none)) ([])=some .tt:=by kernel_rfl
def abW (p q:Bool) (a b:List Int):Prop:=(decide ((0:Int)<(↑a.length:Int))=true->((0:Int)<=0/\(0:Int)<(↑a.length:Int))/\Int.toNat (0:Int)<a.length/\(decide ((0:Int)<(↑b.length:Int))=true->((0:Int)<=0/\(0:Int)<(↑b.length:Int))/\Int.toNat (0:Int)<b.length)/\(Int.toNat (0:Int)<a.length/\a.getD (Int.toNat (0:Int)) (0:Int)=a.getD (Int.toNat (0:Int)) (0:Int))/\(↑a.length:Int)=(↑a.length:Int))/\((!decide ((0:Int)<(↑a.length:Int)))=true->(diU a b).F none=(Ex.exit (0:Nat),{ tm:=((5:Nat),AV.any false) :: ((6:Nat),AV.any false) :: ((7:Nat),AV.any false) :: ((8:Nat),AV.any false) :: bS (38:Nat) (27:Nat),old:=[],new:=[] }))/\(decide ((0:Int)<(↑a.length:Int))=true->((((0:Nat)<1/\(↑(0:Nat):Int)=0/\(↑1:Int)=(↑[diR a b (0:Int) (0:Int)].length:Int))/\(bif decide (i64.wrap (i64.wrap (a.getD (Int.toNat (0:Int)) (0:Int) - bif decide ((0:Int)<(↑b.length:Int)) then b.getD (Int.toNat (0:Int)) (0:Int) else (0:Int)) - (0:Int))<0) then (1:Int) else (0:Int))=diC a b (0:Int) (0:Int)/\Int.ofNat 1=i64.wrap ((0:Int)+1))/\[bif decide (i64.wrap (i64.wrap (a.getD (Int.toNat (0:Int)) (0:Int) - bif decide ((0:Int)<(↑b.length:Int)) then b.getD (Int.toNat (0:Int)) (0:Int) else (0:Int)) - (0:Int))<0) then i64.wrap (i64.wrap (i64.wrap (a.getD (Int.toNat (0:Int)) (0:Int) - bif decide ((0:Int)<(↑b.length:Int)) then b.getD (Int.toNat (0:Int)) (0:Int) else (0:Int)) - (0:Int))+1000000000) else i64.wrap (i64.wrap (a.getD (Int.toNat (0:Int)) (0:Int) - bif decide ((0:Int)<(↑b.length:Int)) then b.getD (Int.toNat (0:Int)) (0:Int) else (0:Int)) - (0:Int))]=[diR a b (0:Int) (0:Int)])/\(diU a b).I ((diU a b).next none)/\(diU a b).μ ((diU a b).next none)<(diU a b).μ none/\(diU a b).F ((diU a b).next none)=(diU a b).F none)
theorem apr (p q:Bool) (a b:List Int):dQ (diS p q a b) ((diU a b).way (none)) ((run cDi 300).code WV diA (aJ (diS p q a b) ((diU a b).S none)))=some (.p (abW p q a b)):=by kernel_rfl
def abX (p q:Bool) (a b:List Int) (i c:Int) (ds:List Int):Prop:=(decide (i<(↑a.length:Int))=true->(((0:Int)<=i/\i<(↑a.length:Int))/\i.toNat<a.length/\(decide (i<(↑b.length:Int))=true->((0:Int)<=i/\i<(↑b.length:Int))/\i.toNat<b.length)/\(i.toNat<a.length/\a.getD i.toNat (0:Int)=a.getD i.toNat (0:Int))/\(↑a.length:Int)=(↑a.length:Int))/\(0:Int)=0/\(0:Int)<(↑ds.length:Int)/\(↑ds.length:Int)=(↑ds.length:Int)/\(↑ds.length:Int)+(↑(1:Nat):Int)<=1048576)/\((!decide (i<(↑a.length:Int)))=true->(((0:Int)=0/\(↑ds.length:Int)=(↑ds.length:Int))/\ds=ds)/\(diU a b).F (some (i,c,ds))=(Ex.exit (0:Nat),diX ds))/\(decide (i<(↑a.length:Int))=true->((((0:Int)=0/\(↑ds.length:Int)+(↑(1:Nat):Int)=(↑(ds++[diR a b i c]).length:Int))/\(bif decide (i64.wrap (i64.wrap (a.getD i.toNat (0:Int) - bif decide (i<(↑b.length:Int)) then b.getD i.toNat (0:Int) else (0:Int)) - c)<0) then (1:Int) else (0:Int))=diC a b i c/\i64.wrap (i+1)=i64.wrap (i+1))/\ds++[bif decide (i64.wrap (i64.wrap (a.getD i.toNat (0:Int) - bif decide (i<(↑b.length:Int)) then b.getD i.toNat (0:Int) else (0:Int)) - c)<0) then i64.wrap (i64.wrap (i64.wrap (a.getD i.toNat (0:Int) - bif decide (i<(↑b.length:Int)) then b.getD i.toNat (0:Int) else (0:Int)) - c)+1000000000) else i64.wrap (i64.wrap (a.getD i.toNat (0:Int) - bif decide (i<(↑b.length:Int)) then b.getD i.toNat (0:Int) else (0:Int)) - c)]=ds++[diR a b i c])/\(diU a b).I ((diU a b).next (some (i,c,ds)))/\(diU a b).μ ((diU a b).next (some (i,c,ds)))<(diU a b).μ (some (i,c,ds))/\(diU a b).F ((diU a b).next (some (i,c,ds)))=(diU a b).F (some (i,c,ds)))
theorem aps (p q:Bool) (a b:List Int) (i c:Int) (ds:List Int):dQ (diS p q a b) ((diU a b).way (some (i,c,ds))) ((run cDi 300).code WV diA (aJ (diS p q a b) ((diU a b).S (some (i,c,ds)))))=some (.p (abX p q a b i c ds)):=by kernel_rfl
theorem agI (n:Int) (b:n≠0) (hb:n.natAbs<=9223372036854775808):CodeOk cL1 WT (.loop ofA) (ofS n) ⟨.tt,[⟨.tt,.exit 0,aJ (ofS n) (ofX (aA n.natAbs))⟩]⟩:=by
 refine jX (dw Bz 300) (ofU n) (y0:=none) b ⟨_,abP n,rfl⟩ (by kernel_rfl) (fun y d=>?_) rfl
 cases y with
 | none=>
  refine ⟨_,apm n,fun h=>absurd (ZY.1 h) b,fun h=>⟨⟨⟨rfl,by decide,rfl,rfl⟩,rfl⟩,?_,?_,rfl⟩⟩
  .show ofI n (i64.wrap (n.tdiv 1000000000)) [ofD n];rw [(P5 n hb).1];exact Z0 b hb
  .show (i64.wrap (n.tdiv 1000000000)).natAbs<n.natAbs+1;rw [(P5 n hb).1,(P5 n hb).2];omega
 | some y=>
  obtain ⟨m,c⟩:=y;have a:ofI n m c:=d;refine ⟨_,apn n m c,fun h=>?_,fun h=>?_,fun h=>⟨⟨⟨rfl,rfl,?_⟩,rfl⟩,?_,?_,rfl⟩⟩
  .have:=ajF (vH.1 h) a hb;have:=eU.2 a.1;exact ⟨rfl,by omega,rfl,by omega⟩
  .have h:=ZY.1 h;subst h;refine ⟨⟨⟨rfl,rfl⟩,rfl⟩,?_⟩;show (Ex.exit 0,ofX (aA n.natAbs))=_;rw [ajE a]
  .rw [jM];rfl
  .show ofI n (i64.wrap (m.tdiv 1000000000)) (c++[ofD m]);rw [(P5 m a.2.2.2.2).1];exact ae2 (vH.1 h) a
  .show (i64.wrap (m.tdiv 1000000000)).natAbs<m.natAbs;have:=vH.1 h;rw [(P5 m a.2.2.2.2).1,(P5 m a.2.2.2.2).2];omega
theorem agJ (p q:Bool) (a b:List Int) (ha:Dig a) (hb:Dig b) (sa:Sm a) (sb:Sm b) (l:0<a.length):CodeOk cSu WU (.loop suA) (suS p q a b) ⟨.tt,[⟨.tt,.exit 0,aJ (suS p q a b) (suX (ll a b (suN a b) 0 0 []))⟩]⟩:=by
 have sa:=sa.le;have sb:=sb.le;have hN:suN a b=max a.length b.length+1:=rfl;refine jX (dw SH 300) (suU a b) (y0:=none) l ⟨_,abS p q a b,trivial⟩ (by kernel_rfl) (fun y v=>?_) rfl
 cases y with
 | none=>
  refine ⟨_,apo p q a b,fun h=>⟨fun h=>?_,rfl,fun h=>?_⟩,fun h=>?_,fun h=>⟨⟨⟨⟨by decide,rfl,rfl⟩,rfl,rfl⟩,rfl⟩,?_,?_,?_⟩⟩
  .exact ⟨⟨by omega,dt.1 h⟩,l⟩
  .have h:=dt.1 h;exact ⟨⟨by omega,h⟩,by show 0<b.length;omega⟩
  .exact absurd (by omega) (nbo.1 h).1
  .have e:=R3 ha hb (i:=0) (c:=0) (by omega) (by omega);obtain ⟨r,s,g,j,t⟩:=CE ha hb (c:=0) (by omega) (0:Int).toNat;show i64.wrap (0+1)=((1:Nat):Int)/\1<=i64.wrap (0+1)/\i64.wrap (0+1)<=suN a b/\0<=i64.wrap ((suD a b 0 0).tdiv 1000000000)/\i64.wrap ((suD a b 0 0).tdiv 1000000000)<=1/\(i64.wrap (0+1)=suN a b->_=0);rw [e,show i64.wrap (0+1)=1 by decide,iw (by omega) (by omega)];exact ⟨rfl,by omega,by omega,g,j,fun h=>by omega⟩
  .show (suN a b - i64.wrap (0+1)).toNat<suN a b+1;rw [show i64.wrap (0+1)=1 by decide];omega
  .have e:=R3 ha hb (i:=0) (c:=0) (by omega) (by omega);obtain ⟨r,s,g,j,t⟩:=CE ha hb (c:=0) (by omega) (0:Int).toNat;show (Ex.exit 0,suX (ll a b (suN a b - i64.wrap (0+1)).toNat (i64.wrap (0+1)).toNat (i64.wrap ((suD a b 0 0).tdiv 1000000000)) [(suD a b 0 0).tmod 1000000000]))=(Ex.exit 0,suX (ll a b (suN a b) 0 0 []));rw [e,show i64.wrap (0+1)=1 by decide,iw (by omega) (by omega),hN,show (((max a.length b.length+1:Nat):Int) - 1).toNat=max a.length b.length by omega];rw [show ll a b (max a.length b.length+1) 0 0 []=ll a b (max a.length b.length) (0+1) ((a.getD 0 0+b.getD 0 0+0).tdiv 1000000000) ([]++[(a.getD 0 0+b.getD 0 0+0).tmod 1000000000]) from by rw [ll,aC (.inl l)]];rfl
 | some y=>
  obtain ⟨i,c,f⟩:=y;obtain ⟨i1,z,A,m,u,n⟩:=(show i=f.length/\1<=i/\i<=suN a b/\0<=c/\c<=1/\(i=suN a b->c=0) from v);have e:=R3 ha hb (i:=i) (c:=c) (by omega) ⟨m,u⟩;obtain ⟨r,s,g,j,t⟩:=CE ha hb ⟨m,u⟩ i.toNat;have o:i64.wrap (i+1)=i+1:=iw (by omega) (by omega);refine ⟨_,apq p q a b i c f,fun h=>⟨⟨fun h=>?_,rfl,fun h=>?_⟩,rfl,by omega,rfl,by omega⟩,fun h=>⟨⟨⟨rfl,rfl⟩,rfl⟩,?_⟩,fun h=>⟨⟨⟨⟨rfl,?_⟩,rfl,rfl⟩,rfl⟩,?_,?_,?_⟩⟩
  .have h:=dt.1 h;exact ⟨⟨by omega,h⟩,by omega⟩
  .have h:=dt.1 h;exact ⟨⟨by omega,h⟩,by omega⟩
  .obtain ⟨h1,h⟩:=nbo.1 h;have h2:¬(i<b.length)/\decide (c>0)=false:=by
    cases h3:decide (i<(b.length:Int)) with
    | true=>rw [h3] at h;cases h
    | false=>rw [h3] at h;exact ⟨dJ h3,h⟩
   obtain ⟨h2,h3⟩:=h2;have h3:=dJ h3;show (Ex.exit 0,suX (ll a b (suN a b - i).toNat i.toNat c f))=_
   cases D:(suN a b - i).toNat with
   | zero=>rfl
   | succ k=>rw [ll,aB (by omega)]
  .rw [jM];rfl
  .have d:i<suN a b:=by
    rcases bo.1 h with h|h
    .omega
    .rcases bo.1 h with h|h
     .omega
     .have h:=dt.1 h;rcases (show i=suN a b\/i<suN a b by omega) with h1|h1
      .have:=n h1;omega
      .exact h1
   show i64.wrap (i+1)=((f++[(suD a b i c).tmod 1000000000]).length:Int)/\1<=i64.wrap (i+1)/\i64.wrap (i+1)<=suN a b/\0<=i64.wrap ((suD a b i c).tdiv 1000000000)/\i64.wrap ((suD a b i c).tdiv 1000000000)<=1/\(i64.wrap (i+1)=suN a b->i64.wrap ((suD a b i c).tdiv 1000000000)=0);rw [e,o,iw (by omega) (by omega),jM];refine ⟨by rw [i1];rfl,by omega,by omega,g,j,fun h1=>?_⟩;have w:a.getD i.toNat 0=0:=GA (by omega);have x:b.getD i.toNat 0=0:=GA (by omega);rw [w,x,show (0:Int)+0+c=c by omega];rw [bV m];omega
  .have d:i<suN a b:=by
    rcases bo.1 h with h|h
    .omega
    .rcases bo.1 h with h|h
     .omega
     .have h:=dt.1 h;rcases (show i=suN a b\/i<suN a b by omega) with h1|h1
      .have:=n h1;omega
      .exact h1
   show (suN a b - i64.wrap (i+1)).toNat<(suN a b - i).toNat;rw [o];omega
  .have d:i<suN a b/\(i.toNat<a.length\/i.toNat<b.length\/0<c):=by
    rcases bo.1 h with h|h
    .omega
    .rcases bo.1 h with h|h
     .omega
     .have h:=dt.1 h;rcases (show i=suN a b\/i<suN a b by omega) with h1|h1
      .have:=n h1;omega
      .exact ⟨h1,by omega⟩
   show (Ex.exit 0,suX (ll a b (suN a b - i64.wrap (i+1)).toNat (i64.wrap (i+1)).toNat (i64.wrap ((suD a b i c).tdiv 1000000000)) (f++[(suD a b i c).tmod 1000000000])))=(Ex.exit 0,suX (ll a b (suN a b - i).toNat i.toNat c f));rw [e,o,iw (by omega) (by omega),show (suN a b - i).toNat=(suN a b - (i+1)).toNat+1 by omega,show (i+1).toNat=i.toNat+1 by omega,ll,aC d.2]
theorem agK (p q:Bool) (a b:List Int) (ha:Dig a) (hb:Dig b) (sa:Sm a) (f:0<a.length):CodeOk cDi WV (.loop diA) (diS p q a b) ⟨.tt,[⟨.tt,.exit 0,aJ (diS p q a b) (diX (lF a b a.length 0 0 []))⟩]⟩:=by
 have sa:=sa.le;refine jX (dw SI 300) (diU a b) (y0:=none) f ⟨_,abV p q a b,trivial⟩ (by kernel_rfl) (fun y n=>?_) rfl
 cases y with
 | none=>
  have g:0<=diC a b 0 0/\diC a b 0 0<=1:=by unfold diC;cases decide (diD a b 0 0<0) <;> simp
  refine ⟨_,apr p q a b,fun h=>⟨⟨by omega,dt.1 h⟩,f,fun h=>?_,⟨f,rfl⟩,rfl⟩,fun h=>?_,fun h=>⟨⟨⟨⟨by decide,rfl,rfl⟩,rfl,rfl⟩,rfl⟩,?_,?_,?_⟩⟩
  .have h:=dt.1 h;exact ⟨⟨by omega,h⟩,by show 0<b.length;omega⟩
  .exact absurd (by omega) (ndt.1 h)
  .show i64.wrap (0+1)=((1:Nat):Int)/\1<=i64.wrap (0+1)/\i64.wrap (0+1)<=a.length/\0<=diC a b 0 0/\diC a b 0 0<=1;rw [show i64.wrap (0+1)=1 by decide];exact ⟨rfl,by omega,by omega,g⟩
  .show (a.length - i64.wrap (0+1)).toNat<a.length+1;rw [show i64.wrap (0+1)=1 by decide];omega
  .show (Ex.exit 0,diX (lF a b (a.length - i64.wrap (0+1)).toNat (i64.wrap (0+1)).toNat (diC a b 0 0) [diR a b 0 0]))=(Ex.exit 0,diX (lF a b a.length 0 0 []));obtain ⟨k,o⟩:∃ k,a.length=k+1:=⟨a.length - 1,by omega⟩;rw [show i64.wrap (0+1)=1 by decide,show ((a.length:Int) - 1).toNat=k by omega,o,lF,Z6 ha hb (by omega) (by omega),Z7 ha hb (by omega) (by omega)];rfl
 | some y=>
  obtain ⟨i,c,d⟩:=y;obtain ⟨i1,r,s,l,m⟩:=(show i=d.length/\1<=i/\i<=a.length/\0<=c/\c<=1 from n);have g:0<=diC a b i c/\diC a b i c<=1:=by unfold diC;cases decide (diD a b i c<0) <;> simp
  have j:i64.wrap (i+1)=i+1:=iw (by omega) (by omega);refine ⟨_,aps p q a b i c d,fun h=>?_,fun h=>⟨⟨⟨rfl,rfl⟩,rfl⟩,?_⟩,fun h=>⟨⟨⟨⟨rfl,?_⟩,rfl,rfl⟩,rfl⟩,?_,?_,?_⟩⟩
  .have h:=dt.1 h;exact ⟨⟨⟨by omega,h⟩,by omega,fun h=>by have h:=dt.1 h;omega,⟨by omega,rfl⟩,rfl⟩,rfl,by omega,rfl,by omega⟩
  .have h:=ndt.1 h;show (Ex.exit 0,diX (lF a b (a.length - i).toNat i.toNat c d))=_;rw [show (a.length - i).toNat=0 by omega];rfl
  .rw [jM];rfl
  .have h:=dt.1 h;show i64.wrap (i+1)=((d++[diR a b i c]).length:Int)/\1<=i64.wrap (i+1)/\i64.wrap (i+1)<=a.length/\0<=diC a b i c/\diC a b i c<=1;rw [j,jM];exact ⟨by rw [i1];rfl,by omega,by omega,g⟩
  .have h:=dt.1 h;show (a.length - i64.wrap (i+1)).toNat<(a.length - i).toNat;rw [j];omega
  .have h:=dt.1 h;show (Ex.exit 0,diX (lF a b (a.length - i64.wrap (i+1)).toNat (i64.wrap (i+1)).toNat (diC a b i c) (d++[diR a b i c])))=(Ex.exit 0,diX (lF a b (a.length - i).toNat i.toNat c d));rw [j,show (a.length - i).toNat=(a.length - (i+1)).toNat+1 by omega,show (i+1).toNat=i.toNat+1 by omega,lF,Z6 ha hb (by omega) ⟨l,m⟩,Z7 ha hb (by omega) ⟨l,m⟩]
noncomputable def al1 (n:Int):Ctx:=bN cL1 [dK 49 (ofS n).hp.clock WT ofA (ofS n) (.exit 0) (ofX (aA n.natAbs))]
theorem agL (n:Int) (a:n≠0) (hb:n.natAbs<=9223372036854775808):CtxOk (al1 n):=bE Bz (agI n a hb) (bJ Bz)
def al2:Ctx:=eZ cL1 (mi [(9,.bool false false)])
theorem agM:CtxOk al2:=bW Bz _
noncomputable def al3 (p q:Bool) (a b:List Int):Ctx:=bN cSu [dK 46 (suS p q a b).hp.clock WU suA (suS p q a b) (.exit 0) (suX (ll a b (suN a b) 0 0 []))]
theorem agN (p q:Bool) (a b:List Int) (ha:Dig a) (hb:Dig b) (sa:Sm a) (sb:Sm b) (c:0<a.length):CtxOk (al3 p q a b):=bE SH (agJ p q a b ha hb sa sb c) (bJ SH)
noncomputable def al4 (p q:Bool) (a b:List Int):Ctx:=bN cDi [dK 53 (diS p q a b).hp.clock WV diA (diS p q a b) (.exit 0) (diX (lF a b a.length 0 0 []))]
theorem agO (p q:Bool) (a b:List Int) (ha:Dig a) (hb:Dig b) (sa:Sm a) (c:0<a.length):CtxOk (al4 p q a b):=bE SI (agK p q a b ha hb sa c) (bJ SI)
def agP (n:Int):Prop:=(At (WT) (WT) (ofA) (ofA) (ofS n) (ofS n)/\((0:Int)<=0/\(0:Int)<=(↑(aA n.natAbs).length:Int)/\(0:Int)+(↑(aA n.natAbs).length:Int)<=(↑(aA n.natAbs).length:Int))/\Dig (List.take (↑(aA n.natAbs).length:Int).toNat (List.drop (Int.toNat (0:Int)) (aA n.natAbs)))/\Sm (List.take (↑(aA n.natAbs).length:Int).toNat (List.drop (Int.toNat (0:Int)) (aA n.natAbs))))
def al5 (n:Int):AV:=(AV.agg [AV.bool true (decide (n<0)&&decide (val (List.take (↑(aA n.natAbs).length:Int).toNat (List.drop (Int.toNat (0:Int)) (aA n.natAbs)))≠0)),AV.islice true (0:Nat) (0:Int) (↑(aA (val (List.take (↑(aA n.natAbs).length:Int).toNat (List.drop (Int.toNat (0:Int)) (aA n.natAbs)))).toNat).length:Int)])
def al6 (n:Int):Hp:=⟨[{ wr:=12,body:=ABody.ints i64 (aA (val (List.take (↑(aA n.natAbs).length:Int).toNat (List.drop (Int.toNat (0:Int)) (aA n.natAbs)))).toNat) }],1,13⟩
theorem ast (n:Int):(run (al1 n) 300).call 49 (Jo n) hG0=some ⟨.p (agP n),[⟨.tt,al5 n,al6 n⟩]⟩:=by kernel_rfl
def agQ (n:Int):Prop:=((n != (0:Int))=false/\Dig []/\Sm [])
def al7 (n:Int):AV:=(AV.agg [AV.bool true (decide (n<0)&&decide (val []≠0)),AV.islice true (0:Nat) (0:Int) (↑(aA (val []).toNat).length:Int)])
def al8 (n:Int):Hp:=⟨[{ wr:=13,body:=ABody.ints i64 (aA (val []).toNat) }],1,14⟩
theorem asu (n:Int):(run al2 300).call 49 (Jo n) hG0=some ⟨.p (agQ n),[⟨.tt,al7 n,al8 n⟩]⟩:=by kernel_rfl
def agR (p:Bool) (a:List Int):Prop:=((↑a.length:Int)=(↑a.length:Int)/\Dig a/\Sm a)
def al9 (p:Bool) (a:List Int):AV:=(AV.agg [AV.bool true (!p&&decide (val a≠0)),AV.islice true 1 (0:Int) (↑(aA (val a).toNat).length:Int)])
def ama (p:Bool) (a:List Int):Hp:=⟨[{ wr:=10,body:=ABody.ints i64 (aA (val a).toNat) },{ wr:=(0:Nat),body:=ABody.rows i64 a }],2,11⟩
theorem asv (p:Bool) (a:List Int):(run cL1 300).call 78 (Bw p a) (riH a)=some ⟨.p (agR p a),[⟨.tt,al9 p a,ama p a⟩]⟩:=by kernel_rfl
def agS (p q:Bool) (a b:List Int):Prop:=(((↑a.length:Int)==0)=false/\((↑b.length:Int)==0)=false/\(!p==q)=false/\At (WU) (WU) (suA) (suA) (suS p q a b) (suS p q a b)/\((0:Int)<=0/\(0:Int)<=(↑(ll a b (suN a b) (0:Nat) (0:Int) []).length:Int)/\(0:Int)+(↑(ll a b (suN a b) (0:Nat) (0:Int) []).length:Int)<=(↑(ll a b (suN a b) (0:Nat) (0:Int) []).length:Int))/\Dig (List.take (↑(ll a b (suN a b) (0:Nat) (0:Int) []).length:Int).toNat (List.drop (Int.toNat (0:Int)) (ll a b (suN a b) (0:Nat) (0:Int) [])))/\Sm (List.take (↑(ll a b (suN a b) (0:Nat) (0:Int) []).length:Int).toNat (List.drop (Int.toNat (0:Int)) (ll a b (suN a b) (0:Nat) (0:Int) []))))
def amb (p q:Bool) (a b:List Int):AV:=(AV.agg [AV.bool true (p&&decide (val (List.take (↑(ll a b (suN a b) (0:Nat) (0:Int) []).length:Int).toNat (List.drop (Int.toNat (0:Int)) (ll a b (suN a b) (0:Nat) (0:Int) [])))≠0)),AV.islice true 2 (0:Int) (↑(aA (val (List.take (↑(ll a b (suN a b) (0:Nat) (0:Int) []).length:Int).toNat (List.drop (Int.toNat (0:Int)) (ll a b (suN a b) (0:Nat) (0:Int) [])))).toNat).length:Int)])
def amc (p q:Bool) (a b:List Int):Hp:=⟨[{ wr:=27,body:=ABody.ints i64 (aA (val (List.take (↑(ll a b (suN a b) (0:Nat) (0:Int) []).length:Int).toNat (List.drop (Int.toNat (0:Int)) (ll a b (suN a b) (0:Nat) (0:Int) [])))).toNat) },{ wr:=(0:Nat),body:=ABody.rows i64 b },{ wr:=(0:Nat),body:=ABody.rows i64 a }],3,28⟩
theorem asw (p q:Bool) (a b:List Int):(run (al3 p q a b) 300).call 46 (j4 p q a b) (leH a b)=some ⟨.p (agS p q a b),[⟨.tt,amb p q a b,amc p q a b⟩]⟩:=by kernel_rfl
def agT (p q:Bool) (a b:List Int):Prop:=(((↑a.length:Int)==0)=false/\((↑b.length:Int)==0)=false/\(!p==q)=false/\((((↑a.length:Int)=(↑a.length:Int)/\(↑b.length:Int)=(↑b.length:Int))/\Sm a/\Sm b)/\ja a b=false)/\At (WV) (WV) (diA) (diA) (diS p q a b) (diS p q a b)/\((0:Int)<=0/\(0:Int)<=(↑(lF a b a.length (0:Nat) (0:Int) []).length:Int)/\(0:Int)+(↑(lF a b a.length (0:Nat) (0:Int) []).length:Int)<=(↑(lF a b a.length (0:Nat) (0:Int) []).length:Int))/\Dig (List.take (↑(lF a b a.length (0:Nat) (0:Int) []).length:Int).toNat (List.drop (Int.toNat (0:Int)) (lF a b a.length (0:Nat) (0:Int) [])))/\Sm (List.take (↑(lF a b a.length (0:Nat) (0:Int) []).length:Int).toNat (List.drop (Int.toNat (0:Int)) (lF a b a.length (0:Nat) (0:Int) []))))
def amd (p q:Bool) (a b:List Int):AV:=(AV.agg [AV.bool true (p&&decide (val (List.take (↑(lF a b a.length (0:Nat) (0:Int) []).length:Int).toNat (List.drop (Int.toNat (0:Int)) (lF a b a.length (0:Nat) (0:Int) [])))≠0)),AV.islice true 2 (0:Int) (↑(aA (val (List.take (↑(lF a b a.length (0:Nat) (0:Int) []).length:Int).toNat (List.drop (Int.toNat (0:Int)) (lF a b a.length (0:Nat) (0:Int) [])))).toNat).length:Int)])
def ame (p q:Bool) (a b:List Int):Hp:=⟨[{ wr:=32,body:=ABody.ints i64 (aA (val (List.take (↑(lF a b a.length (0:Nat) (0:Int) []).length:Int).toNat (List.drop (Int.toNat (0:Int)) (lF a b a.length (0:Nat) (0:Int) [])))).toNat) },{ wr:=(0:Nat),body:=ABody.rows i64 b },{ wr:=(0:Nat),body:=ABody.rows i64 a }],3,33⟩
theorem asx (p q:Bool) (a b:List Int):(run (al4 p q a b) 300).call 53 (j4 p q a b) (leH a b)=some ⟨.p (agT p q a b),[⟨.tt,amd p q a b,ame p q a b⟩]⟩:=by kernel_rfl
def ofV:List Nu->List (List Int)->Option (Prop×To)
 | [.n n],[]=>some (n.natAbs<=9223372036854775808,lgT false n)
 | _,_=>none
theorem U8:NOk Tryz.prog (fun _=>none) hG0 49 (bQ hG0 .i64 [.nu (.i .i64)] ofV):=by
 refine Bi (show hG0.ok from rfl) rfl (fun _ _ h=>by cases h) (fun xs ys p t e h=>?_) ⟨_,Tryz.func49,rfl⟩;unfold ofV at e;split at e
 .rename_i n;cases e;by_cases a:n=0
  .subst a;refine ⟨al2,300,Jo 0,_,_,_,_,_,agM,rfl,rfl,⟨⟨rfl,rfl⟩,trivial⟩,asu 0,rfl,⟨rfl,jF,by show 0<=500000;omega⟩,rfl,rfl,⟨by decide,?_,?_⟩⟩
   .exact xu
   .show List.take _ (List.drop _ (aA (val []).toNat))=aA (0:Int).natAbs;rw [td];rfl
  .have hd:=bU n.natAbs;have b:=jZ n.natAbs;refine ⟨al1 n,300,Jo n,_,_,_,_,_,agL n a h,rfl,rfl,⟨⟨rfl,rfl⟩,trivial⟩,ast n,rfl,⟨⟨rfl,rfl,rfl⟩,xu,by rw [td];exact hd,?_⟩,rfl,rfl,⟨?_,?_,?_⟩⟩
   .rw [td];have:(aA n.natAbs).length<=3:=lL (by
     have:pw 3=1000000000000000000000000000:=by decide
     omega)
    show _<=500000;omega
   .show (decide (n<0)&&decide (val (List.take _ (List.drop _ (aA n.natAbs)))≠0))=decide (n<0);rw [td,b];exact uB (by omega) (by by_cases h:n<0 <;> simp [h] <;> omega)
   .exact xu
   .show List.take _ (List.drop _ (aA (val (List.take _ (List.drop _ (aA n.natAbs)))).toNat))=aA n.natAbs;rw [td,td,b];rfl
 .cases e
def miV:List Nu->List (List Int)->Option (Prop×To)
 | [.t p],[a]=>some (okL p a,lgT false (-zv p a))
 | _,_=>none
theorem Jp:NOk Tryz.prog (fun _=>none) hG0 78 (bQ hG0 .i64 [.st [.nu .b,.li]] miV):=by
 refine Bi (show hG0.ok from rfl) rfl (fun _ _ h=>by cases h) (fun xs ys p t e h=>?_) ⟨_,Tryz.func78,rfl⟩;unfold miV at e;split at e
 .rename_i p a;cases e;have c:=aO h.1;have hp:=h.val_pos;refine ⟨cL1,300,Bw p a,_,_,_,_,_,Bz,rfl,rfl,⟨⟨rfl,rfl,trivial⟩,trivial⟩,asv p a,rfl,⟨rfl,h.1,h.2.2.2⟩,rfl,rfl,⟨?_,?_,?_⟩⟩
  .show (!p&&decide (val a≠0))=decide (-zv p a<0);exact uB c (by cases p <;> simp [zv])
  .exact xu
  .show List.take _ (List.drop _ (aA (val a).toNat))=aA (-zv p a).natAbs;rw [td,uC (p:=!p) c (z:=-zv p a) (by cases p <;> simp [zv])]
 .cases e
theorem agU {d:List Int} {n:Nat} (h:aA n=d) (k:Nat) (hn:(n:Int)<pw k):d.length<=k:=by rw [<- h];exact lL hn
theorem QJ (a b:List Int):∀ (n i:Nat) (c:Int) (d:List Int),(ll a b n i c d).length<=d.length+n
 | 0,i,c,d=>by simp [ll]
 | n+1,i,c,d=>by
  simp only [ll];split
  .have:=QJ a b n (i+1) ((a.getD i 0+b.getD i 0+c).tdiv 1000000000) (d++[(a.getD i 0+b.getD i 0+c).tmod 1000000000]);simp only [jM,il,mY] at this;omega
  .omega
theorem abY {p:Bool} {a:List Int} (h:okL p a) (b:val a<pw 400000):a.length<=400000:=by have:=aO h.1;exact agU (kF h.1 h.2.1) 400000 (by omega)
theorem agV {p:Bool} {a b:List Int} (ha:okL p a) (hb:okL p b) (c:a≠[]) (f:b≠[]) (g:val a+val b<pw 400000):ad7 Tryz.prog (fun _=>none) hG0 46 .i64 [.st [.nu .b,.li],.st [.nu .b,.li]] [.t p,.t p] [a,b] (lgT false (zv p a+zv p b)):=by
 have h:=eU.2 c;have i:=eU.2 f;have j:=aO ha.1;have k:=aO hb.1;have l:=EQ ha.1 ha.2.1 c;obtain ⟨r1,d⟩:=PS ha.1 hb.1 (suN a b) 0 0 [] jF rfl (by omega) (by simp [val]) (by unfold suN;omega) (by unfold suN;omega);have l1:=abY ha (by omega);have l2:=abY hb (by omega);have l3:=QJ a b (suN a b) 0 0 [];simp only [mY] at l3;have hN:suN a b=max a.length b.length+1:=rfl;refine ⟨al3 p p a b,300,j4 p p a b,_,_,_,_,_,agN p p a b ha.1 hb.1 ha.2.2.2 hb.2.2.2 h,rfl,rfl,⟨⟨rfl,rfl,trivial⟩,⟨rfl,rfl,trivial⟩,trivial⟩,asw p p a b,rfl,⟨neb.2 (by omega),neb.2 (by omega),by cases p <;> rfl,⟨rfl,rfl,rfl⟩,xu,by rw [td];exact r1,?_⟩,rfl,rfl,⟨?_,?_,?_⟩⟩
 .rw [td];show _<=500000;omega
 .show (p&&decide (val (List.take _ (List.drop _ (ll a b (suN a b) 0 0 [])))≠0))=decide (zv p a+zv p b<0);rw [td,d];exact uB (v:=val a+val b) (by omega) (by cases p <;> simp only [zv,aQ,aR] <;> omega)
 .exact xu
 .show List.take _ (List.drop _ (aA (val (List.take _ (List.drop _ (ll a b (suN a b) 0 0 [])))).toNat))=aA (zv p a+zv p b).natAbs;rw [td,td,d,uC (p:=p) (v:=val a+val b) (z:=zv p a+zv p b) (by omega) (by cases p <;> simp only [zv,aQ,aR] <;> omega)]
def diV:List Nu->List (List Int)->Option (Prop×To)
 | [.t p,.t q],[a,b]=>some (okL p a/\okL q b/\p=q/\a≠[]/\b≠[]/\val b<=val a,lgT false (zv p a - zv q b))
 | _,_=>none
theorem QK (a b:List Int):∀ (n i:Nat) (c:Int) (d:List Int),(lF a b n i c d).length=d.length+n
 | 0,i,c,d=>by simp [lF]
 | n+1,i,c,d=>by
  simp only [lF];rw [QK a b n (i+1)];simp only [jM,il,mY];omega
theorem aiE {p:Bool} {a b:List Int} (ha:okL p a) (hb:okL p b) (g:a≠[]) (i:b≠[]) (c:val b<=val a):ad7 Tryz.prog (fun _=>none) hG0 53 .i64 [.st [.nu .b,.li],.st [.nu .b,.li]] [.t p,.t p] [a,b] (lgT false (zv p a - zv p b)):=by
 have j:=eU.2 g;have l:=eU.2 i;have m:=aO ha.1;have n:=aO hb.1;have d:ja a b=false:=by
  cases e:ja a b with
  | false=>rfl
  | true=>have:=(pO ha.1 hb.1 ha.2.1 hb.2.1).1 e;omega
 have k:b.length<=a.length:=by
  rcases aX a.length b.length with h|h
  .have:=wV ha.1 hb.1 hb.2.1 h;omega
  .exact h
 obtain ⟨r1,f⟩:=aeS ha.1 hb.1 c k;have l3:=QK a b a.length 0 0 [];have o:=ha.2.2.2.le;refine ⟨al4 p p a b,300,j4 p p a b,_,_,_,_,_,agO p p a b ha.1 hb.1 ha.2.2.2 j,rfl,rfl,⟨⟨rfl,rfl,trivial⟩,⟨rfl,rfl,trivial⟩,trivial⟩,asx p p a b,rfl,⟨neb.2 (by omega),neb.2 (by omega),by cases p <;> rfl,⟨⟨⟨rfl,rfl⟩,ha.2.2.2,hb.2.2.2⟩,d⟩,⟨rfl,rfl,rfl⟩,xu,by rw [td];exact r1,?_⟩,rfl,rfl,⟨?_,?_,?_⟩⟩
 .rw [td];show _<=500000;rw [l3];simp only [mY];omega
 .show (p&&decide (val (List.take _ (List.drop _ (lF a b a.length 0 0 [])))≠0))=decide (zv p a - zv p b<0);rw [td,f];exact uB (v:=val a - val b) (by omega) (by cases p <;> simp only [zv,aQ,aR] <;> omega)
 .exact xu
 .show List.take _ (List.drop _ (aA (val (List.take _ (List.drop _ (lF a b a.length 0 0 [])))).toNat))=aA (zv p a - zv p b).natAbs;rw [td,td,f,uC (p:=p) (v:=val a - val b) (z:=zv p a - zv p b) (by omega) (by cases p <;> simp only [zv,aQ,aR] <;> omega)]
theorem abZ:NOk Tryz.prog (fun _=>none) hG0 53 (bQ hG0 .i64 [.st [.nu .b,.li],.st [.nu .b,.li]] diV):=by
 refine fw (fun xs ys p t e h=>?_) ⟨_,Tryz.func53,rfl⟩;unfold diV at e;split at e
 .cases e;obtain ⟨ha,hb,rfl,c,d,a⟩:=h;exact aiE ha hb c d a
 .cases e
def tL2:List (FuncId×ku):=
 (49,bQ hG0 .i64 [.nu (.i .i64)] ofV) ::
 (78,bQ hG0 .i64 [.st [.nu .b,.li]] miV) ::
 tL1
theorem SK:∀ x∈tL2,NOk Tryz.prog (fun _=>none) hG0 x.1 x.2:=by
 intro x a;rcases aN.1 a with rfl|a
 .exact U8
 rcases aN.1 a with rfl|a
 .exact Jp
 exact abO x a
def tD1:List (FuncId×ku):=(53,bQ hG0 .i64 [.st [.nu .b,.li],.st [.nu .b,.li]] diV) :: tL2
theorem amf:∀ x∈tD1,NOk Tryz.prog (fun _=>none) hG0 x.1 x.2:=by
 intro x a;rcases aN.1 a with rfl|a
 .exact abZ
 .exact SK x a
def cDl:Ctx:=eZ (mkN Tryz.prog (fun _=>none) hG0 tD1 [] lw) (mi [(12,.bool false false),(18,.bool false false),(24,.bool false false),(33,.bool false true)])
theorem amg:CtxOk cDl:=bW (mf prog_ok (iY _) amf (fun x h=>by cases h)) _
def cL2:Ctx:=mkN Tryz.prog (fun _=>none) hG0 tL2 [] lw
theorem mM:CtxOk cL2:=mf prog_ok (iY _) SK (fun x h=>by cases h)
def agW (p q:Bool) (a b:List Int):Prop:=(((↑a.length:Int)==0)=false/\((↑b.length:Int)==0)=false/\(!p==q)=false/\((((↑a.length:Int)=(↑a.length:Int)/\(↑b.length:Int)=(↑b.length:Int))/\Sm a/\Sm b)/\ja a b=true)/\(((↑b.length:Int)=(↑b.length:Int)/\(↑a.length:Int)=(↑a.length:Int))/\okL q b/\okL p a/\q=p/\b≠[]/\a≠[]/\val a<=val b)/\(↑(aA (zv q b - zv p a).natAbs).length:Int)=(↑(aA (zv q b - zv p a).natAbs).length:Int)/\okL (decide (zv q b - zv p a<0)) (aA (zv q b - zv p a).natAbs))
def amh (p q:Bool) (a b:List Int):AV:=(AV.agg [AV.bool true (decide (-zv (decide (zv q b - zv p a<0)) (aA (zv q b - zv p a).natAbs)<0)),AV.lslice 2 (↑(aA (-zv (decide (zv q b - zv p a<0)) (aA (zv q b - zv p a).natAbs)).natAbs).length:Int)])
def ami (p q:Bool) (a b:List Int):Hp:=⟨[{ wr:=27,body:=ABody.rows i64 (aA (-zv (decide (zv q b - zv p a<0)) (aA (zv q b - zv p a).natAbs)).natAbs) },{ wr:=(0:Nat),body:=ABody.rows i64 b },{ wr:=(0:Nat),body:=ABody.rows i64 a }],3,28⟩
theorem asy (p q:Bool) (a b:List Int):(run cDl 300).call 53 (j4 p q a b) (leH a b)=some ⟨.p (agW p q a b),[⟨.tt,amh p q a b,ami p q a b⟩]⟩:=by kernel_rfl
def agX (p q:Bool) (a b:List Int):Prop:=((((↑a.length:Int)=(↑a.length:Int)/\(↑b.length:Int)=(↑b.length:Int))/\Sm a/\Sm b)/\((!decide (p=q/\a=b))=true->(p==q)=true->(((↑a.length:Int)=(↑a.length:Int)/\(↑b.length:Int)=(↑b.length:Int))/\Sm a/\Sm b)/\p=p))
def amj (p q:Bool) (a b:List Int):AV:=(AV.int true i64 (bif decide (p=q/\a=b) then (0:Int) else bif bif p==q then !ja a b==p else p then (-1:Int) else (1:Int)))
def amk (p q:Bool) (a b:List Int):Hp:=⟨[{ wr:=(0:Nat),body:=ABody.rows i64 b },{ wr:=(0:Nat),body:=ABody.rows i64 a }],2,30⟩
theorem asz (p q:Bool) (a b:List Int):(run cL2 300).call 84 (j4 p q a b) (leH a b)=some ⟨.p (agX p q a b),[⟨.tt,amj p q a b,amk p q a b⟩]⟩:=by kernel_rfl
def dfV:List Nu->List (List Int)->Option (Prop×To)
 | [.t p,.t q],[a,b]=>some (okL p a/\okL q b/\p=q/\a≠[]/\b≠[],lgT false (zv p a - zv q b))
 | _,_=>none
theorem ab0 {p:Bool} {a:List Int} (h:okL p a):val a<pw 500000:=by have h1:=eF h.1;have h2:=gF h.2.2.2.le;omega
theorem Jq:NOk Tryz.prog (fun _=>none) hG0 53 (bQ hG0 .i64 [.st [.nu .b,.li],.st [.nu .b,.li]] dfV):=by
 refine fw (fun xs ys p t e h=>?_) ⟨_,Tryz.func53,rfl⟩;unfold dfV at e;split at e
 .rename_i p q a b;cases e;obtain ⟨ha,hb,rfl,c,d⟩:=h;by_cases f:val b<=val a
  .exact aiE ha hb c d f
  .have g:ja a b=true:=(pO ha.1 hb.1 ha.2.1 hb.2.1).2 (by omega);have j:=eU.2 c;have k:=eU.2 d;have l:=aO ha.1;have m:=ab0 hb;have i:(zv p b - zv p a).natAbs=(val b - val a).toNat:=(uC (p:=p) (v:=val b - val a) (by omega) (by cases p <;> simp only [zv,aQ,aR] <;> omega)).symm;have ok:=yB (z:=zv p b - zv p a) (by rw [i];omega);have e:-(zv p b - zv p a)=zv p a - zv p b:=by omega
   refine ⟨cDl,300,j4 p p a b,_,_,_,_,_,amg,rfl,rfl,⟨⟨rfl,rfl,trivial⟩,⟨rfl,rfl,trivial⟩,trivial⟩,asy p p a b,rfl,⟨neb.2 (by omega),neb.2 (by omega),by cases p <;> rfl,⟨⟨⟨rfl,rfl⟩,ha.2.2.2,hb.2.2.2⟩,g⟩,⟨⟨rfl,rfl⟩,hb,ha,rfl,d,c,by omega⟩,rfl,ok⟩,rfl,rfl,⟨?_,?_,?_⟩⟩
   .show decide (-zv (decide (zv p b - zv p a<0)) (aA (zv p b - zv p a).natAbs)<0)=_;rw [qc,e]
   .rfl
   .show aA (-zv (decide (zv p b - zv p a<0)) (aA (zv p b - zv p a).natAbs)).natAbs=_;rw [qc,e]
 .cases e
def Ao (x y:Int):Int:=if x=y then 0 else if x<y then -1 else 1
def orV:List Nu->List (List Int)->Option (Prop×To)
 | [.t p,.t q],[a,b]=>some (okL p a/\okL q b,.nu .i64 (Ao (zv p a) (zv q b)))
 | _,_=>none
theorem apt {p q:Bool} {a b:List Int} (ha:okL p a) (hb:okL q b):(bif decide (p=q/\a=b) then (0:Int) else bif bif p==q then !ja a b==p else p then (-1:Int) else (1:Int))=Ao (zv p a) (zv q b):=by
 have g:=pO ha.1 hb.1 ha.2.1 hb.2.1;have m:=aO ha.1;have h1:=aO hb.1;unfold Ao;by_cases h:p=q/\a=b
 .obtain ⟨rfl,rfl⟩:=h;rw [aI ⟨rfl,rfl⟩,aC rfl];rfl
 .rw [aG h,aR];have i:zv p a≠zv q b:=by
   intro e;have l:p=q:=by rw [ha.neg_eq,hb.neg_eq,e]
   exact h ⟨l,by rw [<- ha.digs_eq,<- hb.digs_eq,e]⟩
  rw [aB i];have c:∀ d,zv true d=-val d:=fun d=>rfl;have f:∀ d,zv false d=val d:=fun d=>rfl;have hn:ja a b=false->¬ val a<val b:=fun e h=>by rw [g.2 h] at e;cases e
  cases p <;> cases q
  .have j:=f a;have k:=f b
   cases e:ja a b with
   | true=>have:=g.1 e;rw [aC (by omega)];rfl
   | false=>have:=hn e;rw [aB (by omega)];rfl
  .have:=hb.val_pos rfl;have j:=f a;have k:=c b;rw [aB (by omega)];rfl
  .have:=ha.val_pos rfl;have j:=c a;have k:=f b;rw [aC (by omega)];rfl
  .have j:=c a;have k:=c b
   cases e:ja a b with
   | true=>have:=g.1 e;rw [aB (by omega)];rfl
   | false=>have:=hn e;rw [aC (by omega)];rfl
theorem QL:NOk Tryz.prog (fun _=>none) hG0 84 (bQ hG0 .i64 [.st [.nu .b,.li],.st [.nu .b,.li]] orV):=by
 refine fw (fun xs ys p t e h=>?_) ⟨_,Tryz.func84,rfl⟩;unfold orV at e;split at e
 .rename_i p q a b;cases e;obtain ⟨ha,hb⟩:=h;exact ⟨cL2,300,j4 p q a b,_,_,_,_,_,mM,rfl,rfl,⟨⟨rfl,rfl,trivial⟩,⟨rfl,rfl,trivial⟩,trivial⟩,asz p q a b,rfl,⟨⟨⟨rfl,rfl⟩,ha.2.2.2,hb.2.2.2⟩,fun _ _=>⟨⟨⟨rfl,rfl⟩,ha.2.2.2,hb.2.2.2⟩,rfl⟩⟩,rfl,rfl,apt ha hb⟩
 .cases e
def tL3:List (FuncId×ku):=
 (53,bQ hG0 .i64 [.st [.nu .b,.li],.st [.nu .b,.li]] dfV) ::
 (84,bQ hG0 .i64 [.st [.nu .b,.li],.st [.nu .b,.li]] orV) ::
 tL2
theorem aml:∀ x∈tL3,NOk Tryz.prog (fun _=>none) hG0 x.1 x.2:=by
 intro x a;rcases aN.1 a with rfl|a
 .exact Jq
 rcases aN.1 a with rfl|a
 .exact QL
 exact SK x a
def cSd:Ctx:=eZ (mkN Tryz.prog (fun _=>none) hG0 tL3 [] lw) (mi [(12,.bool false false),(17,.bool false false),(23,.bool false true)])
theorem amm:CtxOk cSd:=bW (mf prog_ok (iY _) aml (fun x h=>by cases h)) _
def agY (p q:Bool) (a b:List Int):Prop:=(((↑a.length:Int)==0)=false/\((↑b.length:Int)==0)=false/\(!p==q)=true/\((↑b.length:Int)=(↑b.length:Int)/\okL q b)/\(p=p/\(↑a.length:Int)=(↑a.length:Int))/\((↑a.length:Int)=(↑a.length:Int)/\(↑(aA (-zv q b).natAbs).length:Int)=(↑(aA (-zv q b).natAbs).length:Int))/\okL p a/\okL (decide (-zv q b<0)) (aA (-zv q b).natAbs)/\p=decide (-zv q b<0)/\a≠[]/\aA (-zv q b).natAbs≠[])
def amn (p q:Bool) (a b:List Int):AV:=(AV.agg [AV.bool true (decide (zv p a - zv (decide (-zv q b<0)) (aA (-zv q b).natAbs)<0)),AV.lslice 2 (↑(aA (zv p a - zv (decide (-zv q b<0)) (aA (-zv q b).natAbs)).natAbs).length:Int)])
def amo (p q:Bool) (a b:List Int):Hp:=⟨[{ wr:=22,body:=ABody.rows i64 (aA (zv p a - zv (decide (-zv q b<0)) (aA (-zv q b).natAbs)).natAbs) },{ wr:=(0:Nat),body:=ABody.rows i64 b },{ wr:=(0:Nat),body:=ABody.rows i64 a }],3,23⟩
theorem asA (p q:Bool) (a b:List Int):(run cSd 300).call 46 (j4 p q a b) (leH a b)=some ⟨.p (agY p q a b),[⟨.tt,amn p q a b,amo p q a b⟩]⟩:=by kernel_rfl
def agZ:List Nu->List (List Int)->Option (Prop×To)
 | [.t p,.t q],[a,b]=>some (okL p a/\okL q b/\a≠[]/\b≠[]/\val a+val b<pw 400000,lgT false (zv p a+zv q b))
 | _,_=>none
theorem sum_ok:NOk Tryz.prog (fun _=>none) hG0 46 (bQ hG0 .i64 [.st [.nu .b,.li],.st [.nu .b,.li]] agZ):=by
 refine fw (fun xs ys p t e h=>?_) ⟨_,Tryz.func46,rfl⟩;unfold agZ at e;split at e
 .rename_i p q a b;cases e;obtain ⟨ha,hb,d,f,g⟩:=h;by_cases c:p=q
  .subst c;exact agV ha hb d f g
  .have l:=eU.2 d;have m:=eU.2 f;have i:=EQ hb.1 hb.2.1 f;have v0:=aO hb.1;have e:zv p a - -zv q b=zv p a+zv q b:=by omega
   have j:(-zv q b).natAbs=(val b).toNat:=(uC (p:=!q) (v:=val b) v0 (by cases q <;> simp [zv])).symm;have ok:=yB (z:=-zv q b) (by rw [j];have:=ab0 hb;omega);have k:p=decide (-zv q b<0):=by rw [<- uB (p:=!q) (v:=val b) v0 (by cases q <;> simp [zv])];rw [aI i];cases p <;> cases q <;> first|rfl|exact absurd rfl c
   refine ⟨cSd,300,j4 p q a b,_,_,_,_,_,amm,rfl,rfl,⟨⟨rfl,rfl,trivial⟩,⟨rfl,rfl,trivial⟩,trivial⟩,asA p q a b,rfl,⟨neb.2 (by omega),neb.2 (by omega),by cases p <;> cases q <;> first|rfl|exact absurd rfl c,⟨rfl,hb⟩,⟨rfl,rfl⟩,⟨rfl,rfl⟩,ha,ok,k,d,fun h=>by have:=I6.1 h;omega⟩,rfl,rfl,⟨?_,?_,?_⟩⟩
   .show decide (zv p a - zv (decide (-zv q b<0)) (aA (-zv q b).natAbs)<0)=_;rw [qc,e]
   .rfl
   .show aA (zv p a - zv (decide (-zv q b<0)) (aA (-zv q b).natAbs)).natAbs=_;rw [qc,e]
 .cases e
def w9:AFr:=⟨47,none⟩
def SL:Code:=fP Tryz.prog 47 0
def SN:Code:=fP Tryz.prog 47 1
def ab1:Code:=fP Tryz.prog 47 2
noncomputable def poS (p q:Bool) (a b:List Int):St:=qM cL2 300 47 (j4 p q a b) (leH a b)
def poP (a b:List Int) (i:Int):Patch:=⟨(6,.int true .i64 i) :: (7,.any false) :: (8,.any false) :: (9,.any false) :: bS 18 45,[(5,.ints .i64 (prL a b i 0))],[]⟩
def poU (a b:List Int):SumL Int:=
 {
  S:=poP a b
  I:=fun i=>0<=i/\i<=a.length
  μ:=fun i=>(a.length - i).toNat
  F:=fun _=>(.exit 0,poP a b a.length)
  next:=fun i=>i64.wrap (i+1)
  ids:=fun _=>[]
  X:=fun i _=>some (poP a b i,[]) }
noncomputable def pmS (p q:Bool) (a b:List Int) (i:Int):St:=ad6 cL2 300 w9 SL (aJ (poS p q a b) (poP a b i))
def pmP (a b:List Int) (i k:Int):Patch:=⟨(7,.int true .i64 k) :: (8,.any false) :: (9,.any false) :: bS 25 38,[(5,.ints .i64 (prL a b i k))],[]⟩
def pmU (a b:List Int) (i:Int):SumL Int:=
 {
  S:=pmP a b i
  I:=fun k=>0<=k/\k<=b.length
  μ:=fun k=>(b.length - k).toNat
  F:=fun _=>(.exit 2,pmP a b i b.length)
  next:=fun k=>i64.wrap (k+1)
  ids:=fun _=>[]
  X:=fun k _=>some (pmP a b i k,[]) }
noncomputable def piS (p q:Bool) (a b:List Int) (i k:Int):St:=ad6 cL2 300 w9 SN (aJ (pmS p q a b i) (pmP a b i k))
def piP (j n:Int) (d:List Int):Patch:=⟨(8,.int true .i64 n) :: (9,.int true .i64 j) :: bS 46 17,[(5,.ints .i64 d)],[]⟩
def piX (d:List Int):Patch:=⟨(8,.any false) :: (9,.any false) :: bS 46 17,[(5,.ints .i64 d)],[]⟩
def piU (a b:List Int) (i k:Int):SumL (Int×Int×List Int):=
 {
  S:=fun (j,n,d)=>piP j n d
  I:=fun (j,n,d)=>prI a b i k j n d
  μ:=fun (j,_,_)=>(a.length+b.length - j).toNat
  F:=fun _=>(.exit 4,piX (prL a b i (k+1)))
  next:=fun (j,n,d)=>(i64.wrap (j+1),i64.wrap ((i64.wrap (n+d.getD j.toNat 0)).tdiv 1000000000),d.set j.toNat ((i64.wrap (n+d.getD j.toNat 0)).tmod 1000000000))
  ids:=fun _=>[]
  X:=fun (_,_,d) _=>some (piX d,[]) }
noncomputable def cPi (p q:Bool) (a b:List Int) (i k:Int):Ctx:=bN cL2 [dK 47 (piS p q a b i k).hp.clock w9 ab1 (piS p q a b i k) (.exit 4) (piX (prL a b i (k+1)))]
noncomputable def cPm (p q:Bool) (a b:List Int) (i:Int):Ctx:=bN cL2 [dK 47 (pmS p q a b i).hp.clock w9 SN (pmS p q a b i) (.exit 2) (pmP a b i b.length)]
noncomputable def cPo (p q:Bool) (a b:List Int):Ctx:=bN cL2 [dK 47 (poS p q a b).hp.clock w9 SL (poS p q a b) (.exit 0) (poP a b a.length)]
def QM (p q:Bool) (a b:List Int):Prop:=(0:Int)=0/\List.replicate (i64.wrap ((↑a.length:Int)+(↑b.length:Int))).toNat (0:Int)=prL a b (0:Int) (0:Int)
theorem ab2 (p q:Bool) (a b:List Int):fit (poS p q a b) (poS p q a b) (aJ (poS p q a b) ((poU a b).S 0)) ([])=some (.p (QM p q a b)):=by kernel_rfl
def QN (p q:Bool) (a b:List Int) (i:Int):Prop:=(0:Int)=0/\prL a b i (0:Int)=prL a b i (0:Int)
theorem ab3 (p q:Bool) (a b:List Int) (i:Int):fit (pmS p q a b i) (pmS p q a b i) (aJ (pmS p q a b i) ((pmU a b i).S 0)) ([])=some (.p (QN p q a b i)):=by kernel_rfl
def QO (p q:Bool) (a b:List Int) (i k:Int):Prop:=(i64.wrap (a.getD i.toNat (0:Int)*b.getD k.toNat (0:Int))=i64.wrap (a.getD i.toNat (0:Int)*b.getD k.toNat (0:Int))/\i64.wrap (i+k)=i64.wrap (i+k))/\prL a b i k=prL a b i k
theorem ab4 (p q:Bool) (a b:List Int) (i k:Int):fit (piS p q a b i k) (piS p q a b i k) (aJ (piS p q a b i k) ((piU a b i k).S (i64.wrap (i+k),i64.wrap (a.getD i.toNat 0*b.getD k.toNat 0),prL a b i k))) ([])=some (.p (QO p q a b i k)):=by kernel_rfl
def SQ (p q:Bool) (a b:List Int) (i k j n:Int) (d:List Int):Prop:=(decide (n>0)=true->(((0:Int)<=j/\j<i64.wrap ((↑a.length:Int)+(↑b.length:Int)))/\((0:Int)+j).toNat<d.length)/\((0:Int)<=j/\j<i64.wrap ((↑a.length:Int)+(↑b.length:Int)))/\((0:Int)+j).toNat<d.length)/\((!decide (n>0))=true->d=d/\(piU a b i k).F (j,n,d)=(Ex.exit (4:Nat),piX d))/\(decide (n>0)=true->((i64.wrap ((i64.wrap (n+d.getD ((0:Int)+j).toNat (0:Int))).tdiv (1000000000:Int))=i64.wrap ((i64.wrap (n+d.getD j.toNat (0:Int))).tdiv (1000000000:Int))/\i64.wrap (j+1)=i64.wrap (j+1))/\d.set ((0:Int)+j).toNat ((i64.wrap (n+d.getD ((0:Int)+j).toNat (0:Int))).tmod (1000000000:Int))=d.set j.toNat ((i64.wrap (n+d.getD j.toNat (0:Int))).tmod (1000000000:Int)))/\(piU a b i k).I ((piU a b i k).next (j,n,d))/\(piU a b i k).μ ((piU a b i k).next (j,n,d))<(piU a b i k).μ (j,n,d)/\(piU a b i k).F ((piU a b i k).next (j,n,d))=(piU a b i k).F (j,n,d))
theorem ag0 (p q:Bool) (a b:List Int) (i k j n:Int) (d:List Int):dQ (piS p q a b i k) ((piU a b i k).way ((j,n,d))) ((run cL2 300).code w9 ab1 (aJ (piS p q a b i k) ((piU a b i k).S (j,n,d))))=some (.p (SQ p q a b i k j n d)):=by kernel_rfl
def SS (p q:Bool) (a b:List Int) (i k:Int):Prop:=(decide (k<(↑b.length:Int))=true->(((0:Int)<=i/\i<(↑a.length:Int))/\i.toNat<a.length/\((0:Int)<=k/\k<(↑b.length:Int))/\k.toNat<b.length)/\At (w9) (w9) (ab1) (ab1) (piS p q a b i k) (piS p q a b i k))/\((!decide (k<(↑b.length:Int)))=true->(k=k/\prL a b i k=prL a b i k)/\(pmU a b i).F k=(Ex.exit (2:Nat),pmP a b i k))/\(decide (k<(↑b.length:Int))=true->(i64.wrap (k+1)=(pmU a b i).next k/\prL a b i (k+1)=prL a b i ((pmU a b i).next k))/\(pmU a b i).I ((pmU a b i).next k)/\(pmU a b i).μ ((pmU a b i).next k)<(pmU a b i).μ k/\(pmU a b i).F ((pmU a b i).next k)=(pmU a b i).F k)
theorem ag1 (p q:Bool) (a b:List Int) (i k:Int):dQ (pmS p q a b i) ((pmU a b i).way (k)) ((run (cPi p q a b i k) 300).code w9 SN (aJ (pmS p q a b i) ((pmU a b i).S k)))=some (.p (SS p q a b i k)):=by kernel_rfl
def SV (p q:Bool) (a b:List Int) (i:Int):Prop:=(decide (i<(↑a.length:Int))=true->At (w9) (w9) (SN) (SN) (pmS p q a b i) (pmS p q a b i))/\((!decide (i<(↑a.length:Int)))=true->(i=i/\prL a b i (0:Int)=prL a b i (0:Int))/\(poU a b).F i=(Ex.exit (0:Nat),poP a b i))/\(decide (i<(↑a.length:Int))=true->(i64.wrap (i+1)=(poU a b).next i/\prL a b i (↑b.length:Int)=prL a b ((poU a b).next i) (0:Int))/\(poU a b).I ((poU a b).next i)/\(poU a b).μ ((poU a b).next i)<(poU a b).μ i/\(poU a b).F ((poU a b).next i)=(poU a b).F i)
theorem ag2 (p q:Bool) (a b:List Int) (i:Int):dQ (poS p q a b) ((poU a b).way (i)) ((run (cPm p q a b i) 300).code w9 SL (aJ (poS p q a b) ((poU a b).S i)))=some (.p (SV p q a b i)):=by kernel_rfl
def ag3 (p q:Bool) (a b:List Int):Prop:=((i64.wrap ((↑a.length:Int)+(↑b.length:Int))=i64.wrap ((↑a.length:Int)+(↑b.length:Int))/\(0:Int)<=i64.wrap ((↑a.length:Int)+(↑b.length:Int))/\i64.wrap ((↑a.length:Int)+(↑b.length:Int))<=1048576)/\At (w9) (w9) (SL) (SL) (poS p q a b) (poS p q a b)/\((0:Int)<=0/\(0:Int)<=i64.wrap ((↑a.length:Int)+(↑b.length:Int))/\(0:Int)+i64.wrap ((↑a.length:Int)+(↑b.length:Int))<=(↑(prL a b (↑a.length:Int) (0:Int)).length:Int))/\Dig (List.take (i64.wrap ((↑a.length:Int)+(↑b.length:Int))).toNat (List.drop (Int.toNat (0:Int)) (prL a b (↑a.length:Int) (0:Int))))/\Sm (List.take (i64.wrap ((↑a.length:Int)+(↑b.length:Int))).toNat (List.drop (Int.toNat (0:Int)) (prL a b (↑a.length:Int) (0:Int)))))
def amq (p q:Bool) (a b:List Int):AV:=(AV.agg [AV.bool true (!p==q&&decide (val (List.take (i64.wrap ((↑a.length:Int)+(↑b.length:Int))).toNat (List.drop (Int.toNat (0:Int)) (prL a b (↑a.length:Int) (0:Int))))≠0)),AV.islice true 2 (0:Int) (↑(aA (val (List.take (i64.wrap ((↑a.length:Int)+(↑b.length:Int))).toNat (List.drop (Int.toNat (0:Int)) (prL a b (↑a.length:Int) (0:Int))))).toNat).length:Int)])
def amr (p q:Bool) (a b:List Int):Hp:=⟨[{ wr:=24,body:=ABody.ints i64 (aA (val (List.take (i64.wrap ((↑a.length:Int)+(↑b.length:Int))).toNat (List.drop (Int.toNat (0:Int)) (prL a b (↑a.length:Int) (0:Int))))).toNat) },{ wr:=(0:Nat),body:=ABody.rows i64 b },{ wr:=(0:Nat),body:=ABody.rows i64 a }],3,25⟩
theorem asB (p q:Bool) (a b:List Int):(run (cPo p q a b) 300).call 47 (j4 p q a b) (leH a b)=some ⟨.p (ag3 p q a b),[⟨.tt,amq p q a b,amr p q a b⟩]⟩:=by kernel_rfl
def cHf (t:Nat):Ctx:=eZ cL2 (mi [(t,.bool false false)])
theorem Ni (t:Nat):CtxOk (cHf t):=bW mM _
def WX (p q:Bool) (a b:List Int) (i k:Int):Prop:=decide (k<(↑b.length:Int))=false/\(true=true->(k=k/\prL a b i k=prL a b i k)/\(pmU a b i).F k=(Ex.exit (2:Nat),pmP a b i k))
theorem ams (p q:Bool) (a b:List Int) (i k:Int):dQ (pmS p q a b i) ((pmU a b i).way (k)) ((run (cHf 29) 300).code w9 SN (aJ (pmS p q a b i) ((pmU a b i).S k)))=some (.p (WX p q a b i k)):=by kernel_rfl
def WY (p q:Bool) (a b:List Int) (i:Int):Prop:=decide (i<(↑a.length:Int))=false/\(true=true->(i=i/\prL a b i (0:Int)=prL a b i (0:Int))/\(poU a b).F i=(Ex.exit (0:Nat),poP a b i))
theorem amt (p q:Bool) (a b:List Int) (i:Int):dQ (poS p q a b) ((poU a b).way (i)) ((run (cHf 22) 300).code w9 SL (aJ (poS p q a b) ((poU a b).S i)))=some (.p (WY p q a b i)):=by kernel_rfl
theorem ag4 (p q:Bool) {a b:List Int} (ha:Dig a) (hb:Dig b) (sa:Sm a) (sb:Sm b) {i k:Int} (hi:0<=i/\i<a.length) (m:0<=k/\k<b.length):
  CodeOk cL2 w9 (.loop ab1) (piS p q a b i k) ⟨.tt,[⟨.tt,.exit 4,aJ (piS p q a b i k) (piX (prL a b i (k+1)))⟩]⟩:=by
 have sa:=sa.le;have sb:=sb.le;have o:=ha.get i.toNat;have f:=hb.get k.toNat;have g3:=aV o.1 f.1;have w:a.getD i.toNat 0*b.getD k.toNat 0<=1000000000*1000000000:=bC (by omega) (by omega) f.1 (by decide);have r:i64.wrap (i+k)=i+k:=iw (by omega) (by omega);have s:i64.wrap (a.getD i.toNat 0*b.getD k.toNat 0)=a.getD i.toNat 0*b.getD k.toNat 0:=iw (by omega) (by omega);refine jX (dw mM 300) (piU a b i k) (y0:=(i64.wrap (i+k),i64.wrap (a.getD i.toNat 0*b.getD k.toNat 0),prL a b i k)) ?_ ⟨_,ab4 p q a b i k,⟨⟨rfl,rfl⟩,rfl⟩⟩ (by kernel_rfl) (fun y t=>?_) rfl
 .show prI a b i k _ _ _;rw [r,s];exact Wu ha hb hi.1 m.1
 .obtain ⟨j,n,d⟩:=y;have c:prI a b i k j n d:=t;obtain ⟨h1,h2,h3,x,z,A⟩:=id c;have D:=h1.get j.toNat;have e3:i64.wrap ((a.length:Int)+b.length)=a.length+b.length:=iw (by omega) (by omega);have g:(0+j).toNat=j.toNat:=by omega
  have u:i64.wrap (n+d.getD j.toNat 0)=n+d.getD j.toNat 0:=iw (by omega) (by omega);refine ⟨_,ag0 p q a b i k j n d,fun h=>?_,fun h=>⟨rfl,?_⟩,fun h=>?_⟩
  .have h:=dt.1 h;have:=R5 ha hb c h;rw [e3,g];exact ⟨⟨⟨h3,by omega⟩,this⟩,⟨h3,by omega⟩,this⟩
  .have h:=ndt.1 h;show (Ex.exit 4,piX (prL a b i (k+1)))=_;rw [<- ae4 c h]
  .have h:=dt.1 h;have E:=R5 ha hb c h;have st:=Z9 ha hb c h;have l:i64.wrap (j+1)=j+1:=iw (by omega) (by omega);have v:i64.wrap ((n+d.getD j.toNat 0).tdiv 1000000000)=(n+d.getD j.toNat 0).tdiv 1000000000:=by
    have:=st.2.2.2.2.1;have:=st.2.2.2.1;exact iw (by omega) (by omega)
   rw [g];refine ⟨⟨⟨rfl,rfl⟩,rfl⟩,?_,?_,rfl⟩
   .show prI a b i k (i64.wrap (j+1)) (i64.wrap ((i64.wrap (n+d.getD j.toNat 0)).tdiv 1000000000)) (d.set j.toNat ((i64.wrap (n+d.getD j.toNat 0)).tmod 1000000000));rw [u,l,v];exact st
   .show (a.length+b.length - i64.wrap (j+1)).toNat<(a.length+b.length - j).toNat;rw [l];omega
theorem amu (p q:Bool) {a b:List Int} (ha:Dig a) (hb:Dig b) (sa:Sm a) (sb:Sm b) {i k:Int} (hi:0<=i/\i<a.length) (c:0<=k/\k<b.length):CtxOk (cPi p q a b i k):=bE mM (ag4 p q ha hb sa sb hi c) (bJ mM)
theorem ag5 (p q:Bool) {a b:List Int} (ha:Dig a) (hb:Dig b) (sa:Sm a) (sb:Sm b) {i:Int} (hi:0<=i/\i<a.length):
  CodeOk cL2 w9 (.loop SN) (pmS p q a b i) ⟨.tt,[⟨.tt,.exit 2,aJ (pmS p q a b i) (pmP a b i b.length)⟩]⟩:=by
 have d:=sb.le;refine jm (pmU a b i) (y0:=0) ⟨by omega,by omega⟩ ⟨_,ab3 p q a b i,⟨rfl,rfl⟩⟩ (by kernel_rfl) (fun k f=>?_) rfl;obtain ⟨k0,k1⟩:=(show 0<=k/\k<=b.length from f);by_cases c:k<b.length
 .refine ⟨cPi p q a b i k,300,amu p q ha hb sa sb hi ⟨k0,c⟩,rfl,rfl,_,ag1 p q a b i k,fun h=>⟨⟨hi,by omega,⟨k0,c⟩,by omega⟩,rfl,rfl,rfl⟩,fun h=>absurd c (ndt.1 h),fun h=>?_⟩;have e:i64.wrap (k+1)=k+1:=iw (by omega) (by omega);refine ⟨⟨rfl,?_⟩,?_,?_,rfl⟩
  .show prL a b i (k+1)=prL a b i (i64.wrap (k+1));rw [e]
  .show 0<=i64.wrap (k+1)/\i64.wrap (k+1)<=b.length;rw [e];omega
  .show (b.length - i64.wrap (k+1)).toNat<(b.length - k).toNat;rw [e];omega
 .obtain rfl:k=b.length:=by omega
  exact ⟨cHf 29,300,Ni 29,rfl,rfl,_,ams p q a b i b.length,ndf c,fun _=>⟨⟨rfl,rfl⟩,rfl⟩⟩
theorem amv (p q:Bool) {a b:List Int} (ha:Dig a) (hb:Dig b) (sa:Sm a) (sb:Sm b) {i:Int} (hi:0<=i/\i<a.length):CtxOk (cPm p q a b i):=bE mM (ag5 p q ha hb sa sb hi) (bJ mM)
theorem ag6 (p q:Bool) {a b:List Int} (ha:Dig a) (hb:Dig b) (sa:Sm a) (sb:Sm b):
  CodeOk cL2 w9 (.loop SL) (poS p q a b) ⟨.tt,[⟨.tt,.exit 0,aJ (poS p q a b) (poP a b a.length)⟩]⟩:=by
 have d:=sa.le;have f:=sb.le;refine jm (poU a b) (y0:=0) ⟨by omega,by omega⟩ ⟨_,ab2 p q a b,⟨rfl,?_⟩⟩ (by kernel_rfl) (fun i hi=>?_) rfl
 .rw [iw (by omega) (by omega),show ((a.length:Int)+b.length).toNat=a.length+b.length by omega,CJ];unfold prL prV;simp [val]
 obtain ⟨i0,i1⟩:=(show 0<=i/\i<=a.length from hi);by_cases c:i<a.length
 .refine ⟨cPm p q a b i,300,amv p q ha hb sa sb ⟨i0,c⟩,rfl,rfl,_,ag2 p q a b i,fun h=>⟨rfl,rfl,rfl⟩,fun h=>absurd c (ndt.1 h),fun h=>?_⟩;have e:i64.wrap (i+1)=i+1:=iw (by omega) (by omega);refine ⟨⟨rfl,?_⟩,?_,?_,rfl⟩
  .show prL a b i b.length=prL a b (i64.wrap (i+1)) 0;rw [e];unfold prL;rw [ae3 i0]
  .show 0<=i64.wrap (i+1)/\i64.wrap (i+1)<=a.length;rw [e];omega
  .show (a.length - i64.wrap (i+1)).toNat<(a.length - i).toNat;rw [e];omega
 .obtain rfl:i=a.length:=by omega
  exact ⟨cHf 22,300,Ni 22,rfl,rfl,_,amt p q a b a.length,ndf c,fun _=>⟨⟨rfl,rfl⟩,rfl⟩⟩
theorem amw (p q:Bool) {a b:List Int} (ha:Dig a) (hb:Dig b) (sa:Sm a) (sb:Sm b):CtxOk (cPo p q a b):=bE mM (ag6 p q ha hb sa sb) (bJ mM)
def ag7:List Nu->List (List Int)->Option (Prop×To)
 | [.t p,.t q],[a,b]=>some (okL p a/\okL q b/\a.length+b.length<=500000,lgT false (zv p a*zv q b))
 | _,_=>none
theorem ag8 {a b:List Int} (ha:Dig a) (hb:Dig b):(prL a b a.length 0).length=a.length+b.length/\Dig (prL a b a.length 0)/\val (prL a b a.length 0)=val a*val b:=by have h:=R4 ha hb a.length 0;refine ⟨eD _ _,j3 _ _,?_⟩;unfold prL;rw [kG h.1 h.2];unfold prV;rw [show ((a.length:Int)).toNat=a.length by omega,gp,show (0:Int).toNat=0 from rfl];simp [val]
theorem U9:NOk Tryz.prog (fun _=>none) hG0 47 (bQ hG0 .i64 [.st [.nu .b,.li],.st [.nu .b,.li]] ag7):=by
 refine fw (fun xs ys p t e h=>?_) ⟨_,Tryz.func47,rfl⟩;unfold ag7 at e;split at e
 .rename_i p q a b;cases e;obtain ⟨ha,hb,g⟩:=h;obtain ⟨l1,l2,l3⟩:=ag8 ha.1 hb.1;have f:i64.wrap ((a.length:Int)+b.length)=a.length+b.length:=iw (by omega) (by omega);have c:List.take (i64.wrap ((a.length:Int)+b.length)).toNat (List.drop (Int.toNat 0) (prL a b a.length 0))=prL a b a.length 0:=by
   rw [f,show ((a.length:Int)+b.length).toNat=(prL a b a.length 0).length by omega,show (Int.toNat 0)=0 from rfl,iA,gp]
  have v0:=aV (aO ha.1) (aO hb.1);have d:zv p a*zv q b=bif (!p==q) then -(val a*val b) else val a*val b:=by cases p <;> cases q <;> simp [zv,rZ,rY]
  refine ⟨cPo p q a b,300,j4 p q a b,_,_,_,_,_,amw p q ha.1 hb.1 ha.2.2.2 hb.2.2.2,rfl,rfl,⟨⟨rfl,rfl,trivial⟩,⟨rfl,rfl,trivial⟩,trivial⟩,asB p q a b,rfl,⟨⟨rfl,by omega,by omega⟩,⟨rfl,rfl,rfl⟩,by omega,by rw [c];exact l2,?_⟩,rfl,rfl,⟨?_,?_,?_⟩⟩
  .rw [c];show _<=500000;omega
  .show (!p==q&&decide (val (List.take (i64.wrap ((a.length:Int)+b.length)).toNat (List.drop (Int.toNat 0) (prL a b a.length 0)))≠0))=decide (zv p a*zv q b<0);rw [c,l3];exact uB v0 d
  .exact xu
  .show List.take _ (List.drop _ (aA (val (List.take (i64.wrap ((a.length:Int)+b.length)).toNat (List.drop (Int.toNat 0) (prL a b a.length 0)))).toNat))=aA (zv p a*zv q b).natAbs;rw [c,td,l3,uC v0 d]
 .cases e
def Nj:AFr:=⟨81,none⟩
def paA:Code:=fP Tryz.prog 81 0
noncomputable def paS (p q:Bool) (a b:List Int):St:=qM cL2 300 81 (j4 p q a b) (leH a b)
def paP (a b:List Int):Option Int->Patch
 | none=>⟨(8,.int true .i64 (a.length - 1)) :: (9,.any false) :: bS 18 24,[(6,.ints .i64 (paQ a b (a.length - 1)))],[]⟩
 | some i=>⟨(7,.islice true 7 0 (paR a b i).length) :: (8,.int true .i64 i) :: (9,.any false) :: bS 18 24,[(6,.ints .i64 (paQ a b i))],[.ints .i64 (paR a b i)]⟩
def lQ:AFr:=⟨100,none⟩
def tkA:Code:=fP Tryz.prog 100 0
def tkB:Code:=fP Tryz.prog 100 1
def tkR (x:Int):Option (List Int)->List Int
 | none=>aA (val [x]).toNat
 | some r=>aA (val (List.take ((↑(1:Nat):Int)+(↑r.length:Int)).toNat (List.drop (Int.toNat 0) ([x]++List.take (↑r.length:Int).toNat (List.drop (Int.toNat 0) r))))).toNat
def tkT (id:Nat) (R b:List Int):List AT:=
 [⟨0,.islice true id 0 R.length⟩,⟨0,.lslice 1 b.length⟩,⟨0,.tuple []⟩,⟨0,.tuple []⟩,⟨41,.nilslice⟩,⟨42,.int false .i64 0⟩,⟨43,.int false .i64 0⟩]++Ml 70
def tkS (p q:Bool) (a b:List Int) (i x:Int) (R:List Int):Option (List Int)->St
 | none=>⟨tkT 8 R b,[],⟨[⟨37,.ints .i64 R⟩,⟨30,.cells [.int true .i64 x]⟩,⟨18,.ints .i64 (paQ a b i)⟩,⟨6,.cells [.bool false false,.nilslice]⟩,⟨5,.cells [.bool false false,.nilslice]⟩,⟨4,.cells [.bool true q,.lslice 1 b.length]⟩,⟨3,.cells [.bool true p,.lslice 0 a.length]⟩,⟨0,.rows .i64 b⟩,⟨0,.rows .i64 a⟩],9,44⟩⟩
 | some r=>⟨tkT 10 R b,[],⟨[⟨37,.ints .i64 R⟩,⟨30,.ints .i64 ([x]++List.take (↑r.length:Int).toNat (List.drop (Int.toNat 0) r))⟩,⟨30,.dead⟩,⟨18,.ints .i64 r⟩,⟨18,.ints .i64 (paQ a b i)⟩,⟨6,.cells [.bool false false,.nilslice]⟩,⟨5,.cells [.bool false false,.nilslice]⟩,⟨4,.cells [.bool true q,.lslice 1 b.length]⟩,⟨3,.cells [.bool true p,.lslice 0 a.length]⟩,⟨0,.rows .i64 b⟩,⟨0,.rows .i64 a⟩],11,44⟩⟩
def tkP (w:Bool):Option (Int×Int)->Patch
 | none=>⟨(6,.int true .i64 0) :: bS 7 68,[],[]⟩
 | some (r,n)=>match w with
  | false=>⟨(0,.islice true 9 0 (aA r.toNat).length) :: (6,.int true .i64 n) :: bS 7 68,[(8,.dead)],[.ints .i64 (aA r.toNat)]⟩
  | true=>⟨(0,.islice true 11 0 (aA r.toNat).length) :: (6,.int true .i64 n) :: bS 7 68,[(10,.dead)],[.ints .i64 (aA r.toNat)]⟩
def cTh:Ctx:=eZ cL2 (mi [(15,.bool false true)])
theorem ab5:CtxOk cTh:=bW mM _
noncomputable def tiS (p q:Bool) (a b:List Int) (i x:Int) (R:List Int) (o:Option (List Int)) (y:Option (Int×Int)):St:=ad6 cTh 300 lQ tkA (aJ (tkS p q a b i x R o) (tkP o.isSome y))
def apu (w:Bool) (y:Option (Int×Int)):Nat:=match w with
 | false=>(match y with|none=>8|some _=>9)
 | true=>(match y with|none=>10|some _=>11)
def tkD (R:List Int):Option (Int×Int)->List Int
 | none=>R
 | some (r,_)=>aA r.toNat
def tjP (id:Nat) (j c:Int) (d:List Int):Patch:=⟨(9,.int true .i64 c) :: (10,.int true .i64 j) :: (11,.any false) :: bS 40 32,[(id,.ints .i64 d)],[]⟩
def tjF (id:Nat) (d:List Int):Patch:=⟨(9,.any false) :: (10,.any false) :: (11,.any false) :: bS 40 32,[(id,.ints .i64 d)],[]⟩
def qH (b:List Int) (k j c:Int) (d:List Int):Int:=i64.wrap (i64.wrap (d.getD (0+j).toNat 0 - i64.wrap ((bif decide (j<b.length) then b.getD j.toNat 0 else 0)*k))+c)
def tjU (id:Nat) (D b:List Int):SumL (Int×Int×List Int):=
 {
  S:=fun (j,c,d)=>tjP id j c d
  I:=fun (j,c,d)=>tjI D b (tkK D b) j c d
  μ:=fun (j,_,_)=>(D.length - j).toNat
  F:=fun _=>(.exit 2,tjF id (cB D.length (val D - tkK D b*val b)))
  next:=fun (j,c,d)=>(i64.wrap (j+1),tjC (qH b (tkK D b) j c d),d.set (0+j).toNat (tjR (qH b (tkK D b) j c d)))
  ids:=fun _=>[]
  X:=fun (_,_,d) _=>some (tjF id d,[]) }
noncomputable def cTi (p q:Bool) (a b:List Int) (i x:Int) (R:List Int) (o:Option (List Int)) (y:Option (Int×Int)):Ctx:=
 bN cTh [dK 100 (tiS p q a b i x R o y).hp.clock lQ tkB (tiS p q a b i x R o y) (.exit 2) (tjF (apu o.isSome y) (cB (tkD R y).length (val (tkD R y) - tkK (tkD R y) b*val b)))]
def cTe:Ctx:=eZ cL2 (mi [(15,.bool false false)])
theorem Nk:CtxOk cTe:=bW mM _
def tkE (R b:List Int) (lt:Bool):Option (Int×Int):=match lt with
 | true=>none
 | false=>some (val R % val b,val R / val b)
def tkU (w lt:Bool) (R b:List Int):SumL (Option (Int×Int)):=
 {
  S:=tkP w
  I:=fun y=>match y with
   | none=>True
   | some (r,n)=>0<=r/\0<=n/\r+n*val b=val R/\lt=false
  μ:=fun y=>match y with
   | none=>(val R).toNat+1
   | some (r,_)=>r.toNat
  F:=fun _=>(.exit 0,tkP w (tkE R b lt))
  next:=fun y=>match y with
   | none=>some (val R - tkK R b*val b,i64.wrap (0+tkK R b))
   | some (r,n)=>some (r - tkK (aA r.toNat) b*val b,i64.wrap (n+tkK (aA r.toNat) b))
  ids:=fun y=>match w with
   | false=>(match y with|none=>[9]|some _=>[10])
   | true=>(match y with|none=>[11]|some _=>[12])
  X:=fun y _=>some (tkP w y,match w with
   | false=>(match y with|none=>[]|some _=>[9])
   | true=>(match y with|none=>[]|some _=>[11])) }
end
end Go.Proofs.YtbiiiloimbjpaaaGreatDoor.K
