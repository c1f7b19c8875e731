/- What is proved: TurnKeeps returns true, whatever the input (part 14). No conditions beyond those of the row. -/
import Derived.Test.YtmnhhlnbfkfkaaaGreatPF
import Derived.Test.YtmnhhlnbfkfkaaaGreatPG
import Derived.Test.YtmnhhlnbfkfkaaaGreatPH
import Derived.Test.YtmnhhlnbfkfkaaaGreatPI
import Derived.Test.YtmnhhlnbfkfkaaaGreatPJ
import Derived.Test.YtmnhhlnbfkfkaaaGreatPL
import Derived.Test.YtmnhhlnbfkfkaaaGreatPM
import Derived.KernelRfl
set_option linter.unusedVariables false
set_option linter.unusedSimpArgs false
set_option linter.unusedSectionVars false
namespace Go.Ln
open Go.Sn
theorem ac2:iR (fJ*((0*65536:Nat):Rat)) 0 1461501637330902918203684832716283019655932542976 0:=by
 rw [show ((0*65536:Nat):Rat)=0 by decide +kernel,Rat.mul_zero]
 exact ⟨⟨by decide +kernel,by decide +kernel⟩,⟨by decide +kernel,by decide +kernel⟩⟩
theorem YF:(∀ i,i<300->bN fJ 0 0 (0+i))/\(false=true->bN fJ 0 0 (0+300))/\(false=false->iR (fJ*(((0+300)*65536:Nat):Rat)) 491723767112793555795498612041774758507992057067 1376297487019907789050452753447037442090982847263 133958303):=
 jY sw.1 sw.2 Jk (xb:=0) (xj:=0) (b:=0) (n:=300) (by decide) (by decide +kernel) ac2 acU
theorem ac3:iR (fJ*((300*65536:Nat):Rat)) 491723767112793555795498612041774758507992057067 1376297487019907789050452753447037442090982847263 133958303:=YF.2.2 rfl
theorem YG:(∀ i,i<157->bN fJ 1099511627776 0 (300+i))/\(false=true->bN fJ 1099511627776 0 (300+157))/\(false=false->iR (fJ*(((300+157)*65536:Nat):Rat)) 729644950198729587218318087119915998754557351695 1266335375234540110609189336721958329832559696295 234910995):=
 jY sw.1 sw.2 Jk (xb:=1099511627776) (xj:=0) (b:=300) (n:=157) (by decide) (by decide +kernel) ac3 acV
theorem ac4:iR (fJ*((457*65536:Nat):Rat)) 729644950198729587218318087119915998754557351695 1266335375234540110609189336721958329832559696295 234910995:=YG.2.2 rfl
theorem YH:(∀ i,i<1->bN fJ 457 50048 (457+i))/\(false=true->bN fJ 457 50048 (457+1))/\(false=false->iR (fJ*(((457+1)*65536:Nat):Rat)) 731092931013171720070226495733466350965335483406 1265499965287822447093903958231062750521594118680 235627513):=
 jY sw.1 sw.2 Jk (xb:=457) (xj:=50048) (b:=457) (n:=1) (by decide) (by decide +kernel) ac4 acW
theorem ac5:iR (fJ*((458*65536:Nat):Rat)) 731092931013171720070226495733466350965335483406 1265499965287822447093903958231062750521594118680 235627513:=YH.2.2 rfl
theorem YI:(∀ i,i<300->bN fJ 1099511627776 0 (458+i))/\(false=true->bN fJ 1099511627776 0 (458+300))/\(false=false->iR (fJ*(((458+300)*65536:Nat):Rat)) 1114249708893877961256421979335504232843459056456 945745537737724831270633298625650855402991968426 496215464):=
 jY sw.1 sw.2 Jk (xb:=1099511627776) (xj:=0) (b:=458) (n:=300) (by decide) (by decide +kernel) ac5 acX
theorem ac6:iR (fJ*((758*65536:Nat):Rat)) 1114249708893877961256421979335504232843459056456 945745537737724831270633298625650855402991968426 496215464:=YI.2.2 rfl
theorem YJ:(∀ i,i<300->bN fJ 1099511627776 0 (758+i))/\(false=true->bN fJ 1099511627776 0 (758+300))/\(false=false->iR (fJ*(((758+300)*65536:Nat):Rat)) 1367487098036901671079540867482308849593552803733 515718986099526260404082505738404267698583895357 859324643):=
 jY sw.1 sw.2 Jk (xb:=1099511627776) (xj:=0) (b:=758) (n:=300) (by decide) (by decide +kernel) ac6 acY
theorem ac7:iR (fJ*((1058*65536:Nat):Rat)) 1367487098036901671079540867482308849593552803733 515718986099526260404082505738404267698583895357 859324643:=YJ.2.2 rfl
theorem YK:(∀ i,i<300->bN fJ 1099511627776 0 (1058+i))/\(false=true->bN fJ 1099511627776 0 (1058+300))/\(false=false->iR (fJ*(((1058+300)*65536:Nat):Rat)) 1461278102347580420390992143793243405547439853059 25560585289941313696877371623118747667185928943 1348183688):=
 jY sw.1 sw.2 Jk (xb:=1099511627776) (xj:=0) (b:=1058) (n:=300) (by decide) (by decide +kernel) ac7 acZ
theorem ac8:iR (fJ*((1358*65536:Nat):Rat)) 1461278102347580420390992143793243405547439853059 25560585289941313696877371623118747667185928943 1348183688:=YK.2.2 rfl
theorem YL:(∀ i,i<15->bN fJ 1099511627776 0 (1358+i))/\(false=true->bN fJ 1099511627776 0 (1358+15))/\(false=false->iR (fJ*(((1358+15)*65536:Nat):Rat)) 1461501556362323844055996107259669251754042917643 486488864438371563241217903659373086848347437 1376494256):=
 jY sw.1 sw.2 Jk (xb:=1099511627776) (xj:=0) (b:=1358) (n:=15) (by decide) (by decide +kernel) ac8 ac0
theorem ac9:iR (fJ*((1373*65536:Nat):Rat)) 1461501556362323844055996107259669251754042917643 486488864438371563241217903659373086848347437 1376494256:=YL.2.2 rfl
theorem ada:(∀ i,i<0->bN fJ 1373 19072 (1373+i))/\(true=true->bN fJ 1373 19072 (1373+0))/\(true=false->iR (fJ*(((1373+0)*65536:Nat):Rat)) 0 0 0):=
 jY sw.1 sw.2 Jk (xb:=1373) (xj:=19072) (b:=1373) (n:=0) (by decide) (by decide +kernel) ac9 ac1
theorem aa3 {u:Nat} (h0:0<u) (h1:u<90000000) (h2:u≠30000000):∃ k:Int,XB (fJ*(u:Rat)) k:=by
 have key:∀ b j,b=u / 65536->j=u % 65536->∃ xb xj,bN fJ xb xj b/\¬(b=xb/\j=xj):=by
  intro b j hb hj
  rcases Nat.lt_or_ge b 300 with g|g
  .refine ⟨0,0,?_,by omega⟩
   have:=YF.1 (b - 0) (by omega)
   rwa [show 0+(b - 0)=b by omega] at this
  rcases Nat.lt_or_ge b 457 with g|g
  .refine ⟨1099511627776,0,?_,by omega⟩
   have:=YG.1 (b - 300) (by omega)
   rwa [show 300+(b - 300)=b by omega] at this
  rcases Nat.lt_or_ge b 458 with g|g
  .refine ⟨457,50048,?_,by omega⟩
   have:=YH.1 (b - 457) (by omega)
   rwa [show 457+(b - 457)=b by omega] at this
  rcases Nat.lt_or_ge b 758 with g|g
  .refine ⟨1099511627776,0,?_,by omega⟩
   have:=YI.1 (b - 458) (by omega)
   rwa [show 458+(b - 458)=b by omega] at this
  rcases Nat.lt_or_ge b 1058 with g|g
  .refine ⟨1099511627776,0,?_,by omega⟩
   have:=YJ.1 (b - 758) (by omega)
   rwa [show 758+(b - 758)=b by omega] at this
  rcases Nat.lt_or_ge b 1358 with g|g
  .refine ⟨1099511627776,0,?_,by omega⟩
   have:=YK.1 (b - 1058) (by omega)
   rwa [show 1058+(b - 1058)=b by omega] at this
  rcases Nat.lt_or_ge b 1373 with g|g
  .refine ⟨1099511627776,0,?_,by omega⟩
   have:=YL.1 (b - 1358) (by omega)
   rwa [show 1358+(b - 1358)=b by omega] at this
  refine ⟨1373,19072,?_,by omega⟩
  have:=ada.2.1 rfl
  rwa [show 1373+0=b by omega] at this
 obtain ⟨xb,xj,k1,k2⟩:=key _ _ rfl rfl
 have:=k1 (u % 65536) (by omega) k2
 rwa [show u / 65536*65536+u % 65536=u by omega] at this
end Go.Ln
namespace Go.Dg
open Go Go.Eng Go.Sn Go.Ln
def ovB (m d:Int):Bool:=(m==4&&d==4294967296)||((m==4294967292&&d==4294967296)||(m==2147483648&&d==3221225472))
def quN (m d:Int):Bool:=decide (0<=m)&&(decide (m<=d)&&(decide (1<=d)&&(decide (d<=4294967296)&&((decide (d<1000000000)||ovB m d)&&(m==0||(m==d||(3*m==d||((d==360000000&&m.tmod 4==0)||aaY m d))))))))
theorem MV {m:Int} (h0:0<m) (h1:m<360000000) (h3:3*m≠360000000) (h4:m % 4=0):∃ k,Tu ((m:Rat) / ((360000000:Int):Rat)) k:=by
 obtain ⟨k,hk⟩:=aa3 (u:=(m / 4).toNat) (by omega) (by omega) (by omega)
 refine ⟨k,?_⟩
 have e:fJ*(((m / 4).toNat:Nat):Rat)=hp*((m:Rat) / ((360000000:Int):Rat)):=by
  have e1:(m:Rat)=4*(((m / 4).toNat:Nat):Rat):=by
   have:m=4*(((m / 4).toNat:Nat):Int):=by omega
   have h:=congrArg (fun z:Int=>(z:Rat)) this
   simp only [Rat.intCast_mul,Rat.intCast_natCast] at h
   rw [h]
   have:((4:Int):Rat)=4:=by decide +kernel
   rw [this]
  have e2:((360000000:Int):Rat)=360000000:=by decide +kernel
  rw [e1,e2]
  unfold fJ
  grind
 unfold XB at hk
 unfold Tu tru
 rw [<- e]; exact hk
theorem XD {m:Int} (h0:0<m) (h1:m<360000000) (h3:3*m≠360000000) (h4:m % 4=0):SinG m 360000000:=by
 obtain ⟨k,hk⟩:=MV h0 h1 h3 h4
 exact (Tv h0 h1 (by decide) hk).1
theorem TC {m d:Int} (h:quN m d=true):0<=m/\m<=d/\1<=d/\d<=4294967296/\(d<1000000000\/ovB m d=true)/\(m=0\/m=d\/3*m=d\/SinG m d):=by
 unfold quN at h
 simp only [Bool.and_eq_true,Bool.or_eq_true,decide_eq_true_eq,beq_iff_eq] at h
 obtain ⟨a,b,c,d',e,f⟩:=h
 refine ⟨a,b,c,d',e,?_⟩
 rcases f with f|f|f|f|f
 .exact .inl f
 .exact .inr (.inl f)
 .exact .inr (.inr (.inl f))
 .obtain ⟨rfl,f⟩:=f
  by_cases z:m=0
  .exact .inl z
  by_cases z1:m=360000000
  .exact .inr (.inl z1)
  by_cases z3:3*m=360000000
  .exact .inr (.inr (.inl z3))
  exact .inr (.inr (.inr (XD (by omega) (by omega) z3 (by rw [Int.tmod_eq_emod_of_nonneg a] at f; exact f))))
 .exact .inr (.inr (.inr (Xw f)))
def wr (x:Int):Int:=IntKind.i64.wrap x
def siR (n d:Int):Int:=(wr (n.tmod d+d)).tmod d
def siQ (n d:Int):Int:=wr ((wr (4*siR n d)).tdiv d)
def siM (n d:Int):Int:=wr (wr (4*siR n d) - wr (siQ n d*d))
def siK (n d more:Int):Int:=(wr (siQ n d+more)).tmod 4
def siA (q n d:Int):Int:=bif q==0||q==2 then siM n d else wr (d - siM n d)
def snR (n d:Int):Int:=n % d
def snQ (n d:Int):Int:=4*snR n d / d
def snM (n d:Int):Int:=4*snR n d % d
def snK (n d more:Int):Int:=(snQ n d+more) % 4
def snA (more n d:Int):Int:=bif snK n d more==0||snK n d more==2 then snM n d else d - snM n d
def sS (d:Int):Bool:=bif decide (d<1) then true else decide (d>4294967296)
def snN (more n d:Int):Bool:=sS d||quN (snA more n d) d
def iF (more n d:Int):Int:=bif sS d then 0 else bif snK n d more==0||snK n d more==1 then iC (snA more n d) d else -iD (snA more n d) d
def iG (more n d:Int):Int:=bif sS d then 0 else bif snK n d more==0||snK n d more==1 then iD (snA more n d) d else -iC (snA more n d) d
def snE (d:Int):Int:=bif sS d then 2 else 0
theorem qR {x:Int} (h1:-9223372036854775808<=x) (h2:x<=9223372036854775807):wr x=x:=by
 exact iw h1 (by omega)
theorem TD {n d:Int} (h0:1<=d):(n.tmod d+d).tmod d=n % d/\0<=n.tmod d+d/\n.tmod d+d<2*d:=by
 have e0:0<=n % d:=Int.emod_nonneg _ (by omega)
 have e1:n % d<d:=Int.emod_lt_of_pos _ (by omega)
 have h:n.tmod d=n % d\/n.tmod d=n % d - d:=by
  rw [Int.tmod_eq_emod]
  split
  .left; omega
  .right; omega
 refine ⟨?_,by omega,by omega⟩
 rw [Int.tmod_eq_emod_of_nonneg (by omega)]
 rcases h with h|h
 .rw [h,Int.add_emod_right,Int.emod_emod_of_dvd _ (Int.dvd_refl d)]
 .rw [h,Int.sub_add_cancel,Int.emod_emod_of_dvd _ (Int.dvd_refl d)]
theorem Jl {n d:Int} (h0:1<=d) (h1:d<=4294967296):siR n d=snR n d/\siQ n d=snQ n d/\siM n d=snM n d/\0<=snQ n d/\snQ n d<=3/\0<=snM n d/\snM n d<d:=by
 obtain ⟨t1,t2,t3⟩:=TD (n:=n) h0
 have r0:0<=snR n d:=Int.emod_nonneg _ (by omega)
 have r1:snR n d<d:=Int.emod_lt_of_pos _ (by omega)
 have eR:siR n d=snR n d:=by
  unfold siR
  rw [qR (by omega) (by omega),t1]; rfl
 have e4:wr (4*snR n d)=4*snR n d:=qR (by omega) (by omega)
 have q0:0<=snQ n d:=Int.ediv_nonneg (by omega) (by omega)
 have q3:snQ n d<4:=(Int.ediv_lt_iff_lt_mul (by omega)).2 (by omega)
 have eQ:siQ n d=snQ n d:=by
  unfold siQ
  rw [eR,e4,Int.tdiv_eq_ediv_of_nonneg (by omega)]
  exact qR (by show _<=snQ n d; omega) (by show snQ n d<=_; omega)
 have m0:0<=snM n d:=Int.emod_nonneg _ (by omega)
 have m1:snM n d<d:=Int.emod_lt_of_pos _ (by omega)
 have eM:siM n d=snM n d:=by
  have hd:4*snR n d=d*snQ n d+snM n d:=(Int.mul_ediv_add_emod _ _).symm
  have qd0:0<=d*snQ n d:=Int.mul_nonneg (by omega) q0
  unfold siM
  rw [eR,e4,eQ,Int.mul_comm (snQ n d) d,qR (x:=d*snQ n d) (by omega) (by omega),qR (by omega) (by omega)]
  omega
 exact ⟨eR,eQ,eM,q0,by omega,m0,m1⟩
theorem afy {n d more:Int} (h0:1<=d) (h1:d<=4294967296) (h2:0<=more) (h3:more<=1):siK n d more=snK n d more/\0<=snK n d more/\snK n d more<=3:=by
 obtain ⟨_,e,_,q0,q3,_,_⟩:=Jl (n:=n) h0 h1
 refine ⟨?_,Int.emod_nonneg _ (by decide),by have:=Int.emod_lt_of_pos (snQ n d+more) (b:=4) (by decide); unfold snK; omega⟩
 unfold siK snK
 rw [e,qR (by omega) (by omega),Int.tmod_eq_emod_of_nonneg (by omega)]
theorem afz {n d more:Int} (h0:1<=d) (h1:d<=4294967296):siA (snK n d more) n d=snA more n d:=by
 obtain ⟨_,_,e,_,_,m0,m1⟩:=Jl (n:=n) h0 h1
 unfold siA snA
 rw [e,qR (by omega) (by omega)]
theorem YM {m d:Int} (h:quN m d=true):0<=iC m d/\iC m d<=13000000000/\0<=iD m d/\iD m d<=13000000000:=by
 obtain ⟨_,_,_,_,_,g⟩:=TC h
 unfold iC iD
 by_cases z:m=0
 .rw [if_pos z,if_pos z]; omega
 by_cases z1:m=d
 .rw [if_neg z,if_neg z,if_pos z1,if_pos z1]; omega
 by_cases z3:3*m=d
 .rw [if_neg z,if_neg z,if_neg z1,if_neg z1,if_pos z3,if_pos z3]; omega
 rw [if_neg z,if_neg z,if_neg z1,if_neg z1,if_neg z3,if_neg z3]
 rcases g with g|g|g|g
 .exact absurd g z
 .exact absurd g z1
 .exact absurd g z3
 have p:=gQ
 have:=g.far
 have:=g.hi
 have a:0<=lN m d:=Int.ediv_nonneg (Int.mul_nonneg (by omega) (by decide)) (by omega)
 have b:lN m d<=12884901888:=by
  refine Int.ediv_le_of_le_mul p ?_
  have e:(12884901888:Int)*PP=3*PP*4294967296:=by decide
  rw [e]
  exact Int.mul_le_mul_of_nonneg_right (by omega) (by decide)
 omega
end Go.Dg
namespace Go.Proofs.YtmnhhlnbfkfkaaaGreat.K
open Go Go.Eng Go.Dg Go.Ar Go.Vc
noncomputable section
def aa4:List Sh:=[.i .i64,.i .i64]
def adb (N:Int->Int->Bool) (V:Int->Int->Int×Int):aM:=aW aa4 (some fun|[.n m,.n d]=>N m d|_=>false) fun
 | [.n m,.n d]=>.a [.n .i64 (V m d).1,.n .i64 (V m d).2]
 | _=>.u []
theorem aa5 {m d:Int} (h:ovB m d=true):OvC (aa (RG*m).toNat) (aa d.toNat):=by
 have dec:∀ {l:List Int},(∀ x∈l,0<=x/\x<1000000000)->Dig l:=fun h x hx=>h x hx
 unfold ovB at h
 simp only [Bool.or_eq_true,Bool.and_eq_true,beq_iff_eq] at h
 have key:∀ {l:List Int} {v:Int},val l=v->(∀ x∈l,0<=x/\x<1000000000)->Top l->aa v.toNat=l:=fun {l v} e h t=>by rw [<- e]; exact nK h t
 rcases h with ⟨rfl,rfl⟩|⟨rfl,rfl⟩|⟨rfl,rfl⟩
 .exact .inl ⟨key (l:=oA1) (by decide) (by decide) (by unfold Top; decide),key (l:=oB1) (by decide) (by decide) (by unfold Top; decide)⟩
 .exact .inr (.inl ⟨key (l:=oA2) (by decide) (by decide) (by unfold Top; decide),key (l:=oB2) (by decide) (by decide) (by unfold Top; decide)⟩)
 .exact .inr (.inr ⟨key (l:=oA3) (by decide) (by decide) (by unfold Top; decide),key (l:=oB3) (by decide) (by decide) (by unfold Top; decide)⟩)
theorem zI {x:Option CR} {nd:Nd} {l:List AV} {h:Hp} (e:x=some ⟨nd,[⟨.tt,.agg l,h⟩]⟩):fF x=some (nd,.agg l):=by rw [e]; rfl
theorem aa6:PureOk Tryz.prog 76 (adb quN fun m d=>(iC m d,iD m d)):=by
 refine num_ok' (fun xs hk hN=>?_) ⟨_,Tryz.func76,rfl⟩
 obtain ⟨m,_,rfl,h1⟩:=kn hk; obtain ⟨d,_,rfl,h2⟩:=kn h1; obtain rfl:=k0 h2
 have hN:quN m d=true:=hN
 obtain ⟨m0,m1,d0,d1,dc,h⟩:=TC hN
 have dc:d<1000000000\/OvC (aa (RG*m).toNat) (aa d.toNat):=dc.imp id aa5
 have w3:IntKind.i64.wrap (3*m)=3*m:=iw (by omega) (by omega)
 by_cases hz:m=0
 .refine ⟨cQu [(14,true)],300,.p _,_,FJ _,rfl,fun _=>rfl,rfl,zI (afs m d),beq_iff_eq.2 hz,fun τ W h=>?_⟩
  show VRel τ (.agg [.int true .i64 (iC m d),.int true .i64 (iD m d)]) W
  unfold iC iD
  rw [if_pos hz,if_pos hz]; exact h
 by_cases hd:m=d
 .refine ⟨cQu [(14,false),(19,true)],300,.p _,_,FJ _,rfl,fun _=>rfl,rfl,zI (aft m d),⟨beq_eq_false_iff_ne.2 hz,beq_iff_eq.2 hd⟩,fun τ W h=>?_⟩
  show VRel τ (.agg [.int true .i64 (iC m d),.int true .i64 (iD m d)]) W
  unfold iC iD
  rw [if_neg hz,if_neg hz,if_pos hd,if_pos hd]; exact h
 by_cases h3:3*m=d
 .refine ⟨cQu [(14,false),(19,false),(25,true)],300,.p _,_,FJ _,rfl,fun _=>rfl,rfl,zI (afu m d),⟨beq_eq_false_iff_ne.2 hz,beq_eq_false_iff_ne.2 hd,?_⟩,fun τ W h=>?_⟩
  .rw [w3]; exact beq_iff_eq.2 h3
  show VRel τ (.agg [.int true .i64 (iC m d),.int true .i64 (iD m d)]) W
  unfold iC iD
  rw [if_neg hz,if_neg hz,if_neg hd,if_neg hd,if_pos h3,if_pos h3]; exact h
 have g:SinG m d:=by
  rcases h with h|h|h|h
  .exact absurd h hz
  .exact absurd h hd
  .exact absurd h h3
  .exact h
 have p:=gQ
 have hm:0<m:=by omega
 have fr:=g.far
 have hi:=g.hi
 obtain ⟨e1,e2⟩:=FL hm m1
 obtain ⟨e3,e4⟩:=Xv hm m1 (by omega)
 have er:val (aa RGT.toNat)=RG:=dv (by decide)
 have em:val (aa m.toNat)=m:=dv m0
 have ed:val (aa d.toNat)=d:=dv (by omega)
 have e8:val [100000000]=100000000:=ww _
 have hr:0<RG:=by decide
 have ea:val (aa (RG*m).toNat)=RG*m:=dv (Int.mul_nonneg (by omega) m0)
 have lr:(aa RGT.toNat).length<=6:=ky (a:=RGT) (by decide) (by decide)
 have lm:(aa m.toNat).length<=2:=jL m0 (by rw [show pw 2=1000000000000000000 from by decide]; omega)
 have ld0:0<(aa d.toNat).length:=Je (by omega)
 have la:(aa (RG*m).toNat).length<=7:=jL (Int.mul_nonneg (by omega) m0) (by
  have:RG*m<=RG*4294967296:=Int.mul_le_mul_of_nonneg_left (by omega) (by omega)
  have e:RG*4294967296<pw 7:=by decide
  omega)
 have ls:(quS m d).length<=6:=by rw [e3]; exact ky (by omega) (by omega)
 have ls0:0<(quS m d).length:=by rw [e3]; exact Je (by omega)
 have dS:Dig (quS m d):=by rw [e3]; exact aH _
 have tS:Top (quS m d):=by rw [e3]; exact qH _
 have d8:Dig [100000000]:=wz (by decide) (by decide)
 have t8:Top [100000000]:=by have:=qH 100000000; rwa [show aa 100000000=[100000000] from by rw [gG (by decide),show 100000000 / 1000000000=0 from rfl,fT]; rfl] at this
 have hda:d<=RG*m:=by
  have:RG*1<=RG*m:=Int.mul_le_mul_of_nonneg_left (by omega) (by omega)
  have e:(4294967296:Int)<RG:=by decide
  omega
 have hc:¬ sj (quS m d) [100000000]<=0:=fun hh=>by
  have:=(WP dS d8 tS t8 (by omega) (by show 1<=500000; omega)).2 (by rw [e4,e8]; omega)
  omega
 have vm:val (aa (val (quS m d) - val [100000000]).toNat)=nM m d - 100000000:=by rw [e4,e8]; exact dv (by omega)
 have vp:val (aa (val (quS m d)+val [100000000]).toNat)=nM m d+100000000:=by rw [e4,e8]; exact dv (by omega)
 have dm:DwD (aa (val (quS m d) - val [100000000]).toNat):=by rw [e4,e8]; exact Tf (by omega) (by omega)
 have dp:DwD (aa (val (quS m d)+val [100000000]).toNat):=by
  rw [e4,e8]
  refine Tf (by omega) ?_
  have:(100000000:Int)<PP:=by decide
  omega
 obtain ⟨lo0,lo1⟩:=Tg g
 have hov:(Dig (aa (RG*m).toNat)/\Dig (aa d.toNat)/\Top (aa (RG*m).toNat)/\Top (aa d.toNat)/\(aa (RG*m).toNat).length<=500000/\(aa d.toNat).length=1/\0<d/\d<=RG*m)\/OvC (aa (RG*m).toNat) (aa d.toNat):=by
  rcases dc with dc|dc
  .have ld:(aa d.toNat).length<=1:=jL (by omega) (by rw [show pw 1=1000000000 from by decide]; omega)
   exact .inl ⟨aH _,aH _,qH _,qH _,by omega,by omega,by omega,hda⟩
  .exact .inr dc
 refine ⟨cQu [(14,false),(19,false),(25,false),(55,false),(67,false)],300,.p _,_,FJ _,rfl,fun _=>rfl,rfl,zI (afr m d),?_,fun τ W h=>?_⟩
 .unfold MK
  rw [vm,vp,er,em,ea,ed]
  refine ⟨⟨beq_eq_false_iff_ne.2 hz,beq_eq_false_iff_ne.2 hd,by rw [w3]; exact beq_eq_false_iff_ne.2 h3⟩,⟨⟨Te,by decide,by decide⟩,⟨hm,by omega⟩,⟨⟨rfl,rfl⟩,aH _,aH _,by omega⟩,⟨by omega,by omega⟩,⟨rfl,rfl⟩,hov⟩,⟨rfl,rfl,acL hm m1 g⟩,⟨⟨rfl,by show _<=_; omega,by show 1<=500000; omega⟩,decide_eq_false hc⟩,⟨⟨rfl,dS,d8,ls0,by omega,by show 1<=_; omega,by rw [e4,e8]; omega⟩,rfl,rfl,dm⟩,⟨rfl,dS,d8,.inl ls0,by omega,by show 1<=_; omega⟩,⟨rfl,rfl,dp⟩,Mx.2 g.same⟩
 .show VRel τ (.agg [.int true .i64 (iC m d),.int true .i64 (iD m d)]) W
  unfold iC iD
  rw [if_neg hz,if_neg hz,if_neg hd,if_neg hd,if_neg h3,if_neg h3]
  have e5:KL m d=.agg [.int true .i64 (lN m d),.int true .i64 (lN m d+1)]:=by
   unfold KL
   rw [vm]
   show AV.agg [.int true .i64 (lN m d),.int true .i64 (IntKind.i64.wrap (lN m d+1))]=_
   rw [iw (by omega) (by omega)]
  rw [<- e5]; exact h
def adc (N:Int->Int->Bool) (V:Int->Int->Int×Int):List (FuncId×aM):=[(76,adb N V)]
def cSi (N:Int->Int->Bool) (V:Int->Int->Int×Int) (b:Bool) (q:Int):Ctx:=fZ (mkC Tryz.prog (adc N V) ext) (hZ [(15,.bool false b),(32,.int false .i64 q)])
theorem TE (b:Bool) (q:Int):CtxOk (cSi quN (fun m d=>(iC m d,iD m d)) b q):=bU (jd dL (fun x hx=>by
 rcases List.mem_singleton.1 hx with rfl
 exact aa6) jF) _
def BL (N:Int->Int->Bool) (L H:Int->Int->Int) (E:Int->Int):aM:=aW aa4 (some fun|[.n m,.n d]=>N m d|_=>false) fun
 | [.n m,.n d]=>.u [.a [.n .i64 (L m d),.n .i64 (H m d)],.n .i64 (E d)]
 | _=>.u []
def siN (N:Int->Int->Bool) (n d more q:Int):Prop:=((decide (d<1)=true->true=false)/\(decide (d<1)=false->decide (d>4294967296)=false))/\(d≠0/\d≠0)/\d≠0/\siK n d more=q/\N (siA q n d) d=true
def siL (V:Int->Int->Int×Int) (q n d:Int):Int:=bif q==0||q==1 then (V (siA q n d) d).1 else wr (0 - (V (siA q n d) d).2)
def siH (V:Int->Int->Int×Int) (q n d:Int):Int:=bif q==0||q==1 then (V (siA q n d) d).2 else wr (0 - (V (siA q n d) d).1)
def siO (V:Int->Int->Int×Int) (q n d:Int):AV:=.tuple [.agg [.int true .i64 (siL V q n d),.int true .i64 (siH V q n d)],.int false .i64 0]
def siX (f:FuncId) (N:Int->Int->Bool) (V:Int->Int->Int×Int) (n d more q:Int):Prop:=fF ((run (cSi N V false q) 300).call f [.int true .i64 n,.int true .i64 d] ⟨[],0,1⟩)=some (.p (siN N n d more q),siO V q n d)
theorem aa7 (N:Int->Int->Bool) (V:Int->Int->Int×Int) (n d:Int):siX 8 N V n d 0 0:=by unfold siX; kernel_rfl
theorem aa8 (N:Int->Int->Bool) (V:Int->Int->Int×Int) (n d:Int):siX 8 N V n d 0 1:=by unfold siX; kernel_rfl
theorem aa9 (N:Int->Int->Bool) (V:Int->Int->Int×Int) (n d:Int):siX 8 N V n d 0 2:=by unfold siX; kernel_rfl
theorem aba (N:Int->Int->Bool) (V:Int->Int->Int×Int) (n d:Int):siX 8 N V n d 0 3:=by unfold siX; kernel_rfl
theorem ade (N:Int->Int->Bool) (V:Int->Int->Int×Int) (n d:Int):siX 10 N V n d 1 0:=by unfold siX; kernel_rfl
theorem adf (N:Int->Int->Bool) (V:Int->Int->Int×Int) (n d:Int):siX 10 N V n d 1 1:=by unfold siX; kernel_rfl
theorem adg (N:Int->Int->Bool) (V:Int->Int->Int×Int) (n d:Int):siX 10 N V n d 1 2:=by unfold siX; kernel_rfl
theorem adh (N:Int->Int->Bool) (V:Int->Int->Int×Int) (n d:Int):siX 10 N V n d 1 3:=by unfold siX; kernel_rfl
def siB (d:Int):Prop:=(decide (d<1)=true->true=true)/\(decide (d<1)=false->decide (d>4294967296)=true)
theorem abb (N:Int->Int->Bool) (V:Int->Int->Int×Int) (n d:Int):fF ((run (cSi N V true 0) 300).call 8 [.int true .i64 n,.int true .i64 d] ⟨[],0,1⟩)=some (.p (siB d),.tuple [.agg [.int false .i64 0,.int false .i64 0],.int false .i64 2]):=by kernel_rfl
theorem adi (N:Int->Int->Bool) (V:Int->Int->Int×Int) (n d:Int):fF ((run (cSi N V true 0) 300).call 10 [.int true .i64 n,.int true .i64 d] ⟨[],0,1⟩)=some (.p (siB d),.tuple [.agg [.int false .i64 0,.int false .i64 0],.int false .i64 2]):=by kernel_rfl
theorem TG {f:FuncId} {more:Int} (hm:0<=more/\more<=1) (fn:∃ fn:Func,Tryz.prog.funcs[f]?=some fn/\fn.body.isSome=true)
  (h:∀ n d q,0<=q->q<=3->siX f quN (fun m d=>(iC m d,iD m d)) n d more q)
  (hb:∀ n d,fF ((run (cSi quN (fun m d=>(iC m d,iD m d)) true 0) 300).call f [.int true .i64 n,.int true .i64 d] ⟨[],0,1⟩)=some (.p (siB d),.tuple [.agg [.int false .i64 0,.int false .i64 0],.int false .i64 2])):
  PureOk Tryz.prog f (BL (snN more) (iF more) (iG more) snE):=by
 refine num_ok' (fun xs hk hN=>?_) fn
 obtain ⟨n,_,rfl,h1⟩:=kn hk; obtain ⟨d,_,rfl,h2⟩:=kn h1; obtain rfl:=k0 h2
 have hN:snN more n d=true:=hN
 cases hB:sS d with
 | true=>
  refine ⟨_,300,_,_,TE true 0,rfl,fun _=>rfl,rfl,hb n d,?_,fun τ W h=>?_⟩
  .refine ⟨fun _=>rfl,fun h=>?_⟩
   unfold sS at hB
   rw [h] at hB; exact hB
  .show VRel τ (.tuple [.agg [.int true .i64 (iF more n d),.int true .i64 (iG more n d)],.int true .i64 (snE d)]) W
   have e:iF more n d=0/\iG more n d=0/\snE d=2:=by
    unfold iF iG snE
    rw [hB]; exact ⟨rfl,rfl,rfl⟩
   rw [e.1,e.2.1,e.2.2]; exact h
 | false=>
  have hd:decide (d<1)=false/\decide (d>4294967296)=false:=by
   unfold sS at hB
   cases h3:decide (d<1) with
   | true=>rw [h3] at hB; cases hB
   | false=>rw [h3] at hB; exact ⟨rfl,hB⟩
  have d0:1<=d:=by have:=of_decide_eq_false hd.1; omega
  have d1:d<=4294967296:=by have:=of_decide_eq_false hd.2; omega
  have hq:quN (snA more n d) d=true:=by
   unfold snN at hN
   rw [hB] at hN; exact hN
  obtain ⟨k1,k2,k3⟩:=afy (n:=n) d0 d1 hm.1 hm.2
  have ea:=afz (n:=n) (more:=more) d0 d1
  obtain ⟨b1,b2,b3,b4⟩:=YM hq
  refine ⟨_,300,_,_,TE false (snK n d more),rfl,fun _=>rfl,rfl,h n d _ k2 k3,?_,fun τ W h=>?_⟩
  .refine ⟨⟨fun h=>(by rw [hd.1] at h; cases h),fun _=>hd.2⟩,⟨by omega,by omega⟩,by omega,k1,?_⟩
   rw [ea]; exact hq
  .show VRel τ (.tuple [.agg [.int true .i64 (iF more n d),.int true .i64 (iG more n d)],.int true .i64 (snE d)]) W
   have e:iF more n d=siL (fun m d=>(iC m d,iD m d)) (snK n d more) n d/\iG more n d=siH (fun m d=>(iC m d,iD m d)) (snK n d more) n d/\snE d=0:=by
    unfold iF iG snE siL siH
    rw [hB,ea]
    dsimp only
    rw [qR (x:=0 - iD (snA more n d) d) (by omega) (by omega),qR (x:=0 - iC (snA more n d) d) (by omega) (by omega),Int.zero_sub,Int.zero_sub]
    exact ⟨rfl,rfl,rfl⟩
   rw [e.1,e.2.1,e.2.2]; exact h
theorem q4 {q:Int} (h0:0<=q) (h1:q<=3):q=0\/q=1\/q=2\/q=3:=by omega
theorem MW:PureOk Tryz.prog 8 (BL (snN 0) (iF 0) (iG 0) snE):=TG (by decide) ⟨_,Tryz.func8,rfl⟩ (fun n d q h0 h1=>by
 rcases q4 h0 h1 with rfl|rfl|rfl|rfl
 .exact aa7 _ _ n d
 .exact aa8 _ _ n d
 .exact aa9 _ _ n d
 .exact aba _ _ n d) (fun n d=>abb _ _ n d)
theorem DK:PureOk Tryz.prog 10 (BL (snN 1) (iF 1) (iG 1) snE):=TG (by decide) ⟨_,Tryz.func10,rfl⟩ (fun n d q h0 h1=>by
 rcases q4 h0 h1 with rfl|rfl|rfl|rfl
 .exact ade _ _ n d
 .exact adf _ _ n d
 .exact adg _ _ n d
 .exact adh _ _ n d) (fun n d=>adi _ _ n d)
end
end Go.Proofs.YtmnhhlnbfkfkaaaGreat.K
namespace Go.Vc
open Go Go.Eng Go.Ar Go.Dg
structure RF where
 n:Int->Int->Bool
 ab:Int->Int->Mat
 mv:Mat->Mat->Mat
 mo:Mat->Mat->Int
def eqU (m:Mat):Bool:=m.x.a==4294967296&&(m.x.b==4294967296&&(m.x.c==0&&(m.x.d==0&&(m.x.e==0&&(m.x.f==0&&(m.y.a==0&&(m.y.b==0&&(m.y.c==4294967296&&(m.y.d==4294967296&&(m.y.e==0&&(m.y.f==0&&(m.z.a==0&&(m.z.b==0&&(m.z.c==0&&(m.z.d==0&&(m.z.e==4294967296&&(m.z.f==4294967296&&true)))))))))))))))))
def abd (b:Bool) (v w:Ve):Ve:=⟨bif b then v.a else w.a,bif b then v.b else w.b,bif b then v.c else w.c,bif b then v.d else w.d,bif b then v.e else w.e,bif b then v.f else w.f⟩
def XE (b:Bool) (v w:Mat):Mat:=⟨abd b v.x w.x,abd b v.y w.y,abd b v.z w.z⟩
section
variable (R:RF) (x y z:Int)
def qU (x:Int) (b:Bool):Prop:=(decide (x < -360000000)=true->true=b)/\(decide (x < -360000000)=false->decide (x>360000000)=b)
def ro1:Mat:=XE (eqU (R.ab 0 x)) (R.ab 1 y) (R.mv (R.ab 1 y) (R.ab 0 x))
def ro2:Mat:=XE (eqU (ro1 R x y)) (R.ab 2 z) (R.mv (R.ab 2 z) (ro1 R x y))
def abe:Prop:=qU x false/\R.n 0 x=true
def adj:Prop:=qU y false/\R.n 1 y=true/\maP (R.ab 0 x)
def afA:Prop:=qU z false/\R.n 2 z=true/\maP (ro1 R x y)
end
def jH (x:Int):Bool:=bif decide (x < -360000000) then true else decide (x>360000000)
theorem KO {x:Int}:qU x (jH x):=by
 unfold qU jH
 cases decide (x < -360000000) <;> simp
def KP (sl sh cl ch:Int) (m:Sp) (a:Int):Mat:=
 bif a==0 then ⟨⟨4294967296,4294967296,0,0,0,0⟩,⟨0,0,cl,ch,m.lo,m.hi⟩,⟨0,0,sl,sh,cl,ch⟩⟩
 else bif a==1 then ⟨⟨cl,ch,0,0,sl,sh⟩,⟨0,0,4294967296,4294967296,0,0⟩,⟨m.lo,m.hi,0,0,cl,ch⟩⟩
 else ⟨⟨cl,ch,m.lo,m.hi,0,0⟩,⟨sl,sh,cl,ch,0,0⟩,⟨0,0,0,0,4294967296,4294967296⟩⟩
structure AF where
 n0:Int->Int->Bool
 n1:Int->Int->Bool
 sl:Int->Int->Int
 sh:Int->Int->Int
 cl:Int->Int->Int
 ch:Int->Int->Int
 ng:Int->Int->Sp
def abA (F:AF) (a n:Int):Mat:=KP (F.sl n 360000000) (F.sh n 360000000) (F.cl n 360000000) (F.ch n 360000000) (F.ng (F.sl n 360000000) (F.sh n 360000000)) a
def abN (F:AF) (n a i j:Int):Prop:=F.n0 n 360000000=true/\F.n1 n 360000000=true/\((wr (a+1)).tmod 3=i/\(wr (a+2)).tmod 3=j)/\((F.cl n 360000000=F.cl n 360000000/\F.ch n 360000000=F.ch n 360000000)/\(F.sl n 360000000=F.sl n 360000000/\F.sh n 360000000=F.sh n 360000000)/\(F.ng (F.sl n 360000000) (F.sh n 360000000)).lo=(F.ng (F.sl n 360000000) (F.sh n 360000000)).lo/\(F.ng (F.sl n 360000000) (F.sh n 360000000)).hi=(F.ng (F.sl n 360000000) (F.sh n 360000000)).hi)/\((F.cl n 360000000=F.cl n 360000000/\F.ch n 360000000=F.ch n 360000000)/\F.sl n 360000000=F.sl n 360000000/\F.sh n 360000000=F.sh n 360000000)/\F.cl n 360000000=F.cl n 360000000/\F.ch n 360000000=F.ch n 360000000
theorem wD (more n:Int):snN more n 360000000=true:=by
 obtain ⟨_,_,_,_,_,m0,m1⟩:=Jl (n:=n) (d:=360000000) (by decide) (by decide)
 have e4:snM n 360000000 % 4=0:=by
  unfold snM
  omega
 have ha:0<=snA more n 360000000/\snA more n 360000000<=360000000/\snA more n 360000000 % 4=0:=by
  unfold snA
  cases snK n 360000000 more==0||snK n 360000000 more==2 with
  | true=>simp only [cond_true]; omega
  | false=>simp only [cond_false]; omega
 unfold snN quN
 have t:(snA more n 360000000).tmod 4=0:=by rw [Int.tmod_eq_emod_of_nonneg ha.1]; exact ha.2.2
 simp [ha.1,ha.2.1,t]
def af0:AF:=⟨snN 0,snN 1,iF 0,iG 0,iF 1,iG 1,Ci⟩
def axN (a _n:Int):Bool:=a==0||(a==1||a==2)
end Go.Vc
namespace Go.Rd
open Go Go.Eng Go.Ar
structure Bd (s:Sp) (M:Int):Prop where
 e:s.e=0
 lo:-M<=s.lo
 le:s.lo<=s.hi
 hi:s.hi<=M
structure En (s:Sp) (N D:Int):Prop where
 lo:s.lo*D<=N
 hi:N<=s.hi*D
theorem abf {n d:Int} (hd:0<d):rd n d false*d<=n/\n<rd n d false*d+d:=by
 have h1:=Int.mul_ediv_add_emod n d
 have h2:=Int.emod_nonneg n (show d≠0 by omega)
 have h3:=Int.emod_lt_of_pos n hd
 show n / d*d<=n/\n<n / d*d+d
 rw [Int.mul_comm] at h1
 omega
theorem adk {n d:Int} (hd:0<d):n<=rd n d true*d/\rd n d true*d<n+d:=by
 have:=abf (n:=-n) hd
 have e:rd n d true=-(rd (-n) d false):=rfl
 rw [e,Int.neg_mul]
 omega
theorem TH {n d M:Int} (hd:0<d) (h:n<=M*d):rd n d true<=M:=by
 have:=(adk (n:=n) hd).2
 rcases Int.lt_or_le M (rd n d true) with c|c
 .have:(M+1)*d<=rd n d true*d:=Int.mul_le_mul_of_nonneg_right (by omega) (by omega)
  rw [Int.add_mul] at this
  omega
 .exact c
theorem TI {n d M:Int} (hd:0<d) (h:M*d<=n):M<=rd n d false:=by
 have:=(abf (n:=n) hd).2
 rcases Int.lt_or_le (rd n d false) M with c|c
 .have:(rd n d false+1)*d<=M*d:=Int.mul_le_mul_of_nonneg_right (by omega) (by omega)
  rw [Int.add_mul] at this
  omega
 .exact c
theorem wE {a b:Int} (hb:0<=b) (h:a*a<=b*b):a<=b:=by
 rcases Int.lt_or_le b a with c|c
 .have:=Int.mul_le_mul (show b+1<=a by omega) (show b+1<=a by omega) (show 0<=b+1 by omega) (show 0<=a by omega)
  rw [Int.add_mul,Int.mul_add] at this
  omega
 .exact c
theorem BM {a b:Int} (hb:0<=b) (h:a*a<b*b):a<b:=by
 rcases Int.lt_or_le a b with c|c
 .exact c
 .have:=Int.mul_le_mul c c hb (Int.le_trans hb c)
  omega
theorem MX {a:Int} (h:fU a=true):0<=rtV a true/\a*4294967296<=rtV a true*rtV a true/\(rtV a true=sqR a\/rtV a true=sqR a+1/\sqR a*sqR a<a*4294967296):=by
 obtain ⟨q0,q1,q2,_⟩:=fB h
 unfold rtV
 cases hh:sqR a*sqR a==a*4294967296 with
 | true=>
  have:=of_decide_eq_true (show decide (sqR a*sqR a=a*4294967296)=true from hh)
  exact ⟨q0,by show _<=sqR a*sqR a; omega,.inl rfl⟩
 | false=>
  have:=of_decide_eq_false (show decide (sqR a*sqR a=a*4294967296)=false from hh)
  exact ⟨by show 0<=sqR a+1; omega,by show _<=(sqR a+1)*(sqR a+1); omega,.inr ⟨rfl,by omega⟩⟩
theorem mn4 (p q r s:Int):mn (mn (mn p q) r) s<=p/\mn (mn (mn p q) r) s<=q/\mn (mn (mn p q) r) s<=r/\mn (mn (mn p q) r) s<=s/\(∀ m,m<=p->m<=q->m<=r->m<=s->m<=mn (mn (mn p q) r) s):=by
 have h1:=l7 p q
 have h2:=l7 (mn p q) r
 have h3:=l7 (mn (mn p q) r) s
 refine ⟨by omega,by omega,by omega,by omega,fun m _ _ _ _=>by omega⟩
theorem mx4 (p q r s:Int):p<=mx (mx (mx p q) r) s/\q<=mx (mx (mx p q) r) s/\r<=mx (mx (mx p q) r) s/\s<=mx (mx (mx p q) r) s/\(∀ m,p<=m->q<=m->r<=m->s<=m->mx (mx (mx p q) r) s<=m):=by
 have h1:=bS p q
 have h2:=bS (mx p q) r
 have h3:=bS (mx (mx p q) r) s
 refine ⟨by omega,by omega,by omega,by omega,fun m _ _ _ _=>by omega⟩
structure Wi (s t:Sp):Prop where
 lo:t.lo<=s.lo
 le:s.lo<=s.hi
 hi:s.hi<=t.hi
structure Ri (s:Sp):Prop where
 lo:-4503599627370496<=s.lo
 le:s.lo<=s.hi
 hi:s.hi<=4503599627370496
theorem Ri.ok {s:Sp} (h:Ri s):aj s.lo s.hi=true:=bX.2 ⟨h.lo,h.le,h.hi⟩
theorem Ri.of {s:Sp} (h:aj s.lo s.hi=true):Ri s:=let k:=bX.1 h; ⟨k.1,k.2.1,k.2.2⟩
theorem Wi.ri {s t:Sp} (w:Wi s t) (h:Ri t):Ri s:=⟨Int.le_trans h.lo w.lo,w.le,Int.le_trans w.hi h.hi⟩
theorem Wi.refl {s:Sp} (h:s.lo<=s.hi):Wi s s:=⟨Int.le_refl _,h,Int.le_refl _⟩
theorem jM {lo hi:Int} (h:(dV lo hi).e=0):dV lo hi=⟨lo,hi,0⟩/\-4503599627370496<=lo/\lo<=4503599627370496/\-4503599627370496<=hi/\hi<=4503599627370496:=by
 unfold dV at h ⊢
 cases h1:okF lo <;> cases h2:okF hi <;> rw [h1,h2] at h
 .cases h
 .cases h
 .cases h
 .have:=aG.1 h1
  have:=aG.1 h2
  exact ⟨rfl,by omega,by omega,by omega,by omega⟩
theorem o7 {lo hi:Int} (h1:-4503599627370496<=lo) (h2:lo<=4503599627370496) (h3:-4503599627370496<=hi) (h4:hi<=4503599627370496):dV lo hi=⟨lo,hi,0⟩:=by
 unfold dV
 rw [aG.2 (by omega),aG.2 (by omega)]
 rfl
theorem rU {a b c d:Int} {r:Sp} (h:(pG a b c d r).e=0):aj a b=true/\aj c d=true/\pG a b c d r=r:=by
 unfold pG at h ⊢
 cases h1:aj a b <;> cases h2:aj c d <;> rw [h1,h2] at h
 .cases h
 .cases h
 .cases h
 .exact ⟨rfl,rfl,rfl⟩
theorem je {a b c d:Int} {r:Sp} (h1:aj a b=true) (h2:aj c d=true):pG a b c d r=r:=by
 unfold pG
 rw [h1,h2]
 rfl
def Mo2 (F:Int->Int->Int->Int->Sp):Prop:=∀ {s t s' t':Sp},Wi s' s->Wi t' t->(F s.lo s.hi t.lo t.hi).e=0->(F s'.lo s'.hi t'.lo t'.hi).e=0/\Wi (F s'.lo s'.hi t'.lo t'.hi) (F s.lo s.hi t.lo t.hi)
def Mo1 (F:Int->Int->Sp):Prop:=∀ {s s':Sp},Wi s' s->(F s.lo s.hi).e=0->(F s'.lo s'.hi).e=0/\Wi (F s'.lo s'.hi) (F s.lo s.hi)
theorem abg:Mo2 fC:=by
 intro s t s' t' w v h
 unfold fC at h ⊢
 obtain ⟨h1,h2,h3⟩:=rU h
 rw [h3] at h ⊢
 obtain ⟨h4,h5,h6,h7,h8⟩:=jM h
 have r:=Ri.of h1
 have q:=Ri.of h2
 rw [je (w.ri r).ok (v.ri q).ok]
 obtain ⟨w1,w2,w3⟩:=w
 obtain ⟨v1,v2,v3⟩:=v
 rw [h4,o7 (by omega) (by omega) (by omega) (by omega)]
 exact ⟨rfl,by show s.lo+t.lo<=s'.lo+t'.lo; omega,by show s'.lo+t'.lo<=s'.hi+t'.hi; omega,by show s'.hi+t'.hi<=s.hi+t.hi; omega⟩
theorem abh:Mo2 Bn:=by
 intro s t s' t' w v h
 unfold Bn at h ⊢
 obtain ⟨h1,h2,h3⟩:=rU h
 rw [h3] at h ⊢
 obtain ⟨h4,h5,h6,h7,h8⟩:=jM h
 have r:=Ri.of h1
 have q:=Ri.of h2
 rw [je (w.ri r).ok (v.ri q).ok]
 obtain ⟨w1,w2,w3⟩:=w
 obtain ⟨v1,v2,v3⟩:=v
 rw [h4,o7 (by omega) (by omega) (by omega) (by omega)]
 exact ⟨rfl,by show s.lo - t.hi<=s'.lo - t'.hi; omega,by show s'.lo - t'.hi<=s'.hi - t'.lo; omega,by show s'.hi - t'.lo<=s.hi - t.lo; omega⟩
theorem xU {a b x n M:Int} (h1:a<=x) (h2:x<=b) (u1:a*n<=M) (u2:b*n<=M):x*n<=M:=by
 rcases Int.lt_or_le n 0 with c|c
 .have:=Int.mul_le_mul_of_nonpos_right h1 (Int.le_of_lt c); omega
 .have:=Int.mul_le_mul_of_nonneg_right h2 c; omega
theorem xW {a b x n M:Int} (h1:a<=x) (h2:x<=b) (u1:M<=a*n) (u2:M<=b*n):M<=x*n:=by
 rcases Int.lt_or_le n 0 with c|c
 .have:=Int.mul_le_mul_of_nonpos_right h2 (Int.le_of_lt c); omega
 .have:=Int.mul_le_mul_of_nonneg_right h1 c; omega
theorem abj {a b c d x y M:Int} (h1:a<=x) (h2:x<=b) (k1:c<=y) (k2:y<=d) (u1:a*c<=M) (u2:a*d<=M) (u3:b*c<=M) (u4:b*d<=M):x*y<=M:=by
 have e1:x*c<=M:=xU h1 h2 u1 u3
 have e2:x*d<=M:=xU h1 h2 u2 u4
 rw [Int.mul_comm] at e1 e2 ⊢
 exact xU k1 k2 e1 e2
theorem abk {a b c d x y M:Int} (h1:a<=x) (h2:x<=b) (k1:c<=y) (k2:y<=d) (u1:M<=a*c) (u2:M<=a*d) (u3:M<=b*c) (u4:M<=b*d):M<=x*y:=by
 have e1:M<=x*c:=xW h1 h2 u1 u3
 have e2:M<=x*d:=xW h1 h2 u2 u4
 rw [Int.mul_comm] at e1 e2 ⊢
 exact xW k1 k2 e1 e2
theorem FU {F:Int->Int->Bool->Int} {a b c d a' b' c' d':Int} (h:(kw F a b c d).e=0) (hF:∀ x y,(x=a'\/x=b')->(y=c'\/y=d')->F x y false<=F x y true)
  (h1:∀ m x y,(x=a'\/x=b')->(y=c'\/y=d')->m<=F a c false->m<=F a d false->m<=F b c false->m<=F b d false->m<=F x y false)
  (h2:∀ m x y,(x=a'\/x=b')->(y=c'\/y=d')->F a c true<=m->F a d true<=m->F b c true<=m->F b d true<=m->F x y true<=m):
  (kw F a' b' c' d').e=0/\Wi (kw F a' b' c' d') (kw F a b c d):=by
 unfold kw at h ⊢
 obtain ⟨h4,h5,h6,h7,h8⟩:=jM h
 obtain ⟨m1,m2,m3,m4,_⟩:=mn4 (F a c false) (F a d false) (F b c false) (F b d false)
 obtain ⟨k1,k2,k3,k4,_⟩:=mx4 (F a c true) (F a d true) (F b c true) (F b d true)
 obtain ⟨i1,i2,i3,i4,i5⟩:=mn4 (F a' c' false) (F a' d' false) (F b' c' false) (F b' d' false)
 obtain ⟨j1,j2,j3,j4,j5⟩:=mx4 (F a' c' true) (F a' d' true) (F b' c' true) (F b' d' true)
 rw [h4]
 generalize mn (mn (mn (F a c false) (F a d false)) (F b c false)) (F b d false)=lo at *
 generalize mx (mx (mx (F a c true) (F a d true)) (F b c true)) (F b d true)=hi at *
 have l:=i5 lo (h1 lo _ _ (.inl rfl) (.inl rfl) m1 m2 m3 m4) (h1 lo _ _ (.inl rfl) (.inr rfl) m1 m2 m3 m4) (h1 lo _ _ (.inr rfl) (.inl rfl) m1 m2 m3 m4) (h1 lo _ _ (.inr rfl) (.inr rfl) m1 m2 m3 m4)
 have u:=j5 hi (h2 hi _ _ (.inl rfl) (.inl rfl) k1 k2 k3 k4) (h2 hi _ _ (.inl rfl) (.inr rfl) k1 k2 k3 k4) (h2 hi _ _ (.inr rfl) (.inl rfl) k1 k2 k3 k4) (h2 hi _ _ (.inr rfl) (.inr rfl) k1 k2 k3 k4)
 have f:=hF _ _ (.inl rfl) (.inl rfl)
 generalize mn (mn (mn (F a' c' false) (F a' d' false)) (F b' c' false)) (F b' d' false)=lo' at *
 generalize mx (mx (mx (F a' c' true) (F a' d' true)) (F b' c' true)) (F b' d' true)=hi' at *
 rw [o7 (by omega) (by omega) (by omega) (by omega)]
 exact ⟨rfl,l,by show lo'<=hi'; omega,u⟩
theorem fD {n d m:Int} (hd:0<d):m<=rd n d false ↔ m*d<=n:=by
 constructor
 .intro h
  have:=(abf (n:=n) hd).1
  have:=Int.mul_le_mul_of_nonneg_right h (Int.le_of_lt hd)
  omega
 .exact TI hd
theorem fE {n d m:Int} (hd:0<d):rd n d true<=m ↔ n<=m*d:=by
 constructor
 .intro h
  have:=(adk (n:=n) hd).1
  have:=Int.mul_le_mul_of_nonneg_right h (Int.le_of_lt hd)
  omega
 .exact TH hd
theorem Wi.at {s t:Sp} (w:Wi s t) {x:Int} (h:x=s.lo\/x=s.hi):t.lo<=x/\x<=t.hi:=by
 obtain ⟨w1,w2,w3⟩:=w
 omega
theorem abl:Mo2 aI:=by
 intro s t s' t' w v h
 unfold aI at h ⊢
 obtain ⟨h1,h2,h3⟩:=rU h
 rw [h3] at h ⊢
 rw [je (w.ri (Ri.of h1)).ok (v.ri (Ri.of h2)).ok]
 refine FU h (fun x y _ _=>vV _ _ (by decide)) ?_ ?_
 .intro m x y hx hy u1 u2 u3 u4
  have a:=w.at hx
  have b:=v.at hy
  exact (fD (by decide)).2 (abk a.1 a.2 b.1 b.2 ((fD (by decide)).1 u1) ((fD (by decide)).1 u2) ((fD (by decide)).1 u3) ((fD (by decide)).1 u4))
 .intro m x y hx hy u1 u2 u3 u4
  have a:=w.at hx
  have b:=v.at hy
  exact (fE (by decide)).2 (abj a.1 a.2 b.1 b.2 ((fE (by decide)).1 u1) ((fE (by decide)).1 u2) ((fE (by decide)).1 u3) ((fE (by decide)).1 u4))
theorem FV {x y m:Int} (hy:0<y):m<=dF x y false ↔ m*y<=x*4294967296:=by
 unfold dF sg
 rw [decide_eq_false (show ¬ y<0 by omega)]
 exact fD hy
theorem FW {x y m:Int} (hy:0<y):dF x y true<=m ↔ x*4294967296<=m*y:=by
 unfold dF sg
 rw [decide_eq_false (show ¬ y<0 by omega)]
 exact fE hy
theorem FX {x y m:Int} (hy:y<0):m<=dF x y false ↔ x*4294967296<=m*y:=by
 unfold dF sg
 rw [decide_eq_true hy,cond_true,cond_true,fD (by omega),Int.mul_neg]
 omega
theorem FY {x y m:Int} (hy:y<0):dF x y true<=m ↔ m*y<=x*4294967296:=by
 unfold dF sg
 rw [decide_eq_true hy,cond_true,cond_true,fE (by omega),Int.mul_neg]
 omega
theorem YN {x y:Int} (hy:y≠0):dF x y false<=dF x y true:=by
 unfold dF sg
 cases h:decide (y<0) with
 | true=>exact vV _ _ (by show 0 < -y; have:=of_decide_eq_true h; omega)
 | false=>exact vV _ _ (by show 0<y; have:=of_decide_eq_false h; omega)
theorem TJ {a b c d x y m:Int} (h1:a<=x) (_h2:x<=b) (k1:c<=y) (k2:y<=d) (u1:m*c<=a*4294967296) (u2:m*d<=a*4294967296):m*y<=x*4294967296:=by
 have:y*m<=a*4294967296:=xU k1 k2 (by rw [Int.mul_comm]; exact u1) (by rw [Int.mul_comm]; exact u2)
 rw [Int.mul_comm] at this
 omega
theorem TK {a b c d x y m:Int} (_h1:a<=x) (h2:x<=b) (k1:c<=y) (k2:y<=d) (u1:b*4294967296<=m*c) (u2:b*4294967296<=m*d):x*4294967296<=m*y:=by
 have:b*4294967296<=y*m:=xW k1 k2 (by rw [Int.mul_comm c m]; exact u1) (by rw [Int.mul_comm d m]; exact u2)
 rw [Int.mul_comm y m] at this
 omega
theorem div_ok {a b c d:Int} (h:(oZ a b c d).e=0):aj a b=true/\aj c d=true/\(0<c\/d<0)/\oZ a b c d=kw dF a b c d:=by
 unfold oZ at h ⊢
 obtain ⟨h1,h2,h3⟩:=rU h
 rw [h3] at h ⊢
 cases h4:decide (c<=0) <;> cases h5:decide (0<=d) <;> rw [h4,h5] at h
 .have:=of_decide_eq_false h4; exact ⟨h1,h2,.inl (by omega),rfl⟩
 .have:=of_decide_eq_false h4; exact ⟨h1,h2,.inl (by omega),rfl⟩
 .have:=of_decide_eq_false h5; exact ⟨h1,h2,.inr (by omega),rfl⟩
 .cases h
theorem TL {a b c d:Int} (h1:aj a b=true) (h2:aj c d=true) (h3:0<c\/d<0):oZ a b c d=kw dF a b c d:=by
 unfold oZ
 rw [je h1 h2]
 rcases h3 with h|h
 .rw [decide_eq_false (show ¬ c<=0 by omega)]; rfl
 .rw [decide_eq_false (show ¬ 0<=d by omega),Bool.and_false]; rfl
theorem abm:Mo2 oZ:=by
 intro s t s' t' w v h
 obtain ⟨h1,h2,h3,h4⟩:=div_ok h
 rw [h4] at h ⊢
 obtain ⟨v1,v2,v3⟩:=id v
 rw [TL (w.ri (Ri.of h1)).ok (v.ri (Ri.of h2)).ok (by omega)]
 rcases h3 with h3|h3
 .refine FU h (fun x y _ hy=>YN (by have:=v.at hy; omega)) ?_ ?_
  .intro m x y hx hy u1 u2 u3 u4
   have a:=w.at hx
   have b:=v.at hy
   exact (FV (by omega)).2 (TJ a.1 a.2 b.1 b.2 ((FV (by omega)).1 u1) ((FV (by omega)).1 u2))
  .intro m x y hx hy u1 u2 u3 u4
   have a:=w.at hx
   have b:=v.at hy
   exact (FW (by omega)).2 (TK a.1 a.2 b.1 b.2 ((FW (by omega)).1 u3) ((FW (by omega)).1 u4))
 .refine FU h (fun x y _ hy=>YN (by have:=v.at hy; omega)) ?_ ?_
  .intro m x y hx hy u1 u2 u3 u4
   have a:=w.at hx
   have b:=v.at hy
   exact (FX (by omega)).2 (TK a.1 a.2 b.1 b.2 ((FX (by omega)).1 u3) ((FX (by omega)).1 u4))
  .intro m x y hx hy u1 u2 u3 u4
   have a:=w.at hx
   have b:=v.at hy
   exact (FY (by omega)).2 (TJ a.1 a.2 b.1 b.2 ((FY (by omega)).1 u1) ((FY (by omega)).1 u2))
theorem abn {s s':Sp} (w:Wi s' s):abL s.lo s.hi<=abL s'.lo s'.hi/\abH s'.lo s'.hi<=abH s.lo s.hi/\0<=abL s.lo s.hi/\abL s'.lo s'.hi<=abH s'.lo s'.hi:=by
 obtain ⟨w1,w2,w3⟩:=w
 unfold abL abH
 have:=bS s.lo (-s.hi)
 have:=bS (mx s.lo (-s.hi)) 0
 have:=bS s'.lo (-s'.hi)
 have:=bS (mx s'.lo (-s'.hi)) 0
 have:=bS s.hi (-s.lo)
 have:=bS s'.hi (-s'.lo)
 omega
theorem sq_le {a b:Int} (h:0<=a) (k:a<=b):a*a<=b*b:=Int.mul_le_mul k k h (Int.le_trans h k)
theorem abo:Mo1 gK:=by
 intro s s' w h
 unfold gK at h ⊢
 cases h1:aj s.lo s.hi <;> rw [h1] at h
 .cases h
 .rw [(w.ri (Ri.of h1)).ok]
  rw [cond_true] at h ⊢
  rw [cond_true]
  obtain ⟨h4,h5,h6,h7,h8⟩:=jM h
  obtain ⟨p1,p2,p3,p4⟩:=abn w
  rw [h4]
  have l:=nJ (d:=4294967296) (by decide) (sq_le p3 p1) false
  have u:=nJ (d:=4294967296) (by decide) (sq_le (Int.le_trans (Int.le_trans p3 p1) p4) p2) true
  have m:=Int.le_trans (nJ (d:=4294967296) (by decide) (sq_le (Int.le_trans p3 p1) p4) false) (vV (abH s'.lo s'.hi*abH s'.lo s'.hi) 4294967296 (by decide))
  generalize rd (abL s.lo s.hi*abL s.lo s.hi) 4294967296 false=lo at *
  generalize rd (abH s.lo s.hi*abH s.lo s.hi) 4294967296 true=hi at *
  generalize rd (abL s'.lo s'.hi*abL s'.lo s'.hi) 4294967296 false=lo' at *
  generalize rd (abH s'.lo s'.hi*abH s'.lo s'.hi) 4294967296 true=hi' at *
  rw [o7 (by omega) (by omega) (by omega) (by omega)]
  exact ⟨rfl,l,m,u⟩
theorem TM {a b:Int} (ha:fU a=true) (hb:fU b=true) (h:a<=b):sqR a<=sqR b:=by
 obtain ⟨u0,u1,u2,_⟩:=fB ha
 obtain ⟨v0,v1,v2,_⟩:=fB hb
 have:=BM (a:=sqR a) (b:=sqR b+1) (by omega) (by omega)
 omega
theorem TN {a b:Int} (ha:fU a=true) (hb:fU b=true) (h:a<=b):rtV a true<=rtV b true:=by
 obtain ⟨u0,u1,u2⟩:=MX ha
 obtain ⟨v0,v1,v2⟩:=MX hb
 rcases u2 with u2|⟨u2,u3⟩
 .obtain ⟨q0,q1,_,_⟩:=fB ha
  rw [u2]
  exact wE v0 (by omega)
 .have:=BM (a:=sqR a) (b:=rtV b true) v0 (by omega)
  omega
theorem XF:Mo1 eH:=by
 intro s s' w h
 unfold eH at h ⊢
 cases h1:aj s.lo s.hi <;> rw [h1] at h
 .cases h
 .have r:=Ri.of h1
  have r':=w.ri r
  rw [r'.ok]
  rw [cond_true] at h ⊢
  rw [cond_true]
  obtain ⟨w1,w2,w3⟩:=w
  obtain ⟨r1,r2,r3⟩:=r
  cases h2:decide (s.lo<0) <;> rw [h2] at h
  .have:=of_decide_eq_false h2
   rw [decide_eq_false (show ¬ s'.lo<0 by omega)]
   have k1:fU s.lo=true:=by unfold fU; rw [aG.2 (by omega)]; simpa using (show 0<=s.lo by omega)
   have k2:fU s.hi=true:=by unfold fU; rw [aG.2 (by omega)]; simpa using (show 0<=s.hi by omega)
   have k3:fU s'.lo=true:=by unfold fU; rw [aG.2 (by omega)]; simpa using (show 0<=s'.lo by omega)
   have k4:fU s'.hi=true:=by unfold fU; rw [aG.2 (by omega)]; simpa using (show 0<=s'.hi by omega)
   obtain ⟨a0,a1,a2⟩:=MX k4
   obtain ⟨b0,b1,_,_⟩:=fB k3
   exact ⟨rfl,TM k1 k3 w1,show sqR s'.lo<=rtV s'.hi true from wE a0 (by omega),TN k4 k2 w3⟩
  .cases h
theorem TP (n d:Int):Mo1 fun a b=>kr a b n d:=by
 intro s s' w h
 show (kr s'.lo s'.hi n d).e=0/\Wi (kr s'.lo s'.hi n d) (kr s.lo s.hi n d)
 have h:(kr s.lo s.hi n d).e=0:=h
 unfold kr at h ⊢
 cases h1:aj s.lo s.hi <;> rw [h1] at h
 .cases h
 .rw [(w.ri (Ri.of h1)).ok]
  rw [cond_true] at h ⊢
  rw [cond_true]
  cases h2:okR n d <;> rw [h2] at h
  .cases h
  .rw [cond_true] at h ⊢
   rw [cond_true]
   have hd:0<d:=by
    unfold okR at h2
    simp only [Bool.and_eq_true,decide_eq_true_eq] at h2
    omega
   obtain ⟨h4,h5,h6,h7,h8⟩:=jM h
   have m1:=l7 (s.lo*n) (s.hi*n)
   have m2:=l7 (s'.lo*n) (s'.hi*n)
   have m3:=bS (s.lo*n) (s.hi*n)
   have m4:=bS (s'.lo*n) (s'.hi*n)
   obtain ⟨w1,w2,w3⟩:=w
   have c1:=xW w1 (Int.le_trans w2 w3) m1.1 m1.2.1
   have c2:=xW (Int.le_trans w1 w2) w3 m1.1 m1.2.1
   have c3:=xU w1 (Int.le_trans w2 w3) m3.1 m3.2.1
   have c4:=xU (Int.le_trans w1 w2) w3 m3.1 m3.2.1
   rw [h4]
   have l:=nJ hd (show mn (s.lo*n) (s.hi*n)<=mn (s'.lo*n) (s'.hi*n) by omega) false
   have u:=nJ hd (show mx (s'.lo*n) (s'.hi*n)<=mx (s.lo*n) (s.hi*n) by omega) true
   have m:=Int.le_trans (nJ hd (show mn (s'.lo*n) (s'.hi*n)<=mx (s'.lo*n) (s'.hi*n) by omega) false) (vV (mx (s'.lo*n) (s'.hi*n)) d hd)
   generalize rd (mn (s.lo*n) (s.hi*n)) d false=lo at *
   generalize rd (mx (s.lo*n) (s.hi*n)) d true=hi at *
   generalize rd (mn (s'.lo*n) (s'.hi*n)) d false=lo' at *
   generalize rd (mx (s'.lo*n) (s'.hi*n)) d true=hi' at *
   rw [o7 (by omega) (by omega) (by omega) (by omega)]
   exact ⟨rfl,l,m,u⟩
def ng (s:Sp):Sp:=⟨-s.hi,-s.lo,s.e⟩
theorem mn_eq (a b:Int):mn a b=if b<a then b else a:=by
 unfold mn; by_cases h:b<a
 .rw [decide_eq_true h,if_pos h]; rfl
 .rw [decide_eq_false h,if_neg h]; rfl
theorem mx_eq (a b:Int):mx a b=if a<b then b else a:=by
 unfold mx; by_cases h:a<b
 .rw [decide_eq_true h,if_pos h]; rfl
 .rw [decide_eq_false h,if_neg h]; rfl
def gt:List Sp->Nat->Sp
 | [],_=>⟨0,0,0⟩
 | a :: _,0=>a
 | _ :: l,i+1=>gt l i
def sq1 (i:Nat) (r:List Sp):Sp:=gK (gt r i).lo (gt r i).hi
def rt1 (i:Nat) (r:List Sp):Sp:=eH (gt r i).lo (gt r i).hi
def ad2 (i j:Nat) (r:List Sp):Sp:=fC (gt r i).lo (gt r i).hi (gt r j).lo (gt r j).hi
def sb2 (i j:Nat) (r:List Sp):Sp:=Bn (gt r i).lo (gt r i).hi (gt r j).lo (gt r j).hi
def ml2 (i j:Nat) (r:List Sp):Sp:=aI (gt r i).lo (gt r i).hi (gt r j).lo (gt r j).hi
def dv2 (i j:Nat) (r:List Sp):Sp:=oZ (gt r i).lo (gt r i).hi (gt r j).lo (gt r j).hi
def sc1 (i:Nat) (n d:Int) (r:List Sp):Sp:=aK (gt r i).lo (gt r i).hi n d
inductive Wis:List Sp->List Sp->Prop where
 | nil:Wis [] []
 | cons {a b:Sp} {l m:List Sp}:Wi a b->Wis l m->Wis (a :: l) (b :: m)
theorem Wis.gt {l m:List Sp} (h:Wis l m):∀ i,Wi (gt l i) (gt m i):=by
 induction h with
 | nil=>exact fun _=>⟨Int.le_refl _,Int.le_refl _,Int.le_refl _⟩
 | cons w _ ih=>
  intro i
  cases i with
  | zero=>exact w
  | succ i=>exact ih i
def Mo (f:List Sp->Sp):Prop:=∀ {l m:List Sp},Wis l m->(f m).e=0->(f l).e=0/\Wi (f l) (f m)
theorem abp (i:Nat):Mo (sq1 i):=fun h e=>abo (h.gt i) e
theorem abq (i:Nat):Mo (rt1 i):=fun h e=>XF (h.gt i) e
theorem abr (i j:Nat):Mo (ad2 i j):=fun h e=>abg (h.gt i) (h.gt j) e
theorem abt (i j:Nat):Mo (sb2 i j):=fun h e=>abh (h.gt i) (h.gt j) e
theorem abu (i j:Nat):Mo (ml2 i j):=fun h e=>abl (h.gt i) (h.gt j) e
theorem abv (i j:Nat):Mo (dv2 i j):=fun h e=>abm (h.gt i) (h.gt j) e
def Ck (n d:Int):Prop:=okR n d=true->4503599627370496*sg n n<18446744073709551615*d
theorem abw {a b:Int} (h:aj a b=true):0<=abH a b/\abH a b<=4503599627370496:=by
 have:=bX.1 h
 unfold abH
 have:=bS b (-a)
 omega
theorem MZ {a b n d:Int} (k:Ck n d):aK a b n d=kr a b n d:=by
 refine Kc a b n d fun h1 h2=>?_
 have:=k h2
 have p:=abw h1
 have q:0<=sg n n:=by
  unfold sg
  cases h:decide (n<0) with
  | true=>have:=of_decide_eq_true h; show 0<=-n; omega
  | false=>have:=of_decide_eq_false h; show 0<=n; omega
 have:=Int.mul_le_mul_of_nonneg_right p.2 q
 omega
theorem abx (i:Nat) {n d:Int} (k:Ck n d):Mo (sc1 i n d):=fun {l m} h e=>by
 unfold sc1 at e ⊢
 rw [MZ k] at e ⊢
 rw [MZ k]
 exact TP n d (h.gt i) e
theorem aby {E:Int} (h:E≠0):(E != 0)=true:=by simpa using h
theorem afB {E:Int} (h:E≠0):(E==0)=false:=by simpa using h
def tn (b:Bool) (s:Sp):Sp:=bif b then ng s else s
inductive Tns:List Bool->List Sp->List Sp->Prop where
 | nil:Tns [] [] []
 | cons {b:Bool} {a c:Sp} {bs:List Bool} {l m:List Sp}:a=tn b c->Tns bs l m->Tns (b :: bs) (a :: l) (c :: m)
def bt:List Bool->Nat->Bool
 | [],_=>false
 | a :: _,0=>a
 | _ :: l,i+1=>bt l i
theorem Tns.gt {bs:List Bool} {l m:List Sp} (h:Tns bs l m):∀ i,gt l i=tn (bt bs i) (gt m i):=by
 induction h with
 | nil=>exact fun _=>rfl
 | cons e _ ih=>intro i; cases i with
  | zero=>exact e
  | succ i=>exact ih i
theorem Tns.e {bs:List Bool} {l m:List Sp} (h:Tns bs l m) (i:Nat):(Go.Rd.gt l i).e=(Go.Rd.gt m i).e:=by
 rw [h.gt i]; cases bt bs i <;> rfl
def evS (acc v c:Sp):Sp:=
 ⟨bif (aI acc.lo acc.hi v.lo v.hi).e==0 then (fC (aI acc.lo acc.hi v.lo v.hi).lo (aI acc.lo acc.hi v.lo v.hi).hi c.lo c.hi).lo else (aI acc.lo acc.hi v.lo v.hi).lo,
  bif (aI acc.lo acc.hi v.lo v.hi).e==0 then (fC (aI acc.lo acc.hi v.lo v.hi).lo (aI acc.lo acc.hi v.lo v.hi).hi c.lo c.hi).hi else (aI acc.lo acc.hi v.lo v.hi).hi,
  bif (aI acc.lo acc.hi v.lo v.hi).e==0 then (fC (aI acc.lo acc.hi v.lo v.hi).lo (aI acc.lo acc.hi v.lo v.hi).hi c.lo c.hi).e else (aI acc.lo acc.hi v.lo v.hi).e⟩
def ev1 (v c3:Sp):Sp:=evS ⟨0,0,0⟩ v c3
def ev2 (v c2 c3:Sp):Sp:=evS (ev1 v c3) v c2
def ev3 (v c1 c2 c3:Sp):Sp:=evS (ev2 v c2 c3) v c1
def ev4 (v c0 c1 c2 c3:Sp):Sp:=evS (ev3 v c1 c2 c3) v c0
def evB (v c0 c1 c2 c3:Sp):Bool:=
 (ev1 v c3).e != 0||!((ev1 v c3).e != 0)&&((ev2 v c2 c3).e != 0||!((ev2 v c2 c3).e != 0)&&((ev3 v c1 c2 c3).e != 0||!((ev3 v c1 c2 c3).e != 0)&&(ev4 v c0 c1 c2 c3).e != 0))
def evG (v c0 c1 c2 c3:Sp) (g:Sp->Int):Int:=
 bif evB v c0 c1 c2 c3 then bif (ev1 v c3).e != 0 then g (ev1 v c3) else bif (ev2 v c2 c3).e != 0 then g (ev2 v c2 c3) else bif (ev3 v c1 c2 c3).e != 0 then g (ev3 v c1 c2 c3) else g (ev4 v c0 c1 c2 c3) else g (ev4 v c0 c1 c2 c3)
def pz (v c0 c1 c2 c3:Sp):Sp:=⟨evG v c0 c1 c2 c3 Sp.lo,evG v c0 c1 c2 c3 Sp.hi,evG v c0 c1 c2 c3 Sp.e⟩
theorem abz {v c0 c1 c2 c3:Sp} (h:(pz v c0 c1 c2 c3).e=0):(ev1 v c3).e=0/\(ev2 v c2 c3).e=0/\(ev3 v c1 c2 c3).e=0/\(ev4 v c0 c1 c2 c3).e=0:=by
 have h:evG v c0 c1 c2 c3 Sp.e=0:=h
 unfold evG evB at h
 rcases Decidable.em ((ev1 v c3).e=0) with d1|d1
 .rcases Decidable.em ((ev2 v c2 c3).e=0) with d2|d2
  .rcases Decidable.em ((ev3 v c1 c2 c3).e=0) with d3|d3
   .refine ⟨d1,d2,d3,?_⟩
    simp only [d1,d2,d3] at h
    simpa using h
   .simp only [d1,d2,aby d3,Bool.true_or,Bool.or_true,Bool.and_true,bne_self_eq_false,Bool.not_false,Bool.true_and,cond_true,cond_false] at h
    exact absurd h d3
  .simp only [d1,aby d2,Bool.true_or,Bool.or_true,Bool.and_true,bne_self_eq_false,Bool.not_false,Bool.true_and,cond_true,cond_false] at h
   exact absurd h d2
 .simp only [aby d1,Bool.true_or,cond_true] at h
  exact absurd h d1
theorem TQ {v c0 c1 c2 c3:Sp} (h1:(ev1 v c3).e=0) (h2:(ev2 v c2 c3).e=0) (h3:(ev3 v c1 c2 c3).e=0) (h4:(ev4 v c0 c1 c2 c3).e=0):pz v c0 c1 c2 c3=ev4 v c0 c1 c2 c3:=by
 unfold pz evG evB
 simp only [h1,h2,h3,h4,bne_self_eq_false,Bool.not_false,Bool.true_and,Bool.or_self,cond_false]
 exact Eq.trans (by rw [h4]) (show (⟨(ev4 v c0 c1 c2 c3).lo,(ev4 v c0 c1 c2 c3).hi,(ev4 v c0 c1 c2 c3).e⟩:Sp)=_ from rfl)
def Oks (l:List Sp):Prop:=∀ i,Ri (gt l i)
theorem Wis.refl:∀ {l:List Sp},Oks l->Wis l l
 | [],_=>.nil
 | _ :: _,h=>.cons ⟨Int.le_refl _,(h 0).le,Int.le_refl _⟩ (Wis.refl fun i=>h (i+1))
def Ok (f:List Sp->Sp):Prop:=∀ {l:List Sp},Oks l->(f l).e=0->Ri (f l)
theorem rV {lo hi:Int} (h:(dV lo hi).e=0) (k:(dV lo hi).lo<=(dV lo hi).hi):Ri (dV lo hi):=by
 obtain ⟨h1,h2,h3,h4,h5⟩:=jM h
 rw [h1] at k ⊢
 exact ⟨h2,k,h5⟩
theorem abB (i:Nat):Ok (sq1 i):=fun {l} h e=>by
 have w:=(abp i (Wis.refl h) e).2.le
 unfold sq1 gK at e w ⊢
 rw [(h i).ok] at e w ⊢
 exact rV e w
theorem TR (i j:Nat):Ok (ad2 i j):=fun {l} h e=>by
 have w:=(abr i j (Wis.refl h) e).2.le
 unfold ad2 fC at e w ⊢
 rw [je (h i).ok (h j).ok] at e w ⊢
 exact rV e w
theorem abC (i j:Nat):Ok (sb2 i j):=fun {l} h e=>by
 have w:=(abt i j (Wis.refl h) e).2.le
 unfold sb2 Bn at e w ⊢
 rw [je (h i).ok (h j).ok] at e w ⊢
 exact rV e w
theorem TS (i j:Nat):Ok (ml2 i j):=fun {l} h e=>by
 have w:=(abu i j (Wis.refl h) e).2.le
 unfold ml2 aI at e w ⊢
 rw [je (h i).ok (h j).ok] at e w ⊢
 exact rV e w
theorem abD (i j:Nat):Ok (dv2 i j):=fun {l} h e=>by
 have w:=(abv i j (Wis.refl h) e).2.le
 unfold dv2 at e w ⊢
 have q:=(div_ok e).2.2.2
 rw [q] at e w ⊢
 exact rV e w
theorem abE (i:Nat) {n d:Int} (k:Ck n d):Ok (sc1 i n d):=fun {l} h e=>by
 have w:=(abx i k (Wis.refl h) e).2.le
 unfold sc1 at e w ⊢
 rw [MZ k] at e w ⊢
 unfold kr at e w ⊢
 rw [(h i).ok] at e w ⊢
 cases q:okR n d with
 | false=>rw [q] at e; cases e
 | true=>rw [q] at e w; exact rV e w
theorem abF (i:Nat):Ok (rt1 i):=fun {l} h e=>by
 have w:=(abq i (Wis.refl h) e).2.le
 unfold rt1 eH at e w ⊢
 have r:=h i
 have r1:=r.lo
 have r2:=r.le
 have r3:=r.hi
 rw [r.ok] at e w ⊢
 cases q:decide ((gt l i).lo<0) with
 | true=>rw [q] at e; cases e
 | false=>
  have:=of_decide_eq_false q
  rw [q] at w
  have k1:fU (gt l i).lo=true:=by unfold fU; rw [aG.2 (by omega)]; simpa using (show 0<=(gt l i).lo by omega)
  have k2:fU (gt l i).hi=true:=by unfold fU; rw [aG.2 (by omega)]; simpa using (show 0<=(gt l i).hi by omega)
  have a:=rR k1 false
  have b:=rR k2 true
  exact ⟨by show -4503599627370496<=rtV (gt l i).lo false; omega,w,by
   rcases (MX k2).2.2 with c|⟨c,_⟩
   .show rtV (gt l i).hi true<=4503599627370496
    have:=(fB k2).2.1
    have:rtV (gt l i).hi true<=4398046511104:=by
     rw [c]; exact wE (by omega) (by omega)
    omega
   .show rtV (gt l i).hi true<=4503599627370496
    have:=(fB k2).2.1
    have:sqR (gt l i).hi<=4398046511104:=wE (by omega) (by omega)
    omega⟩
theorem o8:Ri ⟨0,0,0⟩:=⟨by decide,by decide,by decide⟩
theorem uD {a v c:Sp} (ha:Ri a) (hv:Ri v) (hc:Ri c) (e:(evS a v c).e=0):Ri (evS a v c):=by
 have e0:(aI a.lo a.hi v.lo v.hi).e=0:=by
  rcases Decidable.em ((aI a.lo a.hi v.lo v.hi).e=0) with d|d
  .exact d
  .unfold evS at e
   simp only [afB d,cond_false] at e
   exact e
 have m:Ri (aI a.lo a.hi v.lo v.hi):=TS 0 1 (l:=[a,v]) (fun i=>match i with|0=>ha|1=>hv|i+2=>o8) e0
 have s:(fC (aI a.lo a.hi v.lo v.hi).lo (aI a.lo a.hi v.lo v.hi).hi c.lo c.hi).e=0:=by
  unfold evS at e
  simp only [e0] at e
  exact e
 have r:Ri (fC (aI a.lo a.hi v.lo v.hi).lo (aI a.lo a.hi v.lo v.hi).hi c.lo c.hi):=TR 0 1 (l:=[aI a.lo a.hi v.lo v.hi,c]) (fun i=>match i with|0=>m|1=>hc|i+2=>o8) s
 unfold evS
 simp only [e0]
 exact r
def okE (s:Sp):Prop:=s.e=0\/s=⟨0,0,6⟩
theorem nQ (lo hi:Int):okE (dV lo hi):=by
 unfold dV
 cases okF lo&&okF hi
 .exact .inr rfl
 .exact .inl rfl
theorem Jm {s:Sp} (h:Ri s):okE (gK s.lo s.hi):=by unfold gK; rw [h.ok]; exact nQ _ _
theorem yM {s t:Sp} (h:Ri s) (k:Ri t):okE (fC s.lo s.hi t.lo t.hi):=by unfold fC; rw [je h.ok k.ok]; exact nQ _ _
theorem YO {s t:Sp} (h:Ri s) (k:Ri t):okE (Bn s.lo s.hi t.lo t.hi):=by unfold Bn; rw [je h.ok k.ok]; exact nQ _ _
theorem YP {s t:Sp} (h:Ri s) (k:Ri t):okE (aI s.lo s.hi t.lo t.hi):=by unfold aI; rw [je h.ok k.ok]; exact nQ _ _
theorem YQ {s t:Sp} (h:Ri s) (k:Ri t) (p:0<t.lo):okE (oZ s.lo s.hi t.lo t.hi):=by rw [TL h.ok k.ok (.inl p)]; exact nQ _ _
theorem Cm {s:Sp} {n d:Int} (h:Ri s) (k:Ck n d) (o:okR n d=true):okE (aK s.lo s.hi n d):=by
 rw [MZ k]; unfold kr; rw [h.ok,o]; exact nQ _ _
theorem adl {s:Sp} (h:Ri s) (p:0<s.lo):okE (eH s.lo s.hi):=by
 unfold eH; rw [h.ok,decide_eq_false (show ¬ s.lo<0 by omega)]; exact .inl rfl
theorem uF {s t:Sp} (h:Ri s) (k:Ri t):Oks [s,t]:=fun i=>match i with|0=>h|1=>k|i+2=>o8
theorem Jn {s:Sp} (h:Ri s) (e:(gK s.lo s.hi).e=0):Ri (gK s.lo s.hi):=abB 0 (uF h h) e
theorem adm {s:Sp} (h:Ri s) (e:(eH s.lo s.hi).e=0):Ri (eH s.lo s.hi):=abF 0 (uF h h) e
theorem DL {s t:Sp} (h:Ri s) (k:Ri t) (e:(fC s.lo s.hi t.lo t.hi).e=0):Ri (fC s.lo s.hi t.lo t.hi):=TR 0 1 (uF h k) e
theorem YR {s t:Sp} (h:Ri s) (k:Ri t) (e:(Bn s.lo s.hi t.lo t.hi).e=0):Ri (Bn s.lo s.hi t.lo t.hi):=abC 0 1 (uF h k) e
theorem YS {s t:Sp} (h:Ri s) (k:Ri t) (e:(aI s.lo s.hi t.lo t.hi).e=0):Ri (aI s.lo s.hi t.lo t.hi):=TS 0 1 (uF h k) e
theorem YT {s t:Sp} (h:Ri s) (k:Ri t) (e:(oZ s.lo s.hi t.lo t.hi).e=0):Ri (oZ s.lo s.hi t.lo t.hi):=abD 0 1 (uF h k) e
theorem BN {s:Sp} {n d:Int} (h:Ri s) (k:Ck n d) (e:(aK s.lo s.hi n d).e=0):Ri (aK s.lo s.hi n d):=abE 0 k (uF h h) e
theorem TU {s:Sp} (h:Ri s) (p:0<s.lo):0<(eH s.lo s.hi).lo:=by
 unfold eH; rw [h.ok,decide_eq_false (show ¬ s.lo<0 by omega)]
 show 0<rtV s.lo false
 have r1:=h.lo
 have r2:=h.le
 have r3:=h.hi
 have k1:fU s.lo=true:=by unfold fU; rw [aG.2 (by omega)]; simpa using (show 0<=s.lo by omega)
 obtain ⟨u0,u1,u2,_⟩:=fB k1
 show 0<sqR s.lo
 have:=BM (a:=1) (b:=sqR s.lo+1) (by omega) (by omega)
 omega
theorem M4 {s t:Sp} (h:Ri s) (k:Ri t) (e:(fC s.lo s.hi t.lo t.hi).e=0) (p:0<s.lo) (q:0<=t.lo):0<(fC s.lo s.hi t.lo t.hi).lo:=by
 unfold fC at e ⊢
 rw [je h.ok k.ok] at e ⊢
 rw [(jM e).1]
 show 0<s.lo+t.lo
 omega
theorem FZ {s:Sp} (h:okE s) (e:s.e≠0):s=⟨0,0,6⟩:=h.resolve_left e
theorem M5 {a v c:Sp} (ha:Ri a) (hv:Ri v) (hc:Ri c):okE (evS a v c):=by
 rcases YP ha hv with e0|e0
 .have m:=YS ha hv e0
  unfold evS
  simp only [e0]
  exact yM m hc
 .unfold evS
  rw [e0]
  exact .inr rfl
theorem adn {v c0 c1 c2 c3:Sp} (hv:Ri v) (h0:Ri c0) (h1:Ri c1) (h2:Ri c2) (h3:Ri c3):okE (pz v c0 c1 c2 c3):=by
 have z:Ri (⟨0,0,0⟩:Sp):=o8
 have k1:okE (ev1 v c3):=M5 z hv h3
 rcases Decidable.em ((ev1 v c3).e=0) with d1|d1
 .have r1:Ri (ev1 v c3):=uD z hv h3 d1
  have k2:okE (ev2 v c2 c3):=M5 r1 hv h2
  rcases Decidable.em ((ev2 v c2 c3).e=0) with d2|d2
  .have r2:Ri (ev2 v c2 c3):=uD r1 hv h2 d2
   have k3:okE (ev3 v c1 c2 c3):=M5 r2 hv h1
   rcases Decidable.em ((ev3 v c1 c2 c3).e=0) with d3|d3
   .have r3:Ri (ev3 v c1 c2 c3):=uD r2 hv h1 d3
    have k4:okE (ev4 v c0 c1 c2 c3):=M5 r3 hv h0
    rcases Decidable.em ((ev4 v c0 c1 c2 c3).e=0) with d4|d4
    .rw [TQ d1 d2 d3 d4]; exact .inl d4
    .right
     unfold pz evG evB
     rw [d1,d2,d3,FZ k4 d4]; rfl
   .right
    unfold pz evG evB
    rw [d1,d2,FZ k3 d3]; rfl
  .right
   unfold pz evG evB
   rw [d1,FZ k2 d2]; rfl
 .right
  unfold pz evG evB
  rw [FZ k1 d1]; rfl
theorem ado {v c0 c1 c2 c3:Sp} (hv:Ri v) (h0:Ri c0) (h1:Ri c1) (h2:Ri c2) (h3:Ri c3) (e:(pz v c0 c1 c2 c3).e=0):Ri (pz v c0 c1 c2 c3):=by
 obtain ⟨d1,d2,d3,d4⟩:=abz e
 rw [TQ d1 d2 d3 d4]
 exact uD (uD (uD (uD o8 hv h3 d1) hv h2 d2) hv h1 d3) hv h0 d4
end Go.Rd
namespace Go.Iv
open Go Go.Ar Go.Rd
def cn (a b:Int) (x:Rat):Prop:=(a:Rat)<=x*4294967296/\x*4294967296<=(b:Rat)
theorem jN {a b:Int} (h:a<=b):(a:Rat)<=(b:Rat):=by exact_mod_cast h
theorem KQ {a b:Int} (h:(a:Rat)<=(b:Rat)):a<=b:=by exact_mod_cast h
theorem M6 {a b:Int} {x:Rat} (h:cn a b x):a<=b:=KQ (Rat.le_trans h.1 h.2)
theorem rW {a b a' b':Int} {x:Rat} (h:cn a b x) (h1:a'<=a) (h2:b<=b'):cn a' b' x:=⟨Rat.le_trans (jN h1) h.1,Rat.le_trans h.2 (jN h2)⟩
theorem pE (a:Int):cn a a ((a:Rat) / 4294967296):=by
 have:(a:Rat) / 4294967296*4294967296=a:=by grind
 unfold cn
 rw [this]
 exact ⟨Rat.le_refl,Rat.le_refl⟩
theorem xX:cn 0 0 0:=by
 unfold cn
 push_cast
 grind
theorem XG:cn 4294967296 4294967296 1:=by
 unfold cn
 push_cast
 grind
theorem BP {a b c d:Int} {x y:Rat} (h:cn a b x) (k:cn c d y) (n1:(x - y)*4294967296<1) (n2:(y - x)*4294967296<1):a<=d/\c<=b:=by
 obtain ⟨h1,h2⟩:=h
 obtain ⟨k1,k2⟩:=k
 have p:(a:Rat)<((d+1:Int):Rat):=by
  have:((d+1:Int):Rat)=(d:Rat)+1:=by push_cast; rfl
  rw [this]; grind
 have q:(c:Rat)<((b+1:Int):Rat):=by
  have:((b+1:Int):Rat)=(b:Rat)+1:=by push_cast; rfl
  rw [this]; grind
 have p:a<d+1:=by exact_mod_cast p
 have q:c<b+1:=by exact_mod_cast q
 omega
theorem adp {a b c d:Int} (e:(fC a b c d).e=0):fC a b c d=⟨a+c,b+d,0⟩:=by
 unfold fC at e ⊢
 have h:=(rU e).2.2
 rw [h] at e ⊢
 exact (jM e).1
theorem F4 {a b c d:Int} {x y:Rat} (e:(fC a b c d).e=0) (h:cn a b x) (k:cn c d y):cn (fC a b c d).lo (fC a b c d).hi (x+y):=by
 rw [adp e]
 obtain ⟨h1,h2⟩:=h
 obtain ⟨k1,k2⟩:=k
 unfold cn
 push_cast
 grind
theorem lT (a b:Rat):a<=b\/b<=a:=Rat.le_total
theorem wF {a b c:Rat} (h:a<=b) (hc:0<=c):a*c<=b*c:=Rat.mul_le_mul_of_nonneg_right h hc
theorem BQ {a b c:Rat} (h:a<=b) (hc:0<=c):c*a<=c*b:=Rat.mul_le_mul_of_nonneg_left h hc
theorem TV {a b c:Rat} (h:a<=b) (hc:c<=0):b*c<=a*c:=by
 have:=wF h (c:=-c) (by grind)
 grind
theorem F5 {a b c:Rat} (h:a<=b) (hc:c<=0):c*b<=c*a:=by
 have:=BQ h (c:=-c) (by grind)
 grind
theorem lb4 {a b c d X Y:Rat} (h1:a<=X) (h2:X<=b) (k1:c<=Y) (k2:Y<=d):a*c<=X*Y\/a*d<=X*Y\/b*c<=X*Y\/b*d<=X*Y:=by
 rcases lT 0 Y with hy|hy
 .have p:=wF h1 hy
  rcases lT 0 a with ha|ha
  .exact .inl (Rat.le_trans (BQ k1 ha) p)
  .exact .inr (.inl (Rat.le_trans (F5 k2 ha) p))
 .have p:=TV h2 hy
  rcases lT 0 b with hb|hb
  .exact .inr (.inr (.inl (Rat.le_trans (BQ k1 hb) p)))
  .exact .inr (.inr (.inr (Rat.le_trans (F5 k2 hb) p)))
theorem ub4 {a b c d X Y:Rat} (h1:a<=X) (h2:X<=b) (k1:c<=Y) (k2:Y<=d):X*Y<=a*c\/X*Y<=a*d\/X*Y<=b*c\/X*Y<=b*d:=by
 rcases lT 0 Y with hy|hy
 .have p:=wF h2 hy
  rcases lT 0 b with hb|hb
  .exact .inr (.inr (.inr (Rat.le_trans p (BQ k2 hb))))
  .exact .inr (.inr (.inl (Rat.le_trans p (F5 k1 hb))))
 .have p:=TV h1 hy
  rcases lT 0 a with ha|ha
  .exact .inr (.inl (Rat.le_trans p (BQ k2 ha)))
  .exact .inl (Rat.le_trans p (F5 k1 ha))
theorem mn4 (p q r s:Int):mn (mn (mn p q) r) s<=p/\mn (mn (mn p q) r) s<=q/\mn (mn (mn p q) r) s<=r/\mn (mn (mn p q) r) s<=s:=by
 have h1:=l7 p q
 have h2:=l7 (mn p q) r
 have h3:=l7 (mn (mn p q) r) s
 omega
theorem mx4 (p q r s:Int):p<=mx (mx (mx p q) r) s/\q<=mx (mx (mx p q) r) s/\r<=mx (mx (mx p q) r) s/\s<=mx (mx (mx p q) r) s:=by
 have h1:=bS p q
 have h2:=bS (mx p q) r
 have h3:=bS (mx (mx p q) r) s
 omega
theorem rdf {n d:Int} (hd:0<d):((rd n d false:Int):Rat)*(d:Rat)<=(n:Rat):=by exact_mod_cast (fD hd).1 (Int.le_refl _)
theorem rdt {n d:Int} (hd:0<d):(n:Rat)<=((rd n d true:Int):Rat)*(d:Rat):=by exact_mod_cast (fE hd).1 (Int.le_refl _)
theorem sU:(0:Int)<4294967296:=by decide
theorem Jo {l f:Int} {n D z:Rat} (hD:0<D) (h:l<=f) (hf:(f:Rat)*D<=n) (hz:n<=z*D):(l:Rat)<=z:=by
 have h:=jN h
 exact Rat.le_trans h (Rat.le_of_mul_le_mul_right (Rat.le_trans hf hz) hD)
theorem Jp {l f:Int} {n D z:Rat} (hD:0<D) (h:f<=l) (hf:n<=(f:Rat)*D) (hz:z*D<=n):z<=(l:Rat):=by
 have h:=jN h
 exact Rat.le_trans (Rat.le_of_mul_le_mul_right (Rat.le_trans hz hf) hD) h
theorem adq {a b c d:Int} (e:(aI a b c d).e=0):aI a b c d=⟨mn (mn (mn (mF a c false) (mF a d false)) (mF b c false)) (mF b d false),mx (mx (mx (mF a c true) (mF a d true)) (mF b c true)) (mF b d true),0⟩:=by
 unfold aI at e ⊢
 have h:=(rU e).2.2
 rw [h] at e ⊢
 exact (jM e).1
theorem KR {a b c d:Int} {x y:Rat} (e:(aI a b c d).e=0) (h:cn a b x) (k:cn c d y):cn (aI a b c d).lo (aI a b c d).hi (x*y):=by
 rw [adq e]
 obtain ⟨h1,h2⟩:=h
 obtain ⟨k1,k2⟩:=k
 have ff:∀ u v:Int,((mF u v false:Int):Rat)*4294967296<=(u:Rat)*(v:Rat):=fun u v=>by
  have:=rdf (n:=u*v) sU
  push_cast at this
  exact this
 have ft:∀ u v:Int,(u:Rat)*(v:Rat)<=((mF u v true:Int):Rat)*4294967296:=fun u v=>by
  have:=rdt (n:=u*v) sU
  push_cast at this
  exact this
 have D:(0:Rat)<4294967296:=by decide
 obtain ⟨m1,m2,m3,m4⟩:=mn4 (mF a c false) (mF a d false) (mF b c false) (mF b d false)
 obtain ⟨x1,x2,x3,x4⟩:=mx4 (mF a c true) (mF a d true) (mF b c true) (mF b d true)
 have ez:x*y*4294967296*4294967296=x*4294967296*(y*4294967296):=by grind
 constructor
 .rcases lb4 h1 h2 k1 k2 with p|p|p|p
  .exact Jo D m1 (ff _ _) (by rw [ez]; exact p)
  .exact Jo D m2 (ff _ _) (by rw [ez]; exact p)
  .exact Jo D m3 (ff _ _) (by rw [ez]; exact p)
  .exact Jo D m4 (ff _ _) (by rw [ez]; exact p)
 .rcases ub4 h1 h2 k1 k2 with p|p|p|p
  .exact Jp D x1 (ft _ _) (by rw [ez]; exact p)
  .exact Jp D x2 (ft _ _) (by rw [ez]; exact p)
  .exact Jp D x3 (ft _ _) (by rw [ez]; exact p)
  .exact Jp D x4 (ft _ _) (by rw [ez]; exact p)
theorem KS {l X:Rat} (h0:0<=l) (h:l<=X\/l<=-X):l*l<=X*X:=by
 rcases h with h|h
 .exact Rat.le_trans (BQ h h0) (wF h (by grind))
 .have:=Rat.le_trans (BQ h h0) (wF h (c:=-X) (by grind))
  grind
theorem sq_le {l X:Rat} (h:X<=l) (k:-X<=l):X*X<=l*l:=by
 rcases lT 0 X with h0|h0
 .exact Rat.le_trans (BQ h h0) (wF h (by grind))
 .have:=Rat.le_trans (BQ k (c:=-X) (by grind)) (wF k (c:=l) (by grind))
  grind
theorem adr {a b:Int} (e:(gK a b).e=0):aj a b=true/\gK a b=⟨rd (abL a b*abL a b) 4294967296 false,rd (abH a b*abH a b) 4294967296 true,0⟩:=by
 unfold gK at e ⊢
 cases h:aj a b with
 | false=>rw [h] at e; cases e
 | true=>rw [h] at e; exact ⟨rfl,(jM e).1⟩
theorem KT {a b:Int} {x:Rat} (e:(gK a b).e=0) (h:cn a b x):cn (gK a b).lo (gK a b).hi (x*x):=by
 obtain ⟨ho,e0⟩:=adr e
 rw [e0]
 obtain ⟨h1,h2⟩:=h
 have hL0:0<=abL a b:=(bS _ 0).2.1
 have hL:abL a b=a\/abL a b=-b\/abL a b=0:=by
  unfold abL
  have p:=bS a (-b)
  have q:=bS (mx a (-b)) 0
  omega
 have hH:=bS b (-a)
 have D:(0:Rat)<4294967296:=by decide
 have ez:x*x*4294967296*4294967296=x*4294967296*(x*4294967296):=by grind
 have f1:=rdf (n:=abL a b*abL a b) sU
 have f2:=rdt (n:=abH a b*abH a b) sU
 push_cast at f1 f2
 constructor
 .refine Jo D (Int.le_refl _) f1 ?_
  rw [ez]
  have c0:(0:Rat)<=(abL a b:Rat):=by exact_mod_cast hL0
  rcases hL with p|p|p
  .refine KS c0 (.inl ?_)
   rw [p]; exact h1
  .refine KS c0 (.inr ?_)
   rw [p]; push_cast; grind
  .rw [p]
   have:=KS (l:=0) (X:=x*4294967296) Rat.le_refl (by rcases lT 0 (x*4294967296) with h|h <;> grind)
   exact this
 .refine Jp D (Int.le_refl _) f2 ?_
  rw [ez]
  have p:(b:Rat)<=(abH a b:Rat):=by exact_mod_cast hH.1
  have q:((-a:Int):Rat)<=(abH a b:Rat):=jN hH.2.1
  push_cast at q
  exact sq_le (Rat.le_trans h2 p) (by grind)
end Go.Iv
namespace Go.Vc
open Go Go.Eng Go.Ar Go.Dg Go.Rd
def Bd (A a b:Int):Prop:=-A<=a/\a<=b/\b<=A
theorem Bd.ok {A a b:Int} (h:Bd A a b) (hA:A<=4503599627370496):aj a b=true:=by
 obtain ⟨h1,h2,h3⟩:=h
 exact bX.2 ⟨by omega,by omega,by omega⟩
theorem XH {A B x y:Int} (h1:-A<=x) (h2:x<=A) (h3:-B<=y) (h4:y<=B):-(A*B)<=x*y/\x*y<=A*B:=by
 have a:=Int.mul_nonneg (a:=A - x) (b:=B - y) (by omega) (by omega)
 have b:=Int.mul_nonneg (a:=A+x) (b:=B+y) (by omega) (by omega)
 have c:=Int.mul_nonneg (a:=A - x) (b:=B+y) (by omega) (by omega)
 have d:=Int.mul_nonneg (a:=A+x) (b:=B - y) (by omega) (by omega)
 constructor <;> grind
theorem ads {p M:Int} (h1:-(M*4294967296)<=p) (h2:p<=M*4294967296):-M<=rd p 4294967296 false/\rd p 4294967296 false<=rd p 4294967296 true/\rd p 4294967296 true<=M:=by
 refine ⟨(fD (by decide)).2 (by omega),vV _ _ (by decide),(fE (by decide)).2 (by omega)⟩
theorem xY {A B M a b c d:Int} (h:Bd A a b) (k:Bd B c d) (hA:A<=4503599627370496) (hB:B<=4503599627370496) (hM:A*B<=M*4294967296) (hM2:M<=4503599627370496):∃ l u,aI a b c d=⟨l,u,0⟩/\Bd M l u:=by
 have ok1:=h.ok hA
 have ok2:=k.ok hB
 obtain ⟨h1,h2,h3⟩:=h
 obtain ⟨k1,k2,k3⟩:=k
 have key:∀ x y,-A<=x->x<=A->-B<=y->y<=B->-M<=mF x y false/\mF x y false<=mF x y true/\mF x y true<=M:=fun x y a1 a2 a3 a4=>by
  have:=XH a1 a2 a3 a4
  exact ads (by omega) (by omega)
 have p1:=key a c (by omega) (by omega) (by omega) (by omega)
 have p2:=key a d (by omega) (by omega) (by omega) (by omega)
 have p3:=key b c (by omega) (by omega) (by omega) (by omega)
 have p4:=key b d (by omega) (by omega) (by omega) (by omega)
 unfold aI pG kw
 rw [ok1,ok2]
 generalize mF a c false=f1 at *
 generalize mF a d false=f2 at *
 generalize mF b c false=f3 at *
 generalize mF b d false=f4 at *
 generalize mF a c true=g1 at *
 generalize mF a d true=g2 at *
 generalize mF b c true=g3 at *
 generalize mF b d true=g4 at *
 have b1:-M<=mn (mn (mn f1 f2) f3) f4/\mn (mn (mn f1 f2) f3) f4<=f1:=by
  simp only [mn_eq]
  constructor <;> (repeat' split) <;> omega
 have b2:mx (mx (mx g1 g2) g3) g4<=M/\g1<=mx (mx (mx g1 g2) g3) g4:=by
  simp only [mx_eq]
  constructor <;> (repeat' split) <;> omega
 refine ⟨_,_,?_,b1.1,by omega,b2.1⟩
 show dV _ _=_
 unfold dV
 rw [aG.2 ⟨by omega,by omega⟩,aG.2 ⟨by omega,by omega⟩]
 rfl
theorem rX {A B a b c d:Int} (h:Bd A a b) (k:Bd B c d) (hA:A+B<=4503599627370496) (hA0:0<=A) (hB0:0<=B):fC a b c d=⟨a+c,b+d,0⟩/\Bd (A+B) (a+c) (b+d):=by
 have ok1:=h.ok (by omega)
 have ok2:=k.ok (by omega)
 obtain ⟨h1,h2,h3⟩:=h
 obtain ⟨k1,k2,k3⟩:=k
 refine ⟨?_,by omega,by omega,by omega⟩
 unfold fC pG
 rw [ok1,ok2]
 show dV _ _=_
 unfold dV
 rw [aG.2 ⟨by omega,by omega⟩,aG.2 ⟨by omega,by omega⟩]
 rfl
def BdV (A:Int) (v:Ve):Prop:=Bd A v.a v.b/\Bd A v.c v.d/\Bd A v.e v.f
def BdM (A:Int) (m:Mat):Prop:=BdV A m.x/\BdV A m.y/\BdV A m.z
theorem BdV.ok {A:Int} {v:Ve} (h:BdV A v) (hA:A<=4503599627370496):wOk vf0 v=false/\MF.ok ⟨aC vf0,aj⟩ v=true:=by
 unfold wOk MF.ok
 have h1:=h.1.ok hA
 have h2:=h.2.1.ok hA
 have h3:=h.2.2.ok hA
 show (!bif aj _ _ then (bif aj _ _ then aj _ _ else false) else false)=false/\(bif aj _ _ then (bif aj _ _ then aj _ _ else false) else false)=true
 rw [h1,h2,h3]; exact ⟨rfl,rfl⟩
theorem kW {A B M:Int} {v w:Ve} (h:BdV A v) (k:BdV B w) (hA:A<=4503599627370496) (hB:B<=4503599627370496) (hM:A*B<=M*4294967296) (hM0:0<=M) (hM2:3*M<=4503599627370496):
  ∃ l1 u1 l2 u2 l3 u3,aI v.a v.b w.a w.b=⟨l1,u1,0⟩/\aI v.c v.d w.c w.d=⟨l2,u2,0⟩/\aI v.e v.f w.e w.f=⟨l3,u3,0⟩/\aC vf0 v w=⟨l1+l2+l3,u1+u2+u3,0⟩/\Bd (3*M) (l1+l2+l3) (u1+u2+u3):=by
 obtain ⟨l1,u1,e1,b1⟩:=xY h.1 k.1 hA hB hM (by omega)
 obtain ⟨l2,u2,e2,b2⟩:=xY h.2.1 k.2.1 hA hB hM (by omega)
 obtain ⟨l3,u3,e3,b3⟩:=xY h.2.2 k.2.2 hA hB hM (by omega)
 obtain ⟨a1,c1⟩:=rX b1 b2 (by omega) hM0 hM0
 obtain ⟨a2,c2⟩:=rX c1 b3 (by omega) (by omega) hM0
 have hdA:dA vf0 v w=⟨l1+l2,u1+u2,0⟩:=by
  unfold dA
  show fC (aI v.a v.b w.a w.b).lo (aI v.a v.b w.a w.b).hi (aI v.c v.d w.c w.d).lo (aI v.c v.d w.c w.d).hi=_
  rw [e1,e2]; exact a1
 have hdB:dB vf0 v w=⟨l1+l2+l3,u1+u2+u3,0⟩:=by
  unfold dB
  rw [hdA]
  show fC (l1+l2) (u1+u2) (aI v.e v.f w.e w.f).lo (aI v.e v.f w.e w.f).hi=_
  rw [e3]; exact a2
 have ht:Ot vf0 v w vf0.mu=0:=by
  unfold Ot z3
  rw [Ke vW]
  unfold Ou
  rw [(h.ok hA).1,(k.ok hB).1]
  show tE (aI v.a v.b w.a w.b) (aI v.c v.d w.c w.d) (aI v.e v.f w.e w.f) 0=0
  rw [e1,e2,e3]; rfl
 refine ⟨l1,u1,l2,u2,l3,u3,e1,e2,e3,?_,?_⟩
 .unfold aC dE
  rw [ht,hdA,hdB]; rfl
 .have:3*M=M+M+M:=by omega
  rw [this]; exact c2
theorem jI {A B M:Int} {a b:Mat} (h:BdM A a) (k:BdM B b) (hA:A<=4503599627370496) (hB:B<=4503599627370496) (hM:A*B<=M*4294967296) (hM0:0<=M) (hM2:3*M<=4503599627370496):
  ze ⟨aC vf0,aj⟩ a b=0/\BdM (3*M) (mulV ⟨aC vf0,aj⟩ a b)/\rmB ⟨aC vf0,aj⟩ a b=false/\rmG ⟨aC vf0,aj⟩ a b=true:=by
 have kf:BdV B (flip b).x/\BdV B (flip b).y/\BdV B (flip b).z:=by
  obtain ⟨⟨a1,a2,a3⟩,⟨b1,b2,b3⟩,c1,c2,c3⟩:=k
  exact ⟨⟨a1,b1,c1⟩,⟨a2,b2,c2⟩,a3,b3,c3⟩
 have dd:∀ r,BdV A r->∀ s,BdV B s->(aC vf0 r s).e=0/\Bd (3*M) (aC vf0 r s).lo (aC vf0 r s).hi:=fun r hr s hs=>by
  obtain ⟨_,_,_,_,_,_,_,_,_,e,b⟩:=kW hr hs hA hB hM hM0 hM2
  rw [e]; exact ⟨rfl,b⟩
 have okM':∀ {C:Int} {m:Mat},BdM C m->C<=4503599627370496->okM ⟨aC vf0,aj⟩ m=true:=fun h hC=>by
  unfold okM
  rw [(h.1.ok hC).2,(h.2.1.ok hC).2,(h.2.2.ok hC).2]; rfl
 have hB1:rmB ⟨aC vf0,aj⟩ a b=false:=by
  unfold rmB
  rw [okM' h hA,okM' k hB]; rfl
 have hg:∀ r,BdV A r->rg ⟨aC vf0,aj⟩ b r=true:=fun r hr=>by
  unfold rg g3
  show (!((aC vf0 r (flip b).x).e != 0)&&(!((aC vf0 r (flip b).y).e != 0)&&!((aC vf0 r (flip b).z).e != 0)))=true
  rw [(dd r hr _ kf.1).1,(dd r hr _ kf.2.1).1,(dd r hr _ kf.2.2).1]; rfl
 have hG:rmG ⟨aC vf0,aj⟩ a b=true:=by
  unfold rmG
  rw [hg _ h.1,hg _ h.2.1,hg _ h.2.2]; rfl
 have hI:∀ x,rmI ⟨aC vf0,aj⟩ a b x=x:=fun x=>by
  unfold rmI
  rw [hB1,hG]; rfl
 have hrow:∀ r,BdV A r->BdV (3*M) (rmV ⟨aC vf0,aj⟩ a b r):=fun r hr=>by
  unfold rmV
  simp only [hI]
  exact ⟨(dd r hr _ kf.1).2,(dd r hr _ kf.2.1).2,(dd r hr _ kf.2.2).2⟩
 refine ⟨?_,⟨hrow _ h.1,hrow _ h.2.1,hrow _ h.2.2⟩,hB1,hG⟩
 unfold ze
 rw [hB1,hG]; rfl
def uM:Mat:=⟨⟨4294967296,4294967296,0,0,0,0⟩,⟨0,0,4294967296,4294967296,0,0⟩,⟨0,0,0,0,4294967296,4294967296⟩⟩
theorem TW {m:Mat} (h:eqU m=true):m=uM:=by
 unfold eqU at h
 simp only [Bool.and_eq_true,beq_iff_eq,Bool.and_true] at h
 obtain ⟨⟨a,b,c,d,e,f⟩,⟨g,i,j,k,l,n⟩,o,p,q,r,s,t⟩:=m
 obtain ⟨h1,h2,h3,h4,h5,h6,h7,h8,h9,h10,h11,h12,h13,h14,h15,h16,h17,h18⟩:=h
 dsimp only at *
 subst h1 h2 h3 h4 h5 h6 h7 h8 h9 h10 h11 h12 h13 h14 h15 h16 h17 h18
 rfl
theorem abG (a:Int) (up:Bool):mF a 4294967296 up=a:=by
 unfold mF rd
 cases up
 .exact Int.mul_ediv_cancel a (by decide)
 .show -(-(a*4294967296) / 4294967296)=a
  rw [<- Int.neg_mul,Int.mul_ediv_cancel _ (by decide)]; omega
theorem XI (a:Int) (up:Bool):mF a 0 up=0:=by
 unfold mF rd
 rw [Int.mul_zero]
 cases up <;> rfl
theorem mul_one {A a b:Int} (h:Bd A a b) (hA:A<=4503599627370496):aI a b 4294967296 4294967296=⟨a,b,0⟩:=by
 have ok1:=h.ok hA
 obtain ⟨h1,h2,h3⟩:=h
 unfold aI pG kw
 rw [ok1]
 simp only [abG]
 have m1:mn (mn (mn a a) b) b=a:=by
  simp only [mn_eq]
  repeat' split
  all_goals omega
 have m2:mx (mx (mx a a) b) b=b:=by
  simp only [mx_eq]
  repeat' split
  all_goals omega
 rw [m1,m2]
 show dV a b=_
 exact o7 (by omega) (by omega) (by omega) (by omega)
theorem mul_zero {A a b:Int} (h:Bd A a b) (hA:A<=4503599627370496):aI a b 0 0=⟨0,0,0⟩:=by
 have ok1:=h.ok hA
 unfold aI pG kw
 rw [ok1]
 simp only [XI]
 rfl
theorem bd0 (A:Int) (h:0<=A):Bd A 0 0:=⟨by omega,by omega,by omega⟩
theorem bd1 (A:Int) (h:4294967296<=A):Bd A 4294967296 4294967296:=⟨by omega,by omega,by omega⟩
theorem yN:BdM 4294967296 uM:=by
 have z:=bd0 4294967296 (by decide)
 have o:=bd1 4294967296 (by decide)
 exact ⟨⟨o,z,z⟩,⟨z,o,z⟩,z,z,o⟩
theorem qV {A:Int} {v:Ve} (h:BdV A v) (hA:A<=1000000000000000) (hA0:0<=A):(aC vf0 v uM.x)=⟨v.a,v.b,0⟩/\(aC vf0 v uM.y)=⟨v.c,v.d,0⟩/\(aC vf0 v uM.z)=⟨v.e,v.f,0⟩:=by
 obtain ⟨u1,u2,u3⟩:=yN
 have hA':A<=4503599627370496:=by omega
 refine ⟨?_,?_,?_⟩
 .obtain ⟨l1,w1,l2,w2,l3,w3,e1,e2,e3,e,_⟩:=kW h u1 hA' (by decide) (Int.le_refl _) hA0 (by omega)
  rw [show aI v.a v.b uM.x.a uM.x.b=aI v.a v.b 4294967296 4294967296 from rfl,mul_one h.1 hA'] at e1
  rw [show aI v.c v.d uM.x.c uM.x.d=aI v.c v.d 0 0 from rfl,mul_zero h.2.1 hA'] at e2
  rw [show aI v.e v.f uM.x.e uM.x.f=aI v.e v.f 0 0 from rfl,mul_zero h.2.2 hA'] at e3
  cases e1; cases e2; cases e3
  rw [e,Int.add_zero,Int.add_zero,Int.add_zero,Int.add_zero]
 .obtain ⟨l1,w1,l2,w2,l3,w3,e1,e2,e3,e,_⟩:=kW h u2 hA' (by decide) (Int.le_refl _) hA0 (by omega)
  rw [show aI v.a v.b uM.y.a uM.y.b=aI v.a v.b 0 0 from rfl,mul_zero h.1 hA'] at e1
  rw [show aI v.c v.d uM.y.c uM.y.d=aI v.c v.d 4294967296 4294967296 from rfl,mul_one h.2.1 hA'] at e2
  rw [show aI v.e v.f uM.y.e uM.y.f=aI v.e v.f 0 0 from rfl,mul_zero h.2.2 hA'] at e3
  cases e1; cases e2; cases e3
  rw [e,Int.zero_add,Int.add_zero,Int.zero_add,Int.add_zero]
 .obtain ⟨l1,w1,l2,w2,l3,w3,e1,e2,e3,e,_⟩:=kW h u3 hA' (by decide) (Int.le_refl _) hA0 (by omega)
  rw [show aI v.a v.b uM.z.a uM.z.b=aI v.a v.b 0 0 from rfl,mul_zero h.1 hA'] at e1
  rw [show aI v.c v.d uM.z.c uM.z.d=aI v.c v.d 0 0 from rfl,mul_zero h.2.1 hA'] at e2
  rw [show aI v.e v.f uM.z.e uM.z.f=aI v.e v.f 4294967296 4294967296 from rfl,mul_one h.2.2 hA'] at e3
  cases e1; cases e2; cases e3
  rw [e,Int.add_zero,Int.zero_add,Int.zero_add]
noncomputable def mf1:MF:=⟨aC vf0,aj⟩
theorem wG {A:Int} {m:Mat} (h:BdM A m) (hA:A<=1000000000000000) (hA0:0<=A):mulV mf1 m uM=m:=by
 obtain ⟨_,_,hB,hG⟩:=jI h yN (by omega) (by decide) (Int.le_refl _) hA0 (by omega)
 have hI:∀ x,rmI mf1 m uM x=x:=fun x=>by
  unfold rmI
  rw [show rmB mf1 m uM=false from hB,show rmG mf1 m uM=true from hG]; rfl
 have hrow:∀ r,BdV A r->rmV mf1 m uM r=r:=fun r hr=>by
  obtain ⟨a,b,c⟩:=qV hr hA hA0
  unfold rmV
  simp only [hI]
  rw [show mf1.dt r (flip uM).x=_ from a,show mf1.dt r (flip uM).y=_ from b,show mf1.dt r (flip uM).z=_ from c]
 unfold mulV
 rw [hrow _ h.1,hrow _ h.2.1,hrow _ h.2.2]
theorem adt {m d:Int}:iC m d<=iD m d:=by
 unfold iC iD
 repeat' split
 all_goals omega
theorem TY {more n d:Int} (h:snN more n d=true):Bd 13000000000 (iF more n d) (iG more n d):=by
 unfold iF iG
 cases hB:sS d with
 | true=>exact bd0 _ (by decide)
 | false=>
  unfold snN at h
  rw [hB] at h
  obtain ⟨a,b,c,d'⟩:=YM h
  have e:=adt (m:=snA more n d) (d:=d)
  cases snK n d more==0||snK n d more==1 with
  | true=>
   show Bd _ (iC _ _) (iD _ _)
   exact ⟨by omega,e,d'⟩
  | false=>
   show Bd _ (-iD _ _) (-iC _ _)
   exact ⟨by omega,by omega,by omega⟩
theorem xZ {A a b:Int} (h:Bd A a b) (hA:A<=4503599627370496):Ci a b=⟨-b,-a,0⟩/\Bd A (-b) (-a):=by
 unfold Ci
 rw [h.ok hA]
 obtain ⟨h1,h2,h3⟩:=h
 exact ⟨rfl,by omega,by omega,by omega⟩
theorem BR {a n:Int}:BdM 13000000000 (abA af0 a n):=by
 have s:=TY (wD 0 n)
 have c:=TY (wD 1 n)
 obtain ⟨g1,g2⟩:=xZ s (by decide)
 have z:=bd0 13000000000 (by decide)
 have o:=bd1 13000000000 (by decide)
 unfold abA
 show BdM _ (KP (iF 0 n 360000000) (iG 0 n 360000000) (iF 1 n 360000000) (iG 1 n 360000000) (Ci (iF 0 n 360000000) (iG 0 n 360000000)) a)
 rw [g1]
 unfold KP
 cases a==0 with
 | true=>exact ⟨⟨o,z,z⟩,⟨z,c,g2⟩,z,s,c⟩
 | false=>cases a==1 with
  | true=>exact ⟨⟨c,z,s⟩,⟨z,o,z⟩,g2,z,c⟩
  | false=>exact ⟨⟨c,g2,z⟩,⟨s,c,z⟩,z,z,o⟩
noncomputable def yO (x y:Int):Mat:=mulV mf1 (abA af0 1 y) (abA af0 0 x)
noncomputable def bG (x y z:Int):Mat:=mulV mf1 (abA af0 2 z) (yO x y)
theorem XJ (x y:Int):ze mf1 (abA af0 1 y) (abA af0 0 x)=0/\BdM 120000000000 (yO x y):=by
 obtain ⟨a,b,_,_⟩:=jI (M:=40000000000) (BR (a:=1) (n:=y)) (BR (a:=0) (n:=x)) (by decide) (by decide) (by decide) (by decide) (by decide)
 exact ⟨a,b⟩
theorem adu (x y z:Int):ro2 ⟨axN,abA af0,mulV mf1,ze mf1⟩ x y z=bG x y z:=by
 have e1:ro1 ⟨axN,abA af0,mulV mf1,ze mf1⟩ x y=yO x y:=by
  unfold ro1 yO
  show XE (eqU (abA af0 0 x)) (abA af0 1 y) (mulV mf1 (abA af0 1 y) (abA af0 0 x))=_
  cases h:eqU (abA af0 0 x) with
  | false=>rfl
  | true=>
   rw [TW h,wG BR (by decide) (by decide)]; rfl
 unfold ro2 bG
 rw [e1]
 show XE (eqU (yO x y)) (abA af0 2 z) (mulV mf1 (abA af0 2 z) (yO x y))=_
 cases h:eqU (yO x y) with
 | false=>rfl
 | true=>
  rw [TW h,wG BR (by decide) (by decide)]; rfl
def sV (x y z:Int):Bool:=bif jH x then true else bif jH y then true else jH z
def z0M:Mat:=⟨⟨0,0,0,0,0,0⟩,⟨0,0,0,0,0,0⟩,⟨0,0,0,0,0,0⟩⟩
noncomputable def pI (x y z:Int):Mat:=bif sV x y z then z0M else bG x y z
def sG (x y z:Int):Int:=bif sV x y z then 2 else 0
end Go.Vc
namespace Go.Proofs.YtmnhhlnbfkfkaaaGreat.K
open Go Go.Eng Go.Dg Go.Ar Go.Vc
noncomputable section
def maT (m:Mat):Tm:=.a [.n .i64 m.x.a,.n .i64 m.x.b,.n .i64 m.x.c,.n .i64 m.x.d,.n .i64 m.x.e,.n .i64 m.x.f,.n .i64 m.y.a,.n .i64 m.y.b,.n .i64 m.y.c,.n .i64 m.y.d,.n .i64 m.y.e,.n .i64 m.y.f,.n .i64 m.z.a,.n .i64 m.z.b,.n .i64 m.z.c,.n .i64 m.z.d,.n .i64 m.z.e,.n .i64 m.z.f]
def sAb (N:Int->Int->Bool) (A:Int->Int->Mat):aM:=aW aa4 (some fun|[.n m,.n d]=>N m d|_=>false) fun
 | [.n m,.n d]=>maT (A m d)
 | _=>.u []
def TZ (F:AF):List (FuncId×aM):=[(8,BL F.n0 F.sl F.sh snE),(10,BL F.n1 F.cl F.ch snE),(62,sUn F.ng)]
theorem T9:pq Tryz.prog (TZ af0):=by
 intro x hx
 simp only [TZ,List.mem_cons,List.not_mem_nil,or_false] at hx
 rcases hx with rfl|rfl|rfl
 .exact MW
 .exact DK
 .exact Mk
def cAb (F:AF) (i j:Int):Ctx:=fZ (mkC Tryz.prog (TZ F) ext) (hZ [(32,.int false .i64 i),(35,.int false .i64 j)])
theorem KU (i j:Int):CtxOk (cAb af0 i j):=bU (jd dL T9 jF) _
def zP:AV:=.int false .i64 0
def oP:AV:=.int false .i64 4294967296
def iP (x:Int):AV:=.int true .i64 x
def abL (sl sh cl ch:Int) (m:Sp) (a:Int):List AV:=
 bif a==0 then [oP,oP,zP,zP,zP,zP,zP,zP,iP cl,iP ch,iP m.lo,iP m.hi,zP,zP,iP sl,iP sh,iP cl,iP ch]
 else bif a==1 then [iP cl,iP ch,zP,zP,iP sl,iP sh,zP,zP,oP,oP,zP,zP,iP m.lo,iP m.hi,zP,zP,iP cl,iP ch]
 else [iP cl,iP ch,iP m.lo,iP m.hi,zP,zP,iP sl,iP sh,iP cl,iP ch,zP,zP,zP,zP,zP,zP,oP,oP]
def abV (F:AF) (a n:Int):AV:=.agg (abL (F.sl n 360000000) (F.sh n 360000000) (F.cl n 360000000) (F.ch n 360000000) (F.ng (F.sl n 360000000) (F.sh n 360000000)) a)
theorem XK (F:AF) (n:Int):fF ((run (cAb F 1 2) 300).call 33 [.int true .i64 0,.int true .i64 n] ⟨[],0,1⟩)=some (.p (abN F n 0 1 2),abV F 0 n):=by kernel_rfl
theorem XL (F:AF) (n:Int):fF ((run (cAb F 2 0) 300).call 33 [.int true .i64 1,.int true .i64 n] ⟨[],0,1⟩)=some (.p (abN F n 1 2 0),abV F 1 n):=by kernel_rfl
theorem XM (F:AF) (n:Int):fF ((run (cAb F 0 1) 300).call 33 [.int true .i64 2,.int true .i64 n] ⟨[],0,1⟩)=some (.p (abN F n 2 0 1),abV F 2 n):=by kernel_rfl
theorem Ua {n a i j:Int} (h:(wr (a+1)).tmod 3=i/\(wr (a+2)).tmod 3=j):abN af0 n a i j:=⟨wD 0 n,wD 1 n,h,⟨⟨rfl,rfl⟩,⟨rfl,rfl⟩,rfl,rfl⟩,⟨⟨rfl,rfl⟩,rfl,rfl⟩,rfl,rfl⟩
theorem Ub:PureOk Tryz.prog 33 (sAb axN (abA af0)):=by
 refine num_ok' (fun xs hk hN=>?_) ⟨_,Tryz.func33,rfl⟩
 obtain ⟨a,_,rfl,h1⟩:=kn hk; obtain ⟨n,_,rfl,h2⟩:=kn h1; obtain rfl:=k0 h2
 have hN:axN a n=true:=hN
 unfold axN at hN
 simp only [Bool.or_eq_true,beq_iff_eq] at hN
 rcases hN with rfl|rfl|rfl
 .exact ⟨_,300,_,_,KU 1 2,rfl,fun _=>rfl,rfl,XK af0 n,Ua (by decide),fun τ W h=>h⟩
 .exact ⟨_,300,_,_,KU 2 0,rfl,fun _=>rfl,rfl,XL af0 n,Ua (by decide),fun τ W h=>h⟩
 .exact ⟨_,300,_,_,KU 0 1,rfl,fun _=>rfl,rfl,XM af0 n,Ua (by decide),fun τ W h=>h⟩
def Uc (R:RF):List (FuncId×aM):=[(33,sAb R.n R.ab),(15,sMM R.mv R.mo)]
def rf0:RF:=⟨axN,abA af0,mulV mf0,ze mf0⟩
theorem Ud:pq Tryz.prog (Uc rf0):=by
 intro x hx
 simp only [Uc,List.mem_cons,List.not_mem_nil,or_false] at hx
 rcases hx with rfl|rfl
 .exact Ub
 .exact Mt
def hRo (k:Nat):Nat->Nat->Option AV:=fun c t=>match Nat.beq t 26 with
 | true=>match Nat.ble k c with
  | true=>some (.bool false true)
  | false=>some (.bool false false)
 | false=>none
def cRo (R:RF) (k:Nat):Ctx:=fZ (mkC Tryz.prog (Uc R) ext) (hRo k)
theorem F6 (k:Nat):CtxOk (cRo rf0 k):=bU (jd dL Ud jF) _
def adv:List Sh:=[.i .i64,.i .i64,.i .i64]
def outMa' (m:Mat) (e:AV):AV:=.tuple [(maT m).av true,e]
def XN:AV:=.tuple [.agg [zP,zP,zP,zP,zP,zP,zP,zP,zP,zP,zP,zP,zP,zP,zP,zP,zP,zP],.int false .i64 2]
def i3 (x y z:Int):List AV:=[.int true .i64 x,.int true .i64 y,.int true .i64 z]
theorem abI (R:RF) (x y z:Int):fF ((run (cRo R 0) 900).call 12 (i3 x y z) ⟨[],0,1⟩)=some (.p (qU x true),XN):=by kernel_rfl
theorem abJ (R:RF) (x y z:Int):fF ((run (cRo R 100) 900).call 12 (i3 x y z) ⟨[],0,1⟩)=some (.p (abe R x/\qU y true),XN):=by kernel_rfl
theorem abK (R:RF) (x y z:Int):fF ((run (cRo R 200) 900).call 12 (i3 x y z) ⟨[],0,1⟩)=some (.p (abe R x/\adj R x y/\qU z true),XN):=by kernel_rfl
theorem XO (R:RF) (x y z:Int):fF ((run (cRo R 9000) 900).call 12 (i3 x y z) ⟨[],0,1⟩)=some (.p (abe R x/\adj R x y/\afA R x y z),outMa' (ro2 R x y z) (.int false .i64 0)):=by kernel_rfl
def KV (V:Int->Int->Int->Mat) (E:Int->Int->Int->Int):aM:=aW adv none fun
 | [.n x,.n y,.n z]=>yK (V x y z) (E x y z)
 | _=>.u []
theorem Ue:PureOk Tryz.prog 12 (KV pI sG):=by
 refine num_ok' (fun xs hk _=>?_) ⟨_,Tryz.func12,rfl⟩
 obtain ⟨x,_,rfl,h1⟩:=kn hk; obtain ⟨y,_,rfl,h2⟩:=kn h1; obtain ⟨z,_,rfl,h3⟩:=kn h2; obtain rfl:=k0 h3
 have nx:∀ b,jH x=b->qU x b:=fun b h=>h ▸ KO
 have ny:∀ b,jH y=b->qU y b:=fun b h=>h ▸ KO
 have nz:∀ b,jH z=b->qU z b:=fun b h=>h ▸ KO
 have bad:sV x y z=true->∀ τ W,VRel τ XN W->VRel τ ((yK (pI x y z) (sG x y z)).av true) W:=fun h τ W k=>by
  have e1:pI x y z=z0M:=by unfold pI; rw [h]; rfl
  have e2:sG x y z=2:=by unfold sG; rw [h]; rfl
  rw [e1,e2]; exact k
 cases hx:jH x with
 | true=>exact ⟨cRo rf0 0,900,_,_,F6 0,rfl,fun _=>rfl,rfl,abI rf0 x y z,nx _ hx,bad (by unfold sV; rw [hx]; rfl)⟩
 | false=>cases hy:jH y with
  | true=>exact ⟨cRo rf0 100,900,_,_,F6 100,rfl,fun _=>rfl,rfl,abJ rf0 x y z,⟨⟨nx _ hx,rfl⟩,ny _ hy⟩,bad (by unfold sV; rw [hx,hy]; rfl)⟩
  | false=>cases hz:jH z with
   | true=>exact ⟨cRo rf0 200,900,_,_,F6 200,rfl,fun _=>rfl,rfl,abK rf0 x y z,⟨⟨nx _ hx,rfl⟩,⟨ny _ hy,rfl,Rl _⟩,nz _ hz⟩,bad (by unfold sV; rw [hx,hy,hz]; rfl)⟩
   | false=>
    have hb:sV x y z=false:=by unfold sV; rw [hx,hy,hz]; rfl
    refine ⟨cRo rf0 9000,900,_,_,F6 9000,rfl,fun _=>rfl,rfl,XO rf0 x y z,⟨⟨nx _ hx,rfl⟩,⟨ny _ hy,rfl,Rl _⟩,nz _ hz,rfl,Rl _⟩,fun τ W k=>?_⟩
    have e1:pI x y z=ro2 rf0 x y z:=by unfold pI; rw [hb]; exact (adu x y z).symm
    have e2:sG x y z=0:=by unfold sG; rw [hb]; rfl
    show VRel τ ((yK (pI x y z) (sG x y z)).av true) W
    rw [e1,e2]; exact k
end
end Go.Proofs.YtmnhhlnbfkfkaaaGreat.K
namespace Go.Proofs.YtmnhhlnbfkfkaaaGreat.K
open Go Go.Eng Go.Dg
noncomputable section
def ofV:List Nu->List (List Int)->Option (Prop×To)
 | [.n n],[]=>some (n.natAbs<=9223372036854775808,lgT false n)
 | _,_=>none
def miV:List Nu->List (List Int)->Option (Prop×To)
 | [.t p],[a]=>some (okL p a,lgT false (-zv p a))
 | _,_=>none
def dfV:List Nu->List (List Int)->Option (Prop×To)
 | [.t p,.t q],[a,b]=>some (okL p a/\okL q b/\p=q/\a≠[]/\b≠[],lgT false (zv p a - zv q b))
 | _,_=>none
def afC:List Nu->List (List Int)->Option (Prop×To)
 | [.t p,.t q],[a,b]=>some (okL p a/\okL q b/\a≠[]/\b≠[]/\val a+val b<pw 400000,lgT false (zv p a+zv q b))
 | _,_=>none
def afD:List Nu->List (List Int)->Option (Prop×To)
 | [.t p,.t q],[a,b]=>some (okL p a/\okL q b/\a.length+b.length<=500000,lgT false (zv p a*zv q b))
 | _,_=>none
structure TkD (D b:List Int):Prop where
 hD:Dig D
 tD:Top D
 sD:D.length<=500000
 hb:Dig b
 tb:Top b
 sb:b.length<=500000
 ne:b≠[]
 lt:val D<1000000000*val b
structure PaD (a b:List Int):Prop where
 ha:Dig a
 hb:Dig b
 tb:Top b
 ne:b≠[]
 sm:a.length+b.length<=400000
def ptV:List Nu->List (List Int)->Option (Prop×To)
 | [.t p,.t q],[a,b]=>some (okL p a/\okL q b/\b≠[]/\a.length+b.length<=400000,.tu [lgT false ((zv p a).tdiv (zv q b)),lgT false ((zv p a).tmod (zv q b))])
 | _,_=>none
end
end Go.Proofs.YtmnhhlnbfkfkaaaGreat.K
namespace Go.Dg
open Go Go.Eng
noncomputable section
def frL {β:Type}:List Int->(List Int->β)->β
 | [],k=>k []
 | x :: l,k=>pM x fun x=>frL l fun l=>k (x :: l)
def frB {β:Type} (b:Bool) (k:Bool->β):β:=match b with|true=>k true|false=>k false
def frT {β:Type} (t:To) (k:To->β):β:=match t with
 | .st [.bo b,.li o l]=>frB b fun b=>frL l fun l=>k (.st [.bo b,.li o l])
 | t=>k t
def O1 (V:List Nu->List (List Int)->Option (Prop×To)) (xs:List Nu) (ys:List (List Int)):Option (Prop×To):=match V xs ys with
 | some (p,.tu [a,b])=>frT a fun a=>frT b fun b=>some (p,.tu [a,b])
 | some (p,t)=>frT t fun t=>some (p,t)
 | none=>none
end
end Go.Dg
namespace Go.Proofs.YtmnhhlnbfkfkaaaGreat.K
open Go Go.Eng Go.Dg Go.Ar Go.Vc
noncomputable section
def psA:List Ma:=[.st [.nu .b,.li],.st [.nu .b,.li]]
def noZ (V:List Nu->List (List Int)->Option (Prop×To)) (xs:List Nu) (ys:List (List Int)):Option (Prop×To):=match ys with
 | [] :: _=>none
 | [_,[]]=>none
 | _=>V xs ys
def tCl:List (FuncId×pu):=
 (51,dI hG0 .i64 psA (O1 (noZ afC))) ::
 (58,dI hG0 .i64 psA (O1 (noZ dfV))) ::
 (52,dI hG0 .i64 psA (O1 afD)) ::
 (82,dI hG0 .i64 psA (O1 ptV)) ::
 (54,dI hG0 .i64 [.nu (.i .i64)] (O1 ofV)) ::
 (79,dI hG0 .i64 [.st [.nu .b,.li]] (O1 miV)) :: []
def cCl:Ctx:=mkN Tryz.prog (fun _=>none) hG0 tCl [] lH
def hCl (T A B:Nat):Nat->Nat->Option AV:=fun c t=>match Nat.beq t 21 with
 | true=>match Nat.blt c T with
  | true=>some (.bool false true)
  | false=>some (.bool false false)
 | false=>match Nat.beq t 12 with
  | true=>match Nat.blt c A with
   | true=>some (.bool false true)
   | false=>some (.bool false false)
  | false=>match Nat.beq t 17||Nat.beq t 18 with
   | true=>match Nat.blt c B with
    | true=>some (.bool false false)
    | false=>some (.bool false true)
   | false=>none
def adw (T A B:Nat):Ctx:=fZ cCl (hCl T A B)
end
end Go.Proofs.YtmnhhlnbfkfkaaaGreat.K
namespace Go.Dg
open Go Go.Eng
def ag (n:Int):Prop:=n.natAbs<=9223372036854775808
def ae (a:List Int):Prop:=false=false/\(a.length:Int)=(a.length:Int)
def aL (a b:List Int):Prop:=((a.length:Int)=(a.length:Int)/\(b.length:Int)=(b.length:Int))/\okL false a/\okL false b/\a.length+b.length<=500000
def aJ (a b:List Int):Prop:=((a.length:Int)=(a.length:Int)/\(b.length:Int)=(b.length:Int))/\okL false a/\okL false b/\b≠[]/\a.length+b.length<=400000
def qW (a b:List Int):Prop:=((a.length:Int)=(a.length:Int)/\(b.length:Int)=(b.length:Int))/\okL false a/\okL false b/\a≠[]/\b≠[]/\val a+val b<pw 400000
def pJ (a b:List Int):Prop:=((a.length:Int)=(a.length:Int)/\(b.length:Int)=(b.length:Int))/\okL false a/\okL false b/\false=false/\a≠[]/\b≠[]
end Go.Dg
namespace Go.Proofs.YtmnhhlnbfkfkaaaGreat.K
open Go Go.Eng Go.Dg
noncomputable section
def qD0:List Int:=[1]
def BS:List Int:=[0,0,0,0,10000]
def O3:List Int:=[7]
def Cn:List Int:=[428571428,571428571,428571428,571428571,1428]
def dw:List Int:=[49]
def F7:List Int:=[763848396,256559766,437317784,154518950,29]
def Jq:List Int:=[3]
def afE:List Int:=[254616132,85519922,479105928,718172983,9]
def F8:List Int:=[525792824,229725709,661986077,594990182]
def XP:List Int:=[5]
def afF:List Int:=[173955296,485908649,949465500,853255587,1418]
def afG:List Int:=[905158564,445945141,532397215,118998036]
def F9:List Int:=[51546792,25096443,789020124,12142656]
def afH:List Int:=[79113860,931853791,481862715,972253624,1418]
def afI:List Int:=[721649541,432156634,255574303,1734665]
def Ga:List Int:=[674521363,490308090,322224900,247809]
def pK:List Int:=[9]
def afJ:List Int:=[357464319,499697156,226288412,970518959,1418]
def afK:List Int:=[741613484,54478676,369136100,27534]
def Gb:List Int:=[523969823,622251185,333106630,5057]
def XQ:List Int:=[11]
def afL:List Int:=[99077803,554175833,595424512,970546493,1418]
def afM:List Int:=[411269983,238386471,757555148,459]
def Gc:List Int:=[643346322,155556146,210879727,103]
def XR:List Int:=[13]
def afN:List Int:=[687807820,315789361,837869364,970546033,1418]
def afO:List Int:=[895642024,550427395,939298440,7]
def Gd:List Int:=[155986659,227664411,106344484,2]
def XT:List Int:=[15]
def afP:List Int:=[583449844,866216757,777167804,970546041,1418]
def afQ:List Int:=[410399110,615177627,140422965]
def Gf:List Int:=[64407891,127095192,42986622]
def XU:List Int:=[17]
def afR:List Int:=[173050734,251039130,636744839,970546041,1418]
def afS:List Int:=[533200464,831005599,2528624]
def Gg:List Int:=[429885875,2593779,877278]
def XV:List Int:=[19]
def afT:List Int:=[706251198,82044729,639273464,970546041,1418]
def afU:List Int:=[180520309,526452304,46172]
def Gh:List Int:=[498569099,632705995,17903]
def XW:List Int:=[21]
def afV:List Int:=[525730889,555592425,639227291,970546041,1418]
def afW:List Int:=[738027099,553938380,852]
def Gi:List Int:=[30583042,380259306,365]
def XX:List Int:=[23]
def afX:List Int:=[263757988,109530806,639228144,970546041,1418]
def afY:List Int:=[696981871,886098230,15]
def Gj:List Int:=[837358837,456739985,7]
def XY:List Int:=[25]
def afZ:List Int:=[566776117,223432575,639228128,970546041,1418]
def af1:List Int:=[433494353,298269599]
def Gl:List Int:=[57905282,152178367]
def XZ:List Int:=[27]
def af2:List Int:=[270470,521702175,639228128,970546041,1418]
def af3:List Int:=[816959454,5636235]
def Gm:List Int:=[960365413,3105680]
def adx:List Int:=[29]
def af4:List Int:=[183311016,516065939,639228128,970546041,1418]
def af5:List Int:=[446909152,107092]
def Gn:List Int:=[244089090,63381]
def ady:List Int:=[31]
def adz:List Int:=[630220168,516173031,639228128,970546041,1418]
def adA:List Int:=[556260938,2044]
def wH:List Int:=[494777328,1293]
def YU:List Int:=[33]
def adB:List Int:=[73959230,516170987,639228128,970546041,1418]
def adC:List Int:=[196811434,39]
def wI:List Int:=[397852598,26]
def YV:List Int:=[35]
def adD:List Int:=[270770664,516171026,639228128,970546041,1418]
def adE:List Int:=[754224359]
def wJ:List Int:=[538731685]
def YW:List Int:=[37]
def adF:List Int:=[516546305,516171025,639228128,970546041,1418]
def adG:List Int:=[14560315]
def wK:List Int:=[10994524]
def YX:List Int:=[39]
def adH:List Int:=[531106620,516171025,639228128,970546041,1418]
def adI:List Int:=[281910]
def wL:List Int:=[224378]
def YY:List Int:=[41]
def adJ:List Int:=[530824710,516171025,639228128,970546041,1418]
def adK:List Int:=[5472]
def wM:List Int:=[4579]
def YZ:List Int:=[43]
def adL:List Int:=[530830182,516171025,639228128,970546041,1418]
def adM:List Int:=[106]
def wN:List Int:=[93]
def Y0:List Int:=[45]
def adN:List Int:=[530830076,516171025,639228128,970546041,1418]
def adO:List Int:=[2]
def Y3:List Int:=[47]
def Uf:List Int:=[530830078,516171025,639228128,970546041,1418]
def Y4:List Int:=[79]
def adP:List Int:=[0,0,0,0,30000]
def wO:List Int:=[468354430,544303797,37974683,746835443,379]
def eP:List Int:=[6241]
def adQ:List Int:=[215189870,898734177,341772151,721518987,3417]
def yP:List Int:=[533282356,233119489,629120617,547624021]
def adR:List Int:=[177760785,744373163,543040205,182541340]
def adS:List Int:=[799541204,98075405,662085555,928616194,4]
def yQ:List Int:=[600993357,122752455,781871829,789715]
def adT:List Int:=[290593645,799930634,494934477,564294102,379]
def adU:List Int:=[120198671,824550491,156374365,157943]
def adV:List Int:=[408940213,104772100,36846462,7107442]
def yR:List Int:=[563276548,942654185,830642019,1138]
def adW:List Int:=[410792316,624481125,651308843,564452045,379]
def adX:List Int:=[651896649,134664883,690091717,162]
def adY:List Int:=[69488932,483887670,475778179,10249]
def yS:List Int:=[252694999,161910573,642281009,1]
def adZ:List Int:=[758895667,489816241,961217126,564451882,379]
def ad1:List Int:=[361410555,684656730,182475667]
def ad3:List Int:=[274254991,457195159,780529082,14]
def yT:List Int:=[195845898,997990257,2368294]
def ad4:List Int:=[120306222,174472972,143692794,564451883,379]
def ad5:List Int:=[563258718,545271841,215299]
def ad6:List Int:=[762613082,981912314,21314654]
def yU:List Int:=[694241726,262775502,3415]
def ad7:List Int:=[557047504,629201130,143477494,564451883,379]
def ad8:List Int:=[514941671,712521192,262]
def ad9:List Int:=[248175534,364979524,30737]
def yV:List Int:=[241347248,925070498,4]
def aea:List Int:=[71989175,341722323,143477757,564451883,379]
def aeb:List Int:=[216089816,328338033]
def aec:List Int:=[172125232,325634484,44]
def yX:List Int:=[871041840,7102328]
def aed:List Int:=[855899359,13384289,143477757,564451883,379]
def aee:List Int:=[51237755,417784]
def aef:List Int:=[839376560,63920959]
def yY:List Int:=[102201470,10242]
def aeg:List Int:=[907137114,13802073,143477757,564451883,379]
def aeh:List Int:=[58010603,539]
def aei:List Int:=[919813230,92178]
def yZ:List Int:=[769895820,14]
def aej:List Int:=[849126511,13801534,143477757,564451883,379]
def aek:List Int:=[703328372]
def ael:List Int:=[929062380,132]
def y5:List Int:=[21299321]
def aem:List Int:=[552454883,13801535,143477757,564451883,379]
def aen:List Int:=[926057]
def aeo:List Int:=[191693889]
def y7:List Int:=[30715]
def aep:List Int:=[551528826,13801535,143477757,564451883,379]
def aeq:List Int:=[1228]
def aer:List Int:=[276435]
def y8:List Int:=[44]
def aes:List Int:=[551530054,13801535,143477757,564451883,379]
def aet:List Int:=[396]
def Y5:List Int:=[551530053,13801535,143477757,564451883,379]
def aeu (z:Int):Prop:=(ag 0/\(ag 1/\(5:Int)=(5:Int)/\ag 7/\(5:Int)=(5:Int)/\(((5:Int)=(↑BS.length:Int)/\(↑qD0.length:Int)=(↑qD0.length:Int))/\okL false BS/\okL false qD0/\BS.length+qD0.length<=(500000:Nat))/\ae O3/\aJ BS O3)/\(decide ((↑Cn.length:Int)>(0:Int))=true/\(ag 1/\ae Cn/\ag 1/\ae Cn/\aL Cn qD0/\ae qD0/\aJ Cn qD0)/\((↑([]:List Int).length:Int)==(0:Int))=true/\ag 1/\ae Cn/\ag 49/\ae Cn/\aL Cn qD0/\ae dw/\aJ Cn dw)/\(decide ((↑F7.length:Int)>(0:Int))=true/\(ag 1/\ae F7/\ag 3/\ae F7/\aL F7 qD0/\ae Jq/\aJ F7 Jq)/\pJ Cn afE/\ag 1/\ae F7/\ag 49/\ae F7/\aL F7 qD0/\ae dw/\aJ F7 dw)/\(decide ((↑F8.length:Int)>(0:Int))=true/\(ag 1/\ae F8/\ag 5/\ae F8/\aL F8 qD0/\ae XP/\aJ F8 XP)/\qW afF afG/\ag 1/\ae F8/\ag 49/\ae F8/\aL F8 qD0/\ae dw/\aJ F8 dw)/\(decide ((↑F9.length:Int)>(0:Int))=true/\(ag 1/\ae F9/\ag 7/\ae F9/\aL F9 qD0/\ae O3/\aJ F9 O3)/\pJ afH afI/\ag 1/\ae F9/\ag 49/\ae F9/\aL F9 qD0/\ae dw/\aJ F9 dw)/\(decide ((↑Ga.length:Int)>(0:Int))=true/\(ag 1/\ae Ga/\ag 9/\ae Ga/\aL Ga qD0/\ae pK/\aJ Ga pK)/\qW afJ afK/\ag 1/\ae Ga/\ag 49/\ae Ga/\aL Ga qD0/\ae dw/\aJ Ga dw)/\(decide ((↑Gb.length:Int)>(0:Int))=true/\(ag 1/\ae Gb/\ag 11/\ae Gb/\aL Gb qD0/\ae XQ/\aJ Gb XQ)/\pJ afL afM/\ag 1/\ae Gb/\ag 49/\ae Gb/\aL Gb qD0/\ae dw/\aJ Gb dw)/\(decide ((↑Gc.length:Int)>(0:Int))=true/\(ag 1/\ae Gc/\ag 13/\ae Gc/\aL Gc qD0/\ae XR/\aJ Gc XR)/\qW afN afO/\ag 1/\ae Gc/\ag 49/\ae Gc/\aL Gc qD0/\ae dw/\aJ Gc dw)/\(decide ((↑Gd.length:Int)>(0:Int))=true/\(ag 1/\ae Gd/\ag 15/\ae Gd/\aL Gd qD0/\ae XT/\aJ Gd XT)/\pJ afP afQ/\ag 1/\ae Gd/\ag 49/\ae Gd/\aL Gd qD0/\ae dw/\aJ Gd dw)/\(decide ((↑Gf.length:Int)>(0:Int))=true/\(ag 1/\ae Gf/\ag 17/\ae Gf/\aL Gf qD0/\ae XU/\aJ Gf XU)/\qW afR afS/\ag 1/\ae Gf/\ag 49/\ae Gf/\aL Gf qD0/\ae dw/\aJ Gf dw)/\(decide ((↑Gg.length:Int)>(0:Int))=true/\(ag 1/\ae Gg/\ag 19/\ae Gg/\aL Gg qD0/\ae XV/\aJ Gg XV)/\pJ afT afU/\ag 1/\ae Gg/\ag 49/\ae Gg/\aL Gg qD0/\ae dw/\aJ Gg dw)/\(decide ((↑Gh.length:Int)>(0:Int))=true/\(ag 1/\ae Gh/\ag 21/\ae Gh/\aL Gh qD0/\ae XW/\aJ Gh XW)/\qW afV afW/\ag 1/\ae Gh/\ag 49/\ae Gh/\aL Gh qD0/\ae dw/\aJ Gh dw)/\(decide ((↑Gi.length:Int)>(0:Int))=true/\(ag 1/\ae Gi/\ag 23/\ae Gi/\aL Gi qD0/\ae XX/\aJ Gi XX)/\pJ afX afY/\ag 1/\ae Gi/\ag 49/\ae Gi/\aL Gi qD0/\ae dw/\aJ Gi dw)/\(decide ((↑Gj.length:Int)>(0:Int))=true/\(ag 1/\ae Gj/\ag 25/\ae Gj/\aL Gj qD0/\ae XY/\aJ Gj XY)/\qW afZ af1/\ag 1/\ae Gj/\ag 49/\ae Gj/\aL Gj qD0/\ae dw/\aJ Gj dw)/\(decide ((↑Gl.length:Int)>(0:Int))=true/\(ag 1/\ae Gl/\ag 27/\ae Gl/\aL Gl qD0/\ae XZ/\aJ Gl XZ)/\pJ af2 af3/\ag 1/\ae Gl/\ag 49/\ae Gl/\aL Gl qD0/\ae dw/\aJ Gl dw)/\(decide ((↑Gm.length:Int)>(0:Int))=true/\(ag 1/\ae Gm/\ag 29/\ae Gm/\aL Gm qD0/\ae adx/\aJ Gm adx)/\qW af4 af5/\ag 1/\ae Gm/\ag 49/\ae Gm/\aL Gm qD0/\ae dw/\aJ Gm dw)/\(decide ((↑Gn.length:Int)>(0:Int))=true/\(ag 1/\ae Gn/\ag 31/\ae Gn/\aL Gn qD0/\ae ady/\aJ Gn ady)/\pJ adz adA/\ag 1/\ae Gn/\ag 49/\ae Gn/\aL Gn qD0/\ae dw/\aJ Gn dw)/\(decide ((↑wH.length:Int)>(0:Int))=true/\(ag 1/\ae wH/\ag 33/\ae wH/\aL wH qD0/\ae YU/\aJ wH YU)/\qW adB adC/\ag 1/\ae wH/\ag 49/\ae wH/\aL wH qD0/\ae dw/\aJ wH dw)/\(decide ((↑wI.length:Int)>(0:Int))=true/\(ag 1/\ae wI/\ag 35/\ae wI/\aL wI qD0/\ae YV/\aJ wI YV)/\pJ adD adE/\ag 1/\ae wI/\ag 49/\ae wI/\aL wI qD0/\ae dw/\aJ wI dw)/\(decide ((↑wJ.length:Int)>(0:Int))=true/\(ag 1/\ae wJ/\ag 37/\ae wJ/\aL wJ qD0/\ae YW/\aJ wJ YW)/\qW adF adG/\ag 1/\ae wJ/\ag 49/\ae wJ/\aL wJ qD0/\ae dw/\aJ wJ dw)/\(decide ((↑wK.length:Int)>(0:Int))=true/\(ag 1/\ae wK/\ag 39/\ae wK/\aL wK qD0/\ae YX/\aJ wK YX)/\pJ adH adI/\ag 1/\ae wK/\ag 49/\ae wK/\aL wK qD0/\ae dw/\aJ wK dw)/\(decide ((↑wL.length:Int)>(0:Int))=true/\(ag 1/\ae wL/\ag 41/\ae wL/\aL wL qD0/\ae YY/\aJ wL YY)/\qW adJ adK/\ag 1/\ae wL/\ag 49/\ae wL/\aL wL qD0/\ae dw/\aJ wL dw)/\(decide ((↑wM.length:Int)>(0:Int))=true/\(ag 1/\ae wM/\ag 43/\ae wM/\aL wM qD0/\ae YZ/\aJ wM YZ)/\pJ adL adM/\ag 1/\ae wM/\ag 49/\ae wM/\aL wM qD0/\ae dw/\aJ wM dw)/\(decide ((↑wN.length:Int)>(0:Int))=true/\(ag 1/\ae wN/\ag 45/\ae wN/\aL wN qD0/\ae Y0/\aJ wN Y0)/\qW adN adO/\ag 1/\ae wN/\ag 49/\ae wN/\aL wN qD0/\ae dw/\aJ wN dw)/\(decide ((↑qD0.length:Int)>(0:Int))=true/\(ag 1/\ae qD0/\ag 47/\ae qD0/\aL qD0 qD0/\ae Y3/\aJ qD0 Y3)/\(((↑Uf.length:Int)==(0:Int))=false/\((↑([]:List Int).length:Int)==(0:Int))=true)/\ag 1/\ae qD0/\ag 49/\ae qD0/\aL qD0 qD0/\ae dw/\aJ qD0 dw)/\decide ((↑([]:List Int).length:Int)>(0:Int))=false)
def af6 (z:Int):AV:=(AV.agg [AV.bool true false,AV.lslice 1 (↑Uf.length:Int)])
def af7 (z:Int):Hp:=⟨[{ wr:=1645,body:=ABody.rows IntKind.i64 Uf },{ wr:=(0:Nat),body:=ABody.rows IntKind.i64 BS }],2,1770⟩
theorem a1 (z:Int):(run (adw 1726 110 0) 2000).call 53 [.int false .i64 1,.int false .i64 7,.agg [.bool false false,.lslice 0 5]] ⟨[⟨0,.rows .i64 BS⟩],1,1⟩=some ⟨.p (aeu z),[⟨.tt,af6 z,af7 z⟩]⟩:=by kernel_rfl
def aev (z:Int):Prop:=(ag 0/\(ag 3/\(5:Int)=(5:Int)/\ag 79/\(5:Int)=(5:Int)/\(((5:Int)=(↑BS.length:Int)/\(↑Jq.length:Int)=(↑Jq.length:Int))/\okL false BS/\okL false Jq/\BS.length+Jq.length<=(500000:Nat))/\ae Y4/\aJ adP Y4)/\(decide ((↑wO.length:Int)>(0:Int))=true/\(ag 1/\ae wO/\ag 1/\ae wO/\aL wO qD0/\ae qD0/\aJ wO qD0)/\((↑([]:List Int).length:Int)==(0:Int))=true/\ag 9/\ae wO/\ag 6241/\ae wO/\aL wO pK/\ae eP/\aJ adQ eP)/\(decide ((↑yP.length:Int)>(0:Int))=true/\(ag 1/\ae yP/\ag 3/\ae yP/\aL yP qD0/\ae Jq/\aJ yP Jq)/\pJ wO adR/\ag 9/\ae yP/\ag 6241/\ae yP/\aL yP pK/\ae eP/\aJ adS eP)/\(decide ((↑yQ.length:Int)>(0:Int))=true/\(ag 1/\ae yQ/\ag 5/\ae yQ/\aL yQ qD0/\ae XP/\aJ yQ XP)/\qW adT adU/\ag 9/\ae yQ/\ag 6241/\ae yQ/\aL yQ pK/\ae eP/\aJ adV eP)/\(decide ((↑yR.length:Int)>(0:Int))=true/\(ag 1/\ae yR/\ag 7/\ae yR/\aL yR qD0/\ae O3/\aJ yR O3)/\pJ adW adX/\ag 9/\ae yR/\ag 6241/\ae yR/\aL yR pK/\ae eP/\aJ adY eP)/\(decide ((↑yS.length:Int)>(0:Int))=true/\(ag 1/\ae yS/\ag 9/\ae yS/\aL yS qD0/\ae pK/\aJ yS pK)/\qW adZ ad1/\ag 9/\ae yS/\ag 6241/\ae yS/\aL yS pK/\ae eP/\aJ ad3 eP)/\(decide ((↑yT.length:Int)>(0:Int))=true/\(ag 1/\ae yT/\ag 11/\ae yT/\aL yT qD0/\ae XQ/\aJ yT XQ)/\pJ ad4 ad5/\ag 9/\ae yT/\ag 6241/\ae yT/\aL yT pK/\ae eP/\aJ ad6 eP)/\(decide ((↑yU.length:Int)>(0:Int))=true/\(ag 1/\ae yU/\ag 13/\ae yU/\aL yU qD0/\ae XR/\aJ yU XR)/\qW ad7 ad8/\ag 9/\ae yU/\ag 6241/\ae yU/\aL yU pK/\ae eP/\aJ ad9 eP)/\(decide ((↑yV.length:Int)>(0:Int))=true/\(ag 1/\ae yV/\ag 15/\ae yV/\aL yV qD0/\ae XT/\aJ yV XT)/\pJ aea aeb/\ag 9/\ae yV/\ag 6241/\ae yV/\aL yV pK/\ae eP/\aJ aec eP)/\(decide ((↑yX.length:Int)>(0:Int))=true/\(ag 1/\ae yX/\ag 17/\ae yX/\aL yX qD0/\ae XU/\aJ yX XU)/\qW aed aee/\ag 9/\ae yX/\ag 6241/\ae yX/\aL yX pK/\ae eP/\aJ aef eP)/\(decide ((↑yY.length:Int)>(0:Int))=true/\(ag 1/\ae yY/\ag 19/\ae yY/\aL yY qD0/\ae XV/\aJ yY XV)/\pJ aeg aeh/\ag 9/\ae yY/\ag 6241/\ae yY/\aL yY pK/\ae eP/\aJ aei eP)/\(decide ((↑yZ.length:Int)>(0:Int))=true/\(ag 1/\ae yZ/\ag 21/\ae yZ/\aL yZ qD0/\ae XW/\aJ yZ XW)/\qW aej aek/\ag 9/\ae yZ/\ag 6241/\ae yZ/\aL yZ pK/\ae eP/\aJ ael eP)/\(decide ((↑y5.length:Int)>(0:Int))=true/\(ag 1/\ae y5/\ag 23/\ae y5/\aL y5 qD0/\ae XX/\aJ y5 XX)/\pJ aem aen/\ag 9/\ae y5/\ag 6241/\ae y5/\aL y5 pK/\ae eP/\aJ aeo eP)/\(decide ((↑y7.length:Int)>(0:Int))=true/\(ag 1/\ae y7/\ag 25/\ae y7/\aL y7 qD0/\ae XY/\aJ y7 XY)/\qW aep aeq/\ag 9/\ae y7/\ag 6241/\ae y7/\aL y7 pK/\ae eP/\aJ aer eP)/\(decide ((↑y8.length:Int)>(0:Int))=true/\(ag 1/\ae y8/\ag 27/\ae y8/\aL y8 qD0/\ae XZ/\aJ y8 XZ)/\pJ aes qD0/\ag 9/\ae y8/\ag 6241/\ae y8/\aL y8 pK/\ae eP/\aJ aet eP)/\decide ((↑([]:List Int).length:Int)>(0:Int))=false)
def af8 (z:Int):AV:=(AV.agg [AV.bool true false,AV.lslice 1 (↑Y5.length:Int)])
def af9 (z:Int):Hp:=⟨[{ wr:=1006,body:=ABody.rows IntKind.i64 Y5 },{ wr:=(0:Nat),body:=ABody.rows IntKind.i64 BS }],2,1046⟩
theorem a2 (z:Int):(run (adw 1017 110 0) 2000).call 53 [.int false .i64 3,.int false .i64 79,.agg [.bool false false,.lslice 0 5]] ⟨[⟨0,.rows .i64 BS⟩],1,1⟩=some ⟨.p (aev z),[⟨.tt,af8 z,af9 z⟩]⟩:=by kernel_rfl
end
end Go.Proofs.YtmnhhlnbfkfkaaaGreat.K
namespace Go.Proofs.YtmnhhlnbfkfkaaaGreat.K
open Go Go.Eng Go.Dg Go.Ar Go.Vc
noncomputable section
def Y6:Int:=10000000000000000000000000000000000000000
end
end Go.Proofs.YtmnhhlnbfkfkaaaGreat.K
namespace Go.Proofs.YtmnhhlnbfkfkaaaGreat.K
open Go Go.Eng Go.Dg
noncomputable section
end
end Go.Proofs.YtmnhhlnbfkfkaaaGreat.K
namespace Go.Proofs.YtmnhhlnbfkfkaaaGreat.K
open Go Go.Eng Go.Dg Go.Ar Go.Vc
noncomputable section
end
end Go.Proofs.YtmnhhlnbfkfkaaaGreat.K
namespace Go.Dg
open Go Go.Eng
def Zv (z:Int):Int:=zv (decide (z<0)) (aa z.natAbs)
def aga (v:Int) (a b:List Int):Int:=(v*zv false a).tdiv (zv false b)
def agb (v:Int) (a b:List Int):Int:=(Zv (aga v a b)*zv false a).tdiv (zv false b)
def agc (v:Int) (a b:List Int):Int:=-Zv (agb v a b)
def agd (v:Int) (a b:List Int) (k:Int):Int:=(Zv (agc v a b)*Zv 1).tdiv (Zv k)
def rqk (i:Int):Int:=IntKind.i64.wrap (i*IntKind.i64.wrap (i+1))
def rT0 (a b:List Int):Int:=agd (zv false a) a b (rqk 2)
end Go.Dg
namespace Go.Proofs.YtmnhhlnbfkfkaaaGreat.K
open Go Go.Eng Go.Dg Go.Ar Go.Vc
noncomputable section
inductive RnS where
 | a0
 | am (i t s:Int) (z:Bool)
 | ad (i t s:Int)
end
end Go.Proofs.YtmnhhlnbfkfkaaaGreat.K
namespace Go.Proofs.YtmnhhlnbfkfkaaaGreat.K
open Go Go.Eng Go.Dg
noncomputable section
end
end Go.Proofs.YtmnhhlnbfkfkaaaGreat.K
namespace Go.Proofs.YtmnhhlnbfkfkaaaGreat.K
open Go Go.Eng Go.Dg Go.Ar Go.Vc
noncomputable section
structure RnD (a b:List Int):Prop where
 d:Dig a
 t:Top a
 l:a.length<=10
 e:b=[0,0,0,0,10000]
 v0:0<val a
 v1:5*val a<=8*Y6
 t0:rT0 a b≠0
theorem RnD.w {a b:List Int} (h:RnD a b):val b=Y6:=by rw [h.e]; rfl
end
end Go.Proofs.YtmnhhlnbfkfkaaaGreat.K
namespace Go.Proofs.YtmnhhlnbfkfkaaaGreat.K
open Go Go.Eng Go.Dg
noncomputable section
end
end Go.Proofs.YtmnhhlnbfkfkaaaGreat.K
namespace Go.Proofs.YtmnhhlnbfkfkaaaGreat.K
open Go Go.Eng Go.Dg Go.Ar Go.Vc
noncomputable section
end
end Go.Proofs.YtmnhhlnbfkfkaaaGreat.K
namespace Go.Proofs.YtmnhhlnbfkfkaaaGreat.K
open Go Go.Eng Go.Dg
noncomputable section
end
end Go.Proofs.YtmnhhlnbfkfkaaaGreat.K
namespace Go.Proofs.YtmnhhlnbfkfkaaaGreat.K
open Go Go.Eng Go.Dg Go.Ar Go.Vc
noncomputable section
end
end Go.Proofs.YtmnhhlnbfkfkaaaGreat.K
namespace Go.Proofs.YtmnhhlnbfkfkaaaGreat.K
open Go Go.Eng Go.Dg
noncomputable section
end
end Go.Proofs.YtmnhhlnbfkfkaaaGreat.K
namespace Go.Sn
open Go.Dg
def V:Rat:=10000000000000000000000000000000000000000
end Go.Sn
namespace Go.Proofs.YtmnhhlnbfkfkaaaGreat.K
open Go Go.Eng Go.Dg Go.Ar Go.Vc Go.Sn
noncomputable section
end
end Go.Proofs.YtmnhhlnbfkfkaaaGreat.K
namespace Go.Dg
open Go Go.Eng Go.Sn Go.Ar
end Go.Dg
namespace Go.Proofs.YtmnhhlnbfkfkaaaGreat.K
open Go Go.Eng Go.Dg Go.Ar Go.Vc Go.Sn
noncomputable section
section
variable (N:Int->Int->Bool) (V:Int->Int->Int×Int) (G:Int->Int->Sp) (n d:Int)
end
end
end Go.Proofs.YtmnhhlnbfkfkaaaGreat.K
namespace Go.Proofs.YtmnhhlnbfkfkaaaGreat.K
open Go Go.Eng Go.Dg Go.Ar Go.Vc
noncomputable section
end
end Go.Proofs.YtmnhhlnbfkfkaaaGreat.K
namespace Go.Proofs.YtmnhhlnbfkfkaaaGreat.K
open Go Go.Eng Go.Dg Go.Ar Go.Vc Go.Sn
noncomputable section
def Ug:List (FuncId×aM):=[(8,BL (snN 0) (iF 0) (iG 0) snE),(10,BL (snN 1) (iF 1) (iG 1) snE),(12,KV pI sG),(20,sMV (tuV mf0) (tuO mf0)),(22,sMV (fun m=>tuV mf0 (flip m)) (fun m=>tuO mf0 (flip m)))]
theorem Uh:pq Tryz.prog Ug:=by
 intro x hx
 simp only [Ug,List.mem_cons,List.not_mem_nil,or_false] at hx
 rcases hx with rfl|rfl|rfl|rfl|rfl
 .exact MW
 .exact DK
 .exact Ue
 .exact Bp
 .exact IG
def cWo:Ctx:=mkC Tryz.prog Ug ext
theorem abM:CtxOk cWo:=jd dL Uh jF
theorem O4:fF ((run cWo 3000).call 7 [] ⟨[],0,1⟩)=some (.tt,.bool false true):=by kernel_rfl
def Ui:aM:=aW [] none fun _=>.t true
theorem Uj:PureOk Tryz.prog 7 Ui:=by
 refine num_ok' (fun xs hk _=>?_) ⟨_,Tryz.func7,rfl⟩
 obtain rfl:=k0 hk
 exact ⟨cWo,3000,_,_,abM,rfl,fun _=>rfl,rfl,O4,trivial,fun τ W h=>h⟩
def age:Sh:=.a [.i .i64,.i .i64,.i .i64]
def smK (y k:Int):Int:=(IntKind.u64.wrap y).tmod k
def smD (y:Int):Int:=wr (wr (1*2 ^ min (smK y 37).toNat IntKind.i64.bits)+1)
def smL (x y:Int):Int:=x.tmod (smD y)
def smH (x y z:Int):Int:=wr (smL x y+wr (z.fdiv (2 ^ min (smK y 32).toNat IntKind.u32.bits)))
theorem Gp {y k:Int} (hk:0<k):0<=smK y k/\smK y k<k:=by
 unfold smK
 have h:0<=IntKind.u64.wrap y:=Int.emod_nonneg _ (by decide)
 rw [Int.tmod_eq_emod_of_nonneg h]
 exact ⟨Int.emod_nonneg _ (by omega),Int.emod_lt_of_pos _ hk⟩
theorem abO (y:Int):smD y≠0:=by
 obtain ⟨h0,h1⟩:=Gp (y:=y) (k:=37) (by decide)
 unfold smD
 obtain ⟨n,hn⟩:∃ n:Nat,(smK y 37).toNat=n:=⟨_,rfl⟩
 rw [hn]
 have hn2:n<37:=by omega
 have hb:min n IntKind.i64.bits=n:=Nat.min_eq_left (by show n<=64; omega)
 rw [hb]
 have:∀ m,m<37->wr (wr (1*2 ^ m)+1)≠0:=by decide
 exact this n hn2
theorem X0 (x y z:Int):fF ((run c0 900).call 41 [.agg [.int true .i64 x,.int true .u8 y,.int true .u32 z]] ⟨[],0,1⟩)=some (.p ((0<=smK y 37/\smD y≠0)/\0<=smK y 32),.agg [.int true .i64 (smL x y),.int true .i64 (smH x y z)]):=by kernel_rfl
def agf:Sh:=.a [.i .i64,.i .u8,.i .u32]
def sSm (L:Int->Int->Int) (H:Int->Int->Int->Int):aM:=aW [agf] none fun
 | [.n x,.n y,.n z]=>.a [.n .i64 (L x y),.n .i64 (H x y z)]
 | _=>.u []
theorem abP:PureOk Tryz.prog 41 (sSm smL smH):=by
 refine fw (fun xs hk _=>?_) ⟨_,Tryz.func41,rfl⟩
 obtain ⟨x,_,rfl,h1⟩:=kn hk; obtain ⟨y,_,rfl,h2⟩:=kn h1; obtain ⟨z,_,rfl,h3⟩:=kn h2; obtain rfl:=k0 h3
 exact ⟨c0,900,_,acp,rfl,fun _=>rfl,rfl,X0 x y z,⟨(Gp (by decide)).1,abO y⟩,(Gp (by decide)).1⟩
def cSv (L:Int->Int->Int) (H:Int->Int->Int->Int):Ctx:=mkC Tryz.prog [(41,sSm L H)] ext
theorem abQ:CtxOk (cSv smL smH):=jd dL (by
 intro x hx
 simp only [List.mem_cons,List.not_mem_nil,or_false] at hx
 rcases hx with rfl
 exact abP) jF
theorem X3 (L:Int->Int->Int) (H:Int->Int->Int->Int) (a b c d e f g h i:Int):fF ((run (cSv L H) 900).call 19 [.agg [.int true .i64 a,.int true .u8 b,.int true .u32 c,.int true .i64 d,.int true .u8 e,.int true .u32 f,.int true .i64 g,.int true .u8 h,.int true .u32 i]] ⟨[],0,1⟩)=some (.p (((g=g/\h=h/\i=i)/\d=d/\e=e/\f=f)/\g=g/\h=h/\i=i),.agg [.int true .i64 (L a b),.int true .i64 (H a b c),.int true .i64 (L d e),.int true .i64 (H d e f),.int true .i64 (L g h),.int true .i64 (H g h i)]):=by kernel_rfl
def aew:Sh:=.a [.i .i64,.i .u8,.i .u32,.i .i64,.i .u8,.i .u32,.i .i64,.i .u8,.i .u32]
def sSv (L:Int->Int->Int) (H:Int->Int->Int->Int):aM:=aW [aew] none fun
 | [.n a,.n b,.n c,.n d,.n e,.n f,.n g,.n h,.n i]=>.a [.n .i64 (L a b),.n .i64 (H a b c),.n .i64 (L d e),.n .i64 (H d e f),.n .i64 (L g h),.n .i64 (H g h i)]
 | _=>.u []
theorem abR:PureOk Tryz.prog 19 (sSv smL smH):=by
 refine fw (fun xs hk _=>?_) ⟨_,Tryz.func19,rfl⟩
 obtain ⟨a,_,rfl,h1⟩:=kn hk; obtain ⟨b,_,rfl,h2⟩:=kn h1; obtain ⟨c,_,rfl,h3⟩:=kn h2
 obtain ⟨d,_,rfl,h4⟩:=kn h3; obtain ⟨e,_,rfl,h5⟩:=kn h4; obtain ⟨f,_,rfl,h6⟩:=kn h5
 obtain ⟨g,_,rfl,h7⟩:=kn h6; obtain ⟨h,_,rfl,h8⟩:=kn h7; obtain ⟨i,_,rfl,h9⟩:=kn h8; obtain rfl:=k0 h9
 exact ⟨cSv smL smH,900,_,abQ,rfl,fun _=>rfl,rfl,X3 smL smH a b c d e f g h i,⟨⟨⟨rfl,rfl,rfl⟩,rfl,rfl,rfl⟩,rfl,rfl,rfl⟩⟩
end
end Go.Proofs.YtmnhhlnbfkfkaaaGreat.K
