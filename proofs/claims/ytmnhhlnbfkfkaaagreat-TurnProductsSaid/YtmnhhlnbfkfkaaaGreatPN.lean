/- What is proved: TurnProducts returns true, whatever the input (part 14). No conditions beyond those of the row. -/
import Derived.Test.YtmnhhlnbfkfkaaaGreatPH
import Derived.Test.YtmnhhlnbfkfkaaaGreatPI
import Derived.Test.YtmnhhlnbfkfkaaaGreatPK
import Derived.Test.YtmnhhlnbfkfkaaaGreatPL
import Derived.Test.YtmnhhlnbfkfkaaaGreatPM
import Derived.KernelRfl
set_option linter.unusedVariables false
set_option linter.unusedSimpArgs false
set_option linter.unusedSectionVars false
namespace Go.Ln
open Go.Sn
theorem Y4:fF (dh*((0*65536:Nat):Rat)) 0 1461501637330902918203684832716283019655932542976 0:=by
 rw [show ((0*65536:Nat):Rat)=0 by decide +kernel,Rat.mul_zero]
 exact ⟨⟨by decide +kernel,by decide +kernel⟩,⟨by decide +kernel,by decide +kernel⟩⟩
theorem S4:(∀ i,i<300->bV dh 0 0 (0+i))/\(false=true->bV dh 0 0 (0+300))/\(false=false->fF (dh*(((0+300)*65536:Nat):Rat)) 491723767112793555795498612041774758507992057067 1376297487019907789050452753447037442090982847263 133958303):=
 gW mQ.1 mQ.2 Bz (xb:=0) (xj:=0) (b:=0) (n:=300) (by decide) (by decide +kernel) Y4 YU
theorem Y5:fF (dh*((300*65536:Nat):Rat)) 491723767112793555795498612041774758507992057067 1376297487019907789050452753447037442090982847263 133958303:=S4.2.2 rfl
theorem S5:(∀ i,i<157->bV dh 1099511627776 0 (300+i))/\(false=true->bV dh 1099511627776 0 (300+157))/\(false=false->fF (dh*(((300+157)*65536:Nat):Rat)) 729644950198729587218318087119915998754557351695 1266335375234540110609189336721958329832559696295 234910995):=
 gW mQ.1 mQ.2 Bz (xb:=1099511627776) (xj:=0) (b:=300) (n:=157) (by decide) (by decide +kernel) Y5 YV
theorem Y6:fF (dh*((457*65536:Nat):Rat)) 729644950198729587218318087119915998754557351695 1266335375234540110609189336721958329832559696295 234910995:=S5.2.2 rfl
theorem S6:(∀ i,i<1->bV dh 457 50048 (457+i))/\(false=true->bV dh 457 50048 (457+1))/\(false=false->fF (dh*(((457+1)*65536:Nat):Rat)) 731092931013171720070226495733466350965335483406 1265499965287822447093903958231062750521594118680 235627513):=
 gW mQ.1 mQ.2 Bz (xb:=457) (xj:=50048) (b:=457) (n:=1) (by decide) (by decide +kernel) Y6 YW
theorem Y7:fF (dh*((458*65536:Nat):Rat)) 731092931013171720070226495733466350965335483406 1265499965287822447093903958231062750521594118680 235627513:=S6.2.2 rfl
theorem S7:(∀ i,i<300->bV dh 1099511627776 0 (458+i))/\(false=true->bV dh 1099511627776 0 (458+300))/\(false=false->fF (dh*(((458+300)*65536:Nat):Rat)) 1114249708893877961256421979335504232843459056456 945745537737724831270633298625650855402991968426 496215464):=
 gW mQ.1 mQ.2 Bz (xb:=1099511627776) (xj:=0) (b:=458) (n:=300) (by decide) (by decide +kernel) Y7 YX
theorem Y8:fF (dh*((758*65536:Nat):Rat)) 1114249708893877961256421979335504232843459056456 945745537737724831270633298625650855402991968426 496215464:=S7.2.2 rfl
theorem S8:(∀ i,i<300->bV dh 1099511627776 0 (758+i))/\(false=true->bV dh 1099511627776 0 (758+300))/\(false=false->fF (dh*(((758+300)*65536:Nat):Rat)) 1367487098036901671079540867482308849593552803733 515718986099526260404082505738404267698583895357 859324643):=
 gW mQ.1 mQ.2 Bz (xb:=1099511627776) (xj:=0) (b:=758) (n:=300) (by decide) (by decide +kernel) Y8 YY
theorem Y9:fF (dh*((1058*65536:Nat):Rat)) 1367487098036901671079540867482308849593552803733 515718986099526260404082505738404267698583895357 859324643:=S8.2.2 rfl
theorem S9:(∀ i,i<300->bV dh 1099511627776 0 (1058+i))/\(false=true->bV dh 1099511627776 0 (1058+300))/\(false=false->fF (dh*(((1058+300)*65536:Nat):Rat)) 1461278102347580420390992143793243405547439853059 25560585289941313696877371623118747667185928943 1348183688):=
 gW mQ.1 mQ.2 Bz (xb:=1099511627776) (xj:=0) (b:=1058) (n:=300) (by decide) (by decide +kernel) Y9 YZ
theorem Za:fF (dh*((1358*65536:Nat):Rat)) 1461278102347580420390992143793243405547439853059 25560585289941313696877371623118747667185928943 1348183688:=S9.2.2 rfl
theorem Ta:(∀ i,i<15->bV dh 1099511627776 0 (1358+i))/\(false=true->bV dh 1099511627776 0 (1358+15))/\(false=false->fF (dh*(((1358+15)*65536:Nat):Rat)) 1461501556362323844055996107259669251754042917643 486488864438371563241217903659373086848347437 1376494256):=
 gW mQ.1 mQ.2 Bz (xb:=1099511627776) (xj:=0) (b:=1358) (n:=15) (by decide) (by decide +kernel) Za Y0
theorem Zb:fF (dh*((1373*65536:Nat):Rat)) 1461501556362323844055996107259669251754042917643 486488864438371563241217903659373086848347437 1376494256:=Ta.2.2 rfl
theorem Zc:(∀ i,i<0->bV dh 1373 19072 (1373+i))/\(true=true->bV dh 1373 19072 (1373+0))/\(true=false->fF (dh*(((1373+0)*65536:Nat):Rat)) 0 0 0):=
 gW mQ.1 mQ.2 Bz (xb:=1373) (xj:=19072) (b:=1373) (n:=0) (by decide) (by decide +kernel) Zb Y3
theorem VJ {u:Nat} (h0:0<u) (h1:u<90000000) (h2:u≠30000000):∃ k:Int,Qw (dh*(u:Rat)) k:=by
 have key:∀ b j,b=u / 65536->j=u % 65536->∃ xb xj,bV dh xb xj b/\¬(b=xb/\j=xj):=by
  intro b j hb hj
  rcases Nat.lt_or_ge b 300 with g|g
  .refine ⟨0,0,?_,by omega⟩
   have:=S4.1 (b - 0) (by omega)
   rwa [show 0+(b - 0)=b by omega] at this
  rcases Nat.lt_or_ge b 457 with g|g
  .refine ⟨1099511627776,0,?_,by omega⟩
   have:=S5.1 (b - 300) (by omega)
   rwa [show 300+(b - 300)=b by omega] at this
  rcases Nat.lt_or_ge b 458 with g|g
  .refine ⟨457,50048,?_,by omega⟩
   have:=S6.1 (b - 457) (by omega)
   rwa [show 457+(b - 457)=b by omega] at this
  rcases Nat.lt_or_ge b 758 with g|g
  .refine ⟨1099511627776,0,?_,by omega⟩
   have:=S7.1 (b - 458) (by omega)
   rwa [show 458+(b - 458)=b by omega] at this
  rcases Nat.lt_or_ge b 1058 with g|g
  .refine ⟨1099511627776,0,?_,by omega⟩
   have:=S8.1 (b - 758) (by omega)
   rwa [show 758+(b - 758)=b by omega] at this
  rcases Nat.lt_or_ge b 1358 with g|g
  .refine ⟨1099511627776,0,?_,by omega⟩
   have:=S9.1 (b - 1058) (by omega)
   rwa [show 1058+(b - 1058)=b by omega] at this
  rcases Nat.lt_or_ge b 1373 with g|g
  .refine ⟨1099511627776,0,?_,by omega⟩
   have:=Ta.1 (b - 1358) (by omega)
   rwa [show 1358+(b - 1358)=b by omega] at this
  refine ⟨1373,19072,?_,by omega⟩
  have:=Zc.2.1 rfl
  rwa [show 1373+0=b by omega] at this
 obtain ⟨xb,xj,k1,k2⟩:=key _ _ rfl rfl
 have:=k1 (u % 65536) (by omega) k2
 rwa [show u / 65536*65536+u % 65536=u by omega] at this
end Go.Ln
namespace Go.Dg
open Go Go.Eng Go.Sn Go.Ln
def ovB (m d:Int):Bool:=(m==4&&d==4294967296)||((m==4294967292&&d==4294967296)||(m==2147483648&&d==3221225472))
def quN (m d:Int):Bool:=decide (0<=m)&&(decide (m<=d)&&(decide (1<=d)&&(decide (d<=4294967296)&&((decide (d<1000000000)||ovB m d)&&(m==0||(m==d||(3*m==d||((d==360000000&&m.tmod 4==0)||VA m d))))))))
theorem Fq {m:Int} (h0:0<m) (h1:m<360000000) (h3:3*m≠360000000) (h4:m % 4=0):∃ k,Hb ((m:Rat) / ((360000000:Int):Rat)) k:=by
 obtain ⟨k,hk⟩:=VJ (u:=(m / 4).toNat) (by omega) (by omega) (by omega)
 refine ⟨k,?_⟩
 have e:dh*(((m / 4).toNat:Nat):Rat)=hp*((m:Rat) / ((360000000:Int):Rat)):=by
  have e1:(m:Rat)=4*(((m / 4).toNat:Nat):Rat):=by
   have:m=4*(((m / 4).toNat:Nat):Int):=by omega
   have h:=congrArg (fun z:Int=>(z:Rat)) this
   simp only [Rat.intCast_mul,Rat.intCast_natCast] at h
   rw [h]
   have:((4:Int):Rat)=4:=by decide +kernel
   rw [this]
  have e2:((360000000:Int):Rat)=360000000:=by decide +kernel
  rw [e1,e2]
  unfold dh
  grind
 unfold Qw at hk
 unfold Hb tru
 rw [<- e]; exact hk
theorem Qy {m:Int} (h0:0<m) (h1:m<360000000) (h3:3*m≠360000000) (h4:m % 4=0):SinG m 360000000:=by
 obtain ⟨k,hk⟩:=Fq h0 h1 h3 h4
 exact (Dn h0 h1 (by decide) hk).1
theorem Ly {m d:Int} (h:quN m d=true):0<=m/\m<=d/\1<=d/\d<=4294967296/\(d<1000000000\/ovB m d=true)/\(m=0\/m=d\/3*m=d\/SinG m d):=by
 unfold quN at h
 simp only [Bool.and_eq_true,Bool.or_eq_true,decide_eq_true_eq,beq_iff_eq] at h
 obtain ⟨a,b,c,d',e,f⟩:=h
 refine ⟨a,b,c,d',e,?_⟩
 rcases f with f|f|f|f|f
 .exact .inl f
 .exact .inr (.inl f)
 .exact .inr (.inr (.inl f))
 .obtain ⟨rfl,f⟩:=f
  by_cases z:m=0
  .exact .inl z
  by_cases z1:m=360000000
  .exact .inr (.inl z1)
  by_cases z3:3*m=360000000
  .exact .inr (.inr (.inl z3))
  exact .inr (.inr (.inr (Qy (by omega) (by omega) z3 (by rw [Int.tmod_eq_emod_of_nonneg a] at f; exact f))))
 .exact .inr (.inr (.inr (Qr f)))
def wr (x:Int):Int:=IntKind.i64.wrap x
def siR (n d:Int):Int:=(wr (n.tmod d+d)).tmod d
def siQ (n d:Int):Int:=wr ((wr (4*siR n d)).tdiv d)
def siM (n d:Int):Int:=wr (wr (4*siR n d) - wr (siQ n d*d))
def siK (n d more:Int):Int:=(wr (siQ n d+more)).tmod 4
def siA (q n d:Int):Int:=bif q==0||q==2 then siM n d else wr (d - siM n d)
def snR (n d:Int):Int:=n % d
def snQ (n d:Int):Int:=4*snR n d / d
def snM (n d:Int):Int:=4*snR n d % d
def snK (n d more:Int):Int:=(snQ n d+more) % 4
def snA (more n d:Int):Int:=bif snK n d more==0||snK n d more==2 then snM n d else d - snM n d
def ii (d:Int):Bool:=bif decide (d<1) then true else decide (d>4294967296)
def snN (more n d:Int):Bool:=ii d||quN (snA more n d) d
def fU (more n d:Int):Int:=bif ii d then 0 else bif snK n d more==0||snK n d more==1 then cP (snA more n d) d else -cQ (snA more n d) d
def fV (more n d:Int):Int:=bif ii d then 0 else bif snK n d more==0||snK n d more==1 then cQ (snA more n d) d else -cP (snA more n d) d
def snE (d:Int):Int:=bif ii d then 2 else 0
theorem jM {x:Int} (h1:-9223372036854775808<=x) (h2:x<=9223372036854775807):wr x=x:=by
 exact iw h1 (by omega)
theorem Lz {n d:Int} (h0:1<=d):(n.tmod d+d).tmod d=n % d/\0<=n.tmod d+d/\n.tmod d+d<2*d:=by
 have e0:0<=n % d:=Int.emod_nonneg _ (by omega)
 have e1:n % d<d:=Int.emod_lt_of_pos _ (by omega)
 have h:n.tmod d=n % d\/n.tmod d=n % d - d:=by
  rw [Int.tmod_eq_emod]
  split
  .left; omega
  .right; omega
 refine ⟨?_,by omega,by omega⟩
 rw [Int.tmod_eq_emod_of_nonneg (by omega)]
 rcases h with h|h
 .rw [h,Int.add_emod_right,Int.emod_emod_of_dvd _ (Int.dvd_refl d)]
 .rw [h,Int.sub_add_cancel,Int.emod_emod_of_dvd _ (Int.dvd_refl d)]
theorem uT {n d:Int} (h0:1<=d) (h1:d<=4294967296):siR n d=snR n d/\siQ n d=snQ n d/\siM n d=snM n d/\0<=snQ n d/\snQ n d<=3/\0<=snM n d/\snM n d<d:=by
 obtain ⟨t1,t2,t3⟩:=Lz (n:=n) h0
 have r0:0<=snR n d:=Int.emod_nonneg _ (by omega)
 have r1:snR n d<d:=Int.emod_lt_of_pos _ (by omega)
 have eR:siR n d=snR n d:=by
  unfold siR
  rw [jM (by omega) (by omega),t1]; rfl
 have e4:wr (4*snR n d)=4*snR n d:=jM (by omega) (by omega)
 have q0:0<=snQ n d:=Int.ediv_nonneg (by omega) (by omega)
 have q3:snQ n d<4:=(Int.ediv_lt_iff_lt_mul (by omega)).2 (by omega)
 have eQ:siQ n d=snQ n d:=by
  unfold siQ
  rw [eR,e4,Int.tdiv_eq_ediv_of_nonneg (by omega)]
  exact jM (by show _<=snQ n d; omega) (by show snQ n d<=_; omega)
 have m0:0<=snM n d:=Int.emod_nonneg _ (by omega)
 have m1:snM n d<d:=Int.emod_lt_of_pos _ (by omega)
 have eM:siM n d=snM n d:=by
  have hd:4*snR n d=d*snQ n d+snM n d:=(Int.mul_ediv_add_emod _ _).symm
  have qd0:0<=d*snQ n d:=Int.mul_nonneg (by omega) q0
  unfold siM
  rw [eR,e4,eQ,Int.mul_comm (snQ n d) d,jM (x:=d*snQ n d) (by omega) (by omega),jM (by omega) (by omega)]
  omega
 exact ⟨eR,eQ,eM,q0,by omega,m0,m1⟩
theorem ab2 {n d more:Int} (h0:1<=d) (h1:d<=4294967296) (h2:0<=more) (h3:more<=1):siK n d more=snK n d more/\0<=snK n d more/\snK n d more<=3:=by
 obtain ⟨_,e,_,q0,q3,_,_⟩:=uT (n:=n) h0 h1
 refine ⟨?_,Int.emod_nonneg _ (by decide),by have:=Int.emod_lt_of_pos (snQ n d+more) (b:=4) (by decide); unfold snK; omega⟩
 unfold siK snK
 rw [e,jM (by omega) (by omega),Int.tmod_eq_emod_of_nonneg (by omega)]
theorem ab3 {n d more:Int} (h0:1<=d) (h1:d<=4294967296):siA (snK n d more) n d=snA more n d:=by
 obtain ⟨_,_,e,_,_,m0,m1⟩:=uT (n:=n) h0 h1
 unfold siA snA
 rw [e,jM (by omega) (by omega)]
theorem Tb {m d:Int} (h:quN m d=true):0<=cP m d/\cP m d<=13000000000/\0<=cQ m d/\cQ m d<=13000000000:=by
 obtain ⟨_,_,_,_,_,g⟩:=Ly h
 unfold cP cQ
 by_cases z:m=0
 .rw [if_pos z,if_pos z]; omega
 by_cases z1:m=d
 .rw [if_neg z,if_neg z,if_pos z1,if_pos z1]; omega
 by_cases z3:3*m=d
 .rw [if_neg z,if_neg z,if_neg z1,if_neg z1,if_pos z3,if_pos z3]; omega
 rw [if_neg z,if_neg z,if_neg z1,if_neg z1,if_neg z3,if_neg z3]
 rcases g with g|g|g|g
 .exact absurd g z
 .exact absurd g z1
 .exact absurd g z3
 have p:=dI
 have:=g.far
 have:=g.hi
 have a:0<=gV m d:=Int.ediv_nonneg (Int.mul_nonneg (by omega) (by decide)) (by omega)
 have b:gV m d<=12884901888:=by
  refine Int.ediv_le_of_le_mul p ?_
  have e:(12884901888:Int)*PP=3*PP*4294967296:=by decide
  rw [e]
  exact Int.mul_le_mul_of_nonneg_right (by omega) (by decide)
 omega
end Go.Dg
namespace Go.Proofs.YtmnhhlnbfkfkaaaGreat.K
open Go Go.Eng Go.Dg Go.Ar Go.Vc
noncomputable section
def VK:List Sh:=[.i .i64,.i .i64]
def Qz (N:Int->Int->Bool) (V:Int->Int->Int×Int):aK:=a8 VK (some fun|[.n m,.n d]=>N m d|_=>false) fun
 | [.n m,.n d]=>.a [.n .i64 (V m d).1,.n .i64 (V m d).2]
 | _=>.u []
theorem VL {m d:Int} (h:ovB m d=true):OvC (aa (RG*m).toNat) (aa d.toNat):=by
 have dec:∀ {l:List Int},(∀ x∈l,0<=x/\x<1000000000)->Dig l:=fun h x hx=>h x hx
 unfold ovB at h
 simp only [Bool.or_eq_true,Bool.and_eq_true,beq_iff_eq] at h
 have key:∀ {l:List Int} {v:Int},val l=v->(∀ x∈l,0<=x/\x<1000000000)->Top l->aa v.toNat=l:=fun {l v} e h t=>by rw [<- e]; exact du h t
 rcases h with ⟨rfl,rfl⟩|⟨rfl,rfl⟩|⟨rfl,rfl⟩
 .exact .inl ⟨key (l:=oA1) (by decide) (by decide) (by unfold Top; decide),key (l:=oB1) (by decide) (by decide) (by unfold Top; decide)⟩
 .exact .inr (.inl ⟨key (l:=oA2) (by decide) (by decide) (by unfold Top; decide),key (l:=oB2) (by decide) (by decide) (by unfold Top; decide)⟩)
 .exact .inr (.inr ⟨key (l:=oA3) (by decide) (by decide) (by unfold Top; decide),key (l:=oB3) (by decide) (by decide) (by unfold Top; decide)⟩)
theorem jc {x:Option CR} {nd:Nd} {l:List AV} {h:Hp} (e:x=some ⟨nd,[⟨.tt,.agg l,h⟩]⟩):bb x=some (nd,.agg l):=by rw [e]; rfl
theorem VM:PureOk Tryz.prog 76 (Qz quN fun m d=>(cP m d,cQ m d)):=by
 refine num_ok' (fun xs hk hN=>?_) ⟨_,Tryz.func76,rfl⟩
 obtain ⟨m,_,rfl,h1⟩:=kn hk; obtain ⟨d,_,rfl,h2⟩:=kn h1; obtain rfl:=k0 h2
 have hN:quN m d=true:=hN
 obtain ⟨m0,m1,d0,d1,dc,h⟩:=Ly hN
 have dc:d<1000000000\/OvC (aa (RG*m).toNat) (aa d.toNat):=dc.imp id VL
 have w3:IntKind.i64.wrap (3*m)=3*m:=iw (by omega) (by omega)
 by_cases hz:m=0
 .refine ⟨cQu [(14,true)],300,.p _,_,yt _,rfl,fun _=>rfl,rfl,jc (abX m d),beq_iff_eq.2 hz,fun τ W h=>?_⟩
  show VRel τ (.agg [.int true .i64 (cP m d),.int true .i64 (cQ m d)]) W
  unfold cP cQ
  rw [if_pos hz,if_pos hz]; exact h
 by_cases hd:m=d
 .refine ⟨cQu [(14,false),(19,true)],300,.p _,_,yt _,rfl,fun _=>rfl,rfl,jc (abY m d),⟨beq_eq_false_iff_ne.2 hz,beq_iff_eq.2 hd⟩,fun τ W h=>?_⟩
  show VRel τ (.agg [.int true .i64 (cP m d),.int true .i64 (cQ m d)]) W
  unfold cP cQ
  rw [if_neg hz,if_neg hz,if_pos hd,if_pos hd]; exact h
 by_cases h3:3*m=d
 .refine ⟨cQu [(14,false),(19,false),(25,true)],300,.p _,_,yt _,rfl,fun _=>rfl,rfl,jc (abZ m d),⟨beq_eq_false_iff_ne.2 hz,beq_eq_false_iff_ne.2 hd,?_⟩,fun τ W h=>?_⟩
  .rw [w3]; exact beq_iff_eq.2 h3
  show VRel τ (.agg [.int true .i64 (cP m d),.int true .i64 (cQ m d)]) W
  unfold cP cQ
  rw [if_neg hz,if_neg hz,if_neg hd,if_neg hd,if_pos h3,if_pos h3]; exact h
 have g:SinG m d:=by
  rcases h with h|h|h|h
  .exact absurd h hz
  .exact absurd h hd
  .exact absurd h h3
  .exact h
 have p:=dI
 have hm:0<m:=by omega
 have fr:=g.far
 have hi:=g.hi
 obtain ⟨e1,e2⟩:=yu hm m1
 obtain ⟨e3,e4⟩:=Qq hm m1 (by omega)
 have er:val (aa RGT.toNat)=RG:=dv (by decide)
 have em:val (aa m.toNat)=m:=dv m0
 have ed:val (aa d.toNat)=d:=dv (by omega)
 have e8:val [100000000]=100000000:=pB _
 have hr:0<RG:=by decide
 have ea:val (aa (RG*m).toNat)=RG*m:=dv (Int.mul_nonneg (by omega) m0)
 have lr:(aa RGT.toNat).length<=6:=ig (a:=RGT) (by decide) (by decide)
 have lm:(aa m.toNat).length<=2:=gJ m0 (by rw [show pw 2=1000000000000000000 from by decide]; omega)
 have ld0:0<(aa d.toNat).length:=Br (by omega)
 have la:(aa (RG*m).toNat).length<=7:=gJ (Int.mul_nonneg (by omega) m0) (by
  have:RG*m<=RG*4294967296:=Int.mul_le_mul_of_nonneg_left (by omega) (by omega)
  have e:RG*4294967296<pw 7:=by decide
  omega)
 have ls:(quS m d).length<=6:=by rw [e3]; exact ig (by omega) (by omega)
 have ls0:0<(quS m d).length:=by rw [e3]; exact Br (by omega)
 have dS:Dig (quS m d):=by rw [e3]; exact ay _
 have tS:Top (quS m d):=by rw [e3]; exact fa _
 have d8:Dig [100000000]:=pC (by decide) (by decide)
 have t8:Top [100000000]:=by have:=fa 100000000; rwa [show aa 100000000=[100000000] from by rw [dk (by decide),show 100000000 / 1000000000=0 from rfl,bS]; rfl] at this
 have hda:d<=RG*m:=by
  have:RG*1<=RG*m:=Int.mul_le_mul_of_nonneg_left (by omega) (by omega)
  have e:(4294967296:Int)<RG:=by decide
  omega
 have hc:¬ mO (quS m d) [100000000]<=0:=fun hh=>by
  have:=(PS dS d8 tS t8 (by omega) (by show 1<=500000; omega)).2 (by rw [e4,e8]; omega)
  omega
 have vm:val (aa (val (quS m d) - val [100000000]).toNat)=gD m d - 100000000:=by rw [e4,e8]; exact dv (by omega)
 have vp:val (aa (val (quS m d)+val [100000000]).toNat)=gD m d+100000000:=by rw [e4,e8]; exact dv (by omega)
 have dm:DwD (aa (val (quS m d) - val [100000000]).toNat):=by rw [e4,e8]; exact Lj (by omega) (by omega)
 have dp:DwD (aa (val (quS m d)+val [100000000]).toNat):=by
  rw [e4,e8]
  refine Lj (by omega) ?_
  have:(100000000:Int)<PP:=by decide
  omega
 obtain ⟨lo0,lo1⟩:=Lk g
 have hov:(Dig (aa (RG*m).toNat)/\Dig (aa d.toNat)/\Top (aa (RG*m).toNat)/\Top (aa d.toNat)/\(aa (RG*m).toNat).length<=500000/\(aa d.toNat).length=1/\0<d/\d<=RG*m)\/OvC (aa (RG*m).toNat) (aa d.toNat):=by
  rcases dc with dc|dc
  .have ld:(aa d.toNat).length<=1:=gJ (by omega) (by rw [show pw 1=1000000000 from by decide]; omega)
   exact .inl ⟨ay _,ay _,fa _,fa _,by omega,by omega,by omega,hda⟩
  .exact .inr dc
 refine ⟨cQu [(14,false),(19,false),(25,false),(55,false),(67,false)],300,.p _,_,yt _,rfl,fun _=>rfl,rfl,jc (abW m d),?_,fun τ W h=>?_⟩
 .unfold Fg
  rw [vm,vp,er,em,ea,ed]
  refine ⟨⟨beq_eq_false_iff_ne.2 hz,beq_eq_false_iff_ne.2 hd,by rw [w3]; exact beq_eq_false_iff_ne.2 h3⟩,⟨⟨Li,by decide,by decide⟩,⟨hm,by omega⟩,⟨⟨rfl,rfl⟩,ay _,ay _,by omega⟩,⟨by omega,by omega⟩,⟨rfl,rfl⟩,hov⟩,⟨rfl,rfl,YM hm m1 g⟩,⟨⟨rfl,by show _<=_; omega,by show 1<=500000; omega⟩,decide_eq_false hc⟩,⟨⟨rfl,dS,d8,ls0,by omega,by show 1<=_; omega,by rw [e4,e8]; omega⟩,rfl,rfl,dm⟩,⟨rfl,dS,d8,.inl ls0,by omega,by show 1<=_; omega⟩,⟨rfl,rfl,dp⟩,wm.2 g.same⟩
 .show VRel τ (.agg [.int true .i64 (cP m d),.int true .i64 (cQ m d)]) W
  unfold cP cQ
  rw [if_neg hz,if_neg hz,if_neg hd,if_neg hd,if_neg h3,if_neg h3]
  have e5:Dl m d=.agg [.int true .i64 (gV m d),.int true .i64 (gV m d+1)]:=by
   unfold Dl
   rw [vm]
   show AV.agg [.int true .i64 (gV m d),.int true .i64 (IntKind.i64.wrap (gV m d+1))]=_
   rw [iw (by omega) (by omega)]
  rw [<- e5]; exact h
def Zd (N:Int->Int->Bool) (V:Int->Int->Int×Int):List (FuncId×aK):=[(76,Qz N V)]
def cSi (N:Int->Int->Bool) (V:Int->Int->Int×Int) (b:Bool) (q:Int):Ctx:=aP (mkC Tryz.prog (Zd N V) ext) (hZ [(15,.bool false b),(32,.int false .i64 q)])
theorem LA (b:Bool) (q:Int):CtxOk (cSi quN (fun m d=>(cP m d,cQ m d)) b q):=aj (ct aM (fun x hx=>by
 rcases List.mem_singleton.1 hx with rfl
 exact VM) cB) _
def l7 (N:Int->Int->Bool) (L H:Int->Int->Int) (E:Int->Int):aK:=a8 VK (some fun|[.n m,.n d]=>N m d|_=>false) fun
 | [.n m,.n d]=>.u [.a [.n .i64 (L m d),.n .i64 (H m d)],.n .i64 (E d)]
 | _=>.u []
def siN (N:Int->Int->Bool) (n d more q:Int):Prop:=((decide (d<1)=true->true=false)/\(decide (d<1)=false->decide (d>4294967296)=false))/\(d≠0/\d≠0)/\d≠0/\siK n d more=q/\N (siA q n d) d=true
def siL (V:Int->Int->Int×Int) (q n d:Int):Int:=bif q==0||q==1 then (V (siA q n d) d).1 else wr (0 - (V (siA q n d) d).2)
def siH (V:Int->Int->Int×Int) (q n d:Int):Int:=bif q==0||q==1 then (V (siA q n d) d).2 else wr (0 - (V (siA q n d) d).1)
def siO (V:Int->Int->Int×Int) (q n d:Int):AV:=.tuple [.agg [.int true .i64 (siL V q n d),.int true .i64 (siH V q n d)],.int false .i64 0]
def siX (f:FuncId) (N:Int->Int->Bool) (V:Int->Int->Int×Int) (n d more q:Int):Prop:=bb ((run (cSi N V false q) 300).call f [.int true .i64 n,.int true .i64 d] ⟨[],0,1⟩)=some (.p (siN N n d more q),siO V q n d)
theorem VN (N:Int->Int->Bool) (V:Int->Int->Int×Int) (n d:Int):siX 8 N V n d 0 0:=by unfold siX; kernel_rfl
theorem VO (N:Int->Int->Bool) (V:Int->Int->Int×Int) (n d:Int):siX 8 N V n d 0 1:=by unfold siX; kernel_rfl
theorem VP (N:Int->Int->Bool) (V:Int->Int->Int×Int) (n d:Int):siX 8 N V n d 0 2:=by unfold siX; kernel_rfl
theorem VQ (N:Int->Int->Bool) (V:Int->Int->Int×Int) (n d:Int):siX 8 N V n d 0 3:=by unfold siX; kernel_rfl
theorem Ze (N:Int->Int->Bool) (V:Int->Int->Int×Int) (n d:Int):siX 10 N V n d 1 0:=by unfold siX; kernel_rfl
theorem Zf (N:Int->Int->Bool) (V:Int->Int->Int×Int) (n d:Int):siX 10 N V n d 1 1:=by unfold siX; kernel_rfl
theorem Zg (N:Int->Int->Bool) (V:Int->Int->Int×Int) (n d:Int):siX 10 N V n d 1 2:=by unfold siX; kernel_rfl
theorem Zh (N:Int->Int->Bool) (V:Int->Int->Int×Int) (n d:Int):siX 10 N V n d 1 3:=by unfold siX; kernel_rfl
def siB (d:Int):Prop:=(decide (d<1)=true->true=true)/\(decide (d<1)=false->decide (d>4294967296)=true)
theorem VR (N:Int->Int->Bool) (V:Int->Int->Int×Int) (n d:Int):bb ((run (cSi N V true 0) 300).call 8 [.int true .i64 n,.int true .i64 d] ⟨[],0,1⟩)=some (.p (siB d),.tuple [.agg [.int false .i64 0,.int false .i64 0],.int false .i64 2]):=by kernel_rfl
theorem Zi (N:Int->Int->Bool) (V:Int->Int->Int×Int) (n d:Int):bb ((run (cSi N V true 0) 300).call 10 [.int true .i64 n,.int true .i64 d] ⟨[],0,1⟩)=some (.p (siB d),.tuple [.agg [.int false .i64 0,.int false .i64 0],.int false .i64 2]):=by kernel_rfl
theorem LB {f:FuncId} {more:Int} (hm:0<=more/\more<=1) (fn:∃ fn:Func,Tryz.prog.funcs[f]?=some fn/\fn.body.isSome=true)
  (h:∀ n d q,0<=q->q<=3->siX f quN (fun m d=>(cP m d,cQ m d)) n d more q)
  (hb:∀ n d,bb ((run (cSi quN (fun m d=>(cP m d,cQ m d)) true 0) 300).call f [.int true .i64 n,.int true .i64 d] ⟨[],0,1⟩)=some (.p (siB d),.tuple [.agg [.int false .i64 0,.int false .i64 0],.int false .i64 2])):
  PureOk Tryz.prog f (l7 (snN more) (fU more) (fV more) snE):=by
 refine num_ok' (fun xs hk hN=>?_) fn
 obtain ⟨n,_,rfl,h1⟩:=kn hk; obtain ⟨d,_,rfl,h2⟩:=kn h1; obtain rfl:=k0 h2
 have hN:snN more n d=true:=hN
 cases hB:ii d with
 | true=>
  refine ⟨_,300,_,_,LA true 0,rfl,fun _=>rfl,rfl,hb n d,?_,fun τ W h=>?_⟩
  .refine ⟨fun _=>rfl,fun h=>?_⟩
   unfold ii at hB
   rw [h] at hB; exact hB
  .show VRel τ (.tuple [.agg [.int true .i64 (fU more n d),.int true .i64 (fV more n d)],.int true .i64 (snE d)]) W
   have e:fU more n d=0/\fV more n d=0/\snE d=2:=by
    unfold fU fV snE
    rw [hB]; exact ⟨rfl,rfl,rfl⟩
   rw [e.1,e.2.1,e.2.2]; exact h
 | false=>
  have hd:decide (d<1)=false/\decide (d>4294967296)=false:=by
   unfold ii at hB
   cases h3:decide (d<1) with
   | true=>rw [h3] at hB; cases hB
   | false=>rw [h3] at hB; exact ⟨rfl,hB⟩
  have d0:1<=d:=by have:=of_decide_eq_false hd.1; omega
  have d1:d<=4294967296:=by have:=of_decide_eq_false hd.2; omega
  have hq:quN (snA more n d) d=true:=by
   unfold snN at hN
   rw [hB] at hN; exact hN
  obtain ⟨k1,k2,k3⟩:=ab2 (n:=n) d0 d1 hm.1 hm.2
  have ea:=ab3 (n:=n) (more:=more) d0 d1
  obtain ⟨b1,b2,b3,b4⟩:=Tb hq
  refine ⟨_,300,_,_,LA false (snK n d more),rfl,fun _=>rfl,rfl,h n d _ k2 k3,?_,fun τ W h=>?_⟩
  .refine ⟨⟨fun h=>(by rw [hd.1] at h; cases h),fun _=>hd.2⟩,⟨by omega,by omega⟩,by omega,k1,?_⟩
   rw [ea]; exact hq
  .show VRel τ (.tuple [.agg [.int true .i64 (fU more n d),.int true .i64 (fV more n d)],.int true .i64 (snE d)]) W
   have e:fU more n d=siL (fun m d=>(cP m d,cQ m d)) (snK n d more) n d/\fV more n d=siH (fun m d=>(cP m d,cQ m d)) (snK n d more) n d/\snE d=0:=by
    unfold fU fV snE siL siH
    rw [hB,ea]
    dsimp only
    rw [jM (x:=0 - cQ (snA more n d) d) (by omega) (by omega),jM (x:=0 - cP (snA more n d) d) (by omega) (by omega),Int.zero_sub,Int.zero_sub]
    exact ⟨rfl,rfl,rfl⟩
   rw [e.1,e.2.1,e.2.2]; exact h
theorem q4 {q:Int} (h0:0<=q) (h1:q<=3):q=0\/q=1\/q=2\/q=3:=by omega
theorem Fr:PureOk Tryz.prog 8 (l7 (snN 0) (fU 0) (fV 0) snE):=LB (by decide) ⟨_,Tryz.func8,rfl⟩ (fun n d q h0 h1=>by
 rcases q4 h0 h1 with rfl|rfl|rfl|rfl
 .exact VN _ _ n d
 .exact VO _ _ n d
 .exact VP _ _ n d
 .exact VQ _ _ n d) (fun n d=>VR _ _ n d)
theorem wB:PureOk Tryz.prog 10 (l7 (snN 1) (fU 1) (fV 1) snE):=LB (by decide) ⟨_,Tryz.func10,rfl⟩ (fun n d q h0 h1=>by
 rcases q4 h0 h1 with rfl|rfl|rfl|rfl
 .exact Ze _ _ n d
 .exact Zf _ _ n d
 .exact Zg _ _ n d
 .exact Zh _ _ n d) (fun n d=>Zi _ _ n d)
end
end Go.Proofs.YtmnhhlnbfkfkaaaGreat.K
namespace Go.Vc
open Go Go.Eng Go.Ar Go.Dg
structure RF where
 n:Int->Int->Bool
 ab:Int->Int->Mat
 mv:Mat->Mat->Mat
 mo:Mat->Mat->Int
def eqU (m:Mat):Bool:=m.x.a==4294967296&&(m.x.b==4294967296&&(m.x.c==0&&(m.x.d==0&&(m.x.e==0&&(m.x.f==0&&(m.y.a==0&&(m.y.b==0&&(m.y.c==4294967296&&(m.y.d==4294967296&&(m.y.e==0&&(m.y.f==0&&(m.z.a==0&&(m.z.b==0&&(m.z.c==0&&(m.z.d==0&&(m.z.e==4294967296&&(m.z.f==4294967296&&true)))))))))))))))))
def VT (b:Bool) (v w:Ve):Ve:=⟨bif b then v.a else w.a,bif b then v.b else w.b,bif b then v.c else w.c,bif b then v.d else w.d,bif b then v.e else w.e,bif b then v.f else w.f⟩
def QA (b:Bool) (v w:Mat):Mat:=⟨VT b v.x w.x,VT b v.y w.y,VT b v.z w.z⟩
section
variable (R:RF) (x y z:Int)
def d9 (x:Int) (b:Bool):Prop:=(decide (x < -360000000)=true->true=b)/\(decide (x < -360000000)=false->decide (x>360000000)=b)
def ro1:Mat:=QA (eqU (R.ab 0 x)) (R.ab 1 y) (R.mv (R.ab 1 y) (R.ab 0 x))
def ro2:Mat:=QA (eqU (ro1 R x y)) (R.ab 2 z) (R.mv (R.ab 2 z) (ro1 R x y))
def VU:Prop:=d9 x false/\R.n 0 x=true
def Zj:Prop:=d9 y false/\R.n 1 y=true/\maP (R.ab 0 x)
def ab4:Prop:=d9 z false/\R.n 2 z=true/\maP (ro1 R x y)
end
def eg (x:Int):Bool:=bif decide (x < -360000000) then true else decide (x>360000000)
theorem qJ {x:Int}:d9 x (eg x):=by
 unfold d9 eg
 cases decide (x < -360000000) <;> simp
def VV (sl sh cl ch:Int) (m:Sp) (a:Int):Mat:=
 bif a==0 then ⟨⟨4294967296,4294967296,0,0,0,0⟩,⟨0,0,cl,ch,m.lo,m.hi⟩,⟨0,0,sl,sh,cl,ch⟩⟩
 else bif a==1 then ⟨⟨cl,ch,0,0,sl,sh⟩,⟨0,0,4294967296,4294967296,0,0⟩,⟨m.lo,m.hi,0,0,cl,ch⟩⟩
 else ⟨⟨cl,ch,m.lo,m.hi,0,0⟩,⟨sl,sh,cl,ch,0,0⟩,⟨0,0,0,0,4294967296,4294967296⟩⟩
structure AF where
 n0:Int->Int->Bool
 n1:Int->Int->Bool
 sl:Int->Int->Int
 sh:Int->Int->Int
 cl:Int->Int->Int
 ch:Int->Int->Int
 ng:Int->Int->Sp
def abA (F:AF) (a n:Int):Mat:=VV (F.sl n 360000000) (F.sh n 360000000) (F.cl n 360000000) (F.ch n 360000000) (F.ng (F.sl n 360000000) (F.sh n 360000000)) a
def abN (F:AF) (n a i j:Int):Prop:=F.n0 n 360000000=true/\F.n1 n 360000000=true/\((wr (a+1)).tmod 3=i/\(wr (a+2)).tmod 3=j)/\((F.cl n 360000000=F.cl n 360000000/\F.ch n 360000000=F.ch n 360000000)/\(F.sl n 360000000=F.sl n 360000000/\F.sh n 360000000=F.sh n 360000000)/\(F.ng (F.sl n 360000000) (F.sh n 360000000)).lo=(F.ng (F.sl n 360000000) (F.sh n 360000000)).lo/\(F.ng (F.sl n 360000000) (F.sh n 360000000)).hi=(F.ng (F.sl n 360000000) (F.sh n 360000000)).hi)/\((F.cl n 360000000=F.cl n 360000000/\F.ch n 360000000=F.ch n 360000000)/\F.sl n 360000000=F.sl n 360000000/\F.sh n 360000000=F.sh n 360000000)/\F.cl n 360000000=F.cl n 360000000/\F.ch n 360000000=F.ch n 360000000
theorem sH (more n:Int):snN more n 360000000=true:=by
 obtain ⟨_,_,_,_,_,m0,m1⟩:=uT (n:=n) (d:=360000000) (by decide) (by decide)
 have e4:snM n 360000000 % 4=0:=by
  unfold snM
  omega
 have ha:0<=snA more n 360000000/\snA more n 360000000<=360000000/\snA more n 360000000 % 4=0:=by
  unfold snA
  cases snK n 360000000 more==0||snK n 360000000 more==2 with
  | true=>simp only [cond_true]; omega
  | false=>simp only [cond_false]; omega
 unfold snN quN
 have t:(snA more n 360000000).tmod 4=0:=by rw [Int.tmod_eq_emod_of_nonneg ha.1]; exact ha.2.2
 simp [ha.1,ha.2.1,t]
def af0:AF:=⟨snN 0,snN 1,fU 0,fV 0,fU 1,fV 1,jk⟩
def axN (a _n:Int):Bool:=a==0||(a==1||a==2)
end Go.Vc
namespace Go.Rd
open Go Go.Eng Go.Ar
structure Bd (s:Sp) (M:Int):Prop where
 e:s.e=0
 lo:-M<=s.lo
 le:s.lo<=s.hi
 hi:s.hi<=M
structure En (s:Sp) (N D:Int):Prop where
 lo:s.lo*D<=N
 hi:N<=s.hi*D
theorem VW {n d:Int} (hd:0<d):rd n d false*d<=n/\n<rd n d false*d+d:=by
 have h1:=Int.mul_ediv_add_emod n d
 have h2:=Int.emod_nonneg n (show d≠0 by omega)
 have h3:=Int.emod_lt_of_pos n hd
 show n / d*d<=n/\n<n / d*d+d
 rw [Int.mul_comm] at h1
 omega
theorem Zk {n d:Int} (hd:0<d):n<=rd n d true*d/\rd n d true*d<n+d:=by
 have:=VW (n:=-n) hd
 have e:rd n d true=-(rd (-n) d false):=rfl
 rw [e,Int.neg_mul]
 omega
theorem LC {n d M:Int} (hd:0<d) (h:n<=M*d):rd n d true<=M:=by
 have:=(Zk (n:=n) hd).2
 rcases Int.lt_or_le M (rd n d true) with c|c
 .have:(M+1)*d<=rd n d true*d:=Int.mul_le_mul_of_nonneg_right (by omega) (by omega)
  rw [Int.add_mul] at this
  omega
 .exact c
theorem LD {n d M:Int} (hd:0<d) (h:M*d<=n):M<=rd n d false:=by
 have:=(VW (n:=n) hd).2
 rcases Int.lt_or_le (rd n d false) M with c|c
 .have:(rd n d false+1)*d<=M*d:=Int.mul_le_mul_of_nonneg_right (by omega) (by omega)
  rw [Int.add_mul] at this
  omega
 .exact c
structure Wi (s t:Sp):Prop where
 lo:t.lo<=s.lo
 le:s.lo<=s.hi
 hi:s.hi<=t.hi
structure Ri (s:Sp):Prop where
 lo:-4503599627370496<=s.lo
 le:s.lo<=s.hi
 hi:s.hi<=4503599627370496
theorem Ri.ok {s:Sp} (h:Ri s):aZ s.lo s.hi=true:=bQ.2 ⟨h.lo,h.le,h.hi⟩
theorem QB {lo hi:Int} (h1:-4503599627370496<=lo) (h2:lo<=4503599627370496) (h3:-4503599627370496<=hi) (h4:hi<=4503599627370496):fB lo hi=⟨lo,hi,0⟩:=by
 unfold fB
 rw [bM.2 (by omega),bM.2 (by omega)]
 rfl
theorem Hd {n d m:Int} (hd:0<d):m<=rd n d false ↔ m*d<=n:=by
 constructor
 .intro h
  have:=(VW (n:=n) hd).1
  have:=Int.mul_le_mul_of_nonneg_right h (Int.le_of_lt hd)
  omega
 .exact LD hd
theorem He {n d m:Int} (hd:0<d):rd n d true<=m ↔ n<=m*d:=by
 constructor
 .intro h
  have:=(Zk (n:=n) hd).1
  have:=Int.mul_le_mul_of_nonneg_right h (Int.le_of_lt hd)
  omega
 .exact LC hd
theorem Wi.at {s t:Sp} (w:Wi s t) {x:Int} (h:x=s.lo\/x=s.hi):t.lo<=x/\x<=t.hi:=by
 obtain ⟨w1,w2,w3⟩:=w
 omega
def ng (s:Sp):Sp:=⟨-s.hi,-s.lo,s.e⟩
theorem mn_eq (a b:Int):mn a b=if b<a then b else a:=by
 unfold mn; by_cases h:b<a
 .rw [decide_eq_true h,if_pos h]; rfl
 .rw [decide_eq_false h,if_neg h]; rfl
theorem mx_eq (a b:Int):mx a b=if a<b then b else a:=by
 unfold mx; by_cases h:a<b
 .rw [decide_eq_true h,if_pos h]; rfl
 .rw [decide_eq_false h,if_neg h]; rfl
def gt:List Sp->Nat->Sp
 | [],_=>⟨0,0,0⟩
 | a :: _,0=>a
 | _ :: l,i+1=>gt l i
inductive Wis:List Sp->List Sp->Prop where
 | nil:Wis [] []
 | cons {a b:Sp} {l m:List Sp}:Wi a b->Wis l m->Wis (a :: l) (b :: m)
theorem Wis.gt {l m:List Sp} (h:Wis l m):∀ i,Wi (gt l i) (gt m i):=by
 induction h with
 | nil=>exact fun _=>⟨Int.le_refl _,Int.le_refl _,Int.le_refl _⟩
 | cons w _ ih=>
  intro i
  cases i with
  | zero=>exact w
  | succ i=>exact ih i
def tn (b:Bool) (s:Sp):Sp:=bif b then ng s else s
inductive Tns:List Bool->List Sp->List Sp->Prop where
 | nil:Tns [] [] []
 | cons {b:Bool} {a c:Sp} {bs:List Bool} {l m:List Sp}:a=tn b c->Tns bs l m->Tns (b :: bs) (a :: l) (c :: m)
def bt:List Bool->Nat->Bool
 | [],_=>false
 | a :: _,0=>a
 | _ :: l,i+1=>bt l i
theorem Tns.gt {bs:List Bool} {l m:List Sp} (h:Tns bs l m):∀ i,gt l i=tn (bt bs i) (gt m i):=by
 induction h with
 | nil=>exact fun _=>rfl
 | cons e _ ih=>intro i; cases i with
  | zero=>exact e
  | succ i=>exact ih i
theorem Tns.e {bs:List Bool} {l m:List Sp} (h:Tns bs l m) (i:Nat):(Go.Rd.gt l i).e=(Go.Rd.gt m i).e:=by
 rw [h.gt i]; cases bt bs i <;> rfl
end Go.Rd
namespace Go.Iv
open Go Go.Ar Go.Rd
end Go.Iv
namespace Go.Vc
open Go Go.Eng Go.Ar Go.Dg Go.Rd
def Bd (A a b:Int):Prop:=-A<=a/\a<=b/\b<=A
theorem Bd.ok {A a b:Int} (h:Bd A a b) (hA:A<=4503599627370496):aZ a b=true:=by
 obtain ⟨h1,h2,h3⟩:=h
 exact bQ.2 ⟨by omega,by omega,by omega⟩
theorem QC {A B x y:Int} (h1:-A<=x) (h2:x<=A) (h3:-B<=y) (h4:y<=B):-(A*B)<=x*y/\x*y<=A*B:=by
 have a:=Int.mul_nonneg (a:=A - x) (b:=B - y) (by omega) (by omega)
 have b:=Int.mul_nonneg (a:=A+x) (b:=B+y) (by omega) (by omega)
 have c:=Int.mul_nonneg (a:=A - x) (b:=B+y) (by omega) (by omega)
 have d:=Int.mul_nonneg (a:=A+x) (b:=B - y) (by omega) (by omega)
 constructor <;> grind
theorem Zl {p M:Int} (h1:-(M*4294967296)<=p) (h2:p<=M*4294967296):-M<=rd p 4294967296 false/\rd p 4294967296 false<=rd p 4294967296 true/\rd p 4294967296 true<=M:=by
 refine ⟨(Hd (by decide)).2 (by omega),Jp _ _ (by decide),(He (by decide)).2 (by omega)⟩
theorem qK {A B M a b c d:Int} (h:Bd A a b) (k:Bd B c d) (hA:A<=4503599627370496) (hB:B<=4503599627370496) (hM:A*B<=M*4294967296) (hM2:M<=4503599627370496):∃ l u,cA a b c d=⟨l,u,0⟩/\Bd M l u:=by
 have ok1:=h.ok hA
 have ok2:=k.ok hB
 obtain ⟨h1,h2,h3⟩:=h
 obtain ⟨k1,k2,k3⟩:=k
 have key:∀ x y,-A<=x->x<=A->-B<=y->y<=B->-M<=mF x y false/\mF x y false<=mF x y true/\mF x y true<=M:=fun x y a1 a2 a3 a4=>by
  have:=QC a1 a2 a3 a4
  exact Zl (by omega) (by omega)
 have p1:=key a c (by omega) (by omega) (by omega) (by omega)
 have p2:=key a d (by omega) (by omega) (by omega) (by omega)
 have p3:=key b c (by omega) (by omega) (by omega) (by omega)
 have p4:=key b d (by omega) (by omega) (by omega) (by omega)
 unfold cA kJ m6
 rw [ok1,ok2]
 generalize mF a c false=f1 at *
 generalize mF a d false=f2 at *
 generalize mF b c false=f3 at *
 generalize mF b d false=f4 at *
 generalize mF a c true=g1 at *
 generalize mF a d true=g2 at *
 generalize mF b c true=g3 at *
 generalize mF b d true=g4 at *
 have b1:-M<=mn (mn (mn f1 f2) f3) f4/\mn (mn (mn f1 f2) f3) f4<=f1:=by
  simp only [mn_eq]
  constructor <;> (repeat' split) <;> omega
 have b2:mx (mx (mx g1 g2) g3) g4<=M/\g1<=mx (mx (mx g1 g2) g3) g4:=by
  simp only [mx_eq]
  constructor <;> (repeat' split) <;> omega
 refine ⟨_,_,?_,b1.1,by omega,b2.1⟩
 show fB _ _=_
 unfold fB
 rw [bM.2 ⟨by omega,by omega⟩,bM.2 ⟨by omega,by omega⟩]
 rfl
theorem wC {A B a b c d:Int} (h:Bd A a b) (k:Bd B c d) (hA:A+B<=4503599627370496) (hA0:0<=A) (hB0:0<=B):nV a b c d=⟨a+c,b+d,0⟩/\Bd (A+B) (a+c) (b+d):=by
 have ok1:=h.ok (by omega)
 have ok2:=k.ok (by omega)
 obtain ⟨h1,h2,h3⟩:=h
 obtain ⟨k1,k2,k3⟩:=k
 refine ⟨?_,by omega,by omega,by omega⟩
 unfold nV kJ
 rw [ok1,ok2]
 show fB _ _=_
 unfold fB
 rw [bM.2 ⟨by omega,by omega⟩,bM.2 ⟨by omega,by omega⟩]
 rfl
def BdV (A:Int) (v:Ve):Prop:=Bd A v.a v.b/\Bd A v.c v.d/\Bd A v.e v.f
def BdM (A:Int) (m:Mat):Prop:=BdV A m.x/\BdV A m.y/\BdV A m.z
theorem BdV.ok {A:Int} {v:Ve} (h:BdV A v) (hA:A<=4503599627370496):wOk vf0 v=false/\MF.ok ⟨e9 vf0,aZ⟩ v=true:=by
 unfold wOk MF.ok
 have h1:=h.1.ok hA
 have h2:=h.2.1.ok hA
 have h3:=h.2.2.ok hA
 show (!bif aZ _ _ then (bif aZ _ _ then aZ _ _ else false) else false)=false/\(bif aZ _ _ then (bif aZ _ _ then aZ _ _ else false) else false)=true
 rw [h1,h2,h3]; exact ⟨rfl,rfl⟩
theorem mJ {A B M:Int} {v w:Ve} (h:BdV A v) (k:BdV B w) (hA:A<=4503599627370496) (hB:B<=4503599627370496) (hM:A*B<=M*4294967296) (hM0:0<=M) (hM2:3*M<=4503599627370496):
  ∃ l1 u1 l2 u2 l3 u3,cA v.a v.b w.a w.b=⟨l1,u1,0⟩/\cA v.c v.d w.c w.d=⟨l2,u2,0⟩/\cA v.e v.f w.e w.f=⟨l3,u3,0⟩/\e9 vf0 v w=⟨l1+l2+l3,u1+u2+u3,0⟩/\Bd (3*M) (l1+l2+l3) (u1+u2+u3):=by
 obtain ⟨l1,u1,e1,b1⟩:=qK h.1 k.1 hA hB hM (by omega)
 obtain ⟨l2,u2,e2,b2⟩:=qK h.2.1 k.2.1 hA hB hM (by omega)
 obtain ⟨l3,u3,e3,b3⟩:=qK h.2.2 k.2.2 hA hB hM (by omega)
 obtain ⟨a1,c1⟩:=wC b1 b2 (by omega) hM0 hM0
 obtain ⟨a2,c2⟩:=wC c1 b3 (by omega) (by omega) hM0
 have hdA:dA vf0 v w=⟨l1+l2,u1+u2,0⟩:=by
  unfold dA
  show nV (cA v.a v.b w.a w.b).lo (cA v.a v.b w.a w.b).hi (cA v.c v.d w.c w.d).lo (cA v.c v.d w.c w.d).hi=_
  rw [e1,e2]; exact a1
 have hdB:dB vf0 v w=⟨l1+l2+l3,u1+u2+u3,0⟩:=by
  unfold dB
  rw [hdA]
  show nV (l1+l2) (u1+u2) (cA v.e v.f w.e w.f).lo (cA v.e v.f w.e w.f).hi=_
  rw [e3]; exact a2
 have ht:AM vf0 v w vf0.mu=0:=by
  unfold AM z3
  rw [xO pf]
  unfold r7
  rw [(h.ok hA).1,(k.ok hB).1]
  show tE (cA v.a v.b w.a w.b) (cA v.c v.d w.c w.d) (cA v.e v.f w.e w.f) 0=0
  rw [e1,e2,e3]; rfl
 refine ⟨l1,u1,l2,u2,l3,u3,e1,e2,e3,?_,?_⟩
 .unfold e9 dE
  rw [ht,hdA,hdB]; rfl
 .have:3*M=M+M+M:=by omega
  rw [this]; exact c2
theorem n7 {A B M:Int} {a b:Mat} (h:BdM A a) (k:BdM B b) (hA:A<=4503599627370496) (hB:B<=4503599627370496) (hM:A*B<=M*4294967296) (hM0:0<=M) (hM2:3*M<=4503599627370496):
  mN ⟨e9 vf0,aZ⟩ a b=0/\BdM (3*M) (mulV ⟨e9 vf0,aZ⟩ a b)/\rmB ⟨e9 vf0,aZ⟩ a b=false/\rmG ⟨e9 vf0,aZ⟩ a b=true:=by
 have kf:BdV B (ax b).x/\BdV B (ax b).y/\BdV B (ax b).z:=by
  obtain ⟨⟨a1,a2,a3⟩,⟨b1,b2,b3⟩,c1,c2,c3⟩:=k
  exact ⟨⟨a1,b1,c1⟩,⟨a2,b2,c2⟩,a3,b3,c3⟩
 have dd:∀ r,BdV A r->∀ s,BdV B s->(e9 vf0 r s).e=0/\Bd (3*M) (e9 vf0 r s).lo (e9 vf0 r s).hi:=fun r hr s hs=>by
  obtain ⟨_,_,_,_,_,_,_,_,_,e,b⟩:=mJ hr hs hA hB hM hM0 hM2
  rw [e]; exact ⟨rfl,b⟩
 have okM':∀ {C:Int} {m:Mat},BdM C m->C<=4503599627370496->okM ⟨e9 vf0,aZ⟩ m=true:=fun h hC=>by
  unfold okM
  rw [(h.1.ok hC).2,(h.2.1.ok hC).2,(h.2.2.ok hC).2]; rfl
 have hB1:rmB ⟨e9 vf0,aZ⟩ a b=false:=by
  unfold rmB
  rw [okM' h hA,okM' k hB]; rfl
 have hg:∀ r,BdV A r->rg ⟨e9 vf0,aZ⟩ b r=true:=fun r hr=>by
  unfold rg g3
  show (!((e9 vf0 r (ax b).x).e != 0)&&(!((e9 vf0 r (ax b).y).e != 0)&&!((e9 vf0 r (ax b).z).e != 0)))=true
  rw [(dd r hr _ kf.1).1,(dd r hr _ kf.2.1).1,(dd r hr _ kf.2.2).1]; rfl
 have hG:rmG ⟨e9 vf0,aZ⟩ a b=true:=by
  unfold rmG
  rw [hg _ h.1,hg _ h.2.1,hg _ h.2.2]; rfl
 have hI:∀ x,rmI ⟨e9 vf0,aZ⟩ a b x=x:=fun x=>by
  unfold rmI
  rw [hB1,hG]; rfl
 have hrow:∀ r,BdV A r->BdV (3*M) (rmV ⟨e9 vf0,aZ⟩ a b r):=fun r hr=>by
  unfold rmV
  simp only [hI]
  exact ⟨(dd r hr _ kf.1).2,(dd r hr _ kf.2.1).2,(dd r hr _ kf.2.2).2⟩
 refine ⟨?_,⟨hrow _ h.1,hrow _ h.2.1,hrow _ h.2.2⟩,hB1,hG⟩
 unfold mN
 rw [hB1,hG]; rfl
def uM:Mat:=⟨⟨4294967296,4294967296,0,0,0,0⟩,⟨0,0,4294967296,4294967296,0,0⟩,⟨0,0,0,0,4294967296,4294967296⟩⟩
theorem LE {m:Mat} (h:eqU m=true):m=uM:=by
 unfold eqU at h
 simp only [Bool.and_eq_true,beq_iff_eq,Bool.and_true] at h
 obtain ⟨⟨a,b,c,d,e,f⟩,⟨g,i,j,k,l,n⟩,o,p,q,r,s,t⟩:=m
 obtain ⟨h1,h2,h3,h4,h5,h6,h7,h8,h9,h10,h11,h12,h13,h14,h15,h16,h17,h18⟩:=h
 dsimp only at *
 subst h1 h2 h3 h4 h5 h6 h7 h8 h9 h10 h11 h12 h13 h14 h15 h16 h17 h18
 rfl
theorem VX (a:Int) (up:Bool):mF a 4294967296 up=a:=by
 unfold mF rd
 cases up
 .exact Int.mul_ediv_cancel a (by decide)
 .show -(-(a*4294967296) / 4294967296)=a
  rw [<- Int.neg_mul,Int.mul_ediv_cancel _ (by decide)]; omega
theorem QD (a:Int) (up:Bool):mF a 0 up=0:=by
 unfold mF rd
 rw [Int.mul_zero]
 cases up <;> rfl
theorem mul_one {A a b:Int} (h:Bd A a b) (hA:A<=4503599627370496):cA a b 4294967296 4294967296=⟨a,b,0⟩:=by
 have ok1:=h.ok hA
 obtain ⟨h1,h2,h3⟩:=h
 unfold cA kJ m6
 rw [ok1]
 simp only [VX]
 have m1:mn (mn (mn a a) b) b=a:=by
  simp only [mn_eq]
  repeat' split
  all_goals omega
 have m2:mx (mx (mx a a) b) b=b:=by
  simp only [mx_eq]
  repeat' split
  all_goals omega
 rw [m1,m2]
 show fB a b=_
 exact QB (by omega) (by omega) (by omega) (by omega)
theorem mul_zero {A a b:Int} (h:Bd A a b) (hA:A<=4503599627370496):cA a b 0 0=⟨0,0,0⟩:=by
 have ok1:=h.ok hA
 unfold cA kJ m6
 rw [ok1]
 simp only [QD]
 rfl
theorem bd0 (A:Int) (h:0<=A):Bd A 0 0:=⟨by omega,by omega,by omega⟩
theorem bd1 (A:Int) (h:4294967296<=A):Bd A 4294967296 4294967296:=⟨by omega,by omega,by omega⟩
theorem Tc:BdM 4294967296 uM:=by
 have z:=bd0 4294967296 (by decide)
 have o:=bd1 4294967296 (by decide)
 exact ⟨⟨o,z,z⟩,⟨z,o,z⟩,z,z,o⟩
theorem LF {A:Int} {v:Ve} (h:BdV A v) (hA:A<=1000000000000000) (hA0:0<=A):(e9 vf0 v uM.x)=⟨v.a,v.b,0⟩/\(e9 vf0 v uM.y)=⟨v.c,v.d,0⟩/\(e9 vf0 v uM.z)=⟨v.e,v.f,0⟩:=by
 obtain ⟨u1,u2,u3⟩:=Tc
 have hA':A<=4503599627370496:=by omega
 refine ⟨?_,?_,?_⟩
 .obtain ⟨l1,w1,l2,w2,l3,w3,e1,e2,e3,e,_⟩:=mJ h u1 hA' (by decide) (Int.le_refl _) hA0 (by omega)
  rw [show cA v.a v.b uM.x.a uM.x.b=cA v.a v.b 4294967296 4294967296 from rfl,mul_one h.1 hA'] at e1
  rw [show cA v.c v.d uM.x.c uM.x.d=cA v.c v.d 0 0 from rfl,mul_zero h.2.1 hA'] at e2
  rw [show cA v.e v.f uM.x.e uM.x.f=cA v.e v.f 0 0 from rfl,mul_zero h.2.2 hA'] at e3
  cases e1; cases e2; cases e3
  rw [e,Int.add_zero,Int.add_zero,Int.add_zero,Int.add_zero]
 .obtain ⟨l1,w1,l2,w2,l3,w3,e1,e2,e3,e,_⟩:=mJ h u2 hA' (by decide) (Int.le_refl _) hA0 (by omega)
  rw [show cA v.a v.b uM.y.a uM.y.b=cA v.a v.b 0 0 from rfl,mul_zero h.1 hA'] at e1
  rw [show cA v.c v.d uM.y.c uM.y.d=cA v.c v.d 4294967296 4294967296 from rfl,mul_one h.2.1 hA'] at e2
  rw [show cA v.e v.f uM.y.e uM.y.f=cA v.e v.f 0 0 from rfl,mul_zero h.2.2 hA'] at e3
  cases e1; cases e2; cases e3
  rw [e,Int.zero_add,Int.add_zero,Int.zero_add,Int.add_zero]
 .obtain ⟨l1,w1,l2,w2,l3,w3,e1,e2,e3,e,_⟩:=mJ h u3 hA' (by decide) (Int.le_refl _) hA0 (by omega)
  rw [show cA v.a v.b uM.z.a uM.z.b=cA v.a v.b 0 0 from rfl,mul_zero h.1 hA'] at e1
  rw [show cA v.c v.d uM.z.c uM.z.d=cA v.c v.d 0 0 from rfl,mul_zero h.2.1 hA'] at e2
  rw [show cA v.e v.f uM.z.e uM.z.f=cA v.e v.f 4294967296 4294967296 from rfl,mul_one h.2.2 hA'] at e3
  cases e1; cases e2; cases e3
  rw [e,Int.add_zero,Int.zero_add,Int.zero_add]
noncomputable def mf1:MF:=⟨e9 vf0,aZ⟩
theorem BA {A:Int} {m:Mat} (h:BdM A m) (hA:A<=1000000000000000) (hA0:0<=A):mulV mf1 m uM=m:=by
 obtain ⟨_,_,hB,hG⟩:=n7 h Tc (by omega) (by decide) (Int.le_refl _) hA0 (by omega)
 have hI:∀ x,rmI mf1 m uM x=x:=fun x=>by
  unfold rmI
  rw [show rmB mf1 m uM=false from hB,show rmG mf1 m uM=true from hG]; rfl
 have hrow:∀ r,BdV A r->rmV mf1 m uM r=r:=fun r hr=>by
  obtain ⟨a,b,c⟩:=LF hr hA hA0
  unfold rmV
  simp only [hI]
  rw [show mf1.dt r (ax uM).x=_ from a,show mf1.dt r (ax uM).y=_ from b,show mf1.dt r (ax uM).z=_ from c]
 unfold mulV
 rw [hrow _ h.1,hrow _ h.2.1,hrow _ h.2.2]
theorem Zm {m d:Int}:cP m d<=cQ m d:=by
 unfold cP cQ
 repeat' split
 all_goals omega
theorem Td {more n d:Int} (h:snN more n d=true):Bd 13000000000 (fU more n d) (fV more n d):=by
 unfold fU fV
 cases hB:ii d with
 | true=>exact bd0 _ (by decide)
 | false=>
  unfold snN at h
  rw [hB] at h
  obtain ⟨a,b,c,d'⟩:=Tb h
  have e:=Zm (m:=snA more n d) (d:=d)
  cases snK n d more==0||snK n d more==1 with
  | true=>
   show Bd _ (cP _ _) (cQ _ _)
   exact ⟨by omega,e,d'⟩
  | false=>
   show Bd _ (-cQ _ _) (-cP _ _)
   exact ⟨by omega,by omega,by omega⟩
theorem Hf {A a b:Int} (h:Bd A a b) (hA:A<=4503599627370496):jk a b=⟨-b,-a,0⟩/\Bd A (-b) (-a):=by
 unfold jk
 rw [h.ok hA]
 obtain ⟨h1,h2,h3⟩:=h
 exact ⟨rfl,by omega,by omega,by omega⟩
theorem BB {a n:Int}:BdM 13000000000 (abA af0 a n):=by
 have s:=Td (sH 0 n)
 have c:=Td (sH 1 n)
 obtain ⟨g1,g2⟩:=Hf s (by decide)
 have z:=bd0 13000000000 (by decide)
 have o:=bd1 13000000000 (by decide)
 unfold abA
 show BdM _ (VV (fU 0 n 360000000) (fV 0 n 360000000) (fU 1 n 360000000) (fV 1 n 360000000) (jk (fU 0 n 360000000) (fV 0 n 360000000)) a)
 rw [g1]
 unfold VV
 cases a==0 with
 | true=>exact ⟨⟨o,z,z⟩,⟨z,c,g2⟩,z,s,c⟩
 | false=>cases a==1 with
  | true=>exact ⟨⟨c,z,s⟩,⟨z,o,z⟩,g2,z,c⟩
  | false=>exact ⟨⟨c,g2,z⟩,⟨s,c,z⟩,z,z,o⟩
noncomputable def m8 (x y:Int):Mat:=mulV mf1 (abA af0 1 y) (abA af0 0 x)
noncomputable def QE (x y z:Int):Mat:=mulV mf1 (abA af0 2 z) (m8 x y)
theorem Fs (x y:Int):mN mf1 (abA af0 1 y) (abA af0 0 x)=0/\BdM 120000000000 (m8 x y):=by
 obtain ⟨a,b,_,_⟩:=n7 (M:=40000000000) (BB (a:=1) (n:=y)) (BB (a:=0) (n:=x)) (by decide) (by decide) (by decide) (by decide) (by decide)
 exact ⟨a,b⟩
theorem VY (x y z:Int):mN mf1 (abA af0 2 z) (m8 x y)=0/\BdM 1200000000000 (QE x y z):=by
 obtain ⟨a,b,_,_⟩:=n7 (M:=400000000000) (BB (a:=2) (n:=z)) (Fs x y).2 (by decide) (by decide) (by decide) (by decide) (by decide)
 exact ⟨a,b⟩
theorem Zn (x y z:Int):ro2 ⟨axN,abA af0,mulV mf1,mN mf1⟩ x y z=QE x y z:=by
 have e1:ro1 ⟨axN,abA af0,mulV mf1,mN mf1⟩ x y=m8 x y:=by
  unfold ro1 m8
  show QA (eqU (abA af0 0 x)) (abA af0 1 y) (mulV mf1 (abA af0 1 y) (abA af0 0 x))=_
  cases h:eqU (abA af0 0 x) with
  | false=>rfl
  | true=>
   rw [LE h,BA BB (by decide) (by decide)]; rfl
 unfold ro2 QE
 rw [e1]
 show QA (eqU (m8 x y)) (abA af0 2 z) (mulV mf1 (abA af0 2 z) (m8 x y))=_
 cases h:eqU (m8 x y) with
 | false=>rfl
 | true=>
  rw [LE h,BA BB (by decide) (by decide)]; rfl
def jd (x y z:Int):Bool:=bif eg x then true else bif eg y then true else eg z
def z0M:Mat:=⟨⟨0,0,0,0,0,0⟩,⟨0,0,0,0,0,0⟩,⟨0,0,0,0,0,0⟩⟩
noncomputable def jN (x y z:Int):Mat:=bif jd x y z then z0M else QE x y z
def kL (x y z:Int):Int:=bif jd x y z then 2 else 0
end Go.Vc
namespace Go.Proofs.YtmnhhlnbfkfkaaaGreat.K
open Go Go.Eng Go.Dg Go.Ar Go.Vc
noncomputable section
def maT (m:Mat):Tm:=.a [.n .i64 m.x.a,.n .i64 m.x.b,.n .i64 m.x.c,.n .i64 m.x.d,.n .i64 m.x.e,.n .i64 m.x.f,.n .i64 m.y.a,.n .i64 m.y.b,.n .i64 m.y.c,.n .i64 m.y.d,.n .i64 m.y.e,.n .i64 m.y.f,.n .i64 m.z.a,.n .i64 m.z.b,.n .i64 m.z.c,.n .i64 m.z.d,.n .i64 m.z.e,.n .i64 m.z.f]
def sAb (N:Int->Int->Bool) (A:Int->Int->Mat):aK:=a8 VK (some fun|[.n m,.n d]=>N m d|_=>false) fun
 | [.n m,.n d]=>maT (A m d)
 | _=>.u []
def LG (F:AF):List (FuncId×aK):=[(8,l7 F.n0 F.sl F.sh snE),(10,l7 F.n1 F.cl F.ch snE),(62,sUn F.ng)]
theorem LH:fA Tryz.prog (LG af0):=by
 intro x hx
 simp only [LG,List.mem_cons,List.not_mem_nil,or_false] at hx
 rcases hx with rfl|rfl|rfl
 .exact Fr
 .exact wB
 .exact EP
def cAb (F:AF) (i j:Int):Ctx:=aP (mkC Tryz.prog (LG F) ext) (hZ [(32,.int false .i64 i),(35,.int false .i64 j)])
theorem Dp (i j:Int):CtxOk (cAb af0 i j):=aj (ct aM LH cB) _
def zP:AV:=.int false .i64 0
def oP:AV:=.int false .i64 4294967296
def iP (x:Int):AV:=.int true .i64 x
def abL (sl sh cl ch:Int) (m:Sp) (a:Int):List AV:=
 bif a==0 then [oP,oP,zP,zP,zP,zP,zP,zP,iP cl,iP ch,iP m.lo,iP m.hi,zP,zP,iP sl,iP sh,iP cl,iP ch]
 else bif a==1 then [iP cl,iP ch,zP,zP,iP sl,iP sh,zP,zP,oP,oP,zP,zP,iP m.lo,iP m.hi,zP,zP,iP cl,iP ch]
 else [iP cl,iP ch,iP m.lo,iP m.hi,zP,zP,iP sl,iP sh,iP cl,iP ch,zP,zP,zP,zP,zP,zP,oP,oP]
def abV (F:AF) (a n:Int):AV:=.agg (abL (F.sl n 360000000) (F.sh n 360000000) (F.cl n 360000000) (F.ch n 360000000) (F.ng (F.sl n 360000000) (F.sh n 360000000)) a)
theorem QF (F:AF) (n:Int):bb ((run (cAb F 1 2) 300).call 33 [.int true .i64 0,.int true .i64 n] ⟨[],0,1⟩)=some (.p (abN F n 0 1 2),abV F 0 n):=by kernel_rfl
theorem QG (F:AF) (n:Int):bb ((run (cAb F 2 0) 300).call 33 [.int true .i64 1,.int true .i64 n] ⟨[],0,1⟩)=some (.p (abN F n 1 2 0),abV F 1 n):=by kernel_rfl
theorem QH (F:AF) (n:Int):bb ((run (cAb F 0 1) 300).call 33 [.int true .i64 2,.int true .i64 n] ⟨[],0,1⟩)=some (.p (abN F n 2 0 1),abV F 2 n):=by kernel_rfl
theorem LI {n a i j:Int} (h:(wr (a+1)).tmod 3=i/\(wr (a+2)).tmod 3=j):abN af0 n a i j:=⟨sH 0 n,sH 1 n,h,⟨⟨rfl,rfl⟩,⟨rfl,rfl⟩,rfl,rfl⟩,⟨⟨rfl,rfl⟩,rfl,rfl⟩,rfl,rfl⟩
theorem LJ:PureOk Tryz.prog 33 (sAb axN (abA af0)):=by
 refine num_ok' (fun xs hk hN=>?_) ⟨_,Tryz.func33,rfl⟩
 obtain ⟨a,_,rfl,h1⟩:=kn hk; obtain ⟨n,_,rfl,h2⟩:=kn h1; obtain rfl:=k0 h2
 have hN:axN a n=true:=hN
 unfold axN at hN
 simp only [Bool.or_eq_true,beq_iff_eq] at hN
 rcases hN with rfl|rfl|rfl
 .exact ⟨_,300,_,_,Dp 1 2,rfl,fun _=>rfl,rfl,QF af0 n,LI (by decide),fun τ W h=>h⟩
 .exact ⟨_,300,_,_,Dp 2 0,rfl,fun _=>rfl,rfl,QG af0 n,LI (by decide),fun τ W h=>h⟩
 .exact ⟨_,300,_,_,Dp 0 1,rfl,fun _=>rfl,rfl,QH af0 n,LI (by decide),fun τ W h=>h⟩
def LL (R:RF):List (FuncId×aK):=[(33,sAb R.n R.ab),(15,sMM R.mv R.mo)]
def rf0:RF:=⟨axN,abA af0,mulV mf0,mN mf0⟩
theorem LM:fA Tryz.prog (LL rf0):=by
 intro x hx
 simp only [LL,List.mem_cons,List.not_mem_nil,or_false] at hx
 rcases hx with rfl|rfl
 .exact LJ
 .exact EY
def hRo (k:Nat):Nat->Nat->Option AV:=fun c t=>match Nat.beq t 26 with
 | true=>match Nat.ble k c with
  | true=>some (.bool false true)
  | false=>some (.bool false false)
 | false=>none
def cRo (R:RF) (k:Nat):Ctx:=aP (mkC Tryz.prog (LL R) ext) (hRo k)
theorem yA (k:Nat):CtxOk (cRo rf0 k):=aj (ct aM LM cB) _
def ab5:List Sh:=[.i .i64,.i .i64,.i .i64]
def outMa' (m:Mat) (e:AV):AV:=.tuple [(maT m).av true,e]
def BC:AV:=.tuple [.agg [zP,zP,zP,zP,zP,zP,zP,zP,zP,zP,zP,zP,zP,zP,zP,zP,zP,zP],.int false .i64 2]
def i3 (x y z:Int):List AV:=[.int true .i64 x,.int true .i64 y,.int true .i64 z]
theorem VZ (R:RF) (x y z:Int):bb ((run (cRo R 0) 900).call 12 (i3 x y z) ⟨[],0,1⟩)=some (.p (d9 x true),BC):=by kernel_rfl
theorem V4 (R:RF) (x y z:Int):bb ((run (cRo R 100) 900).call 12 (i3 x y z) ⟨[],0,1⟩)=some (.p (VU R x/\d9 y true),BC):=by kernel_rfl
theorem V5 (R:RF) (x y z:Int):bb ((run (cRo R 200) 900).call 12 (i3 x y z) ⟨[],0,1⟩)=some (.p (VU R x/\Zj R x y/\d9 z true),BC):=by kernel_rfl
theorem QI (R:RF) (x y z:Int):bb ((run (cRo R 9000) 900).call 12 (i3 x y z) ⟨[],0,1⟩)=some (.p (VU R x/\Zj R x y/\ab4 R x y z),outMa' (ro2 R x y z) (.int false .i64 0)):=by kernel_rfl
def QJ (V:Int->Int->Int->Mat) (E:Int->Int->Int->Int):aK:=a8 ab5 none fun
 | [.n x,.n y,.n z]=>pg (V x y z) (E x y z)
 | _=>.u []
theorem V6:PureOk Tryz.prog 12 (QJ jN kL):=by
 refine num_ok' (fun xs hk _=>?_) ⟨_,Tryz.func12,rfl⟩
 obtain ⟨x,_,rfl,h1⟩:=kn hk; obtain ⟨y,_,rfl,h2⟩:=kn h1; obtain ⟨z,_,rfl,h3⟩:=kn h2; obtain rfl:=k0 h3
 have nx:∀ b,eg x=b->d9 x b:=fun b h=>h ▸ qJ
 have ny:∀ b,eg y=b->d9 y b:=fun b h=>h ▸ qJ
 have nz:∀ b,eg z=b->d9 z b:=fun b h=>h ▸ qJ
 have bad:jd x y z=true->∀ τ W,VRel τ BC W->VRel τ ((pg (jN x y z) (kL x y z)).av true) W:=fun h τ W k=>by
  have e1:jN x y z=z0M:=by unfold jN; rw [h]; rfl
  have e2:kL x y z=2:=by unfold kL; rw [h]; rfl
  rw [e1,e2]; exact k
 cases hx:eg x with
 | true=>exact ⟨cRo rf0 0,900,_,_,yA 0,rfl,fun _=>rfl,rfl,VZ rf0 x y z,nx _ hx,bad (by unfold jd; rw [hx]; rfl)⟩
 | false=>cases hy:eg y with
  | true=>exact ⟨cRo rf0 100,900,_,_,yA 100,rfl,fun _=>rfl,rfl,V4 rf0 x y z,⟨⟨nx _ hx,rfl⟩,ny _ hy⟩,bad (by unfold jd; rw [hx,hy]; rfl)⟩
  | false=>cases hz:eg z with
   | true=>exact ⟨cRo rf0 200,900,_,_,yA 200,rfl,fun _=>rfl,rfl,V5 rf0 x y z,⟨⟨nx _ hx,rfl⟩,⟨ny _ hy,rfl,fR _⟩,nz _ hz⟩,bad (by unfold jd; rw [hx,hy,hz]; rfl)⟩
   | false=>
    have hb:jd x y z=false:=by unfold jd; rw [hx,hy,hz]; rfl
    refine ⟨cRo rf0 9000,900,_,_,yA 9000,rfl,fun _=>rfl,rfl,QI rf0 x y z,⟨⟨nx _ hx,rfl⟩,⟨ny _ hy,rfl,fR _⟩,nz _ hz,rfl,fR _⟩,fun τ W k=>?_⟩
    have e1:jN x y z=ro2 rf0 x y z:=by unfold jN; rw [hb]; exact (Zn x y z).symm
    have e2:kL x y z=0:=by unfold kL; rw [hb]; rfl
    show VRel τ ((pg (jN x y z) (kL x y z)).av true) W
    rw [e1,e2]; exact k
end
end Go.Proofs.YtmnhhlnbfkfkaaaGreat.K
namespace Go.Proofs.YtmnhhlnbfkfkaaaGreat.K
open Go Go.Eng Go.Dg
noncomputable section
def eP (l:List (Nat×AV)):Nat->Nat->Option AV:=fun _ t=>match l with
 | []=>none
 | x :: l=>match Nat.beq t x.1 with
  | true=>some x.2
  | false=>eP l 0 t
termination_by structural l
def leH (a b:List Int):Hp:=dW true hG0 [(.i64,a),(.i64,b)]
def uU (a b:List Int):List AV:=[.lslice 0 a.length,.lslice 1 b.length]
def cLe (d:Bool):Ctx:=aP cL (eP [(10,.bool false d)])
theorem yB (d:Bool):CtxOk (cLe d):=aj de _
noncomputable def leS (a b:List Int):St:=ib (cLe false) 300 83 (uU a b) (leH a b)
def LN:AFr:=⟨83,none⟩
def leA:Code:=bJ Tryz.prog 83 0
def leP (i:Int):Patch:=⟨(5,.int true .i64 i) :: aC 19 22,[],[]⟩
def leR (r:Bool):Patch:=⟨(4,.bool true r) :: (5,.any false) :: aC 19 22,[],[]⟩
def leX:Patch:=⟨(5,.any false) :: aC 19 22,[],[]⟩
def leU (a b:List Int):SumL Int:=
 {
  S:=leP
  I:=fun i=>-1<=i/\i<a.length
  μ:=fun i=>(i+1).toNat
  F:=fun i=>bif iV a b i then (.ret,leR (r8 a b i)) else (.exit 0,leX)
  next:=fun i=>IntKind.i64.wrap (i - 1)
  ids:=fun _=>[]
  X:=fun i x=>match x with
   | .ret=>some (leR (decide (a.getD i.toNat 0<b.getD i.toNat 0)),[])
   | .exit _=>some (leX,[])
   | _=>none }
def qL (p q:Bool) (a b:List Int):List AV:=[.agg [.bool true p,.lslice 0 a.length],.agg [.bool true q,.lslice 1 b.length]]
def cSa (d:Bool):Ctx:=aP cL (eP [(19,.bool false d)])
theorem yC (d:Bool):CtxOk (cSa d):=aj de _
noncomputable def saS (p q:Bool) (a b:List Int):St:=ib (cSa false) 300 59 (qL p q a b) (leH a b)
def LO:AFr:=⟨59,none⟩
def saA:Code:=bJ Tryz.prog 59 0
def saP (i:Int):Patch:=⟨(5,.int true .i64 i) :: aC 20 18,[],[]⟩
def saR:Patch:=⟨(4,.bool true false) :: (5,.any false) :: aC 20 18,[],[]⟩
def saX:Patch:=⟨(5,.any false) :: aC 20 18,[],[]⟩
def saU (a b:List Int):SumL Int:=
 {
  S:=saP
  I:=fun i=>0<=i/\i<=a.length
  μ:=fun i=>(a.length - i).toNat
  F:=fun i=>bif lN a b i then (.ret,saR) else (.exit 0,saX)
  next:=fun i=>IntKind.i64.wrap (i+1)
  ids:=fun _=>[]
  X:=fun i x=>match x with
   | .ret=>some (saR,[])
   | .exit _=>some (saX,[])
   | _=>none }
def n9 (p:Bool) (a:List Int):List AV:=[.agg [.bool true p,.lslice 0 a.length]]
def riH (a:List Int):Hp:=dW true hG0 [(.i64,a)]
def cRi (z:Bool):Ctx:=aP cL (eP [(7,.bool false z),(10,.bool false true),(46,.bool false true)])
theorem yD (z:Bool):CtxOk (cRi z):=aj de _
noncomputable def riS (p:Bool) (a:List Int):St:=ib (cRi false) 300 84 (n9 p a) (riH a)
def LP:AFr:=⟨84,none⟩
def riA:Code:=bJ Tryz.prog 84 0
def riP (i:Int):Patch:=⟨(3,.int true .i64 i) :: aC 11 21,[],[]⟩
def riU (a:List Int):SumL Int:=
 {
  S:=riP
  I:=fun i=>0<=i/\i<=a.length
  μ:=fun i=>(a.length - i).toNat
  F:=fun _=>(.exit 0,riP a.length)
  next:=fun i=>IntKind.i64.wrap (i+1)
  ids:=fun _=>[]
  X:=fun i x=>match x with
   | .exit _=>some (riP i,[])
   | .ret=>some (⟨(2,.any false) :: (3,.any false) :: aC 11 21,[],[]⟩,[])
   | _=>none }
def BD (a b:List Int):Prop:=IntKind.i64.wrap ((↑a.length:Int) - (1:Int))=IntKind.i64.wrap ((↑a.length:Int) - (1:Int))
theorem LQ (a b:List Int):fit (leS a b) (leS a b) (ac (leS a b) ((leU a b).S (IntKind.i64.wrap ((a.length:Int) - 1)))) ([])=some (.p (BD a b)):=by kernel_rfl
def Dq (a b:List Int) (i:Int):Prop:=(decide (i>=0)=true->(((0:Int)<=i/\i<(↑a.length:Int))/\i.toNat<a.length/\((0:Int)<=i/\i<(↑b.length:Int))/\i.toNat<b.length)/\((a.getD i.toNat (0:Int) != b.getD i.toNat (0:Int))=true->((0:Int)<=i/\i<(↑a.length:Int))/\i.toNat<a.length/\((0:Int)<=i/\i<(↑b.length:Int))/\i.toNat<b.length))/\((!decide (i>=0))=true->(leU a b).F i=(Ex.exit (0:Nat),leX))/\((decide (i>=0)&&!a.getD i.toNat (0:Int) != b.getD i.toNat (0:Int))=true->IntKind.i64.wrap (i - (1:Int))=(leU a b).next i/\(leU a b).I ((leU a b).next i)/\(leU a b).μ ((leU a b).next i)<(leU a b).μ i/\(leU a b).F ((leU a b).next i)=(leU a b).F i)/\((decide (i>=0)&&a.getD i.toNat (0:Int) != b.getD i.toNat (0:Int))=true->decide (a.getD i.toNat (0:Int)<b.getD i.toNat (0:Int))=decide (a.getD i.toNat (0:Int)<b.getD i.toNat (0:Int))/\(leU a b).F i=(Ex.ret,leR (decide (a.getD i.toNat (0:Int)<b.getD i.toNat (0:Int)))))
theorem QK (a b:List Int) (i:Int):aW (leS a b) ((leU a b).way (i)) ((run (cLe false) 300).code LN leA (ac (leS a b) ((leU a b).S i)))=some (.p (Dq a b i)):=by kernel_rfl
def BE (p q:Bool) (a b:List Int):Prop:=(0:Int)=0
theorem LR (p q:Bool) (a b:List Int):fit (saS p q a b) (saS p q a b) (ac (saS p q a b) ((saU a b).S 0)) ([])=some (.p (BE p q a b)):=by kernel_rfl
def Dr (p q:Bool) (a b:List Int) (i:Int):Prop:=(decide (i<(↑a.length:Int))=true->((0:Int)<=i/\i<(↑a.length:Int))/\i.toNat<a.length/\((0:Int)<=i/\i<(↑b.length:Int))/\i.toNat<b.length)/\((!decide (i<(↑a.length:Int)))=true->(saU a b).F i=(Ex.exit (0:Nat),saX))/\((decide (i<(↑a.length:Int))&&!a.getD i.toNat (0:Int) != b.getD i.toNat (0:Int))=true->IntKind.i64.wrap (i+1)=(saU a b).next i/\(saU a b).I ((saU a b).next i)/\(saU a b).μ ((saU a b).next i)<(saU a b).μ i/\(saU a b).F ((saU a b).next i)=(saU a b).F i)/\((decide (i<(↑a.length:Int))&&a.getD i.toNat (0:Int) != b.getD i.toNat (0:Int))=true->false=false/\(saU a b).F i=(Ex.ret,saR))
theorem QL (p q:Bool) (a b:List Int) (i:Int):aW (saS p q a b) ((saU a b).way (i)) ((run (cSa false) 300).code LO saA (ac (saS p q a b) ((saU a b).S i)))=some (.p (Dr p q a b i)):=by kernel_rfl
def BF (p:Bool) (a:List Int):Prop:=(0:Int)=0
theorem LS (p:Bool) (a:List Int):fit (riS p a) (riS p a) (ac (riS p a) ((riU a).S 0)) ([])=some (.p (BF p a)):=by kernel_rfl
def Ds (p:Bool) (a:List Int) (i:Int):Prop:=(decide (i<(↑a.length:Int))=true->((0:Int)<=i/\i<(↑a.length:Int))/\i.toNat<a.length/\(decide (a.getD i.toNat (0:Int)<0)=false->((0:Int)<=i/\i<(↑a.length:Int))/\i.toNat<a.length))/\((!decide (i<(↑a.length:Int)))=true->i=i/\(riU a).F i=(Ex.exit (0:Nat),riP i))/\((decide (i<(↑a.length:Int))&&!bif decide (a.getD i.toNat (0:Int)<0) then true else decide (a.getD i.toNat (0:Int)>=1000000000))=true->IntKind.i64.wrap (i+1)=(riU a).next i/\(riU a).I ((riU a).next i)/\(riU a).μ ((riU a).next i)<(riU a).μ i/\(riU a).F ((riU a).next i)=(riU a).F i)/\((decide (i<(↑a.length:Int))&&bif decide (a.getD i.toNat (0:Int)<0) then true else decide (a.getD i.toNat (0:Int)>=1000000000))=true->(riU a).F i=(Ex.ret,{ tm:=((2:Nat),AV.any false) :: ((3:Nat),AV.any false) :: aC (11:Nat) (21:Nat),old:=[],new:=[] }))
theorem QM (p:Bool) (a:List Int) (i:Int):aW (riS p a) ((riU a).way (i)) ((run (cRi false) 300).code LP riA (ac (riS p a) ((riU a).S i)))=some (.p (Ds p a i)):=by kernel_rfl
theorem QN (a b:List Int) (hs:Sm a) (hl:a.length=b.length):CodeOk (cLe false) LN (.loop leA) (leS a b) ⟨.tt,[⟨.b (iV a b (a.length - 1)),.ret,ac (leS a b) (leR (r8 a b (a.length - 1)))⟩,⟨.b (!iV a b (a.length - 1)),.exit 0,ac (leS a b) leX⟩]⟩:=by
 have hs:=hs.le
 have e0:IntKind.i64.wrap ((a.length:Int) - 1)=a.length - 1:=iw (by omega) (by omega)
 refine ux (aQ (yB false) 300) (leU a b) (y0:=IntKind.i64.wrap ((a.length:Int) - 1)) (by rw [e0]; exact ⟨by omega,by omega⟩) ⟨_,LQ a b,rfl⟩ (by kernel_rfl) (fun i hi=>⟨_,QK a b i,?_⟩) (by rw [e0]; rfl)
 obtain ⟨i0,i1⟩:=(show -1<=i/\i<a.length from hi)
 refine ⟨fun h=>?_,fun h=>?_,fun h=>?_,fun h=>?_⟩
 .have h:=dt.1 h; exact ⟨by omega,fun _=>by omega⟩
 .have h:=ndt.1 h
  have:i=-1:=by omega
  subst this; rfl
 .obtain ⟨h0,h⟩:=rI.1 h
  have h:=Ki.1 h
  have e:IntKind.i64.wrap (i - 1)=i - 1:=iw (by omega) (by omega)
  refine ⟨rfl,?_,?_,?_⟩
  .show -1<=IntKind.i64.wrap (i - 1)/\IntKind.i64.wrap (i - 1)<a.length
   rw [e]; omega
  .show (IntKind.i64.wrap (i - 1)+1).toNat<(i+1).toNat
   rw [e]; omega
  .show (bif iV a b (IntKind.i64.wrap (i - 1)) then (Ex.ret,leR (r8 a b (IntKind.i64.wrap (i - 1)))) else (.exit 0,leX))=bif iV a b i then (Ex.ret,leR (r8 a b i)) else (.exit 0,leX)
   rw [e,pk h0,A0 h0,if_pos h,if_pos h]
 .obtain ⟨h0,h⟩:=rI.1 h
  have h:=jJ.1 h
  refine ⟨rfl,?_⟩
  show (bif iV a b i then (Ex.ret,leR (r8 a b i)) else (.exit 0,leX))=_
  rw [pk h0,A0 h0,if_neg h,if_neg h]; rfl
theorem QO (p q:Bool) (a b:List Int) (hs:Sm a) (hl:a.length=b.length):CodeOk (cSa false) LO (.loop saA) (saS p q a b) ⟨.tt,[⟨.b (lN a b 0),.ret,ac (saS p q a b) saR⟩,⟨.b (!lN a b 0),.exit 0,ac (saS p q a b) saX⟩]⟩:=by
 have hs:=hs.le
 refine ux (aQ (yC false) 300) (saU a b) (y0:=0) ⟨by omega,by omega⟩ ⟨_,LR p q a b,rfl⟩ (by kernel_rfl) (fun i hi=>⟨_,QL p q a b i,?_⟩) rfl
 obtain ⟨i0,i1⟩:=(show 0<=i/\i<=a.length from hi)
 refine ⟨fun h=>?_,fun h=>?_,fun h=>?_,fun h=>?_⟩
 .have h:=dt.1 h; omega
 .have h:=ndt.1 h
  have:i=a.length:=by omega
  show (bif lN a b i then (Ex.ret,saR) else (.exit 0,saX))=_
  unfold lN
  rw [show (a.length - i).toNat=0 by omega]; rfl
 .obtain ⟨h0,h⟩:=rI.1 h
  have h:=Ki.1 h
  have e:IntKind.i64.wrap (i+1)=i+1:=iw (by omega) (by omega)
  refine ⟨rfl,?_,?_,?_⟩
  .show 0<=IntKind.i64.wrap (i+1)/\IntKind.i64.wrap (i+1)<=a.length
   rw [e]; omega
  .show (a.length - IntKind.i64.wrap (i+1)).toNat<(a.length - i).toNat
   rw [e]; omega
  .show (bif lN a b (IntKind.i64.wrap (i+1)) then (Ex.ret,saR) else (.exit 0,saX))=bif lN a b i then (Ex.ret,saR) else (.exit 0,saX)
   rw [e,A3 i0 h0,if_pos h]
 .obtain ⟨h0,h⟩:=rI.1 h
  have h:=jJ.1 h
  refine ⟨rfl,?_⟩
  show (bif lN a b i then (Ex.ret,saR) else (.exit 0,saX))=_
  rw [A3 i0 h0,if_neg h]; rfl
theorem QP (p:Bool) (a:List Int) (hs:Sm a) (hd:Dig a):CodeOk (cRi false) LP (.loop riA) (riS p a) ⟨.tt,[⟨.tt,.exit 0,ac (riS p a) (riP a.length)⟩]⟩:=by
 have hs:=hs.le
 refine cY (aQ (yD false) 300) (riU a) (y0:=0) ⟨by omega,by omega⟩ ⟨_,LS p a,rfl⟩ (by kernel_rfl) (fun i hi=>⟨_,QM p a i,?_⟩) rfl
 obtain ⟨i0,i1⟩:=(show 0<=i/\i<=a.length from hi)
 have hg:=hd.get i.toNat
 refine ⟨fun h=>?_,fun h=>?_,fun h=>?_,fun h=>?_⟩
 .have h:=dt.1 h; refine ⟨by omega,by omega,fun _=>by omega⟩
 .have h:=ndt.1 h
  have:i=a.length:=by omega
  subst this; exact ⟨rfl,rfl⟩
 .obtain ⟨h0,h⟩:=rI.1 h
  have e:IntKind.i64.wrap (i+1)=i+1:=iw (by omega) (by omega)
  refine ⟨rfl,?_,?_,rfl⟩
  .show 0<=IntKind.i64.wrap (i+1)/\IntKind.i64.wrap (i+1)<=a.length
   rw [e]; omega
  .show (a.length - IntKind.i64.wrap (i+1)).toNat<(a.length - i).toNat
   rw [e]; omega
 .obtain ⟨h0,h⟩:=rI.1 h
  have h:=bo.1 h
  rcases h with h|h
  .omega
  .have:=dt.1 h; omega
noncomputable def V7 (a b:List Int):Ctx:=aw (cLe false) [oZ 83 (leS a b).hp.clock LN leA (leS a b) (iV a b (a.length - 1)) .ret (leR (r8 a b (a.length - 1))) (.exit 0) leX]
theorem QQ (a b:List Int) (hs:Sm a) (hl:a.length=b.length):CtxOk (V7 a b):=nO (yB false) (QN a b hs hl) (aq (yB false))
noncomputable def V8 (p q:Bool) (a b:List Int):Ctx:=aw (cSa false) [oZ 59 (saS p q a b).hp.clock LO saA (saS p q a b) (lN a b 0) .ret saR (.exit 0) saX]
theorem QR (p q:Bool) (a b:List Int) (hs:Sm a) (hl:a.length=b.length):CtxOk (V8 p q a b):=nO (yC false) (QO p q a b hs hl) (aq (yC false))
noncomputable def V9 (p:Bool) (a:List Int):Ctx:=aw (cRi false) [aR 84 (riS p a).hp.clock LP riA (riS p a) (.exit 0) (riP a.length)]
theorem QS (p:Bool) (a:List Int) (hs:Sm a) (hd:Dig a):CtxOk (V9 p a):=ak (yD false) (QP p a hs hd) (aq (yD false))
def LT (a b:List Int):Prop:=(((↑a.length:Int) != (↑b.length:Int))=false/\At (LN) (LN) (leA) (leA) (leS a b) (leS a b))
def QT (a b:List Int):AV:=(AV.bool true (bif !iV a b ((↑a.length:Int) - (1:Int)) then false else r8 a b ((↑a.length:Int) - (1:Int))))
def QU (a b:List Int):Hp:=⟨[{ wr:=(0:Nat),body:=ABody.rows IntKind.i64 b },{ wr:=(0:Nat),body:=ABody.rows IntKind.i64 a }],2,15⟩
theorem Zo (a b:List Int):(run (V7 a b) 300).call 83 (uU a b) (leH a b)=some ⟨.p (LT a b),[⟨.tt,QT a b,QU a b⟩]⟩:=by kernel_rfl
def LU (a b:List Int):Prop:=(((↑a.length:Int) != (↑b.length:Int))=true)
def QV (a b:List Int):AV:=(AV.bool true (decide ((↑a.length:Int)<(↑b.length:Int))))
def QW (a b:List Int):Hp:=⟨[{ wr:=(0:Nat),body:=ABody.rows IntKind.i64 b },{ wr:=(0:Nat),body:=ABody.rows IntKind.i64 a }],2,14⟩
theorem Zp (a b:List Int):(run (cLe true) 300).call 83 (uU a b) (leH a b)=some ⟨.p (LU a b),[⟨.tt,QV a b,QW a b⟩]⟩:=by kernel_rfl
def LV (p q:Bool) (a b:List Int):Prop:=((((!p==q)=true->true=false)/\((!p==q)=false->((↑a.length:Int) != (↑b.length:Int))=false))/\At (LO) (LO) (saA) (saA) (saS p q a b) (saS p q a b))
def QX (p q:Bool) (a b:List Int):AV:=(AV.bool true (bif !lN a b (0:Int) then true else false))
def QY (p q:Bool) (a b:List Int):Hp:=⟨[{ wr:=(0:Nat),body:=ABody.rows IntKind.i64 b },{ wr:=(0:Nat),body:=ABody.rows IntKind.i64 a }],2,23⟩
theorem Zq (p q:Bool) (a b:List Int):(run (V8 p q a b) 300).call 59 (qL p q a b) (leH a b)=some ⟨.p (LV p q a b),[⟨.tt,QX p q a b,QY p q a b⟩]⟩:=by kernel_rfl
def LW (p q:Bool) (a b:List Int):Prop:=(((!p==q)=true->true=true)/\((!p==q)=false->((↑a.length:Int) != (↑b.length:Int))=true))
def QZ (p q:Bool) (a b:List Int):AV:=(AV.bool false false)
def Q0 (p q:Bool) (a b:List Int):Hp:=⟨[{ wr:=(0:Nat),body:=ABody.rows IntKind.i64 b },{ wr:=(0:Nat),body:=ABody.rows IntKind.i64 a }],2,20⟩
theorem Zr (p q:Bool) (a b:List Int):(run (cSa true) 300).call 59 (qL p q a b) (leH a b)=some ⟨.p (LW p q a b),[⟨.tt,QZ p q a b,Q0 p q a b⟩]⟩:=by kernel_rfl
def Q2 (p:Bool) (a:List Int):Prop:=(((↑a.length:Int)==0)=false/\At (LP) (LP) (riA) (riA) (riS p a) (riS p a)/\(decide ((↑a.length:Int)<=600)=true->((0:Int)<=IntKind.i64.wrap ((↑a.length:Int) - (1:Int))/\IntKind.i64.wrap ((↑a.length:Int) - (1:Int))<(↑a.length:Int))/\(IntKind.i64.wrap ((↑a.length:Int) - (1:Int))).toNat<a.length/\(a.getD (IntKind.i64.wrap ((↑a.length:Int) - (1:Int))).toNat (0:Int) != (0:Int))=true)/\(decide ((↑a.length:Int)<=600)=false->false=true))
def Wa (p:Bool) (a:List Int):AV:=(AV.bool false true)
def Wb (p:Bool) (a:List Int):Hp:=⟨[{ wr:=(0:Nat),body:=ABody.rows IntKind.i64 a }],1,27⟩
theorem ab6 (p:Bool) (a:List Int):(run (V9 p a) 300).call 84 (n9 p a) (riH a)=some ⟨.p (Q2 p a),[⟨.tt,Wa p a,Wb p a⟩]⟩:=by kernel_rfl
def Q3 (p:Bool) (a:List Int):Prop:=(((↑a.length:Int)==0)=true/\(!p)=true)
def Wc (p:Bool) (a:List Int):AV:=(AV.bool false true)
def Wd (p:Bool) (a:List Int):Hp:=⟨[{ wr:=(0:Nat),body:=ABody.rows IntKind.i64 a }],1,12⟩
theorem ab7 (p:Bool) (a:List Int):(run (cRi true) 300).call 84 (n9 p a) (riH a)=some ⟨.p (Q3 p a),[⟨.tt,Wc p a,Wd p a⟩]⟩:=by kernel_rfl
def leV:List Nu->List (List Int)->Option (Prop×To)
 | [],[a,b]=>some (Sm a/\Sm b,.bo (cz a b))
 | _,_=>none
theorem Q4:NOk Tryz.prog (fun _=>none) hG0 83 (au hG0 .i64 [.li,.li] leV):=by
 refine nP (show hG0.ok from rfl) rfl (fun _ _ h=>by cases h) (fun xs ys p t e h=>?_) ⟨_,Tryz.func83,rfl⟩
 unfold leV at e
 split at e
 .rename_i a b
  cases e
  obtain ⟨ha,hb⟩:=h
  by_cases hl:a.length=b.length
  .refine ⟨V7 a b,300,uU a b,_,_,_,_,_,QQ a b ha hl,rfl,rfl,⟨rfl,rfl,trivial⟩,Zo a b,rfl,⟨?_,rfl,rfl,rfl⟩,rfl,rfl,?_⟩
   .rw [hl]; exact wm.2 rfl
   .show (bif !iV a b ((a.length:Int) - 1) then false else r8 a b ((a.length:Int) - 1))=cz a b
    unfold cz iV r8
    rw [if_pos hl,show ((a.length:Int) - 1+1).toNat=a.length by omega]
    cases e:xX a b a.length with
    | true=>rfl
    | false=>rw [Kh _ e]; rfl
  .refine ⟨cLe true,300,uU a b,_,_,_,_,_,yB true,rfl,rfl,⟨rfl,rfl,trivial⟩,Zp a b,rfl,?_,rfl,rfl,?_⟩
   .exact jJ.2 (by omega)
   .show decide ((a.length:Int)<b.length)=cz a b
    unfold cz
    rw [if_neg hl]
    simp
 .cases e
def saV:List Nu->List (List Int)->Option (Prop×To)
 | [.t p,.t q],[a,b]=>some (Sm a/\Sm b,.bo (decide (p=q/\a=b)))
 | _,_=>none
theorem Ft:NOk Tryz.prog (fun _=>none) hG0 59 (au hG0 .i64 [.st [.nu .b,.li],.st [.nu .b,.li]] saV):=by
 refine nP (show hG0.ok from rfl) rfl (fun _ _ h=>by cases h) (fun xs ys p t e h=>?_) ⟨_,Tryz.func59,rfl⟩
 unfold saV at e
 split at e
 .rename_i p q a b
  cases e
  obtain ⟨ha,hb⟩:=h
  by_cases hl:p=q/\a.length=b.length
  .obtain ⟨rfl,hl⟩:=hl
   refine ⟨V8 p p a b,300,qL p p a b,_,_,_,_,_,QR p p a b ha hl,rfl,rfl,⟨⟨rfl,rfl,trivial⟩,⟨rfl,rfl,trivial⟩,trivial⟩,Zq p p a b,rfl,⟨⟨fun h=>?_,fun _=>?_⟩,rfl,rfl,rfl⟩,rfl,rfl,?_⟩
   .simp at h
   .rw [hl]; exact wm.2 rfl
   .show (bif !lN a b 0 then true else false)=decide (p=p/\a=b)
    have:=O4 (a:=a) (b:=b) hl
    cases e:lN a b 0 with
    | true=>
     rw [e] at this
     have hne:a≠b:=fun h=>by have:=this.2 h; cases this
     simp [hne]
    | false=>simp [this.1 e]
  .refine ⟨cSa true,300,qL p q a b,_,_,_,_,_,yC true,rfl,rfl,⟨⟨rfl,rfl,trivial⟩,⟨rfl,rfl,trivial⟩,trivial⟩,Zr p q a b,rfl,⟨fun _=>rfl,fun h=>?_⟩,rfl,rfl,?_⟩
   .have h:p=q:=by simpa using h
    exact jJ.2 (fun e=>hl ⟨h,by omega⟩)
   .show false=decide (p=q/\a=b)
    symm
    rw [decide_eq_false_iff_not]
    rintro ⟨h1,rfl⟩
    exact hl ⟨h1,rfl⟩
 .cases e
def riV:List Nu->List (List Int)->Option (Prop×To)
 | [.t p],[a]=>some (okL p a/\a.length<=600,.pb true)
 | _,_=>none
theorem BG:NOk Tryz.prog (fun _=>none) hG0 84 (au hG0 .i64 [.st [.nu .b,.li]] riV):=by
 refine nP (show hG0.ok from rfl) rfl (fun _ _ h=>by cases h) (fun xs ys p t e h=>?_) ⟨_,Tryz.func84,rfl⟩
 unfold riV at e
 split at e
 .rename_i p a
  cases e
  obtain ⟨⟨hd,ht,hn,hs⟩,hl⟩:=h
  by_cases h0:a=[]
  .subst h0
   refine ⟨cRi true,300,n9 p [],_,_,_,_,_,yD true,rfl,rfl,⟨⟨rfl,rfl,trivial⟩,trivial⟩,ab7 p [],rfl,⟨eb.2 rfl,?_⟩,rfl,rfl,rfl⟩
   cases p with
   | true=>exact absurd rfl (hn rfl)
   | false=>rfl
  .have hpos:0<a.length:=List.length_pos_iff.2 h0
   refine ⟨V9 p a,300,n9 p a,_,_,_,_,_,QS p a hs hd,rfl,rfl,⟨⟨rfl,rfl,trivial⟩,trivial⟩,ab6 p a,rfl,⟨neb.2 (by omega),⟨rfl,rfl,rfl⟩,fun _=>?_,fun h=>?_⟩,rfl,rfl,rfl⟩
   .rw [iw (by omega) (by omega)]
    refine ⟨by omega,by omega,jJ.2 ?_⟩
    rw [show ((a.length:Int) - 1).toNat=a.length - 1 by omega]
    rcases ht with h|h
    .exact absurd h h0
    .exact h
   .have:=of_decide_eq_false h; omega
 .cases e
def tL1:List (FuncId×eF):=[(81,au hG0 .i64 [.nu .b,.li] mdV),(83,au hG0 .i64 [.li,.li] leV),(59,au hG0 .i64 [.st [.nu .b,.li],.st [.nu .b,.li]] saV),(84,au hG0 .i64 [.st [.nu .b,.li]] riV)]
def cL1:Ctx:=mkN Tryz.prog (fun _=>none) hG0 tL1 [] dK
theorem LX:∀ x∈tL1,NOk Tryz.prog (fun _=>none) hG0 x.1 x.2:=by
 intro x hx
 simp only [tL1,List.mem_cons,List.not_mem_nil,or_false] at hx
 rcases hx with rfl|rfl|rfl|rfl
 .exact O3
 .exact Q4
 .exact Ft
 .exact BG
theorem oc:CtxOk cL1:=fP aM (cw _) LX (fun x h=>by cases h)
def uV (n:Int):List AV:=[.int true .i64 n]
noncomputable def ofS (n:Int):St:=ib cL1 300 54 (uV n) hG0
def Hg:AFr:=⟨54,none⟩
def ofA:Code:=bJ Tryz.prog 54 0
def ofP (n:Int):Option (Int×List Int)->Patch
 | none=>⟨(0,.int true .i64 n) :: (5,.any false) :: aC 8 14,[],[]⟩
 | some (m,ds)=>⟨(0,.int true .i64 m) :: (3,.islice true 1 0 ds.length) :: (5,.any false) :: aC 8 14,[],[.ints .i64 ds]⟩
def ofX (ds:List Int):Patch:=⟨(0,.any false) :: (3,.islice true 1 0 ds.length) :: (5,.any false) :: aC 8 14,[],[.ints .i64 ds]⟩
def ofU (n:Int):SumL (Option (Int×List Int)):=
 {
  S:=ofP n
  I:=fun y=>match y with
   | none=>n≠0
   | some (m,ds)=>ofI n m ds
  μ:=fun y=>match y with
   | none=>n.natAbs+1
   | some (m,_)=>m.natAbs
  F:=fun _=>(.exit 0,ofX (aa n.natAbs))
  next:=fun y=>match y with
   | none=>some (IntKind.i64.wrap (n.tdiv 1000000000),[ofD n])
   | some (m,ds)=>some (IntKind.i64.wrap (m.tdiv 1000000000),ds++[ofD m])
  ids:=fun y=>match y with
   | none=>[2]
   | some _=>[3]
  X:=fun y _=>match y with
   | none=>some (⟨(0,.any false) :: (5,.any false) :: aC 8 14,[],[]⟩,[])
   | some (_,ds)=>some (ofX ds,[1]) }
def c7 (p q:Bool) (a b:List Int):List AV:=qL p q a b
def cSu:Ctx:=aP cL1 (eP [(12,.bool false false),(17,.bool false false),(23,.bool false false)])
theorem Dt:CtxOk cSu:=aj oc _
noncomputable def suS (p q:Bool) (a b:List Int):St:=ib cSu 300 51 (c7 p q a b) (leH a b)
def Hh:AFr:=⟨51,none⟩
def suA:Code:=bJ Tryz.prog 51 0
def suP:Option (Int×Int×List Int)->Patch
 | none=>⟨(8,.any false) :: aC 28 36,[],[]⟩
 | some (i,c,ds)=>⟨(5,.islice true 5 0 ds.length) :: (6,.int true .i64 c) :: (7,.int true .i64 i) :: (8,.any false) :: aC 28 36,[],[.ints .i64 ds]⟩
def suX (ds:List Int):Patch:=⟨(5,.islice true 5 0 ds.length) :: (6,.any false) :: (7,.any false) :: (8,.any false) :: aC 28 36,[],[.ints .i64 ds]⟩
def suN (a b:List Int):Nat:=max a.length b.length+1
def suU (a b:List Int):SumL (Option (Int×Int×List Int)):=
 {
  S:=suP
  I:=fun y=>match y with
   | none=>0<a.length
   | some (i,c,ds)=>i=ds.length/\1<=i/\i<=suN a b/\0<=c/\c<=1/\(i=suN a b->c=0)
  μ:=fun y=>match y with
   | none=>suN a b+1
   | some (i,_,_)=>(suN a b - i).toNat
  F:=fun y=>(.exit 0,suX (match y with
   | none=>dG a b (suN a b) 0 0 []
   | some (i,c,ds)=>dG a b (suN a b - i).toNat i.toNat c ds))
  next:=fun y=>match y with
   | none=>some (IntKind.i64.wrap (0+1),IntKind.i64.wrap ((suD a b 0 0).tdiv 1000000000),[(suD a b 0 0).tmod 1000000000])
   | some (i,c,ds)=>some (IntKind.i64.wrap (i+1),IntKind.i64.wrap ((suD a b i c).tdiv 1000000000),ds++[(suD a b i c).tmod 1000000000])
  ids:=fun y=>match y with
   | none=>[6]
   | some _=>[7]
  X:=fun y _=>match y with
   | none=>some (⟨(5,.any false) :: (6,.any false) :: (7,.any false) :: (8,.any false) :: aC 28 36,[],[]⟩,[])
   | some (_,_,ds)=>some (suX ds,[5]) }
def cDi:Ctx:=aP cL1 (eP [(12,.bool false false),(18,.bool false false),(24,.bool false false),(33,.bool false false)])
theorem Du:CtxOk cDi:=aj oc _
noncomputable def diS (p q:Bool) (a b:List Int):St:=ib cDi 300 58 (c7 p q a b) (leH a b)
def Hi:AFr:=⟨58,none⟩
def diA:Code:=bJ Tryz.prog 58 0
def diP:Option (Int×Int×List Int)->Patch
 | none=>⟨(8,.any false) :: aC 38 27,[],[]⟩
 | some (i,c,ds)=>⟨(5,.islice true 5 0 ds.length) :: (6,.int true .i64 c) :: (7,.int true .i64 i) :: (8,.any false) :: aC 38 27,[],[.ints .i64 ds]⟩
def diX (ds:List Int):Patch:=⟨(5,.islice true 5 0 ds.length) :: (6,.any false) :: (7,.any false) :: (8,.any false) :: aC 38 27,[],[.ints .i64 ds]⟩
def diU (a b:List Int):SumL (Option (Int×Int×List Int)):=
 {
  S:=diP
  I:=fun y=>match y with
   | none=>0<a.length
   | some (i,c,ds)=>i=ds.length/\1<=i/\i<=a.length/\0<=c/\c<=1
  μ:=fun y=>match y with
   | none=>a.length+1
   | some (i,_,_)=>(a.length - i).toNat
  F:=fun y=>(.exit 0,diX (match y with
   | none=>dL a b a.length 0 0 []
   | some (i,c,ds)=>dL a b (a.length - i).toNat i.toNat c ds))
  next:=fun y=>match y with
   | none=>some (IntKind.i64.wrap (0+1),diC a b 0 0,[diR a b 0 0])
   | some (i,c,ds)=>some (IntKind.i64.wrap (i+1),diC a b i c,ds++[diR a b i c])
  ids:=fun y=>match y with
   | none=>[6]
   | some _=>[7]
  X:=fun y _=>match y with
   | none=>some (⟨(5,.any false) :: (6,.any false) :: (7,.any false) :: (8,.any false) :: aC 38 27,[],[]⟩,[])
   | some (_,_,ds)=>some (diX ds,[5]) }
def BH (n:Int):Prop:=n=n
theorem LY (n:Int):fit (ofS n) (ofS n) (ac (ofS n) ((ofU n).S none)) ([])=some (.p (BH n)):=by kernel_rfl
def LZ (n:Int):Prop:=((!n != (0:Int))=true->(ofU n).F none=(Ex.exit (0:Nat),{ tm:=((0:Nat),AV.any false) :: ((5:Nat),AV.any false) :: aC (8:Nat) (14:Nat),old:=[],new:=[] }))/\((n != (0:Int))=true->((IntKind.i64.wrap (n.tdiv (1000000000:Int))=IntKind.i64.wrap (n.tdiv (1000000000:Int))/\(0:Nat)<1/\(↑(0:Nat):Int)=0/\(↑1:Int)=(↑[ofD n].length:Int))/\[bif decide (n.tmod (1000000000:Int)<0) then IntKind.i64.wrap ((0:Int) - n.tmod (1000000000:Int)) else n.tmod (1000000000:Int)]=[ofD n])/\(ofU n).I ((ofU n).next none)/\(ofU n).μ ((ofU n).next none)<(ofU n).μ none/\(ofU n).F ((ofU n).next none)=(ofU n).F none)
theorem Zs (n:Int):aW (ofS n) ((ofU n).way (none)) ((run cL1 300).code Hg ofA (ac (ofS n) ((ofU n).S none)))=some (.p (LZ n)):=by kernel_rfl
def L5 (n m:Int) (ds:List Int):Prop:=((m != (0:Int))=true->(0:Int)=0/\(0:Int)<(↑ds.length:Int)/\(↑ds.length:Int)=(↑ds.length:Int)/\(↑ds.length:Int)+(↑(1:Nat):Int)<=1048576)/\((!m != (0:Int))=true->(((0:Int)=0/\(↑ds.length:Int)=(↑ds.length:Int))/\ds=ds)/\(ofU n).F (some (m,ds))=(Ex.exit (0:Nat),ofX ds))/\((m != (0:Int))=true->((IntKind.i64.wrap (m.tdiv (1000000000:Int))=IntKind.i64.wrap (m.tdiv (1000000000:Int))/\(0:Int)=0/\(↑ds.length:Int)+(↑(1:Nat):Int)=(↑(ds++[ofD m]).length:Int))/\ds++[bif decide (m.tmod (1000000000:Int)<0) then IntKind.i64.wrap ((0:Int) - m.tmod (1000000000:Int)) else m.tmod (1000000000:Int)]=ds++[ofD m])/\(ofU n).I ((ofU n).next (some (m,ds)))/\(ofU n).μ ((ofU n).next (some (m,ds)))<(ofU n).μ (some (m,ds))/\(ofU n).F ((ofU n).next (some (m,ds)))=(ofU n).F (some (m,ds)))
theorem Zt (n m:Int) (ds:List Int):aW (ofS n) ((ofU n).way (some (m,ds))) ((run cL1 300).code Hg ofA (ac (ofS n) ((ofU n).S (some (m,ds)))))=some (.p (L5 n m ds)):=by kernel_rfl
theorem L6 (p q:Bool) (a b:List Int):fit (suS p q a b) (suS p q a b) (ac (suS p q a b) ((suU a b).S none)) ([])=some .tt:=by kernel_rfl
def L7 (p q:Bool) (a b:List Int):Prop:=((bif decide ((0:Int)<(↑a.length:Int)) then true else bif decide ((0:Int)<(↑b.length:Int)) then true else false)=true->(decide ((0:Int)<(↑a.length:Int))=true->((0:Int)<=0/\(0:Int)<(↑a.length:Int))/\Int.toNat (0:Int)<a.length)/\(↑b.length:Int)=(↑b.length:Int)/\(decide ((0:Int)<(↑b.length:Int))=true->((0:Int)<=0/\(0:Int)<(↑b.length:Int))/\Int.toNat (0:Int)<b.length))/\((!bif decide ((0:Int)<(↑a.length:Int)) then true else bif decide ((0:Int)<(↑b.length:Int)) then true else false)=true->(suU a b).F none=(Ex.exit (0:Nat),{ tm:=((5:Nat),AV.any false) :: ((6:Nat),AV.any false) :: ((7:Nat),AV.any false) :: ((8:Nat),AV.any false) :: aC (28:Nat) (36:Nat),old:=[],new:=[] }))/\((bif decide ((0:Int)<(↑a.length:Int)) then true else bif decide ((0:Int)<(↑b.length:Int)) then true else false)=true->((((0:Nat)<1/\(↑(0:Nat):Int)=0/\(↑1:Int)=(↑[(suD a b (0:Int) (0:Int)).tmod (1000000000:Int)].length:Int))/\IntKind.i64.wrap ((IntKind.i64.wrap (IntKind.i64.wrap ((bif decide ((0:Int)<(↑a.length:Int)) then a.getD (Int.toNat (0:Int)) (0:Int) else (0:Int))+bif decide ((0:Int)<(↑b.length:Int)) then b.getD (Int.toNat (0:Int)) (0:Int) else (0:Int))+0)).tdiv (1000000000:Int))=IntKind.i64.wrap ((suD a b (0:Int) (0:Int)).tdiv (1000000000:Int))/\Int.ofNat 1=IntKind.i64.wrap ((0:Int)+1))/\[(IntKind.i64.wrap (IntKind.i64.wrap ((bif decide ((0:Int)<(↑a.length:Int)) then a.getD (Int.toNat (0:Int)) (0:Int) else (0:Int))+bif decide ((0:Int)<(↑b.length:Int)) then b.getD (Int.toNat (0:Int)) (0:Int) else (0:Int))+0)).tmod (1000000000:Int)]=[(suD a b (0:Int) (0:Int)).tmod (1000000000:Int)])/\(suU a b).I ((suU a b).next none)/\(suU a b).μ ((suU a b).next none)<(suU a b).μ none/\(suU a b).F ((suU a b).next none)=(suU a b).F none)
theorem Zu (p q:Bool) (a b:List Int):aW (suS p q a b) ((suU a b).way (none)) ((run cSu 300).code Hh suA (ac (suS p q a b) ((suU a b).S none)))=some (.p (L7 p q a b)):=by kernel_rfl
def L8 (p q:Bool) (a b:List Int) (i c:Int) (ds:List Int):Prop:=((bif decide (i<(↑a.length:Int)) then true else bif decide (i<(↑b.length:Int)) then true else decide (c>0))=true->((decide (i<(↑a.length:Int))=true->((0:Int)<=i/\i<(↑a.length:Int))/\i.toNat<a.length)/\(↑b.length:Int)=(↑b.length:Int)/\(decide (i<(↑b.length:Int))=true->((0:Int)<=i/\i<(↑b.length:Int))/\i.toNat<b.length))/\(0:Int)=0/\(0:Int)<(↑ds.length:Int)/\(↑ds.length:Int)=(↑ds.length:Int)/\(↑ds.length:Int)+(↑(1:Nat):Int)<=1048576)/\((!bif decide (i<(↑a.length:Int)) then true else bif decide (i<(↑b.length:Int)) then true else decide (c>0))=true->(((0:Int)=0/\(↑ds.length:Int)=(↑ds.length:Int))/\ds=ds)/\(suU a b).F (some (i,c,ds))=(Ex.exit (0:Nat),suX ds))/\((bif decide (i<(↑a.length:Int)) then true else bif decide (i<(↑b.length:Int)) then true else decide (c>0))=true->((((0:Int)=0/\(↑ds.length:Int)+(↑(1:Nat):Int)=(↑(ds++[(suD a b i c).tmod (1000000000:Int)]).length:Int))/\IntKind.i64.wrap ((IntKind.i64.wrap (IntKind.i64.wrap ((bif decide (i<(↑a.length:Int)) then a.getD i.toNat (0:Int) else (0:Int))+bif decide (i<(↑b.length:Int)) then b.getD i.toNat (0:Int) else (0:Int))+c)).tdiv (1000000000:Int))=IntKind.i64.wrap ((suD a b i c).tdiv (1000000000:Int))/\IntKind.i64.wrap (i+1)=IntKind.i64.wrap (i+1))/\ds++[(IntKind.i64.wrap (IntKind.i64.wrap ((bif decide (i<(↑a.length:Int)) then a.getD i.toNat (0:Int) else (0:Int))+bif decide (i<(↑b.length:Int)) then b.getD i.toNat (0:Int) else (0:Int))+c)).tmod (1000000000:Int)]=ds++[(suD a b i c).tmod (1000000000:Int)])/\(suU a b).I ((suU a b).next (some (i,c,ds)))/\(suU a b).μ ((suU a b).next (some (i,c,ds)))<(suU a b).μ (some (i,c,ds))/\(suU a b).F ((suU a b).next (some (i,c,ds)))=(suU a b).F (some (i,c,ds)))
theorem Zw (p q:Bool) (a b:List Int) (i c:Int) (ds:List Int):aW (suS p q a b) ((suU a b).way (some (i,c,ds))) ((run cSu 300).code Hh suA (ac (suS p q a b) ((suU a b).S (some (i,c,ds)))))=some (.p (L8 p q a b i c ds)):=by kernel_rfl
theorem L9 (p q:Bool) (a b:List Int):fit (diS p q a b) (diS p q a b) (ac (diS p q a b) ((diU a b).S none)) ([])=some .tt:=by kernel_rfl
def Mb (p q:Bool) (a b:List Int):Prop:=(decide ((0:Int)<(↑a.length:Int))=true->((0:Int)<=0/\(0:Int)<(↑a.length:Int))/\Int.toNat (0:Int)<a.length/\(decide ((0:Int)<(↑b.length:Int))=true->((0:Int)<=0/\(0:Int)<(↑b.length:Int))/\Int.toNat (0:Int)<b.length)/\(Int.toNat (0:Int)<a.length/\a.getD (Int.toNat (0:Int)) (0:Int)=a.getD (Int.toNat (0:Int)) (0:Int))/\(↑a.length:Int)=(↑a.length:Int))/\((!decide ((0:Int)<(↑a.length:Int)))=true->(diU a b).F none=(Ex.exit (0:Nat),{ tm:=((5:Nat),AV.any false) :: ((6:Nat),AV.any false) :: ((7:Nat),AV.any false) :: ((8:Nat),AV.any false) :: aC (38:Nat) (27:Nat),old:=[],new:=[] }))/\(decide ((0:Int)<(↑a.length:Int))=true->((((0:Nat)<1/\(↑(0:Nat):Int)=0/\(↑1:Int)=(↑[diR a b (0:Int) (0:Int)].length:Int))/\(bif decide (IntKind.i64.wrap (IntKind.i64.wrap (a.getD (Int.toNat (0:Int)) (0:Int) - bif decide ((0:Int)<(↑b.length:Int)) then b.getD (Int.toNat (0:Int)) (0:Int) else (0:Int)) - (0:Int))<0) then (1:Int) else (0:Int))=diC a b (0:Int) (0:Int)/\Int.ofNat 1=IntKind.i64.wrap ((0:Int)+1))/\[bif decide (IntKind.i64.wrap (IntKind.i64.wrap (a.getD (Int.toNat (0:Int)) (0:Int) - bif decide ((0:Int)<(↑b.length:Int)) then b.getD (Int.toNat (0:Int)) (0:Int) else (0:Int)) - (0:Int))<0) then IntKind.i64.wrap (IntKind.i64.wrap (IntKind.i64.wrap (a.getD (Int.toNat (0:Int)) (0:Int) - bif decide ((0:Int)<(↑b.length:Int)) then b.getD (Int.toNat (0:Int)) (0:Int) else (0:Int)) - (0:Int))+1000000000) else IntKind.i64.wrap (IntKind.i64.wrap (a.getD (Int.toNat (0:Int)) (0:Int) - bif decide ((0:Int)<(↑b.length:Int)) then b.getD (Int.toNat (0:Int)) (0:Int) else (0:Int)) - (0:Int))]=[diR a b (0:Int) (0:Int)])/\(diU a b).I ((diU a b).next none)/\(diU a b).μ ((diU a b).next none)<(diU a b).μ none/\(diU a b).F ((diU a b).next none)=(diU a b).F none)
theorem Zx (p q:Bool) (a b:List Int):aW (diS p q a b) ((diU a b).way (none)) ((run cDi 300).code Hi diA (ac (diS p q a b) ((diU a b).S none)))=some (.p (Mb p q a b)):=by kernel_rfl
def Mc (p q:Bool) (a b:List Int) (i c:Int) (ds:List Int):Prop:=(decide (i<(↑a.length:Int))=true->(((0:Int)<=i/\i<(↑a.length:Int))/\i.toNat<a.length/\(decide (i<(↑b.length:Int))=true->((0:Int)<=i/\i<(↑b.length:Int))/\i.toNat<b.length)/\(i.toNat<a.length/\a.getD i.toNat (0:Int)=a.getD i.toNat (0:Int))/\(↑a.length:Int)=(↑a.length:Int))/\(0:Int)=0/\(0:Int)<(↑ds.length:Int)/\(↑ds.length:Int)=(↑ds.length:Int)/\(↑ds.length:Int)+(↑(1:Nat):Int)<=1048576)/\((!decide (i<(↑a.length:Int)))=true->(((0:Int)=0/\(↑ds.length:Int)=(↑ds.length:Int))/\ds=ds)/\(diU a b).F (some (i,c,ds))=(Ex.exit (0:Nat),diX ds))/\(decide (i<(↑a.length:Int))=true->((((0:Int)=0/\(↑ds.length:Int)+(↑(1:Nat):Int)=(↑(ds++[diR a b i c]).length:Int))/\(bif decide (IntKind.i64.wrap (IntKind.i64.wrap (a.getD i.toNat (0:Int) - bif decide (i<(↑b.length:Int)) then b.getD i.toNat (0:Int) else (0:Int)) - c)<0) then (1:Int) else (0:Int))=diC a b i c/\IntKind.i64.wrap (i+1)=IntKind.i64.wrap (i+1))/\ds++[bif decide (IntKind.i64.wrap (IntKind.i64.wrap (a.getD i.toNat (0:Int) - bif decide (i<(↑b.length:Int)) then b.getD i.toNat (0:Int) else (0:Int)) - c)<0) then IntKind.i64.wrap (IntKind.i64.wrap (IntKind.i64.wrap (a.getD i.toNat (0:Int) - bif decide (i<(↑b.length:Int)) then b.getD i.toNat (0:Int) else (0:Int)) - c)+1000000000) else IntKind.i64.wrap (IntKind.i64.wrap (a.getD i.toNat (0:Int) - bif decide (i<(↑b.length:Int)) then b.getD i.toNat (0:Int) else (0:Int)) - c)]=ds++[diR a b i c])/\(diU a b).I ((diU a b).next (some (i,c,ds)))/\(diU a b).μ ((diU a b).next (some (i,c,ds)))<(diU a b).μ (some (i,c,ds))/\(diU a b).F ((diU a b).next (some (i,c,ds)))=(diU a b).F (some (i,c,ds)))
theorem Zy (p q:Bool) (a b:List Int) (i c:Int) (ds:List Int):aW (diS p q a b) ((diU a b).way (some (i,c,ds))) ((run cDi 300).code Hi diA (ac (diS p q a b) ((diU a b).S (some (i,c,ds)))))=some (.p (Mc p q a b i c ds)):=by kernel_rfl
theorem Q5 (n:Int) (h0:n≠0) (hb:n.natAbs<=9223372036854775808):CodeOk cL1 Hg (.loop ofA) (ofS n) ⟨.tt,[⟨.tt,.exit 0,ac (ofS n) (ofX (aa n.natAbs))⟩]⟩:=by
 refine cY (aQ oc 300) (ofU n) (y0:=none) h0 ⟨_,LY n,rfl⟩ (by kernel_rfl) (fun y hy=>?_) rfl
 cases y with
 | none=>
  refine ⟨_,Zs n,fun h=>absurd (Ki.1 h) h0,fun h=>⟨⟨⟨rfl,by decide,rfl,rfl⟩,rfl⟩,?_,?_,rfl⟩⟩
  .show ofI n (IntKind.i64.wrap (n.tdiv 1000000000)) [ofD n]
   rw [(A4 n hb).1]; exact Kk h0 hb
  .show (IntKind.i64.wrap (n.tdiv 1000000000)).natAbs<n.natAbs+1
   rw [(A4 n hb).1,(A4 n hb).2]; omega
 | some y=>
  obtain ⟨m,ds⟩:=y
  have hI:ofI n m ds:=hy
  refine ⟨_,Zt n m ds,fun h=>?_,fun h=>?_,fun h=>⟨⟨⟨rfl,rfl,?_⟩,rfl⟩,?_,?_,rfl⟩⟩
  .have:=Ui (jJ.1 h) hI hb
   have:=List.length_pos_iff.2 hI.1
   exact ⟨rfl,by omega,rfl,by omega⟩
  .have h:=Ki.1 h
   subst h
   refine ⟨⟨⟨rfl,rfl⟩,rfl⟩,?_⟩
   show (Ex.exit 0,ofX (aa n.natAbs))=_
   rw [Uh hI]
  .rw [List.length_append]; rfl
  .show ofI n (IntKind.i64.wrap (m.tdiv 1000000000)) (ds++[ofD m])
   rw [(A4 m hI.2.2.2.2).1]; exact O6 (jJ.1 h) hI
  .show (IntKind.i64.wrap (m.tdiv 1000000000)).natAbs<m.natAbs
   have:=jJ.1 h
   rw [(A4 m hI.2.2.2.2).1,(A4 m hI.2.2.2.2).2]; omega
theorem Q6 (p q:Bool) (a b:List Int) (ha:Dig a) (hb:Dig b) (sa:Sm a) (sb:Sm b) (h0:0<a.length):CodeOk cSu Hh (.loop suA) (suS p q a b) ⟨.tt,[⟨.tt,.exit 0,ac (suS p q a b) (suX (dG a b (suN a b) 0 0 []))⟩]⟩:=by
 have sa:=sa.le
 have sb:=sb.le
 have hN:suN a b=max a.length b.length+1:=rfl
 refine cY (aQ Dt 300) (suU a b) (y0:=none) h0 ⟨_,L6 p q a b,trivial⟩ (by kernel_rfl) (fun y hy=>?_) rfl
 cases y with
 | none=>
  refine ⟨_,Zu p q a b,fun h=>⟨fun h=>?_,rfl,fun h=>?_⟩,fun h=>?_,fun h=>⟨⟨⟨⟨by decide,rfl,rfl⟩,rfl,rfl⟩,rfl⟩,?_,?_,?_⟩⟩
  .exact ⟨⟨by omega,dt.1 h⟩,h0⟩
  .have h:=dt.1 h; exact ⟨⟨by omega,h⟩,by show 0<b.length; omega⟩
  .exact absurd (by omega) (nbo.1 h).1
  .have e:=CS ha hb (i:=0) (c:=0) (by omega) (by omega)
   obtain ⟨s1,s2,s3,s4,s5⟩:=pi ha hb (c:=0) (by omega) (0:Int).toNat
   show IntKind.i64.wrap (0+1)=((1:Nat):Int)/\1<=IntKind.i64.wrap (0+1)/\IntKind.i64.wrap (0+1)<=suN a b/\0<=IntKind.i64.wrap ((suD a b 0 0).tdiv 1000000000)/\IntKind.i64.wrap ((suD a b 0 0).tdiv 1000000000)<=1/\(IntKind.i64.wrap (0+1)=suN a b->_=0)
   rw [e,show IntKind.i64.wrap (0+1)=1 by decide,iw (by omega) (by omega)]
   exact ⟨rfl,by omega,by omega,s3,s4,fun h=>by omega⟩
  .show (suN a b - IntKind.i64.wrap (0+1)).toNat<suN a b+1
   rw [show IntKind.i64.wrap (0+1)=1 by decide]; omega
  .have e:=CS ha hb (i:=0) (c:=0) (by omega) (by omega)
   obtain ⟨s1,s2,s3,s4,s5⟩:=pi ha hb (c:=0) (by omega) (0:Int).toNat
   show (Ex.exit 0,suX (dG a b (suN a b - IntKind.i64.wrap (0+1)).toNat (IntKind.i64.wrap (0+1)).toNat (IntKind.i64.wrap ((suD a b 0 0).tdiv 1000000000)) [(suD a b 0 0).tmod 1000000000]))=(Ex.exit 0,suX (dG a b (suN a b) 0 0 []))
   rw [e,show IntKind.i64.wrap (0+1)=1 by decide,iw (by omega) (by omega),hN,show (((max a.length b.length+1:Nat):Int) - 1).toNat=max a.length b.length by omega]
   rw [show dG a b (max a.length b.length+1) 0 0 []=dG a b (max a.length b.length) (0+1) ((a.getD 0 0+b.getD 0 0+0).tdiv 1000000000) ([]++[(a.getD 0 0+b.getD 0 0+0).tmod 1000000000]) from by rw [dG,if_pos (.inl h0)]]
   rfl
 | some y=>
  obtain ⟨i,c,ds⟩:=y
  obtain ⟨i1,i2,i3,i4,i5,i6⟩:=(show i=ds.length/\1<=i/\i<=suN a b/\0<=c/\c<=1/\(i=suN a b->c=0) from hy)
  have e:=CS ha hb (i:=i) (c:=c) (by omega) ⟨i4,i5⟩
  obtain ⟨s1,s2,s3,s4,s5⟩:=pi ha hb ⟨i4,i5⟩ i.toNat
  have e1:IntKind.i64.wrap (i+1)=i+1:=iw (by omega) (by omega)
  refine ⟨_,Zw p q a b i c ds,fun h=>⟨⟨fun h=>?_,rfl,fun h=>?_⟩,rfl,by omega,rfl,by omega⟩,fun h=>⟨⟨⟨rfl,rfl⟩,rfl⟩,?_⟩,fun h=>⟨⟨⟨⟨rfl,?_⟩,rfl,rfl⟩,rfl⟩,?_,?_,?_⟩⟩
  .have h:=dt.1 h; exact ⟨⟨by omega,h⟩,by omega⟩
  .have h:=dt.1 h; exact ⟨⟨by omega,h⟩,by omega⟩
  .obtain ⟨h1,h⟩:=nbo.1 h
   have h2:¬(i<b.length)/\decide (c>0)=false:=by
    cases h3:decide (i<(b.length:Int)) with
    | true=>rw [h3] at h; cases h
    | false=>rw [h3] at h; exact ⟨of_decide_eq_false h3,h⟩
   obtain ⟨h2,h3⟩:=h2
   have h3:=of_decide_eq_false h3
   show (Ex.exit 0,suX (dG a b (suN a b - i).toNat i.toNat c ds))=_
   cases hk:(suN a b - i).toNat with
   | zero=>rfl
   | succ k=>rw [dG,if_neg (by omega)]
  .rw [List.length_append]; rfl
  .have hlt:i<suN a b:=by
    rcases bo.1 h with h|h
    .omega
    .rcases bo.1 h with h|h
     .omega
     .have h:=dt.1 h
      rcases (show i=suN a b\/i<suN a b by omega) with h1|h1
      .have:=i6 h1; omega
      .exact h1
   show IntKind.i64.wrap (i+1)=((ds++[(suD a b i c).tmod 1000000000]).length:Int)/\1<=IntKind.i64.wrap (i+1)/\IntKind.i64.wrap (i+1)<=suN a b/\0<=IntKind.i64.wrap ((suD a b i c).tdiv 1000000000)/\IntKind.i64.wrap ((suD a b i c).tdiv 1000000000)<=1/\(IntKind.i64.wrap (i+1)=suN a b->IntKind.i64.wrap ((suD a b i c).tdiv 1000000000)=0)
   rw [e,e1,iw (by omega) (by omega),List.length_append]
   refine ⟨by rw [i1]; rfl,by omega,by omega,s3,s4,fun h1=>?_⟩
   have q1:a.getD i.toNat 0=0:=sB (by omega)
   have q2:b.getD i.toNat 0=0:=sB (by omega)
   rw [q1,q2,show (0:Int)+0+c=c by omega]
   rw [Int.tdiv_eq_ediv_of_nonneg i4]; omega
  .have hlt:i<suN a b:=by
    rcases bo.1 h with h|h
    .omega
    .rcases bo.1 h with h|h
     .omega
     .have h:=dt.1 h
      rcases (show i=suN a b\/i<suN a b by omega) with h1|h1
      .have:=i6 h1; omega
      .exact h1
   show (suN a b - IntKind.i64.wrap (i+1)).toNat<(suN a b - i).toNat
   rw [e1]; omega
  .have hlt:i<suN a b/\(i.toNat<a.length\/i.toNat<b.length\/0<c):=by
    rcases bo.1 h with h|h
    .omega
    .rcases bo.1 h with h|h
     .omega
     .have h:=dt.1 h
      rcases (show i=suN a b\/i<suN a b by omega) with h1|h1
      .have:=i6 h1; omega
      .exact ⟨h1,by omega⟩
   show (Ex.exit 0,suX (dG a b (suN a b - IntKind.i64.wrap (i+1)).toNat (IntKind.i64.wrap (i+1)).toNat (IntKind.i64.wrap ((suD a b i c).tdiv 1000000000)) (ds++[(suD a b i c).tmod 1000000000])))=(Ex.exit 0,suX (dG a b (suN a b - i).toNat i.toNat c ds))
   rw [e,e1,iw (by omega) (by omega),show (suN a b - i).toNat=(suN a b - (i+1)).toNat+1 by omega,show (i+1).toNat=i.toNat+1 by omega,dG,if_pos hlt.2]
theorem Q7 (p q:Bool) (a b:List Int) (ha:Dig a) (hb:Dig b) (sa:Sm a) (h0:0<a.length):CodeOk cDi Hi (.loop diA) (diS p q a b) ⟨.tt,[⟨.tt,.exit 0,ac (diS p q a b) (diX (dL a b a.length 0 0 []))⟩]⟩:=by
 have sa:=sa.le
 refine cY (aQ Du 300) (diU a b) (y0:=none) h0 ⟨_,L9 p q a b,trivial⟩ (by kernel_rfl) (fun y hy=>?_) rfl
 cases y with
 | none=>
  have hc:0<=diC a b 0 0/\diC a b 0 0<=1:=by unfold diC; cases decide (diD a b 0 0<0) <;> simp
  refine ⟨_,Zx p q a b,fun h=>⟨⟨by omega,dt.1 h⟩,h0,fun h=>?_,⟨h0,rfl⟩,rfl⟩,fun h=>?_,fun h=>⟨⟨⟨⟨by decide,rfl,rfl⟩,rfl,rfl⟩,rfl⟩,?_,?_,?_⟩⟩
  .have h:=dt.1 h; exact ⟨⟨by omega,h⟩,by show 0<b.length; omega⟩
  .exact absurd (by omega) (ndt.1 h)
  .show IntKind.i64.wrap (0+1)=((1:Nat):Int)/\1<=IntKind.i64.wrap (0+1)/\IntKind.i64.wrap (0+1)<=a.length/\0<=diC a b 0 0/\diC a b 0 0<=1
   rw [show IntKind.i64.wrap (0+1)=1 by decide]
   exact ⟨rfl,by omega,by omega,hc⟩
  .show (a.length - IntKind.i64.wrap (0+1)).toNat<a.length+1
   rw [show IntKind.i64.wrap (0+1)=1 by decide]; omega
  .show (Ex.exit 0,diX (dL a b (a.length - IntKind.i64.wrap (0+1)).toNat (IntKind.i64.wrap (0+1)).toNat (diC a b 0 0) [diR a b 0 0]))=(Ex.exit 0,diX (dL a b a.length 0 0 []))
   obtain ⟨k,hk⟩:∃ k,a.length=k+1:=⟨a.length - 1,by omega⟩
   rw [show IntKind.i64.wrap (0+1)=1 by decide,show ((a.length:Int) - 1).toNat=k by omega,hk,dL,Km ha hb (by omega) (by omega),Kn ha hb (by omega) (by omega)]
   rfl
 | some y=>
  obtain ⟨i,c,ds⟩:=y
  obtain ⟨i1,i2,i3,i4,i5⟩:=(show i=ds.length/\1<=i/\i<=a.length/\0<=c/\c<=1 from hy)
  have hc:0<=diC a b i c/\diC a b i c<=1:=by unfold diC; cases decide (diD a b i c<0) <;> simp
  have e1:IntKind.i64.wrap (i+1)=i+1:=iw (by omega) (by omega)
  refine ⟨_,Zy p q a b i c ds,fun h=>?_,fun h=>⟨⟨⟨rfl,rfl⟩,rfl⟩,?_⟩,fun h=>⟨⟨⟨⟨rfl,?_⟩,rfl,rfl⟩,rfl⟩,?_,?_,?_⟩⟩
  .have h:=dt.1 h
   exact ⟨⟨⟨by omega,h⟩,by omega,fun h=>by have h:=dt.1 h; omega,⟨by omega,rfl⟩,rfl⟩,rfl,by omega,rfl,by omega⟩
  .have h:=ndt.1 h
   show (Ex.exit 0,diX (dL a b (a.length - i).toNat i.toNat c ds))=_
   rw [show (a.length - i).toNat=0 by omega]; rfl
  .rw [List.length_append]; rfl
  .have h:=dt.1 h
   show IntKind.i64.wrap (i+1)=((ds++[diR a b i c]).length:Int)/\1<=IntKind.i64.wrap (i+1)/\IntKind.i64.wrap (i+1)<=a.length/\0<=diC a b i c/\diC a b i c<=1
   rw [e1,List.length_append]
   exact ⟨by rw [i1]; rfl,by omega,by omega,hc⟩
  .have h:=dt.1 h
   show (a.length - IntKind.i64.wrap (i+1)).toNat<(a.length - i).toNat
   rw [e1]; omega
  .have h:=dt.1 h
   show (Ex.exit 0,diX (dL a b (a.length - IntKind.i64.wrap (i+1)).toNat (IntKind.i64.wrap (i+1)).toNat (diC a b i c) (ds++[diR a b i c])))=(Ex.exit 0,diX (dL a b (a.length - i).toNat i.toNat c ds))
   rw [e1,show (a.length - i).toNat=(a.length - (i+1)).toNat+1 by omega,show (i+1).toNat=i.toNat+1 by omega,dL,Km ha hb (by omega) ⟨i4,i5⟩,Kn ha hb (by omega) ⟨i4,i5⟩]
noncomputable def We (n:Int):Ctx:=aw cL1 [aR 54 (ofS n).hp.clock Hg ofA (ofS n) (.exit 0) (ofX (aa n.natAbs))]
theorem Q8 (n:Int) (h0:n≠0) (hb:n.natAbs<=9223372036854775808):CtxOk (We n):=ak oc (Q5 n h0 hb) (aq oc)
def Wf:Ctx:=aP cL1 (eP [(9,.bool false false)])
theorem Q9:CtxOk Wf:=aj oc _
noncomputable def Wg (p q:Bool) (a b:List Int):Ctx:=aw cSu [aR 51 (suS p q a b).hp.clock Hh suA (suS p q a b) (.exit 0) (suX (dG a b (suN a b) 0 0 []))]
theorem Ra (p q:Bool) (a b:List Int) (ha:Dig a) (hb:Dig b) (sa:Sm a) (sb:Sm b) (h0:0<a.length):CtxOk (Wg p q a b):=ak Dt (Q6 p q a b ha hb sa sb h0) (aq Dt)
noncomputable def Wh (p q:Bool) (a b:List Int):Ctx:=aw cDi [aR 58 (diS p q a b).hp.clock Hi diA (diS p q a b) (.exit 0) (diX (dL a b a.length 0 0 []))]
theorem Rb (p q:Bool) (a b:List Int) (ha:Dig a) (hb:Dig b) (sa:Sm a) (h0:0<a.length):CtxOk (Wh p q a b):=ak Du (Q7 p q a b ha hb sa h0) (aq Du)
def Re (n:Int):Prop:=(At (Hg) (Hg) (ofA) (ofA) (ofS n) (ofS n)/\((0:Int)<=0/\(0:Int)<=(↑(aa n.natAbs).length:Int)/\(0:Int)+(↑(aa n.natAbs).length:Int)<=(↑(aa n.natAbs).length:Int))/\Dig (List.take (↑(aa n.natAbs).length:Int).toNat (List.drop (Int.toNat (0:Int)) (aa n.natAbs)))/\Sm (List.take (↑(aa n.natAbs).length:Int).toNat (List.drop (Int.toNat (0:Int)) (aa n.natAbs))))
def Wj (n:Int):AV:=(AV.agg [AV.bool true (decide (n<0)&&decide (val (List.take (↑(aa n.natAbs).length:Int).toNat (List.drop (Int.toNat (0:Int)) (aa n.natAbs)))≠0)),AV.islice true (0:Nat) (0:Int) (↑(aa (val (List.take (↑(aa n.natAbs).length:Int).toNat (List.drop (Int.toNat (0:Int)) (aa n.natAbs)))).toNat).length:Int)])
def Wk (n:Int):Hp:=⟨[{ wr:=12,body:=ABody.ints IntKind.i64 (aa (val (List.take (↑(aa n.natAbs).length:Int).toNat (List.drop (Int.toNat (0:Int)) (aa n.natAbs)))).toNat) }],1,13⟩
theorem ab8 (n:Int):(run (We n) 300).call 54 (uV n) hG0=some ⟨.p (Re n),[⟨.tt,Wj n,Wk n⟩]⟩:=by kernel_rfl
def Rf (n:Int):Prop:=((n != (0:Int))=false/\Dig []/\Sm [])
def Wl (n:Int):AV:=(AV.agg [AV.bool true (decide (n<0)&&decide (val []≠0)),AV.islice true (0:Nat) (0:Int) (↑(aa (val []).toNat).length:Int)])
def Wm (n:Int):Hp:=⟨[{ wr:=13,body:=ABody.ints IntKind.i64 (aa (val []).toNat) }],1,14⟩
theorem ab9 (n:Int):(run Wf 300).call 54 (uV n) hG0=some ⟨.p (Rf n),[⟨.tt,Wl n,Wm n⟩]⟩:=by kernel_rfl
def Rg (p:Bool) (a:List Int):Prop:=((↑a.length:Int)=(↑a.length:Int)/\Dig a/\Sm a)
def Wn (p:Bool) (a:List Int):AV:=(AV.agg [AV.bool true (!p&&decide (val a≠0)),AV.islice true 1 (0:Int) (↑(aa (val a).toNat).length:Int)])
def Wo (p:Bool) (a:List Int):Hp:=⟨[{ wr:=10,body:=ABody.ints IntKind.i64 (aa (val a).toNat) },{ wr:=(0:Nat),body:=ABody.rows IntKind.i64 a }],2,11⟩
theorem aca (p:Bool) (a:List Int):(run cL1 300).call 79 (n9 p a) (riH a)=some ⟨.p (Rg p a),[⟨.tt,Wn p a,Wo p a⟩]⟩:=by kernel_rfl
def Rh (p q:Bool) (a b:List Int):Prop:=(((↑a.length:Int)==0)=false/\((↑b.length:Int)==0)=false/\(!p==q)=false/\At (Hh) (Hh) (suA) (suA) (suS p q a b) (suS p q a b)/\((0:Int)<=0/\(0:Int)<=(↑(dG a b (suN a b) (0:Nat) (0:Int) []).length:Int)/\(0:Int)+(↑(dG a b (suN a b) (0:Nat) (0:Int) []).length:Int)<=(↑(dG a b (suN a b) (0:Nat) (0:Int) []).length:Int))/\Dig (List.take (↑(dG a b (suN a b) (0:Nat) (0:Int) []).length:Int).toNat (List.drop (Int.toNat (0:Int)) (dG a b (suN a b) (0:Nat) (0:Int) [])))/\Sm (List.take (↑(dG a b (suN a b) (0:Nat) (0:Int) []).length:Int).toNat (List.drop (Int.toNat (0:Int)) (dG a b (suN a b) (0:Nat) (0:Int) []))))
def Wp (p q:Bool) (a b:List Int):AV:=(AV.agg [AV.bool true (p&&decide (val (List.take (↑(dG a b (suN a b) (0:Nat) (0:Int) []).length:Int).toNat (List.drop (Int.toNat (0:Int)) (dG a b (suN a b) (0:Nat) (0:Int) [])))≠0)),AV.islice true 2 (0:Int) (↑(aa (val (List.take (↑(dG a b (suN a b) (0:Nat) (0:Int) []).length:Int).toNat (List.drop (Int.toNat (0:Int)) (dG a b (suN a b) (0:Nat) (0:Int) [])))).toNat).length:Int)])
def Wq (p q:Bool) (a b:List Int):Hp:=⟨[{ wr:=27,body:=ABody.ints IntKind.i64 (aa (val (List.take (↑(dG a b (suN a b) (0:Nat) (0:Int) []).length:Int).toNat (List.drop (Int.toNat (0:Int)) (dG a b (suN a b) (0:Nat) (0:Int) [])))).toNat) },{ wr:=(0:Nat),body:=ABody.rows IntKind.i64 b },{ wr:=(0:Nat),body:=ABody.rows IntKind.i64 a }],3,28⟩
theorem acb (p q:Bool) (a b:List Int):(run (Wg p q a b) 300).call 51 (c7 p q a b) (leH a b)=some ⟨.p (Rh p q a b),[⟨.tt,Wp p q a b,Wq p q a b⟩]⟩:=by kernel_rfl
def Rj (p q:Bool) (a b:List Int):Prop:=(((↑a.length:Int)==0)=false/\((↑b.length:Int)==0)=false/\(!p==q)=false/\((((↑a.length:Int)=(↑a.length:Int)/\(↑b.length:Int)=(↑b.length:Int))/\Sm a/\Sm b)/\cz a b=false)/\At (Hi) (Hi) (diA) (diA) (diS p q a b) (diS p q a b)/\((0:Int)<=0/\(0:Int)<=(↑(dL a b a.length (0:Nat) (0:Int) []).length:Int)/\(0:Int)+(↑(dL a b a.length (0:Nat) (0:Int) []).length:Int)<=(↑(dL a b a.length (0:Nat) (0:Int) []).length:Int))/\Dig (List.take (↑(dL a b a.length (0:Nat) (0:Int) []).length:Int).toNat (List.drop (Int.toNat (0:Int)) (dL a b a.length (0:Nat) (0:Int) [])))/\Sm (List.take (↑(dL a b a.length (0:Nat) (0:Int) []).length:Int).toNat (List.drop (Int.toNat (0:Int)) (dL a b a.length (0:Nat) (0:Int) []))))
def Wr (p q:Bool) (a b:List Int):AV:=(AV.agg [AV.bool true (p&&decide (val (List.take (↑(dL a b a.length (0:Nat) (0:Int) []).length:Int).toNat (List.drop (Int.toNat (0:Int)) (dL a b a.length (0:Nat) (0:Int) [])))≠0)),AV.islice true 2 (0:Int) (↑(aa (val (List.take (↑(dL a b a.length (0:Nat) (0:Int) []).length:Int).toNat (List.drop (Int.toNat (0:Int)) (dL a b a.length (0:Nat) (0:Int) [])))).toNat).length:Int)])
def Ws (p q:Bool) (a b:List Int):Hp:=⟨[{ wr:=32,body:=ABody.ints IntKind.i64 (aa (val (List.take (↑(dL a b a.length (0:Nat) (0:Int) []).length:Int).toNat (List.drop (Int.toNat (0:Int)) (dL a b a.length (0:Nat) (0:Int) [])))).toNat) },{ wr:=(0:Nat),body:=ABody.rows IntKind.i64 b },{ wr:=(0:Nat),body:=ABody.rows IntKind.i64 a }],3,33⟩
theorem acd (p q:Bool) (a b:List Int):(run (Wh p q a b) 300).call 58 (c7 p q a b) (leH a b)=some ⟨.p (Rj p q a b),[⟨.tt,Wr p q a b,Ws p q a b⟩]⟩:=by kernel_rfl
def ofV:List Nu->List (List Int)->Option (Prop×To)
 | [.n n],[]=>some (n.natAbs<=9223372036854775808,lgT false n)
 | _,_=>none
theorem Fu:NOk Tryz.prog (fun _=>none) hG0 54 (au hG0 .i64 [.nu (.i .i64)] ofV):=by
 refine nP (show hG0.ok from rfl) rfl (fun _ _ h=>by cases h) (fun xs ys p t e h=>?_) ⟨_,Tryz.func54,rfl⟩
 unfold ofV at e
 split at e
 .rename_i n
  cases e
  by_cases h0:n=0
  .subst h0
   refine ⟨Wf,300,uV 0,_,_,_,_,_,Q9,rfl,rfl,⟨⟨rfl,rfl⟩,trivial⟩,ab9 0,rfl,⟨rfl,b9,by show 0<=500000; omega⟩,rfl,rfl,⟨by decide,?_,?_⟩⟩
   .exact kK
   .show List.take _ (List.drop _ (aa (val []).toNat))=aa (0:Int).natAbs
    rw [td]; rfl
  .have hd:=ay n.natAbs
   have hv:=dn n.natAbs
   refine ⟨We n,300,uV n,_,_,_,_,_,Q8 n h0 h,rfl,rfl,⟨⟨rfl,rfl⟩,trivial⟩,ab8 n,rfl,⟨⟨rfl,rfl,rfl⟩,kK,by rw [td]; exact hd,?_⟩,rfl,rfl,⟨?_,?_,?_⟩⟩
   .rw [td]
    have:(aa n.natAbs).length<=3:=dX (by
     have:pw 3=1000000000000000000000000000:=by decide
     omega)
    show _<=500000
    omega
   .show (decide (n<0)&&decide (val (List.take _ (List.drop _ (aa n.natAbs)))≠0))=decide (n<0)
    rw [td,hv]
    exact jl (by omega) (by by_cases h:n<0 <;> simp [h] <;> omega)
   .exact kK
   .show List.take _ (List.drop _ (aa (val (List.take _ (List.drop _ (aa n.natAbs)))).toNat))=aa n.natAbs
    rw [td,td,hv]; rfl
 .cases e
def miV:List Nu->List (List Int)->Option (Prop×To)
 | [.t p],[a]=>some (okL p a,lgT false (-zv p a))
 | _,_=>none
theorem uW:NOk Tryz.prog (fun _=>none) hG0 79 (au hG0 .i64 [.st [.nu .b,.li]] miV):=by
 refine nP (show hG0.ok from rfl) rfl (fun _ _ h=>by cases h) (fun xs ys p t e h=>?_) ⟨_,Tryz.func79,rfl⟩
 unfold miV at e
 split at e
 .rename_i p a
  cases e
  have h0:=af h.1
  have hp:=h.val_pos
  refine ⟨cL1,300,n9 p a,_,_,_,_,_,oc,rfl,rfl,⟨⟨rfl,rfl,trivial⟩,trivial⟩,aca p a,rfl,⟨rfl,h.1,h.2.2.2⟩,rfl,rfl,⟨?_,?_,?_⟩⟩
  .show (!p&&decide (val a≠0))=decide (-zv p a<0)
   exact jl h0 (by cases p <;> simp [zv])
  .exact kK
  .show List.take _ (List.drop _ (aa (val a).toNat))=aa (-zv p a).natAbs
   rw [td,jm (p:=!p) h0 (z:=-zv p a) (by cases p <;> simp [zv])]
 .cases e
theorem Rk {d:List Int} {n:Nat} (h:aa n=d) (k:Nat) (hn:(n:Int)<pw k):d.length<=k:=by rw [<- h]; exact dX hn
theorem BI (a b:List Int):∀ (n i:Nat) (c:Int) (d:List Int),(dG a b n i c d).length<=d.length+n
 | 0,i,c,d=>by simp [dG]
 | n+1,i,c,d=>by
  simp only [dG]
  split
  .have:=BI a b n (i+1) ((a.getD i 0+b.getD i 0+c).tdiv 1000000000) (d++[(a.getD i 0+b.getD i 0+c).tmod 1000000000])
   simp only [List.length_append,List.length_cons,List.length_nil] at this
   omega
  .omega
theorem Md {p:Bool} {a:List Int} (h:okL p a) (hv:val a<pw 400000):a.length<=400000:=by
 have:=af h.1
 exact Rk (du h.1 h.2.1) 400000 (by omega)
theorem Rl {p:Bool} {a b:List Int} (ha:okL p a) (hb:okL p b) (na:a≠[]) (nb:b≠[]) (hlt:val a+val b<pw 400000):TE Tryz.prog (fun _=>none) hG0 51 .i64 [.st [.nu .b,.li],.st [.nu .b,.li]] [.t p,.t p] [a,b] (lgT false (zv p a+zv p b)):=by
 have la:=List.length_pos_iff.2 na
 have lb:=List.length_pos_iff.2 nb
 have va:=af ha.1
 have vb:=af hb.1
 have pa:=qx ha.1 ha.2.1 na
 obtain ⟨r1,r2⟩:=AU ha.1 hb.1 (suN a b) 0 0 [] b9 rfl (by omega) (by simp [val]) (by unfold suN; omega) (by unfold suN; omega)
 have l1:=Md ha (by omega)
 have l2:=Md hb (by omega)
 have l3:=BI a b (suN a b) 0 0 []
 simp only [List.length_nil] at l3
 have hN:suN a b=max a.length b.length+1:=rfl
 refine ⟨Wg p p a b,300,c7 p p a b,_,_,_,_,_,Ra p p a b ha.1 hb.1 ha.2.2.2 hb.2.2.2 la,rfl,rfl,⟨⟨rfl,rfl,trivial⟩,⟨rfl,rfl,trivial⟩,trivial⟩,acb p p a b,rfl,⟨neb.2 (by omega),neb.2 (by omega),by cases p <;> rfl,⟨rfl,rfl,rfl⟩,kK,by rw [td]; exact r1,?_⟩,rfl,rfl,⟨?_,?_,?_⟩⟩
 .rw [td]; show _<=500000; omega
 .show (p&&decide (val (List.take _ (List.drop _ (dG a b (suN a b) 0 0 [])))≠0))=decide (zv p a+zv p b<0)
  rw [td,r2]
  exact jl (v:=val a+val b) (by omega) (by cases p <;> simp only [zv,cond_true,cond_false] <;> omega)
 .exact kK
 .show List.take _ (List.drop _ (aa (val (List.take _ (List.drop _ (dG a b (suN a b) 0 0 [])))).toNat))=aa (zv p a+zv p b).natAbs
  rw [td,td,r2,jm (p:=p) (v:=val a+val b) (z:=zv p a+zv p b) (by omega) (by cases p <;> simp only [zv,cond_true,cond_false] <;> omega)]
def diV:List Nu->List (List Int)->Option (Prop×To)
 | [.t p,.t q],[a,b]=>some (okL p a/\okL q b/\p=q/\a≠[]/\b≠[]/\val b<=val a,lgT false (zv p a - zv q b))
 | _,_=>none
theorem BJ (a b:List Int):∀ (n i:Nat) (c:Int) (d:List Int),(dL a b n i c d).length=d.length+n
 | 0,i,c,d=>by simp [dL]
 | n+1,i,c,d=>by
  simp only [dL]
  rw [BJ a b n (i+1)]
  simp only [List.length_append,List.length_cons,List.length_nil]
  omega
theorem Te {p:Bool} {a b:List Int} (ha:okL p a) (hb:okL p b) (na:a≠[]) (nb:b≠[]) (hle:val b<=val a):TE Tryz.prog (fun _=>none) hG0 58 .i64 [.st [.nu .b,.li],.st [.nu .b,.li]] [.t p,.t p] [a,b] (lgT false (zv p a - zv p b)):=by
 have la:=List.length_pos_iff.2 na
 have lb:=List.length_pos_iff.2 nb
 have va:=af ha.1
 have vb:=af hb.1
 have hnl:cz a b=false:=by
  cases e:cz a b with
  | false=>rfl
  | true=>have:=(gC ha.1 hb.1 ha.2.1 hb.2.1).1 e; omega
 have hl:b.length<=a.length:=by
  rcases Nat.lt_or_ge a.length b.length with h|h
  .have:=kB ha.1 hb.1 hb.2.1 h; omega
  .exact h
 obtain ⟨r1,r2⟩:=OW ha.1 hb.1 hle hl
 have l3:=BJ a b a.length 0 0 []
 have sa:=ha.2.2.2.le
 refine ⟨Wh p p a b,300,c7 p p a b,_,_,_,_,_,Rb p p a b ha.1 hb.1 ha.2.2.2 la,rfl,rfl,⟨⟨rfl,rfl,trivial⟩,⟨rfl,rfl,trivial⟩,trivial⟩,acd p p a b,rfl,⟨neb.2 (by omega),neb.2 (by omega),by cases p <;> rfl,⟨⟨⟨rfl,rfl⟩,ha.2.2.2,hb.2.2.2⟩,hnl⟩,⟨rfl,rfl,rfl⟩,kK,by rw [td]; exact r1,?_⟩,rfl,rfl,⟨?_,?_,?_⟩⟩
 .rw [td]; show _<=500000; rw [l3]; simp only [List.length_nil]; omega
 .show (p&&decide (val (List.take _ (List.drop _ (dL a b a.length 0 0 [])))≠0))=decide (zv p a - zv p b<0)
  rw [td,r2]
  exact jl (v:=val a - val b) (by omega) (by cases p <;> simp only [zv,cond_true,cond_false] <;> omega)
 .exact kK
 .show List.take _ (List.drop _ (aa (val (List.take _ (List.drop _ (dL a b a.length 0 0 [])))).toNat))=aa (zv p a - zv p b).natAbs
  rw [td,td,r2,jm (p:=p) (v:=val a - val b) (z:=zv p a - zv p b) (by omega) (by cases p <;> simp only [zv,cond_true,cond_false] <;> omega)]
theorem Me:NOk Tryz.prog (fun _=>none) hG0 58 (au hG0 .i64 [.st [.nu .b,.li],.st [.nu .b,.li]] diV):=by
 refine bg (fun xs ys p t e h=>?_) ⟨_,Tryz.func58,rfl⟩
 unfold diV at e
 split at e
 .cases e
  obtain ⟨ha,hb,rfl,na,nb,hle⟩:=h
  exact Te ha hb na nb hle
 .cases e
def tL2:List (FuncId×eF):=
 (54,au hG0 .i64 [.nu (.i .i64)] ofV) ::
 (79,au hG0 .i64 [.st [.nu .b,.li]] miV) ::
 tL1
theorem Dv:∀ x∈tL2,NOk Tryz.prog (fun _=>none) hG0 x.1 x.2:=by
 intro x hx
 rcases List.mem_cons.1 hx with rfl|hx
 .exact Fu
 rcases List.mem_cons.1 hx with rfl|hx
 .exact uW
 exact LX x hx
def tD1:List (FuncId×eF):=(58,au hG0 .i64 [.st [.nu .b,.li],.st [.nu .b,.li]] diV) :: tL2
theorem Wt:∀ x∈tD1,NOk Tryz.prog (fun _=>none) hG0 x.1 x.2:=by
 intro x hx
 rcases List.mem_cons.1 hx with rfl|hx
 .exact Me
 .exact Dv x hx
def cDl:Ctx:=aP (mkN Tryz.prog (fun _=>none) hG0 tD1 [] dK) (eP [(12,.bool false false),(18,.bool false false),(24,.bool false false),(33,.bool false true)])
theorem Wu:CtxOk cDl:=aj (fP aM (cw _) Wt (fun x h=>by cases h)) _
def cL2:Ctx:=mkN Tryz.prog (fun _=>none) hG0 tL2 [] dK
theorem fo:CtxOk cL2:=fP aM (cw _) Dv (fun x h=>by cases h)
def Rm (p q:Bool) (a b:List Int):Prop:=(((↑a.length:Int)==0)=false/\((↑b.length:Int)==0)=false/\(!p==q)=false/\((((↑a.length:Int)=(↑a.length:Int)/\(↑b.length:Int)=(↑b.length:Int))/\Sm a/\Sm b)/\cz a b=true)/\(((↑b.length:Int)=(↑b.length:Int)/\(↑a.length:Int)=(↑a.length:Int))/\okL q b/\okL p a/\q=p/\b≠[]/\a≠[]/\val a<=val b)/\(↑(aa (zv q b - zv p a).natAbs).length:Int)=(↑(aa (zv q b - zv p a).natAbs).length:Int)/\okL (decide (zv q b - zv p a<0)) (aa (zv q b - zv p a).natAbs))
def Wv (p q:Bool) (a b:List Int):AV:=(AV.agg [AV.bool true (decide (-zv (decide (zv q b - zv p a<0)) (aa (zv q b - zv p a).natAbs)<0)),AV.lslice 2 (↑(aa (-zv (decide (zv q b - zv p a<0)) (aa (zv q b - zv p a).natAbs)).natAbs).length:Int)])
def Ww (p q:Bool) (a b:List Int):Hp:=⟨[{ wr:=27,body:=ABody.rows IntKind.i64 (aa (-zv (decide (zv q b - zv p a<0)) (aa (zv q b - zv p a).natAbs)).natAbs) },{ wr:=(0:Nat),body:=ABody.rows IntKind.i64 b },{ wr:=(0:Nat),body:=ABody.rows IntKind.i64 a }],3,28⟩
theorem ace (p q:Bool) (a b:List Int):(run cDl 300).call 58 (c7 p q a b) (leH a b)=some ⟨.p (Rm p q a b),[⟨.tt,Wv p q a b,Ww p q a b⟩]⟩:=by kernel_rfl
def Rn (p q:Bool) (a b:List Int):Prop:=((((↑a.length:Int)=(↑a.length:Int)/\(↑b.length:Int)=(↑b.length:Int))/\Sm a/\Sm b)/\((!decide (p=q/\a=b))=true->(p==q)=true->(((↑a.length:Int)=(↑a.length:Int)/\(↑b.length:Int)=(↑b.length:Int))/\Sm a/\Sm b)/\p=p))
def Wx (p q:Bool) (a b:List Int):AV:=(AV.int true IntKind.i64 (bif decide (p=q/\a=b) then (0:Int) else bif bif p==q then !cz a b==p else p then (-1:Int) else (1:Int)))
def Wy (p q:Bool) (a b:List Int):Hp:=⟨[{ wr:=(0:Nat),body:=ABody.rows IntKind.i64 b },{ wr:=(0:Nat),body:=ABody.rows IntKind.i64 a }],2,30⟩
theorem acf (p q:Bool) (a b:List Int):(run cL2 300).call 85 (c7 p q a b) (leH a b)=some ⟨.p (Rn p q a b),[⟨.tt,Wx p q a b,Wy p q a b⟩]⟩:=by kernel_rfl
def dfV:List Nu->List (List Int)->Option (Prop×To)
 | [.t p,.t q],[a,b]=>some (okL p a/\okL q b/\p=q/\a≠[]/\b≠[],lgT false (zv p a - zv q b))
 | _,_=>none
theorem Mf {p:Bool} {a:List Int} (h:okL p a):val a<pw 500000:=by
 have h1:=bc h.1
 have h2:=bN h.2.2.2.le
 omega
theorem uX:NOk Tryz.prog (fun _=>none) hG0 58 (au hG0 .i64 [.st [.nu .b,.li],.st [.nu .b,.li]] dfV):=by
 refine bg (fun xs ys p t e h=>?_) ⟨_,Tryz.func58,rfl⟩
 unfold dfV at e
 split at e
 .rename_i p q a b
  cases e
  obtain ⟨ha,hb,rfl,na,nb⟩:=h
  by_cases hle:val b<=val a
  .exact Te ha hb na nb hle
  .have hl:cz a b=true:=(gC ha.1 hb.1 ha.2.1 hb.2.1).2 (by omega)
   have la:=List.length_pos_iff.2 na
   have lb:=List.length_pos_iff.2 nb
   have va:=af ha.1
   have vb:=Mf hb
   have hz:(zv p b - zv p a).natAbs=(val b - val a).toNat:=(jm (p:=p) (v:=val b - val a) (by omega) (by cases p <;> simp only [zv,cond_true,cond_false] <;> omega)).symm
   have ok:=lO (z:=zv p b - zv p a) (by rw [hz]; omega)
   have e:-(zv p b - zv p a)=zv p a - zv p b:=by omega
   refine ⟨cDl,300,c7 p p a b,_,_,_,_,_,Wu,rfl,rfl,⟨⟨rfl,rfl,trivial⟩,⟨rfl,rfl,trivial⟩,trivial⟩,ace p p a b,rfl,⟨neb.2 (by omega),neb.2 (by omega),by cases p <;> rfl,⟨⟨⟨rfl,rfl⟩,ha.2.2.2,hb.2.2.2⟩,hl⟩,⟨⟨rfl,rfl⟩,hb,ha,rfl,nb,na,by omega⟩,rfl,ok⟩,rfl,rfl,⟨?_,?_,?_⟩⟩
   .show decide (-zv (decide (zv p b - zv p a<0)) (aa (zv p b - zv p a).natAbs)<0)=_
    rw [gI,e]
   .rfl
   .show aa (-zv (decide (zv p b - zv p a<0)) (aa (zv p b - zv p a).natAbs)).natAbs=_
    rw [gI,e]
 .cases e
def mR (x y:Int):Int:=if x=y then 0 else if x<y then -1 else 1
def orV:List Nu->List (List Int)->Option (Prop×To)
 | [.t p,.t q],[a,b]=>some (okL p a/\okL q b,.nu .i64 (mR (zv p a) (zv q b)))
 | _,_=>none
theorem Zz {p q:Bool} {a b:List Int} (ha:okL p a) (hb:okL q b):(bif decide (p=q/\a=b) then (0:Int) else bif bif p==q then !cz a b==p else p then (-1:Int) else (1:Int))=mR (zv p a) (zv q b):=by
 have hl:=gC ha.1 hb.1 ha.2.1 hb.2.1
 have h0:=af ha.1
 have h1:=af hb.1
 unfold mR
 by_cases h:p=q/\a=b
 .obtain ⟨rfl,rfl⟩:=h
  rw [decide_eq_true ⟨rfl,rfl⟩,if_pos rfl]; rfl
 .rw [decide_eq_false h,cond_false]
  have hne:zv p a≠zv q b:=by
   intro e
   have e1:p=q:=by rw [ha.neg_eq,hb.neg_eq,e]
   exact h ⟨e1,by rw [<- ha.digs_eq,<- hb.digs_eq,e]⟩
  rw [if_neg hne]
  have et:∀ d,zv true d=-val d:=fun d=>rfl
  have ef:∀ d,zv false d=val d:=fun d=>rfl
  have hn:cz a b=false->¬ val a<val b:=fun e h=>by rw [hl.2 h] at e; cases e
  cases p <;> cases q
  .have q1:=ef a
   have q2:=ef b
   cases e:cz a b with
   | true=>have:=hl.1 e; rw [if_pos (by omega)]; rfl
   | false=>have:=hn e; rw [if_neg (by omega)]; rfl
  .have:=hb.val_pos rfl
   have q1:=ef a
   have q2:=et b
   rw [if_neg (by omega)]; rfl
  .have:=ha.val_pos rfl
   have q1:=et a
   have q2:=ef b
   rw [if_pos (by omega)]; rfl
  .have q1:=et a
   have q2:=et b
   cases e:cz a b with
   | true=>have:=hl.1 e; rw [if_neg (by omega)]; rfl
   | false=>have:=hn e; rw [if_pos (by omega)]; rfl
theorem BK:NOk Tryz.prog (fun _=>none) hG0 85 (au hG0 .i64 [.st [.nu .b,.li],.st [.nu .b,.li]] orV):=by
 refine bg (fun xs ys p t e h=>?_) ⟨_,Tryz.func85,rfl⟩
 unfold orV at e
 split at e
 .rename_i p q a b
  cases e
  obtain ⟨ha,hb⟩:=h
  exact ⟨cL2,300,c7 p q a b,_,_,_,_,_,fo,rfl,rfl,⟨⟨rfl,rfl,trivial⟩,⟨rfl,rfl,trivial⟩,trivial⟩,acf p q a b,rfl,⟨⟨⟨rfl,rfl⟩,ha.2.2.2,hb.2.2.2⟩,fun _ _=>⟨⟨⟨rfl,rfl⟩,ha.2.2.2,hb.2.2.2⟩,rfl⟩⟩,rfl,rfl,Zz ha hb⟩
 .cases e
def tL3:List (FuncId×eF):=
 (58,au hG0 .i64 [.st [.nu .b,.li],.st [.nu .b,.li]] dfV) ::
 (85,au hG0 .i64 [.st [.nu .b,.li],.st [.nu .b,.li]] orV) ::
 tL2
theorem Wz:∀ x∈tL3,NOk Tryz.prog (fun _=>none) hG0 x.1 x.2:=by
 intro x hx
 rcases List.mem_cons.1 hx with rfl|hx
 .exact uX
 rcases List.mem_cons.1 hx with rfl|hx
 .exact BK
 exact Dv x hx
def cSd:Ctx:=aP (mkN Tryz.prog (fun _=>none) hG0 tL3 [] dK) (eP [(12,.bool false false),(17,.bool false false),(23,.bool false true)])
theorem WA:CtxOk cSd:=aj (fP aM (cw _) Wz (fun x h=>by cases h)) _
def Ro (p q:Bool) (a b:List Int):Prop:=(((↑a.length:Int)==0)=false/\((↑b.length:Int)==0)=false/\(!p==q)=true/\((↑b.length:Int)=(↑b.length:Int)/\okL q b)/\(p=p/\(↑a.length:Int)=(↑a.length:Int))/\((↑a.length:Int)=(↑a.length:Int)/\(↑(aa (-zv q b).natAbs).length:Int)=(↑(aa (-zv q b).natAbs).length:Int))/\okL p a/\okL (decide (-zv q b<0)) (aa (-zv q b).natAbs)/\p=decide (-zv q b<0)/\a≠[]/\aa (-zv q b).natAbs≠[])
def WB (p q:Bool) (a b:List Int):AV:=(AV.agg [AV.bool true (decide (zv p a - zv (decide (-zv q b<0)) (aa (-zv q b).natAbs)<0)),AV.lslice 2 (↑(aa (zv p a - zv (decide (-zv q b<0)) (aa (-zv q b).natAbs)).natAbs).length:Int)])
def WC (p q:Bool) (a b:List Int):Hp:=⟨[{ wr:=22,body:=ABody.rows IntKind.i64 (aa (zv p a - zv (decide (-zv q b<0)) (aa (-zv q b).natAbs)).natAbs) },{ wr:=(0:Nat),body:=ABody.rows IntKind.i64 b },{ wr:=(0:Nat),body:=ABody.rows IntKind.i64 a }],3,23⟩
theorem acg (p q:Bool) (a b:List Int):(run cSd 300).call 51 (c7 p q a b) (leH a b)=some ⟨.p (Ro p q a b),[⟨.tt,WB p q a b,WC p q a b⟩]⟩:=by kernel_rfl
def Rp:List Nu->List (List Int)->Option (Prop×To)
 | [.t p,.t q],[a,b]=>some (okL p a/\okL q b/\a≠[]/\b≠[]/\val a+val b<pw 400000,lgT false (zv p a+zv q b))
 | _,_=>none
theorem sum_ok:NOk Tryz.prog (fun _=>none) hG0 51 (au hG0 .i64 [.st [.nu .b,.li],.st [.nu .b,.li]] Rp):=by
 refine bg (fun xs ys p t e h=>?_) ⟨_,Tryz.func51,rfl⟩
 unfold Rp at e
 split at e
 .rename_i p q a b
  cases e
  obtain ⟨ha,hb,na,nb,hlt⟩:=h
  by_cases hpq:p=q
  .subst hpq
   exact Rl ha hb na nb hlt
  .have la:=List.length_pos_iff.2 na
   have lb:=List.length_pos_iff.2 nb
   have vb:=qx hb.1 hb.2.1 nb
   have v0:=af hb.1
   have e:zv p a - -zv q b=zv p a+zv q b:=by omega
   have hz:(-zv q b).natAbs=(val b).toNat:=(jm (p:=!q) (v:=val b) v0 (by cases q <;> simp [zv])).symm
   have ok:=lO (z:=-zv q b) (by rw [hz]; have:=Mf hb; omega)
   have hs:p=decide (-zv q b<0):=by
    rw [<- jl (p:=!q) (v:=val b) v0 (by cases q <;> simp [zv])]
    rw [decide_eq_true vb]
    cases p <;> cases q <;> first|rfl|exact absurd rfl hpq
   refine ⟨cSd,300,c7 p q a b,_,_,_,_,_,WA,rfl,rfl,⟨⟨rfl,rfl,trivial⟩,⟨rfl,rfl,trivial⟩,trivial⟩,acg p q a b,rfl,⟨neb.2 (by omega),neb.2 (by omega),by cases p <;> cases q <;> first|rfl|exact absurd rfl hpq,⟨rfl,hb⟩,⟨rfl,rfl⟩,⟨rfl,rfl⟩,ha,ok,hs,na,fun h=>by have:=uE.1 h; omega⟩,rfl,rfl,⟨?_,?_,?_⟩⟩
   .show decide (zv p a - zv (decide (-zv q b<0)) (aa (-zv q b).natAbs)<0)=_
    rw [gI,e]
   .rfl
   .show aa (zv p a - zv (decide (-zv q b<0)) (aa (-zv q b).natAbs)).natAbs=_
    rw [gI,e]
 .cases e
def kD:AFr:=⟨52,none⟩
def Dw:Code:=bJ Tryz.prog 52 0
def Dx:Code:=bJ Tryz.prog 52 1
def Mg:Code:=bJ Tryz.prog 52 2
noncomputable def poS (p q:Bool) (a b:List Int):St:=ib cL2 300 52 (c7 p q a b) (leH a b)
def poP (a b:List Int) (i:Int):Patch:=⟨(6,.int true .i64 i) :: (7,.any false) :: (8,.any false) :: (9,.any false) :: aC 18 45,[(5,.ints .i64 (prL a b i 0))],[]⟩
def poU (a b:List Int):SumL Int:=
 {
  S:=poP a b
  I:=fun i=>0<=i/\i<=a.length
  μ:=fun i=>(a.length - i).toNat
  F:=fun _=>(.exit 0,poP a b a.length)
  next:=fun i=>IntKind.i64.wrap (i+1)
  ids:=fun _=>[]
  X:=fun i _=>some (poP a b i,[]) }
noncomputable def pmS (p q:Bool) (a b:List Int) (i:Int):St:=N5 cL2 300 kD Dw (ac (poS p q a b) (poP a b i))
def pmP (a b:List Int) (i k:Int):Patch:=⟨(7,.int true .i64 k) :: (8,.any false) :: (9,.any false) :: aC 25 38,[(5,.ints .i64 (prL a b i k))],[]⟩
def pmU (a b:List Int) (i:Int):SumL Int:=
 {
  S:=pmP a b i
  I:=fun k=>0<=k/\k<=b.length
  μ:=fun k=>(b.length - k).toNat
  F:=fun _=>(.exit 2,pmP a b i b.length)
  next:=fun k=>IntKind.i64.wrap (k+1)
  ids:=fun _=>[]
  X:=fun k _=>some (pmP a b i k,[]) }
noncomputable def piS (p q:Bool) (a b:List Int) (i k:Int):St:=N5 cL2 300 kD Dx (ac (pmS p q a b i) (pmP a b i k))
def piP (j n:Int) (d:List Int):Patch:=⟨(8,.int true .i64 n) :: (9,.int true .i64 j) :: aC 46 17,[(5,.ints .i64 d)],[]⟩
def piX (d:List Int):Patch:=⟨(8,.any false) :: (9,.any false) :: aC 46 17,[(5,.ints .i64 d)],[]⟩
def piU (a b:List Int) (i k:Int):SumL (Int×Int×List Int):=
 {
  S:=fun (j,n,d)=>piP j n d
  I:=fun (j,n,d)=>prI a b i k j n d
  μ:=fun (j,_,_)=>(a.length+b.length - j).toNat
  F:=fun _=>(.exit 4,piX (prL a b i (k+1)))
  next:=fun (j,n,d)=>(IntKind.i64.wrap (j+1),IntKind.i64.wrap ((IntKind.i64.wrap (n+d.getD j.toNat 0)).tdiv 1000000000),d.set j.toNat ((IntKind.i64.wrap (n+d.getD j.toNat 0)).tmod 1000000000))
  ids:=fun _=>[]
  X:=fun (_,_,d) _=>some (piX d,[]) }
noncomputable def cPi (p q:Bool) (a b:List Int) (i k:Int):Ctx:=aw cL2 [aR 52 (piS p q a b i k).hp.clock kD Mg (piS p q a b i k) (.exit 4) (piX (prL a b i (k+1)))]
noncomputable def cPm (p q:Bool) (a b:List Int) (i:Int):Ctx:=aw cL2 [aR 52 (pmS p q a b i).hp.clock kD Dx (pmS p q a b i) (.exit 2) (pmP a b i b.length)]
noncomputable def cPo (p q:Bool) (a b:List Int):Ctx:=aw cL2 [aR 52 (poS p q a b).hp.clock kD Dw (poS p q a b) (.exit 0) (poP a b a.length)]
end
end Go.Proofs.YtmnhhlnbfkfkaaaGreat.K
