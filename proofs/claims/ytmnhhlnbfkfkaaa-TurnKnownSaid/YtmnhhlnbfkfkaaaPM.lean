/- What is proved: TurnKnown returns true, whatever the input (part 13). No conditions beyond those of the row. -/
import Derived.Test.YtmnhhlnbfkfkaaaPH
import Derived.Test.YtmnhhlnbfkfkaaaPJ
import Derived.Test.YtmnhhlnbfkfkaaaPK
import Derived.Test.YtmnhhlnbfkfkaaaPL
set_option linter.unusedVariables false
set_option linter.unusedSimpArgs false
set_option linter.unusedSectionVars false
namespace Go.Ln
open Go.Sn
theorem la_i0:Scal (la_e*((0*65536:Nat):Rat)) 0 1461501637330902918203684832716283019655932542976 0:=by
 rw [show ((0*65536:Nat):Rat)=0 by decide +kernel,Rat.mul_zero]
 exact ⟨⟨by decide +kernel,by decide +kernel⟩,⟨by decide +kernel,by decide +kernel⟩⟩
theorem la_r0:(∀ i,i<300->BlockOk la_e 0 0 (0+i))/\(false=true->BlockOk la_e 0 0 (0+300))/\(false=false->Scal (la_e*(((0+300)*65536:Nat):Rat)) 491723767112793555795498612041774758507992057067 1376297487019907789050452753447037442090982847263 133958303):=
 chunk_ok la_p.1 la_p.2 la_0 (xb:=0) (xj:=0) (b:=0) (n:=300) (by decide) (by decide +kernel) la_i0 la_k0
theorem la_i1:Scal (la_e*((300*65536:Nat):Rat)) 491723767112793555795498612041774758507992057067 1376297487019907789050452753447037442090982847263 133958303:=la_r0.2.2 rfl
theorem la_r1:(∀ i,i<157->BlockOk la_e 1099511627776 0 (300+i))/\(false=true->BlockOk la_e 1099511627776 0 (300+157))/\(false=false->Scal (la_e*(((300+157)*65536:Nat):Rat)) 729644950198729587218318087119915998754557351695 1266335375234540110609189336721958329832559696295 234910995):=
 chunk_ok la_p.1 la_p.2 la_0 (xb:=1099511627776) (xj:=0) (b:=300) (n:=157) (by decide) (by decide +kernel) la_i1 la_k1
theorem la_i2:Scal (la_e*((457*65536:Nat):Rat)) 729644950198729587218318087119915998754557351695 1266335375234540110609189336721958329832559696295 234910995:=la_r1.2.2 rfl
theorem la_r2:(∀ i,i<1->BlockOk la_e 457 50048 (457+i))/\(false=true->BlockOk la_e 457 50048 (457+1))/\(false=false->Scal (la_e*(((457+1)*65536:Nat):Rat)) 731092931013171720070226495733466350965335483406 1265499965287822447093903958231062750521594118680 235627513):=
 chunk_ok la_p.1 la_p.2 la_0 (xb:=457) (xj:=50048) (b:=457) (n:=1) (by decide) (by decide +kernel) la_i2 la_k2
theorem la_i3:Scal (la_e*((458*65536:Nat):Rat)) 731092931013171720070226495733466350965335483406 1265499965287822447093903958231062750521594118680 235627513:=la_r2.2.2 rfl
theorem la_r3:(∀ i,i<300->BlockOk la_e 1099511627776 0 (458+i))/\(false=true->BlockOk la_e 1099511627776 0 (458+300))/\(false=false->Scal (la_e*(((458+300)*65536:Nat):Rat)) 1114249708893877961256421979335504232843459056456 945745537737724831270633298625650855402991968426 496215464):=
 chunk_ok la_p.1 la_p.2 la_0 (xb:=1099511627776) (xj:=0) (b:=458) (n:=300) (by decide) (by decide +kernel) la_i3 la_k3
theorem la_i4:Scal (la_e*((758*65536:Nat):Rat)) 1114249708893877961256421979335504232843459056456 945745537737724831270633298625650855402991968426 496215464:=la_r3.2.2 rfl
theorem la_r4:(∀ i,i<300->BlockOk la_e 1099511627776 0 (758+i))/\(false=true->BlockOk la_e 1099511627776 0 (758+300))/\(false=false->Scal (la_e*(((758+300)*65536:Nat):Rat)) 1367487098036901671079540867482308849593552803733 515718986099526260404082505738404267698583895357 859324643):=
 chunk_ok la_p.1 la_p.2 la_0 (xb:=1099511627776) (xj:=0) (b:=758) (n:=300) (by decide) (by decide +kernel) la_i4 la_k4
theorem la_i5:Scal (la_e*((1058*65536:Nat):Rat)) 1367487098036901671079540867482308849593552803733 515718986099526260404082505738404267698583895357 859324643:=la_r4.2.2 rfl
theorem la_r5:(∀ i,i<300->BlockOk la_e 1099511627776 0 (1058+i))/\(false=true->BlockOk la_e 1099511627776 0 (1058+300))/\(false=false->Scal (la_e*(((1058+300)*65536:Nat):Rat)) 1461278102347580420390992143793243405547439853059 25560585289941313696877371623118747667185928943 1348183688):=
 chunk_ok la_p.1 la_p.2 la_0 (xb:=1099511627776) (xj:=0) (b:=1058) (n:=300) (by decide) (by decide +kernel) la_i5 la_k5
theorem la_i6:Scal (la_e*((1358*65536:Nat):Rat)) 1461278102347580420390992143793243405547439853059 25560585289941313696877371623118747667185928943 1348183688:=la_r5.2.2 rfl
theorem la_r6:(∀ i,i<15->BlockOk la_e 1099511627776 0 (1358+i))/\(false=true->BlockOk la_e 1099511627776 0 (1358+15))/\(false=false->Scal (la_e*(((1358+15)*65536:Nat):Rat)) 1461501556362323844055996107259669251754042917643 486488864438371563241217903659373086848347437 1376494256):=
 chunk_ok la_p.1 la_p.2 la_0 (xb:=1099511627776) (xj:=0) (b:=1358) (n:=15) (by decide) (by decide +kernel) la_i6 la_k6
theorem la_i7:Scal (la_e*((1373*65536:Nat):Rat)) 1461501556362323844055996107259669251754042917643 486488864438371563241217903659373086848347437 1376494256:=la_r6.2.2 rfl
theorem la_r7:(∀ i,i<0->BlockOk la_e 1373 19072 (1373+i))/\(true=true->BlockOk la_e 1373 19072 (1373+0))/\(true=false->Scal (la_e*(((1373+0)*65536:Nat):Rat)) 0 0 0):=
 chunk_ok la_p.1 la_p.2 la_0 (xb:=1373) (xj:=19072) (b:=1373) (n:=0) (by decide) (by decide +kernel) la_i7 la_k7
theorem la_far {u:Nat} (h0:0<u) (h1:u<90000000) (h2:u≠30000000):∃ k:Int,FarE (la_e*(u:Rat)) k:=by
 have key:∀ b j,b=u / 65536->j=u % 65536->∃ xb xj,BlockOk la_e xb xj b/\¬(b=xb/\j=xj):=by
  intro b j hb hj
  rcases Nat.lt_or_ge b 300 with g|g
  .refine ⟨0,0,?_,by omega⟩
   have:=la_r0.1 (b - 0) (by omega)
   rwa [show 0+(b - 0)=b by omega] at this
  rcases Nat.lt_or_ge b 457 with g|g
  .refine ⟨1099511627776,0,?_,by omega⟩
   have:=la_r1.1 (b - 300) (by omega)
   rwa [show 300+(b - 300)=b by omega] at this
  rcases Nat.lt_or_ge b 458 with g|g
  .refine ⟨457,50048,?_,by omega⟩
   have:=la_r2.1 (b - 457) (by omega)
   rwa [show 457+(b - 457)=b by omega] at this
  rcases Nat.lt_or_ge b 758 with g|g
  .refine ⟨1099511627776,0,?_,by omega⟩
   have:=la_r3.1 (b - 458) (by omega)
   rwa [show 458+(b - 458)=b by omega] at this
  rcases Nat.lt_or_ge b 1058 with g|g
  .refine ⟨1099511627776,0,?_,by omega⟩
   have:=la_r4.1 (b - 758) (by omega)
   rwa [show 758+(b - 758)=b by omega] at this
  rcases Nat.lt_or_ge b 1358 with g|g
  .refine ⟨1099511627776,0,?_,by omega⟩
   have:=la_r5.1 (b - 1058) (by omega)
   rwa [show 1058+(b - 1058)=b by omega] at this
  rcases Nat.lt_or_ge b 1373 with g|g
  .refine ⟨1099511627776,0,?_,by omega⟩
   have:=la_r6.1 (b - 1358) (by omega)
   rwa [show 1358+(b - 1358)=b by omega] at this
  refine ⟨1373,19072,?_,by omega⟩
  have:=la_r7.2.1 rfl
  rwa [show 1373+0=b by omega] at this
 obtain ⟨xb,xj,k1,k2⟩:=key _ _ rfl rfl
 have:=k1 (u % 65536) (by omega) k2
 rwa [show u / 65536*65536+u % 65536=u by omega] at this
end Go.Ln
namespace Go.Dg
open Go Go.Eng Go.Sn Go.Ln
def ovB (m d:Int):Bool:=(m==4&&d==4294967296)||((m==4294967292&&d==4294967296)||(m==2147483648&&d==3221225472))
def quN (m d:Int):Bool:=decide (0<=m)&&(decide (m<=d)&&(decide (1<=d)&&(decide (d<=4294967296)&&((decide (d<1000000000)||ovB m d)&&(m==0||(m==d||(3*m==d||((d==360000000&&m.tmod 4==0)||sinB m d))))))))
theorem far_deg {m:Int} (h0:0<m) (h1:m<360000000) (h3:3*m≠360000000) (h4:m % 4=0):∃ k,FarK ((m:Rat) / ((360000000:Int):Rat)) k:=by
 obtain ⟨k,hk⟩:=la_far (u:=(m / 4).toNat) (by omega) (by omega) (by omega)
 refine ⟨k,?_⟩
 have e:la_e*(((m / 4).toNat:Nat):Rat)=hp*((m:Rat) / ((360000000:Int):Rat)):=by
  have e1:(m:Rat)=4*(((m / 4).toNat:Nat):Rat):=by
   have:m=4*(((m / 4).toNat:Nat):Int):=by omega
   have h:=congrArg (fun z:Int=>(z:Rat)) this
   simp only [Rat.intCast_mul,Rat.intCast_natCast] at h
   rw [h]
   have:((4:Int):Rat)=4:=by decide +kernel
   rw [this]
  have e2:((360000000:Int):Rat)=360000000:=by decide +kernel
  rw [e1,e2]
  unfold la_e
  grind
 unfold FarE at hk
 unfold FarK tru
 rw [<- e]; exact hk
theorem sin_deg {m:Int} (h0:0<m) (h1:m<360000000) (h3:3*m≠360000000) (h4:m % 4=0):SinG m 360000000:=by
 obtain ⟨k,hk⟩:=far_deg h0 h1 h3 h4
 exact (sin_of h0 h1 (by decide) hk).1
theorem quN_of {m d:Int} (h:quN m d=true):0<=m/\m<=d/\1<=d/\d<=4294967296/\(d<1000000000\/ovB m d=true)/\(m=0\/m=d\/3*m=d\/SinG m d):=by
 unfold quN at h
 simp only [Bool.and_eq_true,Bool.or_eq_true,decide_eq_true_eq,beq_iff_eq] at h
 obtain ⟨a,b,c,d',e,f⟩:=h
 refine ⟨a,b,c,d',e,?_⟩
 rcases f with f|f|f|f|f
 .exact .inl f
 .exact .inr (.inl f)
 .exact .inr (.inr (.inl f))
 .obtain ⟨rfl,f⟩:=f
  by_cases z:m=0
  .exact .inl z
  by_cases z1:m=360000000
  .exact .inr (.inl z1)
  by_cases z3:3*m=360000000
  .exact .inr (.inr (.inl z3))
  exact .inr (.inr (.inr (sin_deg (by omega) (by omega) z3 (by rw [Int.tmod_eq_emod_of_nonneg a] at f; exact f))))
 .exact .inr (.inr (.inr (sinB_ok f)))
def wr (x:Int):Int:=IntKind.i64.wrap x
def siR (n d:Int):Int:=(wr (n.tmod d+d)).tmod d
def siQ (n d:Int):Int:=wr ((wr (4*siR n d)).tdiv d)
def siM (n d:Int):Int:=wr (wr (4*siR n d) - wr (siQ n d*d))
def siK (n d more:Int):Int:=(wr (siQ n d+more)).tmod 4
def siA (q n d:Int):Int:=bif q==0||q==2 then siM n d else wr (d - siM n d)
def snR (n d:Int):Int:=n % d
def snQ (n d:Int):Int:=4*snR n d / d
def snM (n d:Int):Int:=4*snR n d % d
def snK (n d more:Int):Int:=(snQ n d+more) % 4
def snA (more n d:Int):Int:=bif snK n d more==0||snK n d more==2 then snM n d else d - snM n d
def snBad (d:Int):Bool:=bif decide (d<1) then true else decide (d>4294967296)
def snN (more n d:Int):Bool:=snBad d||quN (snA more n d) d
def snLo (more n d:Int):Int:=bif snBad d then 0 else bif snK n d more==0||snK n d more==1 then quLo (snA more n d) d else -quHi (snA more n d) d
def snHi (more n d:Int):Int:=bif snBad d then 0 else bif snK n d more==0||snK n d more==1 then quHi (snA more n d) d else -quLo (snA more n d) d
def snE (d:Int):Int:=bif snBad d then 2 else 0
theorem wr_id {x:Int} (h1:-9223372036854775808<=x) (h2:x<=9223372036854775807):wr x=x:=by
 exact iw h1 (by omega)
theorem tmod_add {n d:Int} (h0:1<=d):(n.tmod d+d).tmod d=n % d/\0<=n.tmod d+d/\n.tmod d+d<2*d:=by
 have e0:0<=n % d:=Int.emod_nonneg _ (by omega)
 have e1:n % d<d:=Int.emod_lt_of_pos _ (by omega)
 have h:n.tmod d=n % d\/n.tmod d=n % d - d:=by
  rw [Int.tmod_eq_emod]
  split
  .left; omega
  .right; omega
 refine ⟨?_,by omega,by omega⟩
 rw [Int.tmod_eq_emod_of_nonneg (by omega)]
 rcases h with h|h
 .rw [h,Int.add_emod_right,Int.emod_emod_of_dvd _ (Int.dvd_refl d)]
 .rw [h,Int.sub_add_cancel,Int.emod_emod_of_dvd _ (Int.dvd_refl d)]
theorem si_eq {n d:Int} (h0:1<=d) (h1:d<=4294967296):siR n d=snR n d/\siQ n d=snQ n d/\siM n d=snM n d/\0<=snQ n d/\snQ n d<=3/\0<=snM n d/\snM n d<d:=by
 obtain ⟨t1,t2,t3⟩:=tmod_add (n:=n) h0
 have r0:0<=snR n d:=Int.emod_nonneg _ (by omega)
 have r1:snR n d<d:=Int.emod_lt_of_pos _ (by omega)
 have eR:siR n d=snR n d:=by
  unfold siR
  rw [wr_id (by omega) (by omega),t1]; rfl
 have e4:wr (4*snR n d)=4*snR n d:=wr_id (by omega) (by omega)
 have q0:0<=snQ n d:=Int.ediv_nonneg (by omega) (by omega)
 have q3:snQ n d<4:=(Int.ediv_lt_iff_lt_mul (by omega)).2 (by omega)
 have eQ:siQ n d=snQ n d:=by
  unfold siQ
  rw [eR,e4,Int.tdiv_eq_ediv_of_nonneg (by omega)]
  exact wr_id (by show _<=snQ n d; omega) (by show snQ n d<=_; omega)
 have m0:0<=snM n d:=Int.emod_nonneg _ (by omega)
 have m1:snM n d<d:=Int.emod_lt_of_pos _ (by omega)
 have eM:siM n d=snM n d:=by
  have hd:4*snR n d=d*snQ n d+snM n d:=(Int.mul_ediv_add_emod _ _).symm
  have qd0:0<=d*snQ n d:=Int.mul_nonneg (by omega) q0
  unfold siM
  rw [eR,e4,eQ,Int.mul_comm (snQ n d) d,wr_id (x:=d*snQ n d) (by omega) (by omega),wr_id (by omega) (by omega)]
  omega
 exact ⟨eR,eQ,eM,q0,by omega,m0,m1⟩
theorem si_k {n d more:Int} (h0:1<=d) (h1:d<=4294967296) (h2:0<=more) (h3:more<=1):siK n d more=snK n d more/\0<=snK n d more/\snK n d more<=3:=by
 obtain ⟨_,e,_,q0,q3,_,_⟩:=si_eq (n:=n) h0 h1
 refine ⟨?_,Int.emod_nonneg _ (by decide),by have:=Int.emod_lt_of_pos (snQ n d+more) (b:=4) (by decide); unfold snK; omega⟩
 unfold siK snK
 rw [e,wr_id (by omega) (by omega),Int.tmod_eq_emod_of_nonneg (by omega)]
theorem si_a {n d more:Int} (h0:1<=d) (h1:d<=4294967296):siA (snK n d more) n d=snA more n d:=by
 obtain ⟨_,_,e,_,_,m0,m1⟩:=si_eq (n:=n) h0 h1
 unfold siA snA
 rw [e,wr_id (by omega) (by omega)]
theorem qu_bd {m d:Int} (h:quN m d=true):0<=quLo m d/\quLo m d<=13000000000/\0<=quHi m d/\quHi m d<=13000000000:=by
 obtain ⟨_,_,_,_,_,g⟩:=quN_of h
 unfold quLo quHi
 by_cases z:m=0
 .rw [if_pos z,if_pos z]; omega
 by_cases z1:m=d
 .rw [if_neg z,if_neg z,if_pos z1,if_pos z1]; omega
 by_cases z3:3*m=d
 .rw [if_neg z,if_neg z,if_neg z1,if_neg z1,if_pos z3,if_pos z3]; omega
 rw [if_neg z,if_neg z,if_neg z1,if_neg z1,if_neg z3,if_neg z3]
 rcases g with g|g|g|g
 .exact absurd g z
 .exact absurd g z1
 .exact absurd g z3
 have p:=PP_pos
 have:=g.far
 have:=g.hi
 have a:0<=sinLo m d:=Int.ediv_nonneg (Int.mul_nonneg (by omega) (by decide)) (by omega)
 have b:sinLo m d<=12884901888:=by
  refine Int.ediv_le_of_le_mul p ?_
  have e:(12884901888:Int)*PP=3*PP*4294967296:=by decide
  rw [e]
  exact Int.mul_le_mul_of_nonneg_right (by omega) (by decide)
 omega
end Go.Dg
namespace Go.Proofs.Ytmnhhlnbfkfkaaa.K
open Go Go.Eng Go.Dg Go.Ar Go.Vc
noncomputable section
def shI2:List Sh:=[.i .i64,.i .i64]
def sSp2 (N:Int->Int->Bool) (V:Int->Int->Int×Int):PSpec:=numSpec shI2 (some fun|[.n m,.n d]=>N m d|_=>false) fun
 | [.n m,.n d]=>.a [.n .i64 (V m d).1,.n .i64 (V m d).2]
 | _=>.u []
theorem ovB_of {m d:Int} (h:ovB m d=true):OvC (digs (RG*m).toNat) (digs d.toNat):=by
 have dec:∀ {l:List Int},(∀ x∈l,0<=x/\x<1000000000)->Dig l:=fun h x hx=>h x hx
 unfold ovB at h
 simp only [Bool.or_eq_true,Bool.and_eq_true,beq_iff_eq] at h
 have key:∀ {l:List Int} {v:Int},val l=v->(∀ x∈l,0<=x/\x<1000000000)->Top l->digs v.toNat=l:=fun {l v} e h t=>by rw [<- e]; exact digs_val h t
 rcases h with ⟨rfl,rfl⟩|⟨rfl,rfl⟩|⟨rfl,rfl⟩
 .exact .inl ⟨key (l:=oA1) (by decide) (by decide) (by unfold Top; decide),key (l:=oB1) (by decide) (by decide) (by unfold Top; decide)⟩
 .exact .inr (.inl ⟨key (l:=oA2) (by decide) (by decide) (by unfold Top; decide),key (l:=oB2) (by decide) (by decide) (by unfold Top; decide)⟩)
 .exact .inr (.inr ⟨key (l:=oA3) (by decide) (by decide) (by unfold Top; decide),key (l:=oB3) (by decide) (by decide) (by unfold Top; decide)⟩)
theorem oneV_of {x:Option CR} {nd:Nd} {l:List AV} {h:Hp} (e:x=some ⟨nd,[⟨.tt,.agg l,h⟩]⟩):oneV x=some (nd,.agg l):=by rw [e]; rfl
theorem quP_ok:PureOk Try.prog 48 (sSp2 quN fun m d=>(quLo m d,quHi m d)):=by
 refine num_ok' (fun xs hk hN=>?_) ⟨_,Try.func48,rfl⟩
 obtain ⟨m,_,rfl,h1⟩:=kn hk; obtain ⟨d,_,rfl,h2⟩:=kn h1; obtain rfl:=k0 h2
 have hN:quN m d=true:=hN
 obtain ⟨m0,m1,d0,d1,dc,h⟩:=quN_of hN
 have dc:d<1000000000\/OvC (digs (RG*m).toNat) (digs d.toNat):=dc.imp id ovB_of
 have w3:IntKind.i64.wrap (3*m)=3*m:=iw (by omega) (by omega)
 by_cases hz:m=0
 .refine ⟨cQu [(14,true)],300,.p _,_,cQu_ok _,rfl,fun _=>rfl,rfl,oneV_of (qu_0 m d),beq_iff_eq.2 hz,fun τ W h=>?_⟩
  show VRel τ (.agg [.int true .i64 (quLo m d),.int true .i64 (quHi m d)]) W
  unfold quLo quHi
  rw [if_pos hz,if_pos hz]; exact h
 by_cases hd:m=d
 .refine ⟨cQu [(14,false),(19,true)],300,.p _,_,cQu_ok _,rfl,fun _=>rfl,rfl,oneV_of (qu_1 m d),⟨beq_eq_false_iff_ne.2 hz,beq_iff_eq.2 hd⟩,fun τ W h=>?_⟩
  show VRel τ (.agg [.int true .i64 (quLo m d),.int true .i64 (quHi m d)]) W
  unfold quLo quHi
  rw [if_neg hz,if_neg hz,if_pos hd,if_pos hd]; exact h
 by_cases h3:3*m=d
 .refine ⟨cQu [(14,false),(19,false),(25,true)],300,.p _,_,cQu_ok _,rfl,fun _=>rfl,rfl,oneV_of (qu_2 m d),⟨beq_eq_false_iff_ne.2 hz,beq_eq_false_iff_ne.2 hd,?_⟩,fun τ W h=>?_⟩
  .rw [w3]; exact beq_iff_eq.2 h3
  show VRel τ (.agg [.int true .i64 (quLo m d),.int true .i64 (quHi m d)]) W
  unfold quLo quHi
  rw [if_neg hz,if_neg hz,if_neg hd,if_neg hd,if_pos h3,if_pos h3]; exact h
 have g:SinG m d:=by
  rcases h with h|h|h|h
  .exact absurd h hz
  .exact absurd h hd
  .exact absurd h h3
  .exact h
 have p:=PP_pos
 have hm:0<m:=by omega
 have fr:=g.far
 have hi:=g.hi
 obtain ⟨e1,e2⟩:=quY_val hm m1
 obtain ⟨e3,e4⟩:=quS_val hm m1 (by omega)
 have er:val (digs RGT.toNat)=RG:=dv (by decide)
 have em:val (digs m.toNat)=m:=dv m0
 have ed:val (digs d.toNat)=d:=dv (by omega)
 have e8:val [100000000]=100000000:=val_one _
 have hr:0<RG:=by decide
 have ea:val (digs (RG*m).toNat)=RG*m:=dv (Int.mul_nonneg (by omega) m0)
 have lr:(digs RGT.toNat).length<=6:=len_4 (a:=RGT) (by decide) (by decide)
 have lm:(digs m.toNat).length<=2:=digs_le m0 (by rw [show pw 2=1000000000000000000 from by decide]; omega)
 have ld0:0<(digs d.toNat).length:=len0 (by omega)
 have la:(digs (RG*m).toNat).length<=7:=digs_le (Int.mul_nonneg (by omega) m0) (by
  have:RG*m<=RG*4294967296:=Int.mul_le_mul_of_nonneg_left (by omega) (by omega)
  have e:RG*4294967296<pw 7:=by decide
  omega)
 have ls:(quS m d).length<=6:=by rw [e3]; exact len_4 (by omega) (by omega)
 have ls0:0<(quS m d).length:=by rw [e3]; exact len0 (by omega)
 have dS:Dig (quS m d):=by rw [e3]; exact dig_digs _
 have tS:Top (quS m d):=by rw [e3]; exact top_digs _
 have d8:Dig [100000000]:=dig_one (by decide) (by decide)
 have t8:Top [100000000]:=by have:=top_digs 100000000; rwa [show digs 100000000=[100000000] from by rw [digs_pos (by decide),show 100000000 / 1000000000=0 from rfl,digs_zero]; rfl] at this
 have hda:d<=RG*m:=by
  have:RG*1<=RG*m:=Int.mul_le_mul_of_nonneg_left (by omega) (by omega)
  have e:(4294967296:Int)<RG:=by decide
  omega
 have hc:¬ cmpI (quS m d) [100000000]<=0:=fun hh=>by
  have:=(cmpI_gt dS d8 tS t8 (by omega) (by show 1<=500000; omega)).2 (by rw [e4,e8]; omega)
  omega
 have vm:val (digs (val (quS m d) - val [100000000]).toNat)=sinN m d - 100000000:=by rw [e4,e8]; exact dv (by omega)
 have vp:val (digs (val (quS m d)+val [100000000]).toNat)=sinN m d+100000000:=by rw [e4,e8]; exact dv (by omega)
 have dm:DwD (digs (val (quS m d) - val [100000000]).toNat):=by rw [e4,e8]; exact dwD_of (by omega) (by omega)
 have dp:DwD (digs (val (quS m d)+val [100000000]).toNat):=by
  rw [e4,e8]
  refine dwD_of (by omega) ?_
  have:(100000000:Int)<PP:=by decide
  omega
 obtain ⟨lo0,lo1⟩:=sinLo_bd g
 have hov:(Dig (digs (RG*m).toNat)/\Dig (digs d.toNat)/\Top (digs (RG*m).toNat)/\Top (digs d.toNat)/\(digs (RG*m).toNat).length<=500000/\(digs d.toNat).length=1/\0<d/\d<=RG*m)\/OvC (digs (RG*m).toNat) (digs d.toNat):=by
  rcases dc with dc|dc
  .have ld:(digs d.toNat).length<=1:=digs_le (by omega) (by rw [show pw 1=1000000000 from by decide]; omega)
   exact .inl ⟨dig_digs _,dig_digs _,top_digs _,top_digs _,by omega,by omega,by omega,hda⟩
  .exact .inr dc
 refine ⟨cQu [(14,false),(19,false),(25,false),(55,false),(67,false)],300,.p _,_,cQu_ok _,rfl,fun _=>rfl,rfl,oneV_of (qu_t m d),?_,fun τ W h=>?_⟩
 .unfold qu_t_nd
  rw [vm,vp,er,em,ea,ed]
  refine ⟨⟨beq_eq_false_iff_ne.2 hz,beq_eq_false_iff_ne.2 hd,by rw [w3]; exact beq_eq_false_iff_ne.2 h3⟩,⟨⟨dig_oneL,by decide,by decide⟩,⟨hm,by omega⟩,⟨⟨rfl,rfl⟩,dig_digs _,dig_digs _,by omega⟩,⟨by omega,by omega⟩,⟨rfl,rfl⟩,hov⟩,⟨rfl,rfl,seD_y hm m1 g⟩,⟨⟨rfl,by show _<=_; omega,by show 1<=500000; omega⟩,decide_eq_false hc⟩,⟨⟨rfl,dS,d8,ls0,by omega,by show 1<=_; omega,by rw [e4,e8]; omega⟩,rfl,rfl,dm⟩,⟨rfl,dS,d8,.inl ls0,by omega,by show 1<=_; omega⟩,⟨rfl,rfl,dp⟩,bne_f.2 g.same⟩
 .show VRel τ (.agg [.int true .i64 (quLo m d),.int true .i64 (quHi m d)]) W
  unfold quLo quHi
  rw [if_neg hz,if_neg hz,if_neg hd,if_neg hd,if_neg h3,if_neg h3]
  have e5:qu_t_v m d=.agg [.int true .i64 (sinLo m d),.int true .i64 (sinLo m d+1)]:=by
   unfold qu_t_v
   rw [vm]
   show AV.agg [.int true .i64 (sinLo m d),.int true .i64 (IntKind.i64.wrap (sinLo m d+1))]=_
   rw [iw (by omega) (by omega)]
  rw [<- e5]; exact h
end
end Go.Proofs.Ytmnhhlnbfkfkaaa.K
namespace Go.Proofs.Ytmnhhlnbfkfkaaa.K
open Go Go.Eng Go.Dg Go.Ar Go.Vc
noncomputable section
def tblSi (N:Int->Int->Bool) (V:Int->Int->Int×Int):List (FuncId×PSpec):=[(48,sSp2 N V)]
def cSi (N:Int->Int->Bool) (V:Int->Int->Int×Int) (b:Bool) (q:Int):Ctx:=hinting (mkC Try.prog (tblSi N V) ext) (hZ [(15,.bool false b),(32,.int false .i64 q)])
theorem cSi_ok (b:Bool) (q:Int):CtxOk (cSi quN (fun m d=>(quLo m d,quHi m d)) b q):=hinting_ok (mkC_ok prog_ok (fun x hx=>by
 rcases List.mem_singleton.1 hx with rfl
 exact quP_ok) ext_ok) _
def sSine (N:Int->Int->Bool) (L H:Int->Int->Int) (E:Int->Int):PSpec:=numSpec shI2 (some fun|[.n m,.n d]=>N m d|_=>false) fun
 | [.n m,.n d]=>.u [.a [.n .i64 (L m d),.n .i64 (H m d)],.n .i64 (E d)]
 | _=>.u []
def siN (N:Int->Int->Bool) (n d more q:Int):Prop:=((decide (d<1)=true->true=false)/\(decide (d<1)=false->decide (d>4294967296)=false))/\(d≠0/\d≠0)/\d≠0/\siK n d more=q/\N (siA q n d) d=true
def siL (V:Int->Int->Int×Int) (q n d:Int):Int:=bif q==0||q==1 then (V (siA q n d) d).1 else wr (0 - (V (siA q n d) d).2)
def siH (V:Int->Int->Int×Int) (q n d:Int):Int:=bif q==0||q==1 then (V (siA q n d) d).2 else wr (0 - (V (siA q n d) d).1)
def siO (V:Int->Int->Int×Int) (q n d:Int):AV:=.tuple [.agg [.int true .i64 (siL V q n d),.int true .i64 (siH V q n d)],.int false .i64 0]
def siX (f:FuncId) (N:Int->Int->Bool) (V:Int->Int->Int×Int) (n d more q:Int):Prop:=oneV ((run (cSi N V false q) 300).call f [.int true .i64 n,.int true .i64 d] ⟨[],0,1⟩)=some (.p (siN N n d more q),siO V q n d)
theorem sine_0 (N:Int->Int->Bool) (V:Int->Int->Int×Int) (n d:Int):siX 11 N V n d 0 0:=by unfold siX; kernel_rfl
theorem sine_1 (N:Int->Int->Bool) (V:Int->Int->Int×Int) (n d:Int):siX 11 N V n d 0 1:=by unfold siX; kernel_rfl
theorem sine_2 (N:Int->Int->Bool) (V:Int->Int->Int×Int) (n d:Int):siX 11 N V n d 0 2:=by unfold siX; kernel_rfl
theorem sine_3 (N:Int->Int->Bool) (V:Int->Int->Int×Int) (n d:Int):siX 11 N V n d 0 3:=by unfold siX; kernel_rfl
theorem cos_0 (N:Int->Int->Bool) (V:Int->Int->Int×Int) (n d:Int):siX 13 N V n d 1 0:=by unfold siX; kernel_rfl
theorem cos_1 (N:Int->Int->Bool) (V:Int->Int->Int×Int) (n d:Int):siX 13 N V n d 1 1:=by unfold siX; kernel_rfl
theorem cos_2 (N:Int->Int->Bool) (V:Int->Int->Int×Int) (n d:Int):siX 13 N V n d 1 2:=by unfold siX; kernel_rfl
theorem cos_3 (N:Int->Int->Bool) (V:Int->Int->Int×Int) (n d:Int):siX 13 N V n d 1 3:=by unfold siX; kernel_rfl
def siB (d:Int):Prop:=(decide (d<1)=true->true=true)/\(decide (d<1)=false->decide (d>4294967296)=true)
theorem sine_b (N:Int->Int->Bool) (V:Int->Int->Int×Int) (n d:Int):oneV ((run (cSi N V true 0) 300).call 11 [.int true .i64 n,.int true .i64 d] ⟨[],0,1⟩)=some (.p (siB d),.tuple [.agg [.int false .i64 0,.int false .i64 0],.int false .i64 2]):=by kernel_rfl
theorem cos_b (N:Int->Int->Bool) (V:Int->Int->Int×Int) (n d:Int):oneV ((run (cSi N V true 0) 300).call 13 [.int true .i64 n,.int true .i64 d] ⟨[],0,1⟩)=some (.p (siB d),.tuple [.agg [.int false .i64 0,.int false .i64 0],.int false .i64 2]):=by kernel_rfl
theorem si_all {f:FuncId} {more:Int} (hm:0<=more/\more<=1) (fn:∃ fn:Func,Try.prog.funcs[f]?=some fn/\fn.body.isSome=true)
  (h:∀ n d q,0<=q->q<=3->siX f quN (fun m d=>(quLo m d,quHi m d)) n d more q)
  (hb:∀ n d,oneV ((run (cSi quN (fun m d=>(quLo m d,quHi m d)) true 0) 300).call f [.int true .i64 n,.int true .i64 d] ⟨[],0,1⟩)=some (.p (siB d),.tuple [.agg [.int false .i64 0,.int false .i64 0],.int false .i64 2])):
  PureOk Try.prog f (sSine (snN more) (snLo more) (snHi more) snE):=by
 refine num_ok' (fun xs hk hN=>?_) fn
 obtain ⟨n,_,rfl,h1⟩:=kn hk; obtain ⟨d,_,rfl,h2⟩:=kn h1; obtain rfl:=k0 h2
 have hN:snN more n d=true:=hN
 cases hB:snBad d with
 | true=>
  refine ⟨_,300,_,_,cSi_ok true 0,rfl,fun _=>rfl,rfl,hb n d,?_,fun τ W h=>?_⟩
  .refine ⟨fun _=>rfl,fun h=>?_⟩
   unfold snBad at hB
   rw [h] at hB; exact hB
  .show VRel τ (.tuple [.agg [.int true .i64 (snLo more n d),.int true .i64 (snHi more n d)],.int true .i64 (snE d)]) W
   have e:snLo more n d=0/\snHi more n d=0/\snE d=2:=by
    unfold snLo snHi snE
    rw [hB]; exact ⟨rfl,rfl,rfl⟩
   rw [e.1,e.2.1,e.2.2]; exact h
 | false=>
  have hd:decide (d<1)=false/\decide (d>4294967296)=false:=by
   unfold snBad at hB
   cases h3:decide (d<1) with
   | true=>rw [h3] at hB; cases hB
   | false=>rw [h3] at hB; exact ⟨rfl,hB⟩
  have d0:1<=d:=by have:=of_decide_eq_false hd.1; omega
  have d1:d<=4294967296:=by have:=of_decide_eq_false hd.2; omega
  have hq:quN (snA more n d) d=true:=by
   unfold snN at hN
   rw [hB] at hN; exact hN
  obtain ⟨k1,k2,k3⟩:=si_k (n:=n) d0 d1 hm.1 hm.2
  have ea:=si_a (n:=n) (more:=more) d0 d1
  obtain ⟨b1,b2,b3,b4⟩:=qu_bd hq
  refine ⟨_,300,_,_,cSi_ok false (snK n d more),rfl,fun _=>rfl,rfl,h n d _ k2 k3,?_,fun τ W h=>?_⟩
  .refine ⟨⟨fun h=>(by rw [hd.1] at h; cases h),fun _=>hd.2⟩,⟨by omega,by omega⟩,by omega,k1,?_⟩
   rw [ea]; exact hq
  .show VRel τ (.tuple [.agg [.int true .i64 (snLo more n d),.int true .i64 (snHi more n d)],.int true .i64 (snE d)]) W
   have e:snLo more n d=siL (fun m d=>(quLo m d,quHi m d)) (snK n d more) n d/\snHi more n d=siH (fun m d=>(quLo m d,quHi m d)) (snK n d more) n d/\snE d=0:=by
    unfold snLo snHi snE siL siH
    rw [hB,ea]
    dsimp only
    rw [wr_id (x:=0 - quHi (snA more n d) d) (by omega) (by omega),wr_id (x:=0 - quLo (snA more n d) d) (by omega) (by omega),Int.zero_sub,Int.zero_sub]
    exact ⟨rfl,rfl,rfl⟩
   rw [e.1,e.2.1,e.2.2]; exact h
theorem q4 {q:Int} (h0:0<=q) (h1:q<=3):q=0\/q=1\/q=2\/q=3:=by omega
theorem sine_ok:PureOk Try.prog 11 (sSine (snN 0) (snLo 0) (snHi 0) snE):=si_all (by decide) ⟨_,Try.func11,rfl⟩ (fun n d q h0 h1=>by
 rcases q4 h0 h1 with rfl|rfl|rfl|rfl
 .exact sine_0 _ _ n d
 .exact sine_1 _ _ n d
 .exact sine_2 _ _ n d
 .exact sine_3 _ _ n d) (fun n d=>sine_b _ _ n d)
theorem cosine_ok:PureOk Try.prog 13 (sSine (snN 1) (snLo 1) (snHi 1) snE):=si_all (by decide) ⟨_,Try.func13,rfl⟩ (fun n d q h0 h1=>by
 rcases q4 h0 h1 with rfl|rfl|rfl|rfl
 .exact cos_0 _ _ n d
 .exact cos_1 _ _ n d
 .exact cos_2 _ _ n d
 .exact cos_3 _ _ n d) (fun n d=>cos_b _ _ n d)
end
end Go.Proofs.Ytmnhhlnbfkfkaaa.K
namespace Go.Vc
open Go Go.Eng Go.Ar Go.Dg
structure RF where
 n:Int->Int->Bool
 ab:Int->Int->Mat
 mv:Mat->Mat->Mat
 mo:Mat->Mat->Int
def eqU (m:Mat):Bool:=m.x.a==4294967296&&(m.x.b==4294967296&&(m.x.c==0&&(m.x.d==0&&(m.x.e==0&&(m.x.f==0&&(m.y.a==0&&(m.y.b==0&&(m.y.c==4294967296&&(m.y.d==4294967296&&(m.y.e==0&&(m.y.f==0&&(m.z.a==0&&(m.z.b==0&&(m.z.c==0&&(m.z.d==0&&(m.z.e==4294967296&&(m.z.f==4294967296&&true)))))))))))))))))
def veIf (b:Bool) (v w:Ve):Ve:=⟨bif b then v.a else w.a,bif b then v.b else w.b,bif b then v.c else w.c,bif b then v.d else w.d,bif b then v.e else w.e,bif b then v.f else w.f⟩
def maIf (b:Bool) (v w:Mat):Mat:=⟨veIf b v.x w.x,veIf b v.y w.y,veIf b v.z w.z⟩
section
variable (R:RF) (x y z:Int)
def angOk (x:Int) (b:Bool):Prop:=(decide (x < -360000000)=true->true=b)/\(decide (x < -360000000)=false->decide (x>360000000)=b)
def ro1:Mat:=maIf (eqU (R.ab 0 x)) (R.ab 1 y) (R.mv (R.ab 1 y) (R.ab 0 x))
def ro2:Mat:=maIf (eqU (ro1 R x y)) (R.ab 2 z) (R.mv (R.ab 2 z) (ro1 R x y))
def roN0:Prop:=angOk x false/\R.n 0 x=true
def roN1:Prop:=angOk y false/\R.n 1 y=true/\maP (R.ab 0 x)
def roN2:Prop:=angOk z false/\R.n 2 z=true/\maP (ro1 R x y)
end
def angBad (x:Int):Bool:=bif decide (x < -360000000) then true else decide (x>360000000)
theorem ang_of {x:Int}:angOk x (angBad x):=by
 unfold angOk angBad
 cases decide (x < -360000000) <;> simp
def abOf (sl sh cl ch:Int) (m:Sp) (a:Int):Mat:=
 bif a==0 then ⟨⟨4294967296,4294967296,0,0,0,0⟩,⟨0,0,cl,ch,m.lo,m.hi⟩,⟨0,0,sl,sh,cl,ch⟩⟩
 else bif a==1 then ⟨⟨cl,ch,0,0,sl,sh⟩,⟨0,0,4294967296,4294967296,0,0⟩,⟨m.lo,m.hi,0,0,cl,ch⟩⟩
 else ⟨⟨cl,ch,m.lo,m.hi,0,0⟩,⟨sl,sh,cl,ch,0,0⟩,⟨0,0,0,0,4294967296,4294967296⟩⟩
structure AF where
 n0:Int->Int->Bool
 n1:Int->Int->Bool
 sl:Int->Int->Int
 sh:Int->Int->Int
 cl:Int->Int->Int
 ch:Int->Int->Int
 ng:Int->Int->Sp
def abA (F:AF) (a n:Int):Mat:=abOf (F.sl n 360000000) (F.sh n 360000000) (F.cl n 360000000) (F.ch n 360000000) (F.ng (F.sl n 360000000) (F.sh n 360000000)) a
def abN (F:AF) (n a i j:Int):Prop:=F.n0 n 360000000=true/\F.n1 n 360000000=true/\((wr (a+1)).tmod 3=i/\(wr (a+2)).tmod 3=j)/\((F.cl n 360000000=F.cl n 360000000/\F.ch n 360000000=F.ch n 360000000)/\(F.sl n 360000000=F.sl n 360000000/\F.sh n 360000000=F.sh n 360000000)/\(F.ng (F.sl n 360000000) (F.sh n 360000000)).lo=(F.ng (F.sl n 360000000) (F.sh n 360000000)).lo/\(F.ng (F.sl n 360000000) (F.sh n 360000000)).hi=(F.ng (F.sl n 360000000) (F.sh n 360000000)).hi)/\((F.cl n 360000000=F.cl n 360000000/\F.ch n 360000000=F.ch n 360000000)/\F.sl n 360000000=F.sl n 360000000/\F.sh n 360000000=F.sh n 360000000)/\F.cl n 360000000=F.cl n 360000000/\F.ch n 360000000=F.ch n 360000000
theorem snN_deg (more n:Int):snN more n 360000000=true:=by
 obtain ⟨_,_,_,_,_,m0,m1⟩:=si_eq (n:=n) (d:=360000000) (by decide) (by decide)
 have e4:snM n 360000000 % 4=0:=by
  unfold snM
  omega
 have ha:0<=snA more n 360000000/\snA more n 360000000<=360000000/\snA more n 360000000 % 4=0:=by
  unfold snA
  cases snK n 360000000 more==0||snK n 360000000 more==2 with
  | true=>simp only [cond_true]; omega
  | false=>simp only [cond_false]; omega
 unfold snN quN
 have t:(snA more n 360000000).tmod 4=0:=by rw [Int.tmod_eq_emod_of_nonneg ha.1]; exact ha.2.2
 simp [ha.1,ha.2.1,t]
def af0:AF:=⟨snN 0,snN 1,snLo 0,snHi 0,snLo 1,snHi 1,negS⟩
def axN (a _n:Int):Bool:=a==0||(a==1||a==2)
end Go.Vc
namespace Go.Rd
open Go Go.Eng Go.Ar
structure Bd (s:Sp) (M:Int):Prop where
 e:s.e=0
 lo:-M<=s.lo
 le:s.lo<=s.hi
 hi:s.hi<=M
structure En (s:Sp) (N D:Int):Prop where
 lo:s.lo*D<=N
 hi:N<=s.hi*D
theorem rd_f {n d:Int} (hd:0<d):rd n d false*d<=n/\n<rd n d false*d+d:=by
 have h1:=Int.mul_ediv_add_emod n d
 have h2:=Int.emod_nonneg n (show d≠0 by omega)
 have h3:=Int.emod_lt_of_pos n hd
 show n / d*d<=n/\n<n / d*d+d
 rw [Int.mul_comm] at h1
 omega
theorem rd_t {n d:Int} (hd:0<d):n<=rd n d true*d/\rd n d true*d<n+d:=by
 have:=rd_f (n:=-n) hd
 have e:rd n d true=-(rd (-n) d false):=rfl
 rw [e,Int.neg_mul]
 omega
theorem rd_le_of {n d M:Int} (hd:0<d) (h:n<=M*d):rd n d true<=M:=by
 have:=(rd_t (n:=n) hd).2
 rcases Int.lt_or_le M (rd n d true) with c|c
 .have:(M+1)*d<=rd n d true*d:=Int.mul_le_mul_of_nonneg_right (by omega) (by omega)
  rw [Int.add_mul] at this
  omega
 .exact c
theorem le_rd_of {n d M:Int} (hd:0<d) (h:M*d<=n):M<=rd n d false:=by
 have:=(rd_f (n:=n) hd).2
 rcases Int.lt_or_le (rd n d false) M with c|c
 .have:(rd n d false+1)*d<=M*d:=Int.mul_le_mul_of_nonneg_right (by omega) (by omega)
  rw [Int.add_mul] at this
  omega
 .exact c
end Go.Rd
namespace Go.Rd
open Go Go.Eng Go.Ar
end Go.Rd
namespace Go.Rd
open Go Go.Eng Go.Ar
end Go.Rd
namespace Go.Rd
open Go Go.Eng Go.Ar
structure Wi (s t:Sp):Prop where
 lo:t.lo<=s.lo
 le:s.lo<=s.hi
 hi:s.hi<=t.hi
structure Ri (s:Sp):Prop where
 lo:-4503599627370496<=s.lo
 le:s.lo<=s.hi
 hi:s.hi<=4503599627370496
theorem Ri.ok {s:Sp} (h:Ri s):okSp s.lo s.hi=true:=okSp_iff.2 ⟨h.lo,h.le,h.hi⟩
theorem told_of {lo hi:Int} (h1:-4503599627370496<=lo) (h2:lo<=4503599627370496) (h3:-4503599627370496<=hi) (h4:hi<=4503599627370496):toldS lo hi=⟨lo,hi,0⟩:=by
 unfold toldS
 rw [okF_iff.2 (by omega),okF_iff.2 (by omega)]
 rfl
theorem rd_ge_iff {n d m:Int} (hd:0<d):m<=rd n d false ↔ m*d<=n:=by
 constructor
 .intro h
  have:=(rd_f (n:=n) hd).1
  have:=Int.mul_le_mul_of_nonneg_right h (Int.le_of_lt hd)
  omega
 .exact le_rd_of hd
theorem rd_le_iff {n d m:Int} (hd:0<d):rd n d true<=m ↔ n<=m*d:=by
 constructor
 .intro h
  have:=(rd_t (n:=n) hd).1
  have:=Int.mul_le_mul_of_nonneg_right h (Int.le_of_lt hd)
  omega
 .exact rd_le_of hd
theorem Wi.at {s t:Sp} (w:Wi s t) {x:Int} (h:x=s.lo\/x=s.hi):t.lo<=x/\x<=t.hi:=by
 obtain ⟨w1,w2,w3⟩:=w
 omega
end Go.Rd
namespace Go.Rd
open Go Go.Eng Go.Ar
def ng (s:Sp):Sp:=⟨-s.hi,-s.lo,s.e⟩
theorem mn_eq (a b:Int):mn a b=if b<a then b else a:=by
 unfold mn; by_cases h:b<a
 .rw [decide_eq_true h,if_pos h]; rfl
 .rw [decide_eq_false h,if_neg h]; rfl
theorem mx_eq (a b:Int):mx a b=if a<b then b else a:=by
 unfold mx; by_cases h:a<b
 .rw [decide_eq_true h,if_pos h]; rfl
 .rw [decide_eq_false h,if_neg h]; rfl
end Go.Rd
namespace Go.Rd
open Go Go.Eng Go.Ar
def gt:List Sp->Nat->Sp
 | [],_=>⟨0,0,0⟩
 | a :: _,0=>a
 | _ :: l,i+1=>gt l i
inductive Wis:List Sp->List Sp->Prop where
 | nil:Wis [] []
 | cons {a b:Sp} {l m:List Sp}:Wi a b->Wis l m->Wis (a :: l) (b :: m)
theorem Wis.gt {l m:List Sp} (h:Wis l m):∀ i,Wi (gt l i) (gt m i):=by
 induction h with
 | nil=>exact fun _=>⟨Int.le_refl _,Int.le_refl _,Int.le_refl _⟩
 | cons w _ ih=>
  intro i
  cases i with
  | zero=>exact w
  | succ i=>exact ih i
def tn (b:Bool) (s:Sp):Sp:=bif b then ng s else s
inductive Tns:List Bool->List Sp->List Sp->Prop where
 | nil:Tns [] [] []
 | cons {b:Bool} {a c:Sp} {bs:List Bool} {l m:List Sp}:a=tn b c->Tns bs l m->Tns (b :: bs) (a :: l) (c :: m)
def bt:List Bool->Nat->Bool
 | [],_=>false
 | a :: _,0=>a
 | _ :: l,i+1=>bt l i
theorem Tns.gt {bs:List Bool} {l m:List Sp} (h:Tns bs l m):∀ i,gt l i=tn (bt bs i) (gt m i):=by
 induction h with
 | nil=>exact fun _=>rfl
 | cons e _ ih=>intro i; cases i with
  | zero=>exact e
  | succ i=>exact ih i
theorem Tns.e {bs:List Bool} {l m:List Sp} (h:Tns bs l m) (i:Nat):(Go.Rd.gt l i).e=(Go.Rd.gt m i).e:=by
 rw [h.gt i]; cases bt bs i <;> rfl
end Go.Rd
namespace Go.Iv
open Go Go.Ar Go.Rd
end Go.Iv
namespace Go.Vc
open Go Go.Eng Go.Ar Go.Dg Go.Rd
def Bd (A a b:Int):Prop:=-A<=a/\a<=b/\b<=A
theorem Bd.ok {A a b:Int} (h:Bd A a b) (hA:A<=4503599627370496):okSp a b=true:=by
 obtain ⟨h1,h2,h3⟩:=h
 exact okSp_iff.2 ⟨by omega,by omega,by omega⟩
theorem prod_bd {A B x y:Int} (h1:-A<=x) (h2:x<=A) (h3:-B<=y) (h4:y<=B):-(A*B)<=x*y/\x*y<=A*B:=by
 have a:=Int.mul_nonneg (a:=A - x) (b:=B - y) (by omega) (by omega)
 have b:=Int.mul_nonneg (a:=A+x) (b:=B+y) (by omega) (by omega)
 have c:=Int.mul_nonneg (a:=A - x) (b:=B+y) (by omega) (by omega)
 have d:=Int.mul_nonneg (a:=A+x) (b:=B - y) (by omega) (by omega)
 constructor <;> grind
theorem rd_bd {p M:Int} (h1:-(M*4294967296)<=p) (h2:p<=M*4294967296):-M<=rd p 4294967296 false/\rd p 4294967296 false<=rd p 4294967296 true/\rd p 4294967296 true<=M:=by
 refine ⟨(rd_ge_iff (by decide)).2 (by omega),rd_le _ _ (by decide),(rd_le_iff (by decide)).2 (by omega)⟩
theorem mul_small {A B M a b c d:Int} (h:Bd A a b) (k:Bd B c d) (hA:A<=4503599627370496) (hB:B<=4503599627370496) (hM:A*B<=M*4294967296) (hM2:M<=4503599627370496):∃ l u,mulS a b c d=⟨l,u,0⟩/\Bd M l u:=by
 have ok1:=h.ok hA
 have ok2:=k.ok hB
 obtain ⟨h1,h2,h3⟩:=h
 obtain ⟨k1,k2,k3⟩:=k
 have key:∀ x y,-A<=x->x<=A->-B<=y->y<=B->-M<=mF x y false/\mF x y false<=mF x y true/\mF x y true<=M:=fun x y a1 a2 a3 a4=>by
  have:=prod_bd a1 a2 a3 a4
  exact rd_bd (by omega) (by omega)
 have p1:=key a c (by omega) (by omega) (by omega) (by omega)
 have p2:=key a d (by omega) (by omega) (by omega) (by omega)
 have p3:=key b c (by omega) (by omega) (by omega) (by omega)
 have p4:=key b d (by omega) (by omega) (by omega) (by omega)
 unfold mulS both hull4
 rw [ok1,ok2]
 generalize mF a c false=f1 at *
 generalize mF a d false=f2 at *
 generalize mF b c false=f3 at *
 generalize mF b d false=f4 at *
 generalize mF a c true=g1 at *
 generalize mF a d true=g2 at *
 generalize mF b c true=g3 at *
 generalize mF b d true=g4 at *
 have b1:-M<=mn (mn (mn f1 f2) f3) f4/\mn (mn (mn f1 f2) f3) f4<=f1:=by
  simp only [mn_eq]
  constructor <;> (repeat' split) <;> omega
 have b2:mx (mx (mx g1 g2) g3) g4<=M/\g1<=mx (mx (mx g1 g2) g3) g4:=by
  simp only [mx_eq]
  constructor <;> (repeat' split) <;> omega
 refine ⟨_,_,?_,b1.1,by omega,b2.1⟩
 show toldS _ _=_
 unfold toldS
 rw [okF_iff.2 ⟨by omega,by omega⟩,okF_iff.2 ⟨by omega,by omega⟩]
 rfl
theorem add_small {A B a b c d:Int} (h:Bd A a b) (k:Bd B c d) (hA:A+B<=4503599627370496) (hA0:0<=A) (hB0:0<=B):addS a b c d=⟨a+c,b+d,0⟩/\Bd (A+B) (a+c) (b+d):=by
 have ok1:=h.ok (by omega)
 have ok2:=k.ok (by omega)
 obtain ⟨h1,h2,h3⟩:=h
 obtain ⟨k1,k2,k3⟩:=k
 refine ⟨?_,by omega,by omega,by omega⟩
 unfold addS both
 rw [ok1,ok2]
 show toldS _ _=_
 unfold toldS
 rw [okF_iff.2 ⟨by omega,by omega⟩,okF_iff.2 ⟨by omega,by omega⟩]
 rfl
def BdV (A:Int) (v:Ve):Prop:=Bd A v.a v.b/\Bd A v.c v.d/\Bd A v.e v.f
def BdM (A:Int) (m:Mat):Prop:=BdV A m.x/\BdV A m.y/\BdV A m.z
theorem BdV.ok {A:Int} {v:Ve} (h:BdV A v) (hA:A<=4503599627370496):wOk vf0 v=false/\MF.ok ⟨dotF vf0,okSp⟩ v=true:=by
 unfold wOk MF.ok
 have h1:=h.1.ok hA
 have h2:=h.2.1.ok hA
 have h3:=h.2.2.ok hA
 show (!bif okSp _ _ then (bif okSp _ _ then okSp _ _ else false) else false)=false/\(bif okSp _ _ then (bif okSp _ _ then okSp _ _ else false) else false)=true
 rw [h1,h2,h3]; exact ⟨rfl,rfl⟩
theorem dot_small {A B M:Int} {v w:Ve} (h:BdV A v) (k:BdV B w) (hA:A<=4503599627370496) (hB:B<=4503599627370496) (hM:A*B<=M*4294967296) (hM0:0<=M) (hM2:3*M<=4503599627370496):
  ∃ l1 u1 l2 u2 l3 u3,mulS v.a v.b w.a w.b=⟨l1,u1,0⟩/\mulS v.c v.d w.c w.d=⟨l2,u2,0⟩/\mulS v.e v.f w.e w.f=⟨l3,u3,0⟩/\dotF vf0 v w=⟨l1+l2+l3,u1+u2+u3,0⟩/\Bd (3*M) (l1+l2+l3) (u1+u2+u3):=by
 obtain ⟨l1,u1,e1,b1⟩:=mul_small h.1 k.1 hA hB hM (by omega)
 obtain ⟨l2,u2,e2,b2⟩:=mul_small h.2.1 k.2.1 hA hB hM (by omega)
 obtain ⟨l3,u3,e3,b3⟩:=mul_small h.2.2 k.2.2 hA hB hM (by omega)
 obtain ⟨a1,c1⟩:=add_small b1 b2 (by omega) hM0 hM0
 obtain ⟨a2,c2⟩:=add_small c1 b3 (by omega) (by omega) hM0
 have hdA:dA vf0 v w=⟨l1+l2,u1+u2,0⟩:=by
  unfold dA
  show addS (mulS v.a v.b w.a w.b).lo (mulS v.a v.b w.a w.b).hi (mulS v.c v.d w.c w.d).lo (mulS v.c v.d w.c w.d).hi=_
  rw [e1,e2]; exact a1
 have hdB:dB vf0 v w=⟨l1+l2+l3,u1+u2+u3,0⟩:=by
  unfold dB
  rw [hdA]
  show addS (l1+l2) (u1+u2) (mulS v.e v.f w.e w.f).lo (mulS v.e v.f w.e w.f).hi=_
  rw [e3]; exact a2
 have ht:two3 vf0 v w vf0.mu=0:=by
  unfold two3 z3
  rw [bCk_eq vf0_law]
  unfold bBad
  rw [(h.ok hA).1,(k.ok hB).1]
  show tE (mulS v.a v.b w.a w.b) (mulS v.c v.d w.c w.d) (mulS v.e v.f w.e w.f) 0=0
  rw [e1,e2,e3]; rfl
 refine ⟨l1,u1,l2,u2,l3,u3,e1,e2,e3,?_,?_⟩
 .unfold dotF dE
  rw [ht,hdA,hdB]; rfl
 .have:3*M=M+M+M:=by omega
  rw [this]; exact c2
theorem mulM_small {A B M:Int} {a b:Mat} (h:BdM A a) (k:BdM B b) (hA:A<=4503599627370496) (hB:B<=4503599627370496) (hM:A*B<=M*4294967296) (hM0:0<=M) (hM2:3*M<=4503599627370496):
  mulO ⟨dotF vf0,okSp⟩ a b=0/\BdM (3*M) (mulV ⟨dotF vf0,okSp⟩ a b)/\rmB ⟨dotF vf0,okSp⟩ a b=false/\rmG ⟨dotF vf0,okSp⟩ a b=true:=by
 have kf:BdV B (flip b).x/\BdV B (flip b).y/\BdV B (flip b).z:=by
  obtain ⟨⟨a1,a2,a3⟩,⟨b1,b2,b3⟩,c1,c2,c3⟩:=k
  exact ⟨⟨a1,b1,c1⟩,⟨a2,b2,c2⟩,a3,b3,c3⟩
 have dd:∀ r,BdV A r->∀ s,BdV B s->(dotF vf0 r s).e=0/\Bd (3*M) (dotF vf0 r s).lo (dotF vf0 r s).hi:=fun r hr s hs=>by
  obtain ⟨_,_,_,_,_,_,_,_,_,e,b⟩:=dot_small hr hs hA hB hM hM0 hM2
  rw [e]; exact ⟨rfl,b⟩
 have okM':∀ {C:Int} {m:Mat},BdM C m->C<=4503599627370496->okM ⟨dotF vf0,okSp⟩ m=true:=fun h hC=>by
  unfold okM
  rw [(h.1.ok hC).2,(h.2.1.ok hC).2,(h.2.2.ok hC).2]; rfl
 have hB1:rmB ⟨dotF vf0,okSp⟩ a b=false:=by
  unfold rmB
  rw [okM' h hA,okM' k hB]; rfl
 have hg:∀ r,BdV A r->rg ⟨dotF vf0,okSp⟩ b r=true:=fun r hr=>by
  unfold rg g3
  show (!((dotF vf0 r (flip b).x).e != 0)&&(!((dotF vf0 r (flip b).y).e != 0)&&!((dotF vf0 r (flip b).z).e != 0)))=true
  rw [(dd r hr _ kf.1).1,(dd r hr _ kf.2.1).1,(dd r hr _ kf.2.2).1]; rfl
 have hG:rmG ⟨dotF vf0,okSp⟩ a b=true:=by
  unfold rmG
  rw [hg _ h.1,hg _ h.2.1,hg _ h.2.2]; rfl
 have hI:∀ x,rmI ⟨dotF vf0,okSp⟩ a b x=x:=fun x=>by
  unfold rmI
  rw [hB1,hG]; rfl
 have hrow:∀ r,BdV A r->BdV (3*M) (rmV ⟨dotF vf0,okSp⟩ a b r):=fun r hr=>by
  unfold rmV
  simp only [hI]
  exact ⟨(dd r hr _ kf.1).2,(dd r hr _ kf.2.1).2,(dd r hr _ kf.2.2).2⟩
 refine ⟨?_,⟨hrow _ h.1,hrow _ h.2.1,hrow _ h.2.2⟩,hB1,hG⟩
 unfold mulO
 rw [hB1,hG]; rfl
def uM:Mat:=⟨⟨4294967296,4294967296,0,0,0,0⟩,⟨0,0,4294967296,4294967296,0,0⟩,⟨0,0,0,0,4294967296,4294967296⟩⟩
theorem eqU_of {m:Mat} (h:eqU m=true):m=uM:=by
 unfold eqU at h
 simp only [Bool.and_eq_true,beq_iff_eq,Bool.and_true] at h
 obtain ⟨⟨a,b,c,d,e,f⟩,⟨g,i,j,k,l,n⟩,o,p,q,r,s,t⟩:=m
 obtain ⟨h1,h2,h3,h4,h5,h6,h7,h8,h9,h10,h11,h12,h13,h14,h15,h16,h17,h18⟩:=h
 dsimp only at *
 subst h1 h2 h3 h4 h5 h6 h7 h8 h9 h10 h11 h12 h13 h14 h15 h16 h17 h18
 rfl
theorem mF_one (a:Int) (up:Bool):mF a 4294967296 up=a:=by
 unfold mF rd
 cases up
 .exact Int.mul_ediv_cancel a (by decide)
 .show -(-(a*4294967296) / 4294967296)=a
  rw [<- Int.neg_mul,Int.mul_ediv_cancel _ (by decide)]; omega
theorem mF_zero (a:Int) (up:Bool):mF a 0 up=0:=by
 unfold mF rd
 rw [Int.mul_zero]
 cases up <;> rfl
theorem mul_one {A a b:Int} (h:Bd A a b) (hA:A<=4503599627370496):mulS a b 4294967296 4294967296=⟨a,b,0⟩:=by
 have ok1:=h.ok hA
 obtain ⟨h1,h2,h3⟩:=h
 unfold mulS both hull4
 rw [ok1]
 simp only [mF_one]
 have m1:mn (mn (mn a a) b) b=a:=by
  simp only [mn_eq]
  repeat' split
  all_goals omega
 have m2:mx (mx (mx a a) b) b=b:=by
  simp only [mx_eq]
  repeat' split
  all_goals omega
 rw [m1,m2]
 show toldS a b=_
 exact told_of (by omega) (by omega) (by omega) (by omega)
theorem mul_zero {A a b:Int} (h:Bd A a b) (hA:A<=4503599627370496):mulS a b 0 0=⟨0,0,0⟩:=by
 have ok1:=h.ok hA
 unfold mulS both hull4
 rw [ok1]
 simp only [mF_zero]
 rfl
theorem bd0 (A:Int) (h:0<=A):Bd A 0 0:=⟨by omega,by omega,by omega⟩
theorem bd1 (A:Int) (h:4294967296<=A):Bd A 4294967296 4294967296:=⟨by omega,by omega,by omega⟩
theorem uM_bd:BdM 4294967296 uM:=by
 have z:=bd0 4294967296 (by decide)
 have o:=bd1 4294967296 (by decide)
 exact ⟨⟨o,z,z⟩,⟨z,o,z⟩,z,z,o⟩
theorem row_unit {A:Int} {v:Ve} (h:BdV A v) (hA:A<=1000000000000000) (hA0:0<=A):(dotF vf0 v uM.x)=⟨v.a,v.b,0⟩/\(dotF vf0 v uM.y)=⟨v.c,v.d,0⟩/\(dotF vf0 v uM.z)=⟨v.e,v.f,0⟩:=by
 obtain ⟨u1,u2,u3⟩:=uM_bd
 have hA':A<=4503599627370496:=by omega
 refine ⟨?_,?_,?_⟩
 .obtain ⟨l1,w1,l2,w2,l3,w3,e1,e2,e3,e,_⟩:=dot_small h u1 hA' (by decide) (Int.le_refl _) hA0 (by omega)
  rw [show mulS v.a v.b uM.x.a uM.x.b=mulS v.a v.b 4294967296 4294967296 from rfl,mul_one h.1 hA'] at e1
  rw [show mulS v.c v.d uM.x.c uM.x.d=mulS v.c v.d 0 0 from rfl,mul_zero h.2.1 hA'] at e2
  rw [show mulS v.e v.f uM.x.e uM.x.f=mulS v.e v.f 0 0 from rfl,mul_zero h.2.2 hA'] at e3
  cases e1; cases e2; cases e3
  rw [e,Int.add_zero,Int.add_zero,Int.add_zero,Int.add_zero]
 .obtain ⟨l1,w1,l2,w2,l3,w3,e1,e2,e3,e,_⟩:=dot_small h u2 hA' (by decide) (Int.le_refl _) hA0 (by omega)
  rw [show mulS v.a v.b uM.y.a uM.y.b=mulS v.a v.b 0 0 from rfl,mul_zero h.1 hA'] at e1
  rw [show mulS v.c v.d uM.y.c uM.y.d=mulS v.c v.d 4294967296 4294967296 from rfl,mul_one h.2.1 hA'] at e2
  rw [show mulS v.e v.f uM.y.e uM.y.f=mulS v.e v.f 0 0 from rfl,mul_zero h.2.2 hA'] at e3
  cases e1; cases e2; cases e3
  rw [e,Int.zero_add,Int.add_zero,Int.zero_add,Int.add_zero]
 .obtain ⟨l1,w1,l2,w2,l3,w3,e1,e2,e3,e,_⟩:=dot_small h u3 hA' (by decide) (Int.le_refl _) hA0 (by omega)
  rw [show mulS v.a v.b uM.z.a uM.z.b=mulS v.a v.b 0 0 from rfl,mul_zero h.1 hA'] at e1
  rw [show mulS v.c v.d uM.z.c uM.z.d=mulS v.c v.d 0 0 from rfl,mul_zero h.2.1 hA'] at e2
  rw [show mulS v.e v.f uM.z.e uM.z.f=mulS v.e v.f 4294967296 4294967296 from rfl,mul_one h.2.2 hA'] at e3
  cases e1; cases e2; cases e3
  rw [e,Int.add_zero,Int.zero_add,Int.zero_add]
noncomputable def mf1:MF:=⟨dotF vf0,okSp⟩
theorem mul_unit {A:Int} {m:Mat} (h:BdM A m) (hA:A<=1000000000000000) (hA0:0<=A):mulV mf1 m uM=m:=by
 obtain ⟨_,_,hB,hG⟩:=mulM_small h uM_bd (by omega) (by decide) (Int.le_refl _) hA0 (by omega)
 have hI:∀ x,rmI mf1 m uM x=x:=fun x=>by
  unfold rmI
  rw [show rmB mf1 m uM=false from hB,show rmG mf1 m uM=true from hG]; rfl
 have hrow:∀ r,BdV A r->rmV mf1 m uM r=r:=fun r hr=>by
  obtain ⟨a,b,c⟩:=row_unit hr hA hA0
  unfold rmV
  simp only [hI]
  rw [show mf1.dt r (flip uM).x=_ from a,show mf1.dt r (flip uM).y=_ from b,show mf1.dt r (flip uM).z=_ from c]
 unfold mulV
 rw [hrow _ h.1,hrow _ h.2.1,hrow _ h.2.2]
theorem qu_le {m d:Int}:quLo m d<=quHi m d:=by
 unfold quLo quHi
 repeat' split
 all_goals omega
theorem sn_bd {more n d:Int} (h:snN more n d=true):Bd 13000000000 (snLo more n d) (snHi more n d):=by
 unfold snLo snHi
 cases hB:snBad d with
 | true=>exact bd0 _ (by decide)
 | false=>
  unfold snN at h
  rw [hB] at h
  obtain ⟨a,b,c,d'⟩:=qu_bd h
  have e:=qu_le (m:=snA more n d) (d:=d)
  cases snK n d more==0||snK n d more==1 with
  | true=>
   show Bd _ (quLo _ _) (quHi _ _)
   exact ⟨by omega,e,d'⟩
  | false=>
   show Bd _ (-quHi _ _) (-quLo _ _)
   exact ⟨by omega,by omega,by omega⟩
theorem neg_small {A a b:Int} (h:Bd A a b) (hA:A<=4503599627370496):negS a b=⟨-b,-a,0⟩/\Bd A (-b) (-a):=by
 unfold negS
 rw [h.ok hA]
 obtain ⟨h1,h2,h3⟩:=h
 exact ⟨rfl,by omega,by omega,by omega⟩
theorem ab_bd {a n:Int}:BdM 13000000000 (abA af0 a n):=by
 have s:=sn_bd (snN_deg 0 n)
 have c:=sn_bd (snN_deg 1 n)
 obtain ⟨g1,g2⟩:=neg_small s (by decide)
 have z:=bd0 13000000000 (by decide)
 have o:=bd1 13000000000 (by decide)
 unfold abA
 show BdM _ (abOf (snLo 0 n 360000000) (snHi 0 n 360000000) (snLo 1 n 360000000) (snHi 1 n 360000000) (negS (snLo 0 n 360000000) (snHi 0 n 360000000)) a)
 rw [g1]
 unfold abOf
 cases a==0 with
 | true=>exact ⟨⟨o,z,z⟩,⟨z,c,g2⟩,z,s,c⟩
 | false=>cases a==1 with
  | true=>exact ⟨⟨c,z,s⟩,⟨z,o,z⟩,g2,z,c⟩
  | false=>exact ⟨⟨c,g2,z⟩,⟨s,c,z⟩,z,z,o⟩
noncomputable def rotM1 (x y:Int):Mat:=mulV mf1 (abA af0 1 y) (abA af0 0 x)
noncomputable def rotM (x y z:Int):Mat:=mulV mf1 (abA af0 2 z) (rotM1 x y)
theorem ro_eq (x y z:Int):ro2 ⟨axN,abA af0,mulV mf1,mulO mf1⟩ x y z=rotM x y z:=by
 have e1:ro1 ⟨axN,abA af0,mulV mf1,mulO mf1⟩ x y=rotM1 x y:=by
  unfold ro1 rotM1
  show maIf (eqU (abA af0 0 x)) (abA af0 1 y) (mulV mf1 (abA af0 1 y) (abA af0 0 x))=_
  cases h:eqU (abA af0 0 x) with
  | false=>rfl
  | true=>
   rw [eqU_of h,mul_unit ab_bd (by decide) (by decide)]; rfl
 unfold ro2 rotM
 rw [e1]
 show maIf (eqU (rotM1 x y)) (abA af0 2 z) (mulV mf1 (abA af0 2 z) (rotM1 x y))=_
 cases h:eqU (rotM1 x y) with
 | false=>rfl
 | true=>
  rw [eqU_of h,mul_unit ab_bd (by decide) (by decide)]; rfl
def rBad3 (x y z:Int):Bool:=bif angBad x then true else bif angBad y then true else angBad z
def z0M:Mat:=⟨⟨0,0,0,0,0,0⟩,⟨0,0,0,0,0,0⟩,⟨0,0,0,0,0,0⟩⟩
noncomputable def rotV (x y z:Int):Mat:=bif rBad3 x y z then z0M else rotM x y z
def rotO (x y z:Int):Int:=bif rBad3 x y z then 2 else 0
end Go.Vc
namespace Go.Proofs.Ytmnhhlnbfkfkaaa.K
open Go Go.Eng Go.Dg Go.Ar Go.Vc
noncomputable section
def maT (m:Mat):Tm:=.a [.n .i64 m.x.a,.n .i64 m.x.b,.n .i64 m.x.c,.n .i64 m.x.d,.n .i64 m.x.e,.n .i64 m.x.f,.n .i64 m.y.a,.n .i64 m.y.b,.n .i64 m.y.c,.n .i64 m.y.d,.n .i64 m.y.e,.n .i64 m.y.f,.n .i64 m.z.a,.n .i64 m.z.b,.n .i64 m.z.c,.n .i64 m.z.d,.n .i64 m.z.e,.n .i64 m.z.f]
def sAb (N:Int->Int->Bool) (A:Int->Int->Mat):PSpec:=numSpec shI2 (some fun|[.n m,.n d]=>N m d|_=>false) fun
 | [.n m,.n d]=>maT (A m d)
 | _=>.u []
def tblAb (F:AF):List (FuncId×PSpec):=[(11,sSine F.n0 F.sl F.sh snE),(13,sSine F.n1 F.cl F.ch snE),(8,sUn F.ng)]
theorem tblAb_ok:TblOk Try.prog (tblAb af0):=by
 intro x hx
 simp only [tblAb,List.mem_cons,List.not_mem_nil,or_false] at hx
 rcases hx with rfl|rfl|rfl
 .exact sine_ok
 .exact cosine_ok
 .exact sneg_ok
def cAb (F:AF) (i j:Int):Ctx:=hinting (mkC Try.prog (tblAb F) ext) (hZ [(32,.int false .i64 i),(35,.int false .i64 j)])
theorem cAb_ok (i j:Int):CtxOk (cAb af0 i j):=hinting_ok (mkC_ok prog_ok tblAb_ok ext_ok) _
def zP:AV:=.int false .i64 0
def oP:AV:=.int false .i64 4294967296
def iP (x:Int):AV:=.int true .i64 x
def abL (sl sh cl ch:Int) (m:Sp) (a:Int):List AV:=
 bif a==0 then [oP,oP,zP,zP,zP,zP,zP,zP,iP cl,iP ch,iP m.lo,iP m.hi,zP,zP,iP sl,iP sh,iP cl,iP ch]
 else bif a==1 then [iP cl,iP ch,zP,zP,iP sl,iP sh,zP,zP,oP,oP,zP,zP,iP m.lo,iP m.hi,zP,zP,iP cl,iP ch]
 else [iP cl,iP ch,iP m.lo,iP m.hi,zP,zP,iP sl,iP sh,iP cl,iP ch,zP,zP,zP,zP,zP,zP,oP,oP]
def abV (F:AF) (a n:Int):AV:=.agg (abL (F.sl n 360000000) (F.sh n 360000000) (F.cl n 360000000) (F.ch n 360000000) (F.ng (F.sl n 360000000) (F.sh n 360000000)) a)
theorem about_0 (F:AF) (n:Int):oneV ((run (cAb F 1 2) 300).call 33 [.int true .i64 0,.int true .i64 n] ⟨[],0,1⟩)=some (.p (abN F n 0 1 2),abV F 0 n):=by kernel_rfl
theorem about_1 (F:AF) (n:Int):oneV ((run (cAb F 2 0) 300).call 33 [.int true .i64 1,.int true .i64 n] ⟨[],0,1⟩)=some (.p (abN F n 1 2 0),abV F 1 n):=by kernel_rfl
theorem about_2 (F:AF) (n:Int):oneV ((run (cAb F 0 1) 300).call 33 [.int true .i64 2,.int true .i64 n] ⟨[],0,1⟩)=some (.p (abN F n 2 0 1),abV F 2 n):=by kernel_rfl
theorem abN_t {n a i j:Int} (h:(wr (a+1)).tmod 3=i/\(wr (a+2)).tmod 3=j):abN af0 n a i j:=⟨snN_deg 0 n,snN_deg 1 n,h,⟨⟨rfl,rfl⟩,⟨rfl,rfl⟩,rfl,rfl⟩,⟨⟨rfl,rfl⟩,rfl,rfl⟩,rfl,rfl⟩
theorem about_ok:PureOk Try.prog 33 (sAb axN (abA af0)):=by
 refine num_ok' (fun xs hk hN=>?_) ⟨_,Try.func33,rfl⟩
 obtain ⟨a,_,rfl,h1⟩:=kn hk; obtain ⟨n,_,rfl,h2⟩:=kn h1; obtain rfl:=k0 h2
 have hN:axN a n=true:=hN
 unfold axN at hN
 simp only [Bool.or_eq_true,beq_iff_eq] at hN
 rcases hN with rfl|rfl|rfl
 .exact ⟨_,300,_,_,cAb_ok 1 2,rfl,fun _=>rfl,rfl,about_0 af0 n,abN_t (by decide),fun τ W h=>h⟩
 .exact ⟨_,300,_,_,cAb_ok 2 0,rfl,fun _=>rfl,rfl,about_1 af0 n,abN_t (by decide),fun τ W h=>h⟩
 .exact ⟨_,300,_,_,cAb_ok 0 1,rfl,fun _=>rfl,rfl,about_2 af0 n,abN_t (by decide),fun τ W h=>h⟩
def tblRo (R:RF):List (FuncId×PSpec):=[(33,sAb R.n R.ab),(16,sMM R.mv R.mo)]
def rf0:RF:=⟨axN,abA af0,mulV mf0,mulO mf0⟩
theorem tblRo_ok:TblOk Try.prog (tblRo rf0):=by
 intro x hx
 simp only [tblRo,List.mem_cons,List.not_mem_nil,or_false] at hx
 rcases hx with rfl|rfl
 .exact about_ok
 .exact pmul_ok
def hRo (k:Nat):Nat->Nat->Option AV:=fun c t=>match Nat.beq t 26 with
 | true=>match Nat.ble k c with
  | true=>some (.bool false true)
  | false=>some (.bool false false)
 | false=>none
def cRo (R:RF) (k:Nat):Ctx:=hinting (mkC Try.prog (tblRo R) ext) (hRo k)
theorem cRo_ok (k:Nat):CtxOk (cRo rf0 k):=hinting_ok (mkC_ok prog_ok tblRo_ok ext_ok) _
def shI3:List Sh:=[.i .i64,.i .i64,.i .i64]
def outMa' (m:Mat) (e:AV):AV:=.tuple [(maT m).av true,e]
def badV:AV:=.tuple [.agg [zP,zP,zP,zP,zP,zP,zP,zP,zP,zP,zP,zP,zP,zP,zP,zP,zP,zP],.int false .i64 2]
def i3 (x y z:Int):List AV:=[.int true .i64 x,.int true .i64 y,.int true .i64 z]
theorem rot_e0 (R:RF) (x y z:Int):oneV ((run (cRo R 0) 900).call 19 (i3 x y z) ⟨[],0,1⟩)=some (.p (angOk x true),badV):=by kernel_rfl
theorem rot_e1 (R:RF) (x y z:Int):oneV ((run (cRo R 100) 900).call 19 (i3 x y z) ⟨[],0,1⟩)=some (.p (roN0 R x/\angOk y true),badV):=by kernel_rfl
theorem rot_e2 (R:RF) (x y z:Int):oneV ((run (cRo R 200) 900).call 19 (i3 x y z) ⟨[],0,1⟩)=some (.p (roN0 R x/\roN1 R x y/\angOk z true),badV):=by kernel_rfl
theorem rot_run (R:RF) (x y z:Int):oneV ((run (cRo R 9000) 900).call 19 (i3 x y z) ⟨[],0,1⟩)=some (.p (roN0 R x/\roN1 R x y/\roN2 R x y z),outMa' (ro2 R x y z) (.int false .i64 0)):=by kernel_rfl
def sRot (V:Int->Int->Int->Mat) (E:Int->Int->Int->Int):PSpec:=numSpec shI3 none fun
 | [.n x,.n y,.n z]=>outMa (V x y z) (E x y z)
 | _=>.u []
theorem rot_ok:PureOk Try.prog 19 (sRot rotV rotO):=by
 refine num_ok' (fun xs hk _=>?_) ⟨_,Try.func19,rfl⟩
 obtain ⟨x,_,rfl,h1⟩:=kn hk; obtain ⟨y,_,rfl,h2⟩:=kn h1; obtain ⟨z,_,rfl,h3⟩:=kn h2; obtain rfl:=k0 h3
 have nx:∀ b,angBad x=b->angOk x b:=fun b h=>h ▸ ang_of
 have ny:∀ b,angBad y=b->angOk y b:=fun b h=>h ▸ ang_of
 have nz:∀ b,angBad z=b->angOk z b:=fun b h=>h ▸ ang_of
 have bad:rBad3 x y z=true->∀ τ W,VRel τ badV W->VRel τ ((outMa (rotV x y z) (rotO x y z)).av true) W:=fun h τ W k=>by
  have e1:rotV x y z=z0M:=by unfold rotV; rw [h]; rfl
  have e2:rotO x y z=2:=by unfold rotO; rw [h]; rfl
  rw [e1,e2]; exact k
 cases hx:angBad x with
 | true=>exact ⟨cRo rf0 0,900,_,_,cRo_ok 0,rfl,fun _=>rfl,rfl,rot_e0 rf0 x y z,nx _ hx,bad (by unfold rBad3; rw [hx]; rfl)⟩
 | false=>cases hy:angBad y with
  | true=>exact ⟨cRo rf0 100,900,_,_,cRo_ok 100,rfl,fun _=>rfl,rfl,rot_e1 rf0 x y z,⟨⟨nx _ hx,rfl⟩,ny _ hy⟩,bad (by unfold rBad3; rw [hx,hy]; rfl)⟩
  | false=>cases hz:angBad z with
   | true=>exact ⟨cRo rf0 200,900,_,_,cRo_ok 200,rfl,fun _=>rfl,rfl,rot_e2 rf0 x y z,⟨⟨nx _ hx,rfl⟩,⟨ny _ hy,rfl,maP_t _⟩,nz _ hz⟩,bad (by unfold rBad3; rw [hx,hy,hz]; rfl)⟩
   | false=>
    have hb:rBad3 x y z=false:=by unfold rBad3; rw [hx,hy,hz]; rfl
    refine ⟨cRo rf0 9000,900,_,_,cRo_ok 9000,rfl,fun _=>rfl,rfl,rot_run rf0 x y z,⟨⟨nx _ hx,rfl⟩,⟨ny _ hy,rfl,maP_t _⟩,nz _ hz,rfl,maP_t _⟩,fun τ W k=>?_⟩
    have e1:rotV x y z=ro2 rf0 x y z:=by unfold rotV; rw [hb]; exact (ro_eq x y z).symm
    have e2:rotO x y z=0:=by unfold rotO; rw [hb]; rfl
    show VRel τ ((outMa (rotV x y z) (rotO x y z)).av true) W
    rw [e1,e2]; exact k
end
end Go.Proofs.Ytmnhhlnbfkfkaaa.K
