/- What is proved: FrameUndo returns true, whatever the input (part 13). No conditions beyond those of the row. -/
import Derived.Test.YtbhibbcjfgnmhaaGreatDoorPF
import Derived.Test.YtbhibbcjfgnmhaaGreatDoorPH
import Derived.Test.YtbhibbcjfgnmhaaGreatDoorPJ
import Derived.Test.YtbhibbcjfgnmhaaGreatDoorPK
import Derived.Test.YtbhibbcjfgnmhaaGreatDoorPL
set_option linter.unusedVariables false
set_option linter.unusedSimpArgs false
set_option linter.unusedSectionVars false
namespace Go.Ln
open Go.Sn
theorem aaU:iB (eO*((0*65536:Nat):Rat)) 0 1461501637330902918203684832716283019655932542976 0:=by
 rw [show ((0*65536:Nat):Rat)=0 by decide +kernel,Rat.mul_zero]
 exact ⟨⟨by decide +kernel,by decide +kernel⟩,⟨by decide +kernel,by decide +kernel⟩⟩
theorem WL:(∀ i,i<300->bG eO 0 0 (0+i))/\(false=true->bG eO 0 0 (0+300))/\(false=false->iB (eO*(((0+300)*65536:Nat):Rat)) 491723767112793555795498612041774758507992057067 1376297487019907789050452753447037442090982847263 133958303):=
 jJ rC.1 rC.2 Ia (xb:=0) (xj:=0) (b:=0) (n:=300) (by decide) (by decide +kernel) aaU aaM
theorem aaV:iB (eO*((300*65536:Nat):Rat)) 491723767112793555795498612041774758507992057067 1376297487019907789050452753447037442090982847263 133958303:=WL.2.2 rfl
theorem WM:(∀ i,i<157->bG eO 1099511627776 0 (300+i))/\(false=true->bG eO 1099511627776 0 (300+157))/\(false=false->iB (eO*(((300+157)*65536:Nat):Rat)) 729644950198729587218318087119915998754557351695 1266335375234540110609189336721958329832559696295 234910995):=
 jJ rC.1 rC.2 Ia (xb:=1099511627776) (xj:=0) (b:=300) (n:=157) (by decide) (by decide +kernel) aaV aaN
theorem aaW:iB (eO*((457*65536:Nat):Rat)) 729644950198729587218318087119915998754557351695 1266335375234540110609189336721958329832559696295 234910995:=WM.2.2 rfl
theorem WN:(∀ i,i<1->bG eO 457 50048 (457+i))/\(false=true->bG eO 457 50048 (457+1))/\(false=false->iB (eO*(((457+1)*65536:Nat):Rat)) 731092931013171720070226495733466350965335483406 1265499965287822447093903958231062750521594118680 235627513):=
 jJ rC.1 rC.2 Ia (xb:=457) (xj:=50048) (b:=457) (n:=1) (by decide) (by decide +kernel) aaW aaO
theorem aaX:iB (eO*((458*65536:Nat):Rat)) 731092931013171720070226495733466350965335483406 1265499965287822447093903958231062750521594118680 235627513:=WN.2.2 rfl
theorem WO:(∀ i,i<300->bG eO 1099511627776 0 (458+i))/\(false=true->bG eO 1099511627776 0 (458+300))/\(false=false->iB (eO*(((458+300)*65536:Nat):Rat)) 1114249708893877961256421979335504232843459056456 945745537737724831270633298625650855402991968426 496215464):=
 jJ rC.1 rC.2 Ia (xb:=1099511627776) (xj:=0) (b:=458) (n:=300) (by decide) (by decide +kernel) aaX aaP
theorem aaY:iB (eO*((758*65536:Nat):Rat)) 1114249708893877961256421979335504232843459056456 945745537737724831270633298625650855402991968426 496215464:=WO.2.2 rfl
theorem WP:(∀ i,i<300->bG eO 1099511627776 0 (758+i))/\(false=true->bG eO 1099511627776 0 (758+300))/\(false=false->iB (eO*(((758+300)*65536:Nat):Rat)) 1367487098036901671079540867482308849593552803733 515718986099526260404082505738404267698583895357 859324643):=
 jJ rC.1 rC.2 Ia (xb:=1099511627776) (xj:=0) (b:=758) (n:=300) (by decide) (by decide +kernel) aaY aaQ
theorem aaZ:iB (eO*((1058*65536:Nat):Rat)) 1367487098036901671079540867482308849593552803733 515718986099526260404082505738404267698583895357 859324643:=WP.2.2 rfl
theorem WQ:(∀ i,i<300->bG eO 1099511627776 0 (1058+i))/\(false=true->bG eO 1099511627776 0 (1058+300))/\(false=false->iB (eO*(((1058+300)*65536:Nat):Rat)) 1461278102347580420390992143793243405547439853059 25560585289941313696877371623118747667185928943 1348183688):=
 jJ rC.1 rC.2 Ia (xb:=1099511627776) (xj:=0) (b:=1058) (n:=300) (by decide) (by decide +kernel) aaZ aaR
theorem aa0:iB (eO*((1358*65536:Nat):Rat)) 1461278102347580420390992143793243405547439853059 25560585289941313696877371623118747667185928943 1348183688:=WQ.2.2 rfl
theorem WR:(∀ i,i<15->bG eO 1099511627776 0 (1358+i))/\(false=true->bG eO 1099511627776 0 (1358+15))/\(false=false->iB (eO*(((1358+15)*65536:Nat):Rat)) 1461501556362323844055996107259669251754042917643 486488864438371563241217903659373086848347437 1376494256):=
 jJ rC.1 rC.2 Ia (xb:=1099511627776) (xj:=0) (b:=1358) (n:=15) (by decide) (by decide +kernel) aa0 aaS
theorem aa1:iB (eO*((1373*65536:Nat):Rat)) 1461501556362323844055996107259669251754042917643 486488864438371563241217903659373086848347437 1376494256:=WR.2.2 rfl
theorem aa2:(∀ i,i<0->bG eO 1373 19072 (1373+i))/\(true=true->bG eO 1373 19072 (1373+0))/\(true=false->iB (eO*(((1373+0)*65536:Nat):Rat)) 0 0 0):=
 jJ rC.1 rC.2 Ia (xb:=1373) (xj:=19072) (b:=1373) (n:=0) (by decide) (by decide +kernel) aa1 aaT
theorem Y6 {u:Nat} (h0:0<u) (h1:u<90000000) (h2:u≠30000000):∃ k:Int,VG (eO*(u:Rat)) k:=by
 have key:∀ b j,b=u / 65536->j=u % 65536->∃ xb xj,bG eO xb xj b/\¬(b=xb/\j=xj):=by
  intro b j hb hj
  rcases Nat.lt_or_ge b 300 with g|g
  .refine ⟨0,0,?_,by omega⟩
   have:=WL.1 (b - 0) (by omega)
   rwa [show 0+(b - 0)=b by omega] at this
  rcases Nat.lt_or_ge b 457 with g|g
  .refine ⟨1099511627776,0,?_,by omega⟩
   have:=WM.1 (b - 300) (by omega)
   rwa [show 300+(b - 300)=b by omega] at this
  rcases Nat.lt_or_ge b 458 with g|g
  .refine ⟨457,50048,?_,by omega⟩
   have:=WN.1 (b - 457) (by omega)
   rwa [show 457+(b - 457)=b by omega] at this
  rcases Nat.lt_or_ge b 758 with g|g
  .refine ⟨1099511627776,0,?_,by omega⟩
   have:=WO.1 (b - 458) (by omega)
   rwa [show 458+(b - 458)=b by omega] at this
  rcases Nat.lt_or_ge b 1058 with g|g
  .refine ⟨1099511627776,0,?_,by omega⟩
   have:=WP.1 (b - 758) (by omega)
   rwa [show 758+(b - 758)=b by omega] at this
  rcases Nat.lt_or_ge b 1358 with g|g
  .refine ⟨1099511627776,0,?_,by omega⟩
   have:=WQ.1 (b - 1058) (by omega)
   rwa [show 1058+(b - 1058)=b by omega] at this
  rcases Nat.lt_or_ge b 1373 with g|g
  .refine ⟨1099511627776,0,?_,by omega⟩
   have:=WR.1 (b - 1358) (by omega)
   rwa [show 1358+(b - 1358)=b by omega] at this
  refine ⟨1373,19072,?_,by omega⟩
  have:=aa2.2.1 rfl
  rwa [show 1373+0=b by omega] at this
 obtain ⟨xb,xj,k1,k2⟩:=key _ _ rfl rfl
 have:=k1 (u % 65536) (by omega) k2
 rwa [show u / 65536*65536+u % 65536=u by omega] at this
end Go.Ln
namespace Go.Dg
open Go Go.Eng Go.Sn Go.Ln
def ovB (m d:Int):Bool:=(m==4&&d==4294967296)||((m==4294967292&&d==4294967296)||(m==2147483648&&d==3221225472))
def quN (m d:Int):Bool:=decide (0<=m)&&(decide (m<=d)&&(decide (1<=d)&&(decide (d<=4294967296)&&((decide (d<1000000000)||ovB m d)&&(m==0||(m==d||(3*m==d||((d==360000000&&m.tmod 4==0)||YZ m d))))))))
theorem Ls {m:Int} (h0:0<m) (h1:m<360000000) (h3:3*m≠360000000) (h4:m % 4=0):∃ k,Ra ((m:Rat) / ((360000000:Int):Rat)) k:=by
 obtain ⟨k,hk⟩:=Y6 (u:=(m / 4).toNat) (by omega) (by omega) (by omega)
 refine ⟨k,?_⟩
 have e:eO*(((m / 4).toNat:Nat):Rat)=hp*((m:Rat) / ((360000000:Int):Rat)):=by
  have e1:(m:Rat)=4*(((m / 4).toNat:Nat):Rat):=by
   have:m=4*(((m / 4).toNat:Nat):Int):=by omega
   have h:=congrArg (fun z:Int=>(z:Rat)) this
   simp only [Rat.intCast_mul,Rat.intCast_natCast] at h
   rw [h]
   have:((4:Int):Rat)=4:=by decide +kernel
   rw [this]
  have e2:((360000000:Int):Rat)=360000000:=by decide +kernel
  rw [e1,e2]
  unfold eO
  grind
 unfold VG at hk
 unfold Ra tru
 rw [<- e]; exact hk
theorem VI {m:Int} (h0:0<m) (h1:m<360000000) (h3:3*m≠360000000) (h4:m % 4=0):SinG m 360000000:=by
 obtain ⟨k,hk⟩:=Ls h0 h1 h3 h4
 exact (Rb h0 h1 (by decide) hk).1
theorem Rm {m d:Int} (h:quN m d=true):0<=m/\m<=d/\1<=d/\d<=4294967296/\(d<1000000000\/ovB m d=true)/\(m=0\/m=d\/3*m=d\/SinG m d):=by
 unfold quN at h
 simp only [Bool.and_eq_true,Bool.or_eq_true,decide_eq_true_eq,beq_iff_eq] at h
 obtain ⟨a,b,c,d',e,f⟩:=h
 refine ⟨a,b,c,d',e,?_⟩
 rcases f with f|f|f|f|f
 .exact .inl f
 .exact .inr (.inl f)
 .exact .inr (.inr (.inl f))
 .obtain ⟨rfl,f⟩:=f
  by_cases z:m=0
  .exact .inl z
  by_cases z1:m=360000000
  .exact .inr (.inl z1)
  by_cases z3:3*m=360000000
  .exact .inr (.inr (.inl z3))
  exact .inr (.inr (.inr (VI (by omega) (by omega) z3 (by rw [Int.tmod_eq_emod_of_nonneg a] at f; exact f))))
 .exact .inr (.inr (.inr (VA f)))
def wr (x:Int):Int:=IntKind.i64.wrap x
def siR (n d:Int):Int:=(wr (n.tmod d+d)).tmod d
def siQ (n d:Int):Int:=wr ((wr (4*siR n d)).tdiv d)
def siM (n d:Int):Int:=wr (wr (4*siR n d) - wr (siQ n d*d))
def siK (n d more:Int):Int:=(wr (siQ n d+more)).tmod 4
def siA (q n d:Int):Int:=bif q==0||q==2 then siM n d else wr (d - siM n d)
def snR (n d:Int):Int:=n % d
def snQ (n d:Int):Int:=4*snR n d / d
def snM (n d:Int):Int:=4*snR n d % d
def snK (n d more:Int):Int:=(snQ n d+more) % 4
def snA (more n d:Int):Int:=bif snK n d more==0||snK n d more==2 then snM n d else d - snM n d
def rR (d:Int):Bool:=bif decide (d<1) then true else decide (d>4294967296)
def snN (more n d:Int):Bool:=rR d||quN (snA more n d) d
def iQ (more n d:Int):Int:=bif rR d then 0 else bif snK n d more==0||snK n d more==1 then gQ (snA more n d) d else -gT (snA more n d) d
def iR (more n d:Int):Int:=bif rR d then 0 else bif snK n d more==0||snK n d more==1 then gT (snA more n d) d else -gQ (snA more n d) d
def snE (d:Int):Int:=bif rR d then 2 else 0
theorem qz {x:Int} (h1:-9223372036854775808<=x) (h2:x<=9223372036854775807):wr x=x:=by
 exact iw h1 (by omega)
theorem Rn {n d:Int} (h0:1<=d):(n.tmod d+d).tmod d=n % d/\0<=n.tmod d+d/\n.tmod d+d<2*d:=by
 have e0:0<=n % d:=Int.emod_nonneg _ (by omega)
 have e1:n % d<d:=Int.emod_lt_of_pos _ (by omega)
 have h:n.tmod d=n % d\/n.tmod d=n % d - d:=by
  rw [Int.tmod_eq_emod]
  split
  .left; omega
  .right; omega
 refine ⟨?_,by omega,by omega⟩
 rw [Int.tmod_eq_emod_of_nonneg (by omega)]
 rcases h with h|h
 .rw [h,Int.add_emod_right,Int.emod_emod_of_dvd _ (Int.dvd_refl d)]
 .rw [h,Int.sub_add_cancel,Int.emod_emod_of_dvd _ (Int.dvd_refl d)]
theorem AL {n d:Int} (h0:1<=d) (h1:d<=4294967296):siR n d=snR n d/\siQ n d=snQ n d/\siM n d=snM n d/\0<=snQ n d/\snQ n d<=3/\0<=snM n d/\snM n d<d:=by
 obtain ⟨t1,t2,t3⟩:=Rn (n:=n) h0
 have r0:0<=snR n d:=Int.emod_nonneg _ (by omega)
 have r1:snR n d<d:=Int.emod_lt_of_pos _ (by omega)
 have eR:siR n d=snR n d:=by
  unfold siR
  rw [qz (by omega) (by omega),t1]; rfl
 have e4:wr (4*snR n d)=4*snR n d:=qz (by omega) (by omega)
 have q0:0<=snQ n d:=Int.ediv_nonneg (by omega) (by omega)
 have q3:snQ n d<4:=(Int.ediv_lt_iff_lt_mul (by omega)).2 (by omega)
 have eQ:siQ n d=snQ n d:=by
  unfold siQ
  rw [eR,e4,Int.tdiv_eq_ediv_of_nonneg (by omega)]
  exact qz (by show _<=snQ n d; omega) (by show snQ n d<=_; omega)
 have m0:0<=snM n d:=Int.emod_nonneg _ (by omega)
 have m1:snM n d<d:=Int.emod_lt_of_pos _ (by omega)
 have eM:siM n d=snM n d:=by
  have hd:4*snR n d=d*snQ n d+snM n d:=(Int.mul_ediv_add_emod _ _).symm
  have qd0:0<=d*snQ n d:=Int.mul_nonneg (by omega) q0
  unfold siM
  rw [eR,e4,eQ,Int.mul_comm (snQ n d) d,qz (x:=d*snQ n d) (by omega) (by omega),qz (by omega) (by omega)]
  omega
 exact ⟨eR,eQ,eM,q0,by omega,m0,m1⟩
theorem acz {n d more:Int} (h0:1<=d) (h1:d<=4294967296) (h2:0<=more) (h3:more<=1):siK n d more=snK n d more/\0<=snK n d more/\snK n d more<=3:=by
 obtain ⟨_,e,_,q0,q3,_,_⟩:=AL (n:=n) h0 h1
 refine ⟨?_,Int.emod_nonneg _ (by decide),by have:=Int.emod_lt_of_pos (snQ n d+more) (b:=4) (by decide); unfold snK; omega⟩
 unfold siK snK
 rw [e,qz (by omega) (by omega),Int.tmod_eq_emod_of_nonneg (by omega)]
theorem acA {n d more:Int} (h0:1<=d) (h1:d<=4294967296):siA (snK n d more) n d=snA more n d:=by
 obtain ⟨_,_,e,_,_,m0,m1⟩:=AL (n:=n) h0 h1
 unfold siA snA
 rw [e,qz (by omega) (by omega)]
theorem WS {m d:Int} (h:quN m d=true):0<=gQ m d/\gQ m d<=13000000000/\0<=gT m d/\gT m d<=13000000000:=by
 obtain ⟨_,_,_,_,_,g⟩:=Rm h
 unfold gQ gT
 by_cases z:m=0
 .rw [if_pos z,if_pos z]; omega
 by_cases z1:m=d
 .rw [if_neg z,if_neg z,if_pos z1,if_pos z1]; omega
 by_cases z3:3*m=d
 .rw [if_neg z,if_neg z,if_neg z1,if_neg z1,if_pos z3,if_pos z3]; omega
 rw [if_neg z,if_neg z,if_neg z1,if_neg z1,if_neg z3,if_neg z3]
 rcases g with g|g|g|g
 .exact absurd g z
 .exact absurd g z1
 .exact absurd g z3
 have p:=gm
 have:=g.far
 have:=g.hi
 have a:0<=kX m d:=Int.ediv_nonneg (Int.mul_nonneg (by omega) (by decide)) (by omega)
 have b:kX m d<=12884901888:=by
  refine Int.ediv_le_of_le_mul p ?_
  have e:(12884901888:Int)*PP=3*PP*4294967296:=by decide
  rw [e]
  exact Int.mul_le_mul_of_nonneg_right (by omega) (by decide)
 omega
end Go.Dg
namespace Go.Proofs.YtbhibbcjfgnmhaaGreatDoor.K
open Go Go.Eng Go.Dg Go.Ar Go.Vc
noncomputable section
def Y7:List Sh:=[.i .i64,.i .i64]
def aa3 (N:Int->Int->Bool) (V:Int->Int->Int×Int):aF:=aJ Y7 (some fun|[.n m,.n d]=>N m d|_=>false) fun
 | [.n m,.n d]=>.a [.n .i64 (V m d).1,.n .i64 (V m d).2]
 | _=>.u []
theorem Y8 {m d:Int} (h:ovB m d=true):OvC (aa (RG*m).toNat) (aa d.toNat):=by
 have dec:∀ {l:List Int},(∀ x∈l,0<=x/\x<1000000000)->Dig l:=fun h x hx=>h x hx
 unfold ovB at h
 simp only [Bool.or_eq_true,Bool.and_eq_true,beq_iff_eq] at h
 have key:∀ {l:List Int} {v:Int},val l=v->(∀ x∈l,0<=x/\x<1000000000)->Top l->aa v.toNat=l:=fun {l v} e h t=>by rw [<- e]; exact mQ h t
 rcases h with ⟨rfl,rfl⟩|⟨rfl,rfl⟩|⟨rfl,rfl⟩
 .exact .inl ⟨key (l:=oA1) (by decide) (by decide) (by unfold Top; decide),key (l:=oB1) (by decide) (by decide) (by unfold Top; decide)⟩
 .exact .inr (.inl ⟨key (l:=oA2) (by decide) (by decide) (by unfold Top; decide),key (l:=oB2) (by decide) (by decide) (by unfold Top; decide)⟩)
 .exact .inr (.inr ⟨key (l:=oA3) (by decide) (by decide) (by unfold Top; decide),key (l:=oB3) (by decide) (by decide) (by unfold Top; decide)⟩)
theorem yD {x:Option CR} {nd:Nd} {l:List AV} {h:Hp} (e:x=some ⟨nd,[⟨.tt,.agg l,h⟩]⟩):gD x=some (nd,.agg l):=by rw [e]; rfl
theorem Y9:PureOk Tryz.prog 133 (aa3 quN fun m d=>(gQ m d,gT m d)):=by
 refine num_ok' (fun xs hk hN=>?_) ⟨_,Tryz.func133,rfl⟩
 obtain ⟨m,_,rfl,h1⟩:=kn hk; obtain ⟨d,_,rfl,h2⟩:=kn h1; obtain rfl:=k0 h2
 have hN:quN m d=true:=hN
 obtain ⟨m0,m1,d0,d1,dc,h⟩:=Rm hN
 have dc:d<1000000000\/OvC (aa (RG*m).toNat) (aa d.toNat):=dc.imp id Y8
 have w3:IntKind.i64.wrap (3*m)=3*m:=iw (by omega) (by omega)
 by_cases hz:m=0
 .refine ⟨cQu [(14,true)],300,.p _,_,Eu _,rfl,fun _=>rfl,rfl,yD (acs m d),beq_iff_eq.2 hz,fun τ W h=>?_⟩
  show VRel τ (.agg [.int true .i64 (gQ m d),.int true .i64 (gT m d)]) W
  unfold gQ gT
  rw [if_pos hz,if_pos hz]; exact h
 by_cases hd:m=d
 .refine ⟨cQu [(14,false),(19,true)],300,.p _,_,Eu _,rfl,fun _=>rfl,rfl,yD (acu m d),⟨beq_eq_false_iff_ne.2 hz,beq_iff_eq.2 hd⟩,fun τ W h=>?_⟩
  show VRel τ (.agg [.int true .i64 (gQ m d),.int true .i64 (gT m d)]) W
  unfold gQ gT
  rw [if_neg hz,if_neg hz,if_pos hd,if_pos hd]; exact h
 by_cases h3:3*m=d
 .refine ⟨cQu [(14,false),(19,false),(25,true)],300,.p _,_,Eu _,rfl,fun _=>rfl,rfl,yD (acv m d),⟨beq_eq_false_iff_ne.2 hz,beq_eq_false_iff_ne.2 hd,?_⟩,fun τ W h=>?_⟩
  .rw [w3]; exact beq_iff_eq.2 h3
  show VRel τ (.agg [.int true .i64 (gQ m d),.int true .i64 (gT m d)]) W
  unfold gQ gT
  rw [if_neg hz,if_neg hz,if_neg hd,if_neg hd,if_pos h3,if_pos h3]; exact h
 have g:SinG m d:=by
  rcases h with h|h|h|h
  .exact absurd h hz
  .exact absurd h hd
  .exact absurd h h3
  .exact h
 have p:=gm
 have hm:0<m:=by omega
 have fr:=g.far
 have hi:=g.hi
 obtain ⟨e1,e2⟩:=Ey hm m1
 obtain ⟨e3,e4⟩:=Vz hm m1 (by omega)
 have er:val (aa RGT.toNat)=RG:=dv (by decide)
 have em:val (aa m.toNat)=m:=dv m0
 have ed:val (aa d.toNat)=d:=dv (by omega)
 have e8:val [100000000]=100000000:=vH _
 have hr:0<RG:=by decide
 have ea:val (aa (RG*m).toNat)=RG*m:=dv (Int.mul_nonneg (by omega) m0)
 have lr:(aa RGT.toNat).length<=6:=jR (a:=RGT) (by decide) (by decide)
 have lm:(aa m.toNat).length<=2:=jw m0 (by rw [show pw 2=1000000000000000000 from by decide]; omega)
 have ld0:0<(aa d.toNat).length:=HY (by omega)
 have la:(aa (RG*m).toNat).length<=7:=jw (Int.mul_nonneg (by omega) m0) (by
  have:RG*m<=RG*4294967296:=Int.mul_le_mul_of_nonneg_left (by omega) (by omega)
  have e:RG*4294967296<pw 7:=by decide
  omega)
 have ls:(quS m d).length<=6:=by rw [e3]; exact jR (by omega) (by omega)
 have ls0:0<(quS m d).length:=by rw [e3]; exact HY (by omega)
 have dS:Dig (quS m d):=by rw [e3]; exact aC _
 have tS:Top (quS m d):=by rw [e3]; exact qb _
 have d8:Dig [100000000]:=vI (by decide) (by decide)
 have t8:Top [100000000]:=by have:=qb 100000000; rwa [show aa 100000000=[100000000] from by rw [fK (by decide),show 100000000 / 1000000000=0 from rfl,fq]; rfl] at this
 have hda:d<=RG*m:=by
  have:RG*1<=RG*m:=Int.mul_le_mul_of_nonneg_left (by omega) (by omega)
  have e:(4294967296:Int)<RG:=by decide
  omega
 have hc:¬ rz (quS m d) [100000000]<=0:=fun hh=>by
  have:=(UY dS d8 tS t8 (by omega) (by show 1<=500000; omega)).2 (by rw [e4,e8]; omega)
  omega
 have vm:val (aa (val (quS m d) - val [100000000]).toNat)=mR m d - 100000000:=by rw [e4,e8]; exact dv (by omega)
 have vp:val (aa (val (quS m d)+val [100000000]).toNat)=mR m d+100000000:=by rw [e4,e8]; exact dv (by omega)
 have dm:DwD (aa (val (quS m d) - val [100000000]).toNat):=by rw [e4,e8]; exact QZ (by omega) (by omega)
 have dp:DwD (aa (val (quS m d)+val [100000000]).toNat):=by
  rw [e4,e8]
  refine QZ (by omega) ?_
  have:(100000000:Int)<PP:=by decide
  omega
 obtain ⟨lo0,lo1⟩:=Q0 g
 have hov:(Dig (aa (RG*m).toNat)/\Dig (aa d.toNat)/\Top (aa (RG*m).toNat)/\Top (aa d.toNat)/\(aa (RG*m).toNat).length<=500000/\(aa d.toNat).length=1/\0<d/\d<=RG*m)\/OvC (aa (RG*m).toNat) (aa d.toNat):=by
  rcases dc with dc|dc
  .have ld:(aa d.toNat).length<=1:=jw (by omega) (by rw [show pw 1=1000000000 from by decide]; omega)
   exact .inl ⟨aC _,aC _,qb _,qb _,by omega,by omega,by omega,hda⟩
  .exact .inr dc
 refine ⟨cQu [(14,false),(19,false),(25,false),(55,false),(67,false)],300,.p _,_,Eu _,rfl,fun _=>rfl,rfl,yD (acr m d),?_,fun τ W h=>?_⟩
 .unfold Lf
  rw [vm,vp,er,em,ea,ed]
  refine ⟨⟨beq_eq_false_iff_ne.2 hz,beq_eq_false_iff_ne.2 hd,by rw [w3]; exact beq_eq_false_iff_ne.2 h3⟩,⟨⟨QY,by decide,by decide⟩,⟨hm,by omega⟩,⟨⟨rfl,rfl⟩,aC _,aC _,by omega⟩,⟨by omega,by omega⟩,⟨rfl,rfl⟩,hov⟩,⟨rfl,rfl,aaD hm m1 g⟩,⟨⟨rfl,by show _<=_; omega,by show 1<=500000; omega⟩,decide_eq_false hc⟩,⟨⟨rfl,dS,d8,ls0,by omega,by show 1<=_; omega,by rw [e4,e8]; omega⟩,rfl,rfl,dm⟩,⟨rfl,dS,d8,.inl ls0,by omega,by show 1<=_; omega⟩,⟨rfl,rfl,dp⟩,KX.2 g.same⟩
 .show VRel τ (.agg [.int true .i64 (gQ m d),.int true .i64 (gT m d)]) W
  unfold gQ gT
  rw [if_neg hz,if_neg hz,if_neg hd,if_neg hd,if_neg h3,if_neg h3]
  have e5:JJ m d=.agg [.int true .i64 (kX m d),.int true .i64 (kX m d+1)]:=by
   unfold JJ
   rw [vm]
   show AV.agg [.int true .i64 (kX m d),.int true .i64 (IntKind.i64.wrap (kX m d+1))]=_
   rw [iw (by omega) (by omega)]
  rw [<- e5]; exact h
def aa4 (N:Int->Int->Bool) (V:Int->Int->Int×Int):List (FuncId×aF):=[(133,aa3 N V)]
def cSi (N:Int->Int->Bool) (V:Int->Int->Int×Int) (b:Bool) (q:Int):Ctx:=gK (mkC Tryz.prog (aa4 N V) ext) (hZ [(15,.bool false b),(32,.int false .i64 q)])
theorem Ro (b:Bool) (q:Int):CtxOk (cSi quN (fun m d=>(gQ m d,gT m d)) b q):=cz (oD prog_ok (fun x hx=>by
 rcases List.mem_singleton.1 hx with rfl
 exact Y9) ext_ok) _
def Ib (N:Int->Int->Bool) (L H:Int->Int->Int) (E:Int->Int):aF:=aJ Y7 (some fun|[.n m,.n d]=>N m d|_=>false) fun
 | [.n m,.n d]=>.u [.a [.n .i64 (L m d),.n .i64 (H m d)],.n .i64 (E d)]
 | _=>.u []
def siN (N:Int->Int->Bool) (n d more q:Int):Prop:=((decide (d<1)=true->true=false)/\(decide (d<1)=false->decide (d>4294967296)=false))/\(d≠0/\d≠0)/\d≠0/\siK n d more=q/\N (siA q n d) d=true
def siL (V:Int->Int->Int×Int) (q n d:Int):Int:=bif q==0||q==1 then (V (siA q n d) d).1 else wr (0 - (V (siA q n d) d).2)
def siH (V:Int->Int->Int×Int) (q n d:Int):Int:=bif q==0||q==1 then (V (siA q n d) d).2 else wr (0 - (V (siA q n d) d).1)
def siO (V:Int->Int->Int×Int) (q n d:Int):AV:=.tuple [.agg [.int true .i64 (siL V q n d),.int true .i64 (siH V q n d)],.int false .i64 0]
def siX (f:FuncId) (N:Int->Int->Bool) (V:Int->Int->Int×Int) (n d more q:Int):Prop:=gD ((run (cSi N V false q) 300).call f [.int true .i64 n,.int true .i64 d] ⟨[],0,1⟩)=some (.p (siN N n d more q),siO V q n d)
theorem Za (N:Int->Int->Bool) (V:Int->Int->Int×Int) (n d:Int):siX 86 N V n d 0 0:=by unfold siX; kernel_rfl
theorem Zb (N:Int->Int->Bool) (V:Int->Int->Int×Int) (n d:Int):siX 86 N V n d 0 1:=by unfold siX; kernel_rfl
theorem Zc (N:Int->Int->Bool) (V:Int->Int->Int×Int) (n d:Int):siX 86 N V n d 0 2:=by unfold siX; kernel_rfl
theorem Zd (N:Int->Int->Bool) (V:Int->Int->Int×Int) (n d:Int):siX 86 N V n d 0 3:=by unfold siX; kernel_rfl
theorem aa5 (N:Int->Int->Bool) (V:Int->Int->Int×Int) (n d:Int):siX 87 N V n d 1 0:=by unfold siX; kernel_rfl
theorem aa6 (N:Int->Int->Bool) (V:Int->Int->Int×Int) (n d:Int):siX 87 N V n d 1 1:=by unfold siX; kernel_rfl
theorem aa7 (N:Int->Int->Bool) (V:Int->Int->Int×Int) (n d:Int):siX 87 N V n d 1 2:=by unfold siX; kernel_rfl
theorem aa8 (N:Int->Int->Bool) (V:Int->Int->Int×Int) (n d:Int):siX 87 N V n d 1 3:=by unfold siX; kernel_rfl
def siB (d:Int):Prop:=(decide (d<1)=true->true=true)/\(decide (d<1)=false->decide (d>4294967296)=true)
theorem Ze (N:Int->Int->Bool) (V:Int->Int->Int×Int) (n d:Int):gD ((run (cSi N V true 0) 300).call 86 [.int true .i64 n,.int true .i64 d] ⟨[],0,1⟩)=some (.p (siB d),.tuple [.agg [.int false .i64 0,.int false .i64 0],.int false .i64 2]):=by kernel_rfl
theorem aa9 (N:Int->Int->Bool) (V:Int->Int->Int×Int) (n d:Int):gD ((run (cSi N V true 0) 300).call 87 [.int true .i64 n,.int true .i64 d] ⟨[],0,1⟩)=some (.p (siB d),.tuple [.agg [.int false .i64 0,.int false .i64 0],.int false .i64 2]):=by kernel_rfl
theorem Rp {f:FuncId} {more:Int} (hm:0<=more/\more<=1) (fn:∃ fn:Func,Tryz.prog.funcs[f]?=some fn/\fn.body.isSome=true)
  (h:∀ n d q,0<=q->q<=3->siX f quN (fun m d=>(gQ m d,gT m d)) n d more q)
  (hb:∀ n d,gD ((run (cSi quN (fun m d=>(gQ m d,gT m d)) true 0) 300).call f [.int true .i64 n,.int true .i64 d] ⟨[],0,1⟩)=some (.p (siB d),.tuple [.agg [.int false .i64 0,.int false .i64 0],.int false .i64 2])):
  PureOk Tryz.prog f (Ib (snN more) (iQ more) (iR more) snE):=by
 refine num_ok' (fun xs hk hN=>?_) fn
 obtain ⟨n,_,rfl,h1⟩:=kn hk; obtain ⟨d,_,rfl,h2⟩:=kn h1; obtain rfl:=k0 h2
 have hN:snN more n d=true:=hN
 cases hB:rR d with
 | true=>
  refine ⟨_,300,_,_,Ro true 0,rfl,fun _=>rfl,rfl,hb n d,?_,fun τ W h=>?_⟩
  .refine ⟨fun _=>rfl,fun h=>?_⟩
   unfold rR at hB
   rw [h] at hB; exact hB
  .show VRel τ (.tuple [.agg [.int true .i64 (iQ more n d),.int true .i64 (iR more n d)],.int true .i64 (snE d)]) W
   have e:iQ more n d=0/\iR more n d=0/\snE d=2:=by
    unfold iQ iR snE
    rw [hB]; exact ⟨rfl,rfl,rfl⟩
   rw [e.1,e.2.1,e.2.2]; exact h
 | false=>
  have hd:decide (d<1)=false/\decide (d>4294967296)=false:=by
   unfold rR at hB
   cases h3:decide (d<1) with
   | true=>rw [h3] at hB; cases hB
   | false=>rw [h3] at hB; exact ⟨rfl,hB⟩
  have d0:1<=d:=by have:=of_decide_eq_false hd.1; omega
  have d1:d<=4294967296:=by have:=of_decide_eq_false hd.2; omega
  have hq:quN (snA more n d) d=true:=by
   unfold snN at hN
   rw [hB] at hN; exact hN
  obtain ⟨k1,k2,k3⟩:=acz (n:=n) d0 d1 hm.1 hm.2
  have ea:=acA (n:=n) (more:=more) d0 d1
  obtain ⟨b1,b2,b3,b4⟩:=WS hq
  refine ⟨_,300,_,_,Ro false (snK n d more),rfl,fun _=>rfl,rfl,h n d _ k2 k3,?_,fun τ W h=>?_⟩
  .refine ⟨⟨fun h=>(by rw [hd.1] at h; cases h),fun _=>hd.2⟩,⟨by omega,by omega⟩,by omega,k1,?_⟩
   rw [ea]; exact hq
  .show VRel τ (.tuple [.agg [.int true .i64 (iQ more n d),.int true .i64 (iR more n d)],.int true .i64 (snE d)]) W
   have e:iQ more n d=siL (fun m d=>(gQ m d,gT m d)) (snK n d more) n d/\iR more n d=siH (fun m d=>(gQ m d,gT m d)) (snK n d more) n d/\snE d=0:=by
    unfold iQ iR snE siL siH
    rw [hB,ea]
    dsimp only
    rw [qz (x:=0 - gT (snA more n d) d) (by omega) (by omega),qz (x:=0 - gQ (snA more n d) d) (by omega) (by omega),Int.zero_sub,Int.zero_sub]
    exact ⟨rfl,rfl,rfl⟩
   rw [e.1,e.2.1,e.2.2]; exact h
theorem q4 {q:Int} (h0:0<=q) (h1:q<=3):q=0\/q=1\/q=2\/q=3:=by omega
theorem VJ:PureOk Tryz.prog 86 (Ib (snN 0) (iQ 0) (iR 0) snE):=Rp (by decide) ⟨_,Tryz.func86,rfl⟩ (fun n d q h0 h1=>by
 rcases q4 h0 h1 with rfl|rfl|rfl|rfl
 .exact Za _ _ n d
 .exact Zb _ _ n d
 .exact Zc _ _ n d
 .exact Zd _ _ n d) (fun n d=>Ze _ _ n d)
theorem NA:PureOk Tryz.prog 87 (Ib (snN 1) (iQ 1) (iR 1) snE):=Rp (by decide) ⟨_,Tryz.func87,rfl⟩ (fun n d q h0 h1=>by
 rcases q4 h0 h1 with rfl|rfl|rfl|rfl
 .exact aa5 _ _ n d
 .exact aa6 _ _ n d
 .exact aa7 _ _ n d
 .exact aa8 _ _ n d) (fun n d=>aa9 _ _ n d)
end
end Go.Proofs.YtbhibbcjfgnmhaaGreatDoor.K
namespace Go.Vc
open Go Go.Eng Go.Ar Go.Dg
structure RF where
 n:Int->Int->Bool
 ab:Int->Int->Mat
 mv:Mat->Mat->Mat
 mo:Mat->Mat->Int
def eqU (m:Mat):Bool:=m.x.a==4294967296&&(m.x.b==4294967296&&(m.x.c==0&&(m.x.d==0&&(m.x.e==0&&(m.x.f==0&&(m.y.a==0&&(m.y.b==0&&(m.y.c==4294967296&&(m.y.d==4294967296&&(m.y.e==0&&(m.y.f==0&&(m.z.a==0&&(m.z.b==0&&(m.z.c==0&&(m.z.d==0&&(m.z.e==4294967296&&(m.z.f==4294967296&&true)))))))))))))))))
def Zf (b:Bool) (v w:Ve):Ve:=⟨bif b then v.a else w.a,bif b then v.b else w.b,bif b then v.c else w.c,bif b then v.d else w.d,bif b then v.e else w.e,bif b then v.f else w.f⟩
def VK (b:Bool) (v w:Mat):Mat:=⟨Zf b v.x w.x,Zf b v.y w.y,Zf b v.z w.z⟩
section
variable (R:RF) (x y z:Int)
def qA (x:Int) (b:Bool):Prop:=(decide (x < -360000000)=true->true=b)/\(decide (x < -360000000)=false->decide (x>360000000)=b)
def ro1:Mat:=VK (eqU (R.ab 0 x)) (R.ab 1 y) (R.mv (R.ab 1 y) (R.ab 0 x))
def ro2:Mat:=VK (eqU (ro1 R x y)) (R.ab 2 z) (R.mv (R.ab 2 z) (ro1 R x y))
def Zg:Prop:=qA x false/\R.n 0 x=true
def aba:Prop:=qA y false/\R.n 1 y=true/\maP (R.ab 0 x)
def acB:Prop:=qA z false/\R.n 2 z=true/\maP (ro1 R x y)
end
def iT (x:Int):Bool:=bif decide (x < -360000000) then true else decide (x>360000000)
theorem JM {x:Int}:qA x (iT x):=by
 unfold qA iT
 cases decide (x < -360000000) <;> simp
def JN (sl sh cl ch:Int) (m:Sp) (a:Int):Mat:=
 bif a==0 then ⟨⟨4294967296,4294967296,0,0,0,0⟩,⟨0,0,cl,ch,m.lo,m.hi⟩,⟨0,0,sl,sh,cl,ch⟩⟩
 else bif a==1 then ⟨⟨cl,ch,0,0,sl,sh⟩,⟨0,0,4294967296,4294967296,0,0⟩,⟨m.lo,m.hi,0,0,cl,ch⟩⟩
 else ⟨⟨cl,ch,m.lo,m.hi,0,0⟩,⟨sl,sh,cl,ch,0,0⟩,⟨0,0,0,0,4294967296,4294967296⟩⟩
structure AF where
 n0:Int->Int->Bool
 n1:Int->Int->Bool
 sl:Int->Int->Int
 sh:Int->Int->Int
 cl:Int->Int->Int
 ch:Int->Int->Int
 ng:Int->Int->Sp
def abA (F:AF) (a n:Int):Mat:=JN (F.sl n 360000000) (F.sh n 360000000) (F.cl n 360000000) (F.ch n 360000000) (F.ng (F.sl n 360000000) (F.sh n 360000000)) a
def abN (F:AF) (n a i j:Int):Prop:=F.n0 n 360000000=true/\F.n1 n 360000000=true/\((wr (a+1)).tmod 3=i/\(wr (a+2)).tmod 3=j)/\((F.cl n 360000000=F.cl n 360000000/\F.ch n 360000000=F.ch n 360000000)/\(F.sl n 360000000=F.sl n 360000000/\F.sh n 360000000=F.sh n 360000000)/\(F.ng (F.sl n 360000000) (F.sh n 360000000)).lo=(F.ng (F.sl n 360000000) (F.sh n 360000000)).lo/\(F.ng (F.sl n 360000000) (F.sh n 360000000)).hi=(F.ng (F.sl n 360000000) (F.sh n 360000000)).hi)/\((F.cl n 360000000=F.cl n 360000000/\F.ch n 360000000=F.ch n 360000000)/\F.sl n 360000000=F.sl n 360000000/\F.sh n 360000000=F.sh n 360000000)/\F.cl n 360000000=F.cl n 360000000/\F.ch n 360000000=F.ch n 360000000
theorem vL (more n:Int):snN more n 360000000=true:=by
 obtain ⟨_,_,_,_,_,m0,m1⟩:=AL (n:=n) (d:=360000000) (by decide) (by decide)
 have e4:snM n 360000000 % 4=0:=by
  unfold snM
  omega
 have ha:0<=snA more n 360000000/\snA more n 360000000<=360000000/\snA more n 360000000 % 4=0:=by
  unfold snA
  cases snK n 360000000 more==0||snK n 360000000 more==2 with
  | true=>simp only [cond_true]; omega
  | false=>simp only [cond_false]; omega
 unfold snN quN
 have t:(snA more n 360000000).tmod 4=0:=by rw [Int.tmod_eq_emod_of_nonneg ha.1]; exact ha.2.2
 simp [ha.1,ha.2.1,t]
def af0:AF:=⟨snN 0,snN 1,iQ 0,iR 0,iQ 1,iR 1,Be⟩
def axN (a _n:Int):Bool:=a==0||(a==1||a==2)
end Go.Vc
namespace Go.Rd
open Go Go.Eng Go.Ar
structure Bd (s:Sp) (M:Int):Prop where
 e:s.e=0
 lo:-M<=s.lo
 le:s.lo<=s.hi
 hi:s.hi<=M
structure En (s:Sp) (N D:Int):Prop where
 lo:s.lo*D<=N
 hi:N<=s.hi*D
theorem Zh {n d:Int} (hd:0<d):rd n d false*d<=n/\n<rd n d false*d+d:=by
 have h1:=Int.mul_ediv_add_emod n d
 have h2:=Int.emod_nonneg n (show d≠0 by omega)
 have h3:=Int.emod_lt_of_pos n hd
 show n / d*d<=n/\n<n / d*d+d
 rw [Int.mul_comm] at h1
 omega
theorem abb {n d:Int} (hd:0<d):n<=rd n d true*d/\rd n d true*d<n+d:=by
 have:=Zh (n:=-n) hd
 have e:rd n d true=-(rd (-n) d false):=rfl
 rw [e,Int.neg_mul]
 omega
theorem Rq {n d M:Int} (hd:0<d) (h:n<=M*d):rd n d true<=M:=by
 have:=(abb (n:=n) hd).2
 rcases Int.lt_or_le M (rd n d true) with c|c
 .have:(M+1)*d<=rd n d true*d:=Int.mul_le_mul_of_nonneg_right (by omega) (by omega)
  rw [Int.add_mul] at this
  omega
 .exact c
theorem Rs {n d M:Int} (hd:0<d) (h:M*d<=n):M<=rd n d false:=by
 have:=(Zh (n:=n) hd).2
 rcases Int.lt_or_le (rd n d false) M with c|c
 .have:(rd n d false+1)*d<=M*d:=Int.mul_le_mul_of_nonneg_right (by omega) (by omega)
  rw [Int.add_mul] at this
  omega
 .exact c
theorem vM {a b:Int} (hb:0<=b) (h:a*a<=b*b):a<=b:=by
 rcases Int.lt_or_le b a with c|c
 .have:=Int.mul_le_mul (show b+1<=a by omega) (show b+1<=a by omega) (show 0<=b+1 by omega) (show 0<=a by omega)
  rw [Int.add_mul,Int.mul_add] at this
  omega
 .exact c
theorem AO {a b:Int} (hb:0<=b) (h:a*a<b*b):a<b:=by
 rcases Int.lt_or_le a b with c|c
 .exact c
 .have:=Int.mul_le_mul c c hb (Int.le_trans hb c)
  omega
theorem Lt {a:Int} (h:lw a=true):0<=rtV a true/\a*4294967296<=rtV a true*rtV a true/\(rtV a true=sqR a\/rtV a true=sqR a+1/\sqR a*sqR a<a*4294967296):=by
 obtain ⟨q0,q1,q2,_⟩:=iO h
 unfold rtV
 cases hh:sqR a*sqR a==a*4294967296 with
 | true=>
  have:=of_decide_eq_true (show decide (sqR a*sqR a=a*4294967296)=true from hh)
  exact ⟨q0,by show _<=sqR a*sqR a; omega,.inl rfl⟩
 | false=>
  have:=of_decide_eq_false (show decide (sqR a*sqR a=a*4294967296)=false from hh)
  exact ⟨by show 0<=sqR a+1; omega,by show _<=(sqR a+1)*(sqR a+1); omega,.inr ⟨rfl,by omega⟩⟩
theorem mn4 (p q r s:Int):mn (mn (mn p q) r) s<=p/\mn (mn (mn p q) r) s<=q/\mn (mn (mn p q) r) s<=r/\mn (mn (mn p q) r) s<=s/\(∀ m,m<=p->m<=q->m<=r->m<=s->m<=mn (mn (mn p q) r) s):=by
 have h1:=lM p q
 have h2:=lM (mn p q) r
 have h3:=lM (mn (mn p q) r) s
 refine ⟨by omega,by omega,by omega,by omega,fun m _ _ _ _=>by omega⟩
theorem mx4 (p q r s:Int):p<=mx (mx (mx p q) r) s/\q<=mx (mx (mx p q) r) s/\r<=mx (mx (mx p q) r) s/\s<=mx (mx (mx p q) r) s/\(∀ m,p<=m->q<=m->r<=m->s<=m->mx (mx (mx p q) r) s<=m):=by
 have h1:=fT p q
 have h2:=fT (mx p q) r
 have h3:=fT (mx (mx p q) r) s
 refine ⟨by omega,by omega,by omega,by omega,fun m _ _ _ _=>by omega⟩
structure Wi (s t:Sp):Prop where
 lo:t.lo<=s.lo
 le:s.lo<=s.hi
 hi:s.hi<=t.hi
structure Ri (s:Sp):Prop where
 lo:-4503599627370496<=s.lo
 le:s.lo<=s.hi
 hi:s.hi<=4503599627370496
theorem Ri.ok {s:Sp} (h:Ri s):au s.lo s.hi=true:=bJ.2 ⟨h.lo,h.le,h.hi⟩
theorem Ri.of {s:Sp} (h:au s.lo s.hi=true):Ri s:=let k:=bJ.1 h; ⟨k.1,k.2.1,k.2.2⟩
theorem Wi.ri {s t:Sp} (w:Wi s t) (h:Ri t):Ri s:=⟨Int.le_trans h.lo w.lo,w.le,Int.le_trans w.hi h.hi⟩
theorem Wi.refl {s:Sp} (h:s.lo<=s.hi):Wi s s:=⟨Int.le_refl _,h,Int.le_refl _⟩
theorem ku {lo hi:Int} (h:(d9 lo hi).e=0):d9 lo hi=⟨lo,hi,0⟩/\-4503599627370496<=lo/\lo<=4503599627370496/\-4503599627370496<=hi/\hi<=4503599627370496:=by
 unfold d9 at h ⊢
 cases h1:okF lo <;> cases h2:okF hi <;> rw [h1,h2] at h
 .cases h
 .cases h
 .cases h
 .have:=aH.1 h1
  have:=aH.1 h2
  exact ⟨rfl,by omega,by omega,by omega,by omega⟩
theorem qZ {lo hi:Int} (h1:-4503599627370496<=lo) (h2:lo<=4503599627370496) (h3:-4503599627370496<=hi) (h4:hi<=4503599627370496):d9 lo hi=⟨lo,hi,0⟩:=by
 unfold d9
 rw [aH.2 (by omega),aH.2 (by omega)]
 rfl
theorem q9 {a b c d:Int} {r:Sp} (h:(oI a b c d r).e=0):au a b=true/\au c d=true/\oI a b c d r=r:=by
 unfold oI at h ⊢
 cases h1:au a b <;> cases h2:au c d <;> rw [h1,h2] at h
 .cases h
 .cases h
 .cases h
 .exact ⟨rfl,rfl,rfl⟩
theorem iU {a b c d:Int} {r:Sp} (h1:au a b=true) (h2:au c d=true):oI a b c d r=r:=by
 unfold oI
 rw [h1,h2]
 rfl
def Mo2 (F:Int->Int->Int->Int->Sp):Prop:=∀ {s t s' t':Sp},Wi s' s->Wi t' t->(F s.lo s.hi t.lo t.hi).e=0->(F s'.lo s'.hi t'.lo t'.hi).e=0/\Wi (F s'.lo s'.hi t'.lo t'.hi) (F s.lo s.hi t.lo t.hi)
def Mo1 (F:Int->Int->Sp):Prop:=∀ {s s':Sp},Wi s' s->(F s.lo s.hi).e=0->(F s'.lo s'.hi).e=0/\Wi (F s'.lo s'.hi) (F s.lo s.hi)
theorem Zi:Mo2 eH:=by
 intro s t s' t' w v h
 unfold eH at h ⊢
 obtain ⟨h1,h2,h3⟩:=q9 h
 rw [h3] at h ⊢
 obtain ⟨h4,h5,h6,h7,h8⟩:=ku h
 have r:=Ri.of h1
 have q:=Ri.of h2
 rw [iU (w.ri r).ok (v.ri q).ok]
 obtain ⟨w1,w2,w3⟩:=w
 obtain ⟨v1,v2,v3⟩:=v
 rw [h4,qZ (by omega) (by omega) (by omega) (by omega)]
 exact ⟨rfl,by show s.lo+t.lo<=s'.lo+t'.lo; omega,by show s'.lo+t'.lo<=s'.hi+t'.hi; omega,by show s'.hi+t'.hi<=s.hi+t.hi; omega⟩
theorem Zj:Mo2 vg:=by
 intro s t s' t' w v h
 unfold vg at h ⊢
 obtain ⟨h1,h2,h3⟩:=q9 h
 rw [h3] at h ⊢
 obtain ⟨h4,h5,h6,h7,h8⟩:=ku h
 have r:=Ri.of h1
 have q:=Ri.of h2
 rw [iU (w.ri r).ok (v.ri q).ok]
 obtain ⟨w1,w2,w3⟩:=w
 obtain ⟨v1,v2,v3⟩:=v
 rw [h4,qZ (by omega) (by omega) (by omega) (by omega)]
 exact ⟨rfl,by show s.lo - t.hi<=s'.lo - t'.hi; omega,by show s'.lo - t'.hi<=s'.hi - t'.lo; omega,by show s'.hi - t'.lo<=s.hi - t.lo; omega⟩
theorem wZ {a b x n M:Int} (h1:a<=x) (h2:x<=b) (u1:a*n<=M) (u2:b*n<=M):x*n<=M:=by
 rcases Int.lt_or_le n 0 with c|c
 .have:=Int.mul_le_mul_of_nonpos_right h1 (Int.le_of_lt c); omega
 .have:=Int.mul_le_mul_of_nonneg_right h2 c; omega
theorem xe {a b x n M:Int} (h1:a<=x) (h2:x<=b) (u1:M<=a*n) (u2:M<=b*n):M<=x*n:=by
 rcases Int.lt_or_le n 0 with c|c
 .have:=Int.mul_le_mul_of_nonpos_right h2 (Int.le_of_lt c); omega
 .have:=Int.mul_le_mul_of_nonneg_right h1 c; omega
theorem Zk {a b c d x y M:Int} (h1:a<=x) (h2:x<=b) (k1:c<=y) (k2:y<=d) (u1:a*c<=M) (u2:a*d<=M) (u3:b*c<=M) (u4:b*d<=M):x*y<=M:=by
 have e1:x*c<=M:=wZ h1 h2 u1 u3
 have e2:x*d<=M:=wZ h1 h2 u2 u4
 rw [Int.mul_comm] at e1 e2 ⊢
 exact wZ k1 k2 e1 e2
theorem Zl {a b c d x y M:Int} (h1:a<=x) (h2:x<=b) (k1:c<=y) (k2:y<=d) (u1:M<=a*c) (u2:M<=a*d) (u3:M<=b*c) (u4:M<=b*d):M<=x*y:=by
 have e1:M<=x*c:=xe h1 h2 u1 u3
 have e2:M<=x*d:=xe h1 h2 u2 u4
 rw [Int.mul_comm] at e1 e2 ⊢
 exact xe k1 k2 e1 e2
theorem EH {F:Int->Int->Bool->Int} {a b c d a' b' c' d':Int} (h:(jQ F a b c d).e=0) (hF:∀ x y,(x=a'\/x=b')->(y=c'\/y=d')->F x y false<=F x y true)
  (h1:∀ m x y,(x=a'\/x=b')->(y=c'\/y=d')->m<=F a c false->m<=F a d false->m<=F b c false->m<=F b d false->m<=F x y false)
  (h2:∀ m x y,(x=a'\/x=b')->(y=c'\/y=d')->F a c true<=m->F a d true<=m->F b c true<=m->F b d true<=m->F x y true<=m):
  (jQ F a' b' c' d').e=0/\Wi (jQ F a' b' c' d') (jQ F a b c d):=by
 unfold jQ at h ⊢
 obtain ⟨h4,h5,h6,h7,h8⟩:=ku h
 obtain ⟨m1,m2,m3,m4,_⟩:=mn4 (F a c false) (F a d false) (F b c false) (F b d false)
 obtain ⟨k1,k2,k3,k4,_⟩:=mx4 (F a c true) (F a d true) (F b c true) (F b d true)
 obtain ⟨i1,i2,i3,i4,i5⟩:=mn4 (F a' c' false) (F a' d' false) (F b' c' false) (F b' d' false)
 obtain ⟨j1,j2,j3,j4,j5⟩:=mx4 (F a' c' true) (F a' d' true) (F b' c' true) (F b' d' true)
 rw [h4]
 generalize mn (mn (mn (F a c false) (F a d false)) (F b c false)) (F b d false)=lo at *
 generalize mx (mx (mx (F a c true) (F a d true)) (F b c true)) (F b d true)=hi at *
 have l:=i5 lo (h1 lo _ _ (.inl rfl) (.inl rfl) m1 m2 m3 m4) (h1 lo _ _ (.inl rfl) (.inr rfl) m1 m2 m3 m4) (h1 lo _ _ (.inr rfl) (.inl rfl) m1 m2 m3 m4) (h1 lo _ _ (.inr rfl) (.inr rfl) m1 m2 m3 m4)
 have u:=j5 hi (h2 hi _ _ (.inl rfl) (.inl rfl) k1 k2 k3 k4) (h2 hi _ _ (.inl rfl) (.inr rfl) k1 k2 k3 k4) (h2 hi _ _ (.inr rfl) (.inl rfl) k1 k2 k3 k4) (h2 hi _ _ (.inr rfl) (.inr rfl) k1 k2 k3 k4)
 have f:=hF _ _ (.inl rfl) (.inl rfl)
 generalize mn (mn (mn (F a' c' false) (F a' d' false)) (F b' c' false)) (F b' d' false)=lo' at *
 generalize mx (mx (mx (F a' c' true) (F a' d' true)) (F b' c' true)) (F b' d' true)=hi' at *
 rw [qZ (by omega) (by omega) (by omega) (by omega)]
 exact ⟨rfl,l,by show lo'<=hi'; omega,u⟩
theorem fP {n d m:Int} (hd:0<d):m<=rd n d false ↔ m*d<=n:=by
 constructor
 .intro h
  have:=(Zh (n:=n) hd).1
  have:=Int.mul_le_mul_of_nonneg_right h (Int.le_of_lt hd)
  omega
 .exact Rs hd
theorem fQ {n d m:Int} (hd:0<d):rd n d true<=m ↔ n<=m*d:=by
 constructor
 .intro h
  have:=(abb (n:=n) hd).1
  have:=Int.mul_le_mul_of_nonneg_right h (Int.le_of_lt hd)
  omega
 .exact Rq hd
theorem Wi.at {s t:Sp} (w:Wi s t) {x:Int} (h:x=s.lo\/x=s.hi):t.lo<=x/\x<=t.hi:=by
 obtain ⟨w1,w2,w3⟩:=w
 omega
theorem Zm:Mo2 aD:=by
 intro s t s' t' w v h
 unfold aD at h ⊢
 obtain ⟨h1,h2,h3⟩:=q9 h
 rw [h3] at h ⊢
 rw [iU (w.ri (Ri.of h1)).ok (v.ri (Ri.of h2)).ok]
 refine EH h (fun x y _ _=>Ai _ _ (by decide)) ?_ ?_
 .intro m x y hx hy u1 u2 u3 u4
  have a:=w.at hx
  have b:=v.at hy
  exact (fP (by decide)).2 (Zl a.1 a.2 b.1 b.2 ((fP (by decide)).1 u1) ((fP (by decide)).1 u2) ((fP (by decide)).1 u3) ((fP (by decide)).1 u4))
 .intro m x y hx hy u1 u2 u3 u4
  have a:=w.at hx
  have b:=v.at hy
  exact (fQ (by decide)).2 (Zk a.1 a.2 b.1 b.2 ((fQ (by decide)).1 u1) ((fQ (by decide)).1 u2) ((fQ (by decide)).1 u3) ((fQ (by decide)).1 u4))
theorem EI {x y m:Int} (hy:0<y):m<=dF x y false ↔ m*y<=x*4294967296:=by
 unfold dF sg
 rw [decide_eq_false (show ¬ y<0 by omega)]
 exact fP hy
theorem EJ {x y m:Int} (hy:0<y):dF x y true<=m ↔ x*4294967296<=m*y:=by
 unfold dF sg
 rw [decide_eq_false (show ¬ y<0 by omega)]
 exact fQ hy
theorem EK {x y m:Int} (hy:y<0):m<=dF x y false ↔ x*4294967296<=m*y:=by
 unfold dF sg
 rw [decide_eq_true hy,cond_true,cond_true,fP (by omega),Int.mul_neg]
 omega
theorem EM {x y m:Int} (hy:y<0):dF x y true<=m ↔ m*y<=x*4294967296:=by
 unfold dF sg
 rw [decide_eq_true hy,cond_true,cond_true,fQ (by omega),Int.mul_neg]
 omega
theorem WT {x y:Int} (hy:y≠0):dF x y false<=dF x y true:=by
 unfold dF sg
 cases h:decide (y<0) with
 | true=>exact Ai _ _ (by show 0 < -y; have:=of_decide_eq_true h; omega)
 | false=>exact Ai _ _ (by show 0<y; have:=of_decide_eq_false h; omega)
theorem Rt {a b c d x y m:Int} (h1:a<=x) (_h2:x<=b) (k1:c<=y) (k2:y<=d) (u1:m*c<=a*4294967296) (u2:m*d<=a*4294967296):m*y<=x*4294967296:=by
 have:y*m<=a*4294967296:=wZ k1 k2 (by rw [Int.mul_comm]; exact u1) (by rw [Int.mul_comm]; exact u2)
 rw [Int.mul_comm] at this
 omega
theorem Ru {a b c d x y m:Int} (_h1:a<=x) (h2:x<=b) (k1:c<=y) (k2:y<=d) (u1:b*4294967296<=m*c) (u2:b*4294967296<=m*d):x*4294967296<=m*y:=by
 have:b*4294967296<=y*m:=xe k1 k2 (by rw [Int.mul_comm c m]; exact u1) (by rw [Int.mul_comm d m]; exact u2)
 rw [Int.mul_comm y m] at this
 omega
theorem div_ok {a b c d:Int} (h:(oJ a b c d).e=0):au a b=true/\au c d=true/\(0<c\/d<0)/\oJ a b c d=jQ dF a b c d:=by
 unfold oJ at h ⊢
 obtain ⟨h1,h2,h3⟩:=q9 h
 rw [h3] at h ⊢
 cases h4:decide (c<=0) <;> cases h5:decide (0<=d) <;> rw [h4,h5] at h
 .have:=of_decide_eq_false h4; exact ⟨h1,h2,.inl (by omega),rfl⟩
 .have:=of_decide_eq_false h4; exact ⟨h1,h2,.inl (by omega),rfl⟩
 .have:=of_decide_eq_false h5; exact ⟨h1,h2,.inr (by omega),rfl⟩
 .cases h
theorem Rv {a b c d:Int} (h1:au a b=true) (h2:au c d=true) (h3:0<c\/d<0):oJ a b c d=jQ dF a b c d:=by
 unfold oJ
 rw [iU h1 h2]
 rcases h3 with h|h
 .rw [decide_eq_false (show ¬ c<=0 by omega)]; rfl
 .rw [decide_eq_false (show ¬ 0<=d by omega),Bool.and_false]; rfl
theorem Zn:Mo2 oJ:=by
 intro s t s' t' w v h
 obtain ⟨h1,h2,h3,h4⟩:=div_ok h
 rw [h4] at h ⊢
 obtain ⟨v1,v2,v3⟩:=id v
 rw [Rv (w.ri (Ri.of h1)).ok (v.ri (Ri.of h2)).ok (by omega)]
 rcases h3 with h3|h3
 .refine EH h (fun x y _ hy=>WT (by have:=v.at hy; omega)) ?_ ?_
  .intro m x y hx hy u1 u2 u3 u4
   have a:=w.at hx
   have b:=v.at hy
   exact (EI (by omega)).2 (Rt a.1 a.2 b.1 b.2 ((EI (by omega)).1 u1) ((EI (by omega)).1 u2))
  .intro m x y hx hy u1 u2 u3 u4
   have a:=w.at hx
   have b:=v.at hy
   exact (EJ (by omega)).2 (Ru a.1 a.2 b.1 b.2 ((EJ (by omega)).1 u3) ((EJ (by omega)).1 u4))
 .refine EH h (fun x y _ hy=>WT (by have:=v.at hy; omega)) ?_ ?_
  .intro m x y hx hy u1 u2 u3 u4
   have a:=w.at hx
   have b:=v.at hy
   exact (EK (by omega)).2 (Ru a.1 a.2 b.1 b.2 ((EK (by omega)).1 u3) ((EK (by omega)).1 u4))
  .intro m x y hx hy u1 u2 u3 u4
   have a:=w.at hx
   have b:=v.at hy
   exact (EM (by omega)).2 (Rt a.1 a.2 b.1 b.2 ((EM (by omega)).1 u1) ((EM (by omega)).1 u2))
theorem Zo {s s':Sp} (w:Wi s' s):abL s.lo s.hi<=abL s'.lo s'.hi/\abH s'.lo s'.hi<=abH s.lo s.hi/\0<=abL s.lo s.hi/\abL s'.lo s'.hi<=abH s'.lo s'.hi:=by
 obtain ⟨w1,w2,w3⟩:=w
 unfold abL abH
 have:=fT s.lo (-s.hi)
 have:=fT (mx s.lo (-s.hi)) 0
 have:=fT s'.lo (-s'.hi)
 have:=fT (mx s'.lo (-s'.hi)) 0
 have:=fT s.hi (-s.lo)
 have:=fT s'.hi (-s'.lo)
 omega
theorem Rw {a b:Int} (h:0<=a) (k:a<=b):a*a<=b*b:=Int.mul_le_mul k k h (Int.le_trans h k)
theorem Zp:Mo1 vk:=by
 intro s s' w h
 unfold vk at h ⊢
 cases h1:au s.lo s.hi <;> rw [h1] at h
 .cases h
 .rw [(w.ri (Ri.of h1)).ok]
  rw [cond_true] at h ⊢
  rw [cond_true]
  obtain ⟨h4,h5,h6,h7,h8⟩:=ku h
  obtain ⟨p1,p2,p3,p4⟩:=Zo w
  rw [h4]
  have l:=mP (d:=4294967296) (by decide) (Rw p3 p1) false
  have u:=mP (d:=4294967296) (by decide) (Rw (Int.le_trans (Int.le_trans p3 p1) p4) p2) true
  have m:=Int.le_trans (mP (d:=4294967296) (by decide) (Rw (Int.le_trans p3 p1) p4) false) (Ai (abH s'.lo s'.hi*abH s'.lo s'.hi) 4294967296 (by decide))
  generalize rd (abL s.lo s.hi*abL s.lo s.hi) 4294967296 false=lo at *
  generalize rd (abH s.lo s.hi*abH s.lo s.hi) 4294967296 true=hi at *
  generalize rd (abL s'.lo s'.hi*abL s'.lo s'.hi) 4294967296 false=lo' at *
  generalize rd (abH s'.lo s'.hi*abH s'.lo s'.hi) 4294967296 true=hi' at *
  rw [qZ (by omega) (by omega) (by omega) (by omega)]
  exact ⟨rfl,l,m,u⟩
theorem Rx {a b:Int} (ha:lw a=true) (hb:lw b=true) (h:a<=b):sqR a<=sqR b:=by
 obtain ⟨u0,u1,u2,_⟩:=iO ha
 obtain ⟨v0,v1,v2,_⟩:=iO hb
 have:=AO (a:=sqR a) (b:=sqR b+1) (by omega) (by omega)
 omega
theorem Ry {a b:Int} (ha:lw a=true) (hb:lw b=true) (h:a<=b):rtV a true<=rtV b true:=by
 obtain ⟨u0,u1,u2⟩:=Lt ha
 obtain ⟨v0,v1,v2⟩:=Lt hb
 rcases u2 with u2|⟨u2,u3⟩
 .obtain ⟨q0,q1,_,_⟩:=iO ha
  rw [u2]
  exact vM v0 (by omega)
 .have:=AO (a:=sqR a) (b:=rtV b true) v0 (by omega)
  omega
theorem VL:Mo1 mM:=by
 intro s s' w h
 unfold mM at h ⊢
 cases h1:au s.lo s.hi <;> rw [h1] at h
 .cases h
 .have r:=Ri.of h1
  have r':=w.ri r
  rw [r'.ok]
  rw [cond_true] at h ⊢
  rw [cond_true]
  obtain ⟨w1,w2,w3⟩:=w
  obtain ⟨r1,r2,r3⟩:=r
  cases h2:decide (s.lo<0) <;> rw [h2] at h
  .have:=of_decide_eq_false h2
   rw [decide_eq_false (show ¬ s'.lo<0 by omega)]
   have k1:lw s.lo=true:=by unfold lw; rw [aH.2 (by omega)]; simpa using (show 0<=s.lo by omega)
   have k2:lw s.hi=true:=by unfold lw; rw [aH.2 (by omega)]; simpa using (show 0<=s.hi by omega)
   have k3:lw s'.lo=true:=by unfold lw; rw [aH.2 (by omega)]; simpa using (show 0<=s'.lo by omega)
   have k4:lw s'.hi=true:=by unfold lw; rw [aH.2 (by omega)]; simpa using (show 0<=s'.hi by omega)
   obtain ⟨a0,a1,a2⟩:=Lt k4
   obtain ⟨b0,b1,_,_⟩:=iO k3
   exact ⟨rfl,Rx k1 k3 w1,show sqR s'.lo<=rtV s'.hi true from vM a0 (by omega),Ry k4 k2 w3⟩
  .cases h
theorem Rz (n d:Int):Mo1 fun a b=>jO a b n d:=by
 intro s s' w h
 show (jO s'.lo s'.hi n d).e=0/\Wi (jO s'.lo s'.hi n d) (jO s.lo s.hi n d)
 have h:(jO s.lo s.hi n d).e=0:=h
 unfold jO at h ⊢
 cases h1:au s.lo s.hi <;> rw [h1] at h
 .cases h
 .rw [(w.ri (Ri.of h1)).ok]
  rw [cond_true] at h ⊢
  rw [cond_true]
  cases h2:okR n d <;> rw [h2] at h
  .cases h
  .rw [cond_true] at h ⊢
   rw [cond_true]
   have hd:0<d:=by
    unfold okR at h2
    simp only [Bool.and_eq_true,decide_eq_true_eq] at h2
    omega
   obtain ⟨h4,h5,h6,h7,h8⟩:=ku h
   have m1:=lM (s.lo*n) (s.hi*n)
   have m2:=lM (s'.lo*n) (s'.hi*n)
   have m3:=fT (s.lo*n) (s.hi*n)
   have m4:=fT (s'.lo*n) (s'.hi*n)
   obtain ⟨w1,w2,w3⟩:=w
   have c1:=xe w1 (Int.le_trans w2 w3) m1.1 m1.2.1
   have c2:=xe (Int.le_trans w1 w2) w3 m1.1 m1.2.1
   have c3:=wZ w1 (Int.le_trans w2 w3) m3.1 m3.2.1
   have c4:=wZ (Int.le_trans w1 w2) w3 m3.1 m3.2.1
   rw [h4]
   have l:=mP hd (show mn (s.lo*n) (s.hi*n)<=mn (s'.lo*n) (s'.hi*n) by omega) false
   have u:=mP hd (show mx (s'.lo*n) (s'.hi*n)<=mx (s.lo*n) (s.hi*n) by omega) true
   have m:=Int.le_trans (mP hd (show mn (s'.lo*n) (s'.hi*n)<=mx (s'.lo*n) (s'.hi*n) by omega) false) (Ai (mx (s'.lo*n) (s'.hi*n)) d hd)
   generalize rd (mn (s.lo*n) (s.hi*n)) d false=lo at *
   generalize rd (mx (s.lo*n) (s.hi*n)) d true=hi at *
   generalize rd (mn (s'.lo*n) (s'.hi*n)) d false=lo' at *
   generalize rd (mx (s'.lo*n) (s'.hi*n)) d true=hi' at *
   rw [qZ (by omega) (by omega) (by omega) (by omega)]
   exact ⟨rfl,l,m,u⟩
def ng (s:Sp):Sp:=⟨-s.hi,-s.lo,s.e⟩
theorem mn_eq (a b:Int):mn a b=if b<a then b else a:=by
 unfold mn; by_cases h:b<a
 .rw [decide_eq_true h,if_pos h]; rfl
 .rw [decide_eq_false h,if_neg h]; rfl
theorem mx_eq (a b:Int):mx a b=if a<b then b else a:=by
 unfold mx; by_cases h:a<b
 .rw [decide_eq_true h,if_pos h]; rfl
 .rw [decide_eq_false h,if_neg h]; rfl
def gt:List Sp->Nat->Sp
 | [],_=>⟨0,0,0⟩
 | a :: _,0=>a
 | _ :: l,i+1=>gt l i
def sq1 (i:Nat) (r:List Sp):Sp:=vk (gt r i).lo (gt r i).hi
def rt1 (i:Nat) (r:List Sp):Sp:=mM (gt r i).lo (gt r i).hi
def ad2 (i j:Nat) (r:List Sp):Sp:=eH (gt r i).lo (gt r i).hi (gt r j).lo (gt r j).hi
def sb2 (i j:Nat) (r:List Sp):Sp:=vg (gt r i).lo (gt r i).hi (gt r j).lo (gt r j).hi
def ml2 (i j:Nat) (r:List Sp):Sp:=aD (gt r i).lo (gt r i).hi (gt r j).lo (gt r j).hi
def dv2 (i j:Nat) (r:List Sp):Sp:=oJ (gt r i).lo (gt r i).hi (gt r j).lo (gt r j).hi
def sc1 (i:Nat) (n d:Int) (r:List Sp):Sp:=aG (gt r i).lo (gt r i).hi n d
inductive Wis:List Sp->List Sp->Prop where
 | nil:Wis [] []
 | cons {a b:Sp} {l m:List Sp}:Wi a b->Wis l m->Wis (a :: l) (b :: m)
theorem Wis.gt {l m:List Sp} (h:Wis l m):∀ i,Wi (gt l i) (gt m i):=by
 induction h with
 | nil=>exact fun _=>⟨Int.le_refl _,Int.le_refl _,Int.le_refl _⟩
 | cons w _ ih=>
  intro i
  cases i with
  | zero=>exact w
  | succ i=>exact ih i
def Mo (f:List Sp->Sp):Prop:=∀ {l m:List Sp},Wis l m->(f m).e=0->(f l).e=0/\Wi (f l) (f m)
theorem Zq (i:Nat):Mo (sq1 i):=fun h e=>Zp (h.gt i) e
theorem Zr (i:Nat):Mo (rt1 i):=fun h e=>VL (h.gt i) e
theorem Zt (i j:Nat):Mo (ad2 i j):=fun h e=>Zi (h.gt i) (h.gt j) e
theorem Zu (i j:Nat):Mo (sb2 i j):=fun h e=>Zj (h.gt i) (h.gt j) e
theorem Zv (i j:Nat):Mo (ml2 i j):=fun h e=>Zm (h.gt i) (h.gt j) e
theorem Zw (i j:Nat):Mo (dv2 i j):=fun h e=>Zn (h.gt i) (h.gt j) e
def Bg (n d:Int):Prop:=okR n d=true->4503599627370496*sg n n<18446744073709551615*d
theorem Zx {a b:Int} (h:au a b=true):0<=abH a b/\abH a b<=4503599627370496:=by
 have:=bJ.1 h
 unfold abH
 have:=fT b (-a)
 omega
theorem Lu {a b n d:Int} (k:Bg n d):aG a b n d=jO a b n d:=by
 refine Jf a b n d fun h1 h2=>?_
 have:=k h2
 have p:=Zx h1
 have q:0<=sg n n:=by
  unfold sg
  cases h:decide (n<0) with
  | true=>have:=of_decide_eq_true h; show 0<=-n; omega
  | false=>have:=of_decide_eq_false h; show 0<=n; omega
 have:=Int.mul_le_mul_of_nonneg_right p.2 q
 omega
theorem Zy (i:Nat) {n d:Int} (k:Bg n d):Mo (sc1 i n d):=fun {l m} h e=>by
 unfold sc1 at e ⊢
 rw [Lu k] at e ⊢
 rw [Lu k]
 exact Rz n d (h.gt i) e
theorem Zz {E:Int} (h:E≠0):(E != 0)=true:=by simpa using h
theorem acC {E:Int} (h:E≠0):(E==0)=false:=by simpa using h
def tn (b:Bool) (s:Sp):Sp:=bif b then ng s else s
inductive Tns:List Bool->List Sp->List Sp->Prop where
 | nil:Tns [] [] []
 | cons {b:Bool} {a c:Sp} {bs:List Bool} {l m:List Sp}:a=tn b c->Tns bs l m->Tns (b :: bs) (a :: l) (c :: m)
def bt:List Bool->Nat->Bool
 | [],_=>false
 | a :: _,0=>a
 | _ :: l,i+1=>bt l i
theorem Tns.gt {bs:List Bool} {l m:List Sp} (h:Tns bs l m):∀ i,gt l i=tn (bt bs i) (gt m i):=by
 induction h with
 | nil=>exact fun _=>rfl
 | cons e _ ih=>intro i; cases i with
  | zero=>exact e
  | succ i=>exact ih i
theorem Tns.e {bs:List Bool} {l m:List Sp} (h:Tns bs l m) (i:Nat):(Go.Rd.gt l i).e=(Go.Rd.gt m i).e:=by
 rw [h.gt i]; cases bt bs i <;> rfl
def evS (acc v c:Sp):Sp:=
 ⟨bif (aD acc.lo acc.hi v.lo v.hi).e==0 then (eH (aD acc.lo acc.hi v.lo v.hi).lo (aD acc.lo acc.hi v.lo v.hi).hi c.lo c.hi).lo else (aD acc.lo acc.hi v.lo v.hi).lo,
  bif (aD acc.lo acc.hi v.lo v.hi).e==0 then (eH (aD acc.lo acc.hi v.lo v.hi).lo (aD acc.lo acc.hi v.lo v.hi).hi c.lo c.hi).hi else (aD acc.lo acc.hi v.lo v.hi).hi,
  bif (aD acc.lo acc.hi v.lo v.hi).e==0 then (eH (aD acc.lo acc.hi v.lo v.hi).lo (aD acc.lo acc.hi v.lo v.hi).hi c.lo c.hi).e else (aD acc.lo acc.hi v.lo v.hi).e⟩
def ev1 (v c3:Sp):Sp:=evS ⟨0,0,0⟩ v c3
def ev2 (v c2 c3:Sp):Sp:=evS (ev1 v c3) v c2
def ev3 (v c1 c2 c3:Sp):Sp:=evS (ev2 v c2 c3) v c1
def ev4 (v c0 c1 c2 c3:Sp):Sp:=evS (ev3 v c1 c2 c3) v c0
def evB (v c0 c1 c2 c3:Sp):Bool:=
 (ev1 v c3).e != 0||!((ev1 v c3).e != 0)&&((ev2 v c2 c3).e != 0||!((ev2 v c2 c3).e != 0)&&((ev3 v c1 c2 c3).e != 0||!((ev3 v c1 c2 c3).e != 0)&&(ev4 v c0 c1 c2 c3).e != 0))
def evG (v c0 c1 c2 c3:Sp) (g:Sp->Int):Int:=
 bif evB v c0 c1 c2 c3 then bif (ev1 v c3).e != 0 then g (ev1 v c3) else bif (ev2 v c2 c3).e != 0 then g (ev2 v c2 c3) else bif (ev3 v c1 c2 c3).e != 0 then g (ev3 v c1 c2 c3) else g (ev4 v c0 c1 c2 c3) else g (ev4 v c0 c1 c2 c3)
def oQ (v c0 c1 c2 c3:Sp):Sp:=⟨evG v c0 c1 c2 c3 Sp.lo,evG v c0 c1 c2 c3 Sp.hi,evG v c0 c1 c2 c3 Sp.e⟩
theorem ZA {v c0 c1 c2 c3:Sp} (h:(oQ v c0 c1 c2 c3).e=0):(ev1 v c3).e=0/\(ev2 v c2 c3).e=0/\(ev3 v c1 c2 c3).e=0/\(ev4 v c0 c1 c2 c3).e=0:=by
 have h:evG v c0 c1 c2 c3 Sp.e=0:=h
 unfold evG evB at h
 rcases Decidable.em ((ev1 v c3).e=0) with d1|d1
 .rcases Decidable.em ((ev2 v c2 c3).e=0) with d2|d2
  .rcases Decidable.em ((ev3 v c1 c2 c3).e=0) with d3|d3
   .refine ⟨d1,d2,d3,?_⟩
    simp only [d1,d2,d3] at h
    simpa using h
   .simp only [d1,d2,Zz d3,Bool.true_or,Bool.or_true,Bool.and_true,bne_self_eq_false,Bool.not_false,Bool.true_and,cond_true,cond_false] at h
    exact absurd h d3
  .simp only [d1,Zz d2,Bool.true_or,Bool.or_true,Bool.and_true,bne_self_eq_false,Bool.not_false,Bool.true_and,cond_true,cond_false] at h
   exact absurd h d2
 .simp only [Zz d1,Bool.true_or,cond_true] at h
  exact absurd h d1
theorem RB {v c0 c1 c2 c3:Sp} (h1:(ev1 v c3).e=0) (h2:(ev2 v c2 c3).e=0) (h3:(ev3 v c1 c2 c3).e=0) (h4:(ev4 v c0 c1 c2 c3).e=0):oQ v c0 c1 c2 c3=ev4 v c0 c1 c2 c3:=by
 unfold oQ evG evB
 simp only [h1,h2,h3,h4,bne_self_eq_false,Bool.not_false,Bool.true_and,Bool.or_self,cond_false]
 exact Eq.trans (by rw [h4]) (show (⟨(ev4 v c0 c1 c2 c3).lo,(ev4 v c0 c1 c2 c3).hi,(ev4 v c0 c1 c2 c3).e⟩:Sp)=_ from rfl)
def Oks (l:List Sp):Prop:=∀ i,Ri (gt l i)
theorem Wis.refl:∀ {l:List Sp},Oks l->Wis l l
 | [],_=>.nil
 | _ :: _,h=>.cons ⟨Int.le_refl _,(h 0).le,Int.le_refl _⟩ (Wis.refl fun i=>h (i+1))
def Ok (f:List Sp->Sp):Prop:=∀ {l:List Sp},Oks l->(f l).e=0->Ri (f l)
theorem rq {lo hi:Int} (h:(d9 lo hi).e=0) (k:(d9 lo hi).lo<=(d9 lo hi).hi):Ri (d9 lo hi):=by
 obtain ⟨h1,h2,h3,h4,h5⟩:=ku h
 rw [h1] at k ⊢
 exact ⟨h2,k,h5⟩
theorem ZB (i:Nat):Ok (sq1 i):=fun {l} h e=>by
 have w:=(Zq i (Wis.refl h) e).2.le
 unfold sq1 vk at e w ⊢
 rw [(h i).ok] at e w ⊢
 exact rq e w
theorem RD (i j:Nat):Ok (ad2 i j):=fun {l} h e=>by
 have w:=(Zt i j (Wis.refl h) e).2.le
 unfold ad2 eH at e w ⊢
 rw [iU (h i).ok (h j).ok] at e w ⊢
 exact rq e w
theorem ZC (i j:Nat):Ok (sb2 i j):=fun {l} h e=>by
 have w:=(Zu i j (Wis.refl h) e).2.le
 unfold sb2 vg at e w ⊢
 rw [iU (h i).ok (h j).ok] at e w ⊢
 exact rq e w
theorem RH (i j:Nat):Ok (ml2 i j):=fun {l} h e=>by
 have w:=(Zv i j (Wis.refl h) e).2.le
 unfold ml2 aD at e w ⊢
 rw [iU (h i).ok (h j).ok] at e w ⊢
 exact rq e w
theorem ZE (i j:Nat):Ok (dv2 i j):=fun {l} h e=>by
 have w:=(Zw i j (Wis.refl h) e).2.le
 unfold dv2 at e w ⊢
 have q:=(div_ok e).2.2.2
 rw [q] at e w ⊢
 exact rq e w
theorem ZF (i:Nat) {n d:Int} (k:Bg n d):Ok (sc1 i n d):=fun {l} h e=>by
 have w:=(Zy i k (Wis.refl h) e).2.le
 unfold sc1 at e w ⊢
 rw [Lu k] at e w ⊢
 unfold jO at e w ⊢
 rw [(h i).ok] at e w ⊢
 cases q:okR n d with
 | false=>rw [q] at e; cases e
 | true=>rw [q] at e w; exact rq e w
theorem ZG (i:Nat):Ok (rt1 i):=fun {l} h e=>by
 have w:=(Zr i (Wis.refl h) e).2.le
 unfold rt1 mM at e w ⊢
 have r:=h i
 have r1:=r.lo
 have r2:=r.le
 have r3:=r.hi
 rw [r.ok] at e w ⊢
 cases q:decide ((gt l i).lo<0) with
 | true=>rw [q] at e; cases e
 | false=>
  have:=of_decide_eq_false q
  rw [q] at w
  have k1:lw (gt l i).lo=true:=by unfold lw; rw [aH.2 (by omega)]; simpa using (show 0<=(gt l i).lo by omega)
  have k2:lw (gt l i).hi=true:=by unfold lw; rw [aH.2 (by omega)]; simpa using (show 0<=(gt l i).hi by omega)
  have a:=Ck k1 false
  have b:=Ck k2 true
  exact ⟨by show -4503599627370496<=rtV (gt l i).lo false; omega,w,by
   rcases (Lt k2).2.2 with c|⟨c,_⟩
   .show rtV (gt l i).hi true<=4503599627370496
    have:=(iO k2).2.1
    have:rtV (gt l i).hi true<=4398046511104:=by
     rw [c]; exact vM (by omega) (by omega)
    omega
   .show rtV (gt l i).hi true<=4503599627370496
    have:=(iO k2).2.1
    have:sqR (gt l i).hi<=4398046511104:=vM (by omega) (by omega)
    omega⟩
theorem oL:Ri ⟨0,0,0⟩:=⟨by decide,by decide,by decide⟩
theorem tq {a v c:Sp} (ha:Ri a) (hv:Ri v) (hc:Ri c) (e:(evS a v c).e=0):Ri (evS a v c):=by
 have e0:(aD a.lo a.hi v.lo v.hi).e=0:=by
  rcases Decidable.em ((aD a.lo a.hi v.lo v.hi).e=0) with d|d
  .exact d
  .unfold evS at e
   simp only [acC d,cond_false] at e
   exact e
 have m:Ri (aD a.lo a.hi v.lo v.hi):=RH 0 1 (l:=[a,v]) (fun i=>match i with|0=>ha|1=>hv|i+2=>oL) e0
 have s:(eH (aD a.lo a.hi v.lo v.hi).lo (aD a.lo a.hi v.lo v.hi).hi c.lo c.hi).e=0:=by
  unfold evS at e
  simp only [e0] at e
  exact e
 have r:Ri (eH (aD a.lo a.hi v.lo v.hi).lo (aD a.lo a.hi v.lo v.hi).hi c.lo c.hi):=RD 0 1 (l:=[aD a.lo a.hi v.lo v.hi,c]) (fun i=>match i with|0=>m|1=>hc|i+2=>oL) s
 unfold evS
 simp only [e0]
 exact r
def okE (s:Sp):Prop:=s.e=0\/s=⟨0,0,6⟩
theorem mX (lo hi:Int):okE (d9 lo hi):=by
 unfold d9
 cases okF lo&&okF hi
 .exact .inr rfl
 .exact .inl rfl
theorem Ic {s:Sp} (h:Ri s):okE (vk s.lo s.hi):=by unfold vk; rw [h.ok]; exact mX _ _
theorem xX {s t:Sp} (h:Ri s) (k:Ri t):okE (eH s.lo s.hi t.lo t.hi):=by unfold eH; rw [iU h.ok k.ok]; exact mX _ _
theorem WU {s t:Sp} (h:Ri s) (k:Ri t):okE (vg s.lo s.hi t.lo t.hi):=by unfold vg; rw [iU h.ok k.ok]; exact mX _ _
theorem WV {s t:Sp} (h:Ri s) (k:Ri t):okE (aD s.lo s.hi t.lo t.hi):=by unfold aD; rw [iU h.ok k.ok]; exact mX _ _
theorem WW {s t:Sp} (h:Ri s) (k:Ri t) (p:0<t.lo):okE (oJ s.lo s.hi t.lo t.hi):=by rw [Rv h.ok k.ok (.inl p)]; exact mX _ _
theorem Bh {s:Sp} {n d:Int} (h:Ri s) (k:Bg n d) (o:okR n d=true):okE (aG s.lo s.hi n d):=by
 rw [Lu k]; unfold jO; rw [h.ok,o]; exact mX _ _
theorem abd {s:Sp} (h:Ri s) (p:0<s.lo):okE (mM s.lo s.hi):=by
 unfold mM; rw [h.ok,decide_eq_false (show ¬ s.lo<0 by omega)]; exact .inl rfl
theorem tC {s t:Sp} (h:Ri s) (k:Ri t):Oks [s,t]:=fun i=>match i with|0=>h|1=>k|i+2=>oL
theorem Ie {s:Sp} (h:Ri s) (e:(vk s.lo s.hi).e=0):Ri (vk s.lo s.hi):=ZB 0 (tC h h) e
theorem abe {s:Sp} (h:Ri s) (e:(mM s.lo s.hi).e=0):Ri (mM s.lo s.hi):=ZG 0 (tC h h) e
theorem CF {s t:Sp} (h:Ri s) (k:Ri t) (e:(eH s.lo s.hi t.lo t.hi).e=0):Ri (eH s.lo s.hi t.lo t.hi):=RD 0 1 (tC h k) e
theorem WX {s t:Sp} (h:Ri s) (k:Ri t) (e:(vg s.lo s.hi t.lo t.hi).e=0):Ri (vg s.lo s.hi t.lo t.hi):=ZC 0 1 (tC h k) e
theorem WY {s t:Sp} (h:Ri s) (k:Ri t) (e:(aD s.lo s.hi t.lo t.hi).e=0):Ri (aD s.lo s.hi t.lo t.hi):=RH 0 1 (tC h k) e
theorem WZ {s t:Sp} (h:Ri s) (k:Ri t) (e:(oJ s.lo s.hi t.lo t.hi).e=0):Ri (oJ s.lo s.hi t.lo t.hi):=ZE 0 1 (tC h k) e
theorem AP {s:Sp} {n d:Int} (h:Ri s) (k:Bg n d) (e:(aG s.lo s.hi n d).e=0):Ri (aG s.lo s.hi n d):=ZF 0 k (tC h h) e
theorem RI {s:Sp} (h:Ri s) (p:0<s.lo):0<(mM s.lo s.hi).lo:=by
 unfold mM; rw [h.ok,decide_eq_false (show ¬ s.lo<0 by omega)]
 show 0<rtV s.lo false
 have r1:=h.lo
 have r2:=h.le
 have r3:=h.hi
 have k1:lw s.lo=true:=by unfold lw; rw [aH.2 (by omega)]; simpa using (show 0<=s.lo by omega)
 obtain ⟨u0,u1,u2,_⟩:=iO k1
 show 0<sqR s.lo
 have:=AO (a:=1) (b:=sqR s.lo+1) (by omega) (by omega)
 omega
theorem Lv {s t:Sp} (h:Ri s) (k:Ri t) (e:(eH s.lo s.hi t.lo t.hi).e=0) (p:0<s.lo) (q:0<=t.lo):0<(eH s.lo s.hi t.lo t.hi).lo:=by
 unfold eH at e ⊢
 rw [iU h.ok k.ok] at e ⊢
 rw [(ku e).1]
 show 0<s.lo+t.lo
 omega
theorem EN {s:Sp} (h:okE s) (e:s.e≠0):s=⟨0,0,6⟩:=h.resolve_left e
theorem Lx {a v c:Sp} (ha:Ri a) (hv:Ri v) (hc:Ri c):okE (evS a v c):=by
 rcases WV ha hv with e0|e0
 .have m:=WY ha hv e0
  unfold evS
  simp only [e0]
  exact xX m hc
 .unfold evS
  rw [e0]
  exact .inr rfl
theorem abf {v c0 c1 c2 c3:Sp} (hv:Ri v) (h0:Ri c0) (h1:Ri c1) (h2:Ri c2) (h3:Ri c3):okE (oQ v c0 c1 c2 c3):=by
 have z:Ri (⟨0,0,0⟩:Sp):=oL
 have k1:okE (ev1 v c3):=Lx z hv h3
 rcases Decidable.em ((ev1 v c3).e=0) with d1|d1
 .have r1:Ri (ev1 v c3):=tq z hv h3 d1
  have k2:okE (ev2 v c2 c3):=Lx r1 hv h2
  rcases Decidable.em ((ev2 v c2 c3).e=0) with d2|d2
  .have r2:Ri (ev2 v c2 c3):=tq r1 hv h2 d2
   have k3:okE (ev3 v c1 c2 c3):=Lx r2 hv h1
   rcases Decidable.em ((ev3 v c1 c2 c3).e=0) with d3|d3
   .have r3:Ri (ev3 v c1 c2 c3):=tq r2 hv h1 d3
    have k4:okE (ev4 v c0 c1 c2 c3):=Lx r3 hv h0
    rcases Decidable.em ((ev4 v c0 c1 c2 c3).e=0) with d4|d4
    .rw [RB d1 d2 d3 d4]; exact .inl d4
    .right
     unfold oQ evG evB
     rw [d1,d2,d3,EN k4 d4]; rfl
   .right
    unfold oQ evG evB
    rw [d1,d2,EN k3 d3]; rfl
  .right
   unfold oQ evG evB
   rw [d1,EN k2 d2]; rfl
 .right
  unfold oQ evG evB
  rw [EN k1 d1]; rfl
theorem abg {v c0 c1 c2 c3:Sp} (hv:Ri v) (h0:Ri c0) (h1:Ri c1) (h2:Ri c2) (h3:Ri c3) (e:(oQ v c0 c1 c2 c3).e=0):Ri (oQ v c0 c1 c2 c3):=by
 obtain ⟨d1,d2,d3,d4⟩:=ZA e
 rw [RB d1 d2 d3 d4]
 exact tq (tq (tq (tq oL hv h3 d1) hv h2 d2) hv h1 d3) hv h0 d4
end Go.Rd
namespace Go.Iv
open Go Go.Ar Go.Rd
def cn (a b:Int) (x:Rat):Prop:=(a:Rat)<=x*4294967296/\x*4294967296<=(b:Rat)
theorem LA {a b:Int} (h:a<=b):(a:Rat)<=(b:Rat):=by exact_mod_cast h
theorem JO {a b:Int} (h:(a:Rat)<=(b:Rat)):a<=b:=by exact_mod_cast h
theorem abh {a b:Int} {x:Rat} (h:cn a b x):a<=b:=JO (Rat.le_trans h.1 h.2)
theorem gV:cn 0 0 0:=by
 unfold cn
 push_cast
 grind
theorem xg:cn 4294967296 4294967296 1:=by
 unfold cn
 push_cast
 grind
theorem JP {a b c d:Int} {x y:Rat} (h:cn a b x) (k:cn c d y) (n1:(x - y)*4294967296<1) (n2:(y - x)*4294967296<1):a<=d/\c<=b:=by
 obtain ⟨h1,h2⟩:=h
 obtain ⟨k1,k2⟩:=k
 have p:(a:Rat)<((d+1:Int):Rat):=by
  have:((d+1:Int):Rat)=(d:Rat)+1:=by push_cast; rfl
  rw [this]; grind
 have q:(c:Rat)<((b+1:Int):Rat):=by
  have:((b+1:Int):Rat)=(b:Rat)+1:=by push_cast; rfl
  rw [this]; grind
 have p:a<d+1:=by exact_mod_cast p
 have q:c<b+1:=by exact_mod_cast q
 omega
theorem abj {a b c d:Int} (e:(eH a b c d).e=0):eH a b c d=⟨a+c,b+d,0⟩:=by
 unfold eH at e ⊢
 have h:=(q9 e).2.2
 rw [h] at e ⊢
 exact (ku e).1
theorem RJ {a b c d:Int} {x y:Rat} (e:(eH a b c d).e=0) (h:cn a b x) (k:cn c d y):cn (eH a b c d).lo (eH a b c d).hi (x+y):=by
 rw [abj e]
 obtain ⟨h1,h2⟩:=h
 obtain ⟨k1,k2⟩:=k
 unfold cn
 push_cast
 grind
theorem xh (a b:Rat):a<=b\/b<=a:=Rat.le_total
theorem ZH {a b c:Rat} (h:a<=b) (hc:0<=c):a*c<=b*c:=Rat.mul_le_mul_of_nonneg_right h hc
theorem RL {a b c:Rat} (h:a<=b) (hc:0<=c):c*a<=c*b:=Rat.mul_le_mul_of_nonneg_left h hc
theorem RN {a b c:Rat} (h:a<=b) (hc:c<=0):b*c<=a*c:=by
 have:=ZH h (c:=-c) (by grind)
 grind
theorem EO {a b c:Rat} (h:a<=b) (hc:c<=0):c*b<=c*a:=by
 have:=RL h (c:=-c) (by grind)
 grind
theorem lb4 {a b c d X Y:Rat} (h1:a<=X) (h2:X<=b) (k1:c<=Y) (k2:Y<=d):a*c<=X*Y\/a*d<=X*Y\/b*c<=X*Y\/b*d<=X*Y:=by
 rcases xh 0 Y with hy|hy
 .have p:=ZH h1 hy
  rcases xh 0 a with ha|ha
  .exact .inl (Rat.le_trans (RL k1 ha) p)
  .exact .inr (.inl (Rat.le_trans (EO k2 ha) p))
 .have p:=RN h2 hy
  rcases xh 0 b with hb|hb
  .exact .inr (.inr (.inl (Rat.le_trans (RL k1 hb) p)))
  .exact .inr (.inr (.inr (Rat.le_trans (EO k2 hb) p)))
theorem ub4 {a b c d X Y:Rat} (h1:a<=X) (h2:X<=b) (k1:c<=Y) (k2:Y<=d):X*Y<=a*c\/X*Y<=a*d\/X*Y<=b*c\/X*Y<=b*d:=by
 rcases xh 0 Y with hy|hy
 .have p:=ZH h2 hy
  rcases xh 0 b with hb|hb
  .exact .inr (.inr (.inr (Rat.le_trans p (RL k2 hb))))
  .exact .inr (.inr (.inl (Rat.le_trans p (EO k1 hb))))
 .have p:=RN h1 hy
  rcases xh 0 a with ha|ha
  .exact .inr (.inl (Rat.le_trans p (RL k2 ha)))
  .exact .inl (Rat.le_trans p (EO k1 ha))
theorem mn4 (p q r s:Int):mn (mn (mn p q) r) s<=p/\mn (mn (mn p q) r) s<=q/\mn (mn (mn p q) r) s<=r/\mn (mn (mn p q) r) s<=s:=by
 have h1:=lM p q
 have h2:=lM (mn p q) r
 have h3:=lM (mn (mn p q) r) s
 omega
theorem mx4 (p q r s:Int):p<=mx (mx (mx p q) r) s/\q<=mx (mx (mx p q) r) s/\r<=mx (mx (mx p q) r) s/\s<=mx (mx (mx p q) r) s:=by
 have h1:=fT p q
 have h2:=fT (mx p q) r
 have h3:=fT (mx (mx p q) r) s
 omega
theorem rdf {n d:Int} (hd:0<d):((rd n d false:Int):Rat)*(d:Rat)<=(n:Rat):=by exact_mod_cast (fP hd).1 (Int.le_refl _)
theorem rdt {n d:Int} (hd:0<d):(n:Rat)<=((rd n d true:Int):Rat)*(d:Rat):=by exact_mod_cast (fQ hd).1 (Int.le_refl _)
theorem W9:(0:Int)<4294967296:=by decide
theorem LB {l f:Int} {n D z:Rat} (hD:0<D) (h:l<=f) (hf:(f:Rat)*D<=n) (hz:n<=z*D):(l:Rat)<=z:=by
 have h:=LA h
 exact Rat.le_trans h (Rat.le_of_mul_le_mul_right (Rat.le_trans hf hz) hD)
theorem LC {l f:Int} {n D z:Rat} (hD:0<D) (h:f<=l) (hf:n<=(f:Rat)*D) (hz:z*D<=n):z<=(l:Rat):=by
 have h:=LA h
 exact Rat.le_trans (Rat.le_of_mul_le_mul_right (Rat.le_trans hz hf) hD) h
theorem abk {a b c d:Int} (e:(aD a b c d).e=0):aD a b c d=⟨mn (mn (mn (mF a c false) (mF a d false)) (mF b c false)) (mF b d false),mx (mx (mx (mF a c true) (mF a d true)) (mF b c true)) (mF b d true),0⟩:=by
 unfold aD at e ⊢
 have h:=(q9 e).2.2
 rw [h] at e ⊢
 exact (ku e).1
theorem JQ {a b c d:Int} {x y:Rat} (e:(aD a b c d).e=0) (h:cn a b x) (k:cn c d y):cn (aD a b c d).lo (aD a b c d).hi (x*y):=by
 rw [abk e]
 obtain ⟨h1,h2⟩:=h
 obtain ⟨k1,k2⟩:=k
 have ff:∀ u v:Int,((mF u v false:Int):Rat)*4294967296<=(u:Rat)*(v:Rat):=fun u v=>by
  have:=rdf (n:=u*v) W9
  push_cast at this
  exact this
 have ft:∀ u v:Int,(u:Rat)*(v:Rat)<=((mF u v true:Int):Rat)*4294967296:=fun u v=>by
  have:=rdt (n:=u*v) W9
  push_cast at this
  exact this
 have D:(0:Rat)<4294967296:=by decide
 obtain ⟨m1,m2,m3,m4⟩:=mn4 (mF a c false) (mF a d false) (mF b c false) (mF b d false)
 obtain ⟨x1,x2,x3,x4⟩:=mx4 (mF a c true) (mF a d true) (mF b c true) (mF b d true)
 have ez:x*y*4294967296*4294967296=x*4294967296*(y*4294967296):=by grind
 constructor
 .rcases lb4 h1 h2 k1 k2 with p|p|p|p
  .exact LB D m1 (ff _ _) (by rw [ez]; exact p)
  .exact LB D m2 (ff _ _) (by rw [ez]; exact p)
  .exact LB D m3 (ff _ _) (by rw [ez]; exact p)
  .exact LB D m4 (ff _ _) (by rw [ez]; exact p)
 .rcases ub4 h1 h2 k1 k2 with p|p|p|p
  .exact LC D x1 (ft _ _) (by rw [ez]; exact p)
  .exact LC D x2 (ft _ _) (by rw [ez]; exact p)
  .exact LC D x3 (ft _ _) (by rw [ez]; exact p)
  .exact LC D x4 (ft _ _) (by rw [ez]; exact p)
end Go.Iv
namespace Go.Vc
open Go Go.Eng Go.Ar Go.Dg Go.Rd
def Bd (A a b:Int):Prop:=-A<=a/\a<=b/\b<=A
theorem Bd.ok {A a b:Int} (h:Bd A a b) (hA:A<=4503599627370496):au a b=true:=by
 obtain ⟨h1,h2,h3⟩:=h
 exact bJ.2 ⟨by omega,by omega,by omega⟩
theorem VM {A B x y:Int} (h1:-A<=x) (h2:x<=A) (h3:-B<=y) (h4:y<=B):-(A*B)<=x*y/\x*y<=A*B:=by
 have a:=Int.mul_nonneg (a:=A - x) (b:=B - y) (by omega) (by omega)
 have b:=Int.mul_nonneg (a:=A+x) (b:=B+y) (by omega) (by omega)
 have c:=Int.mul_nonneg (a:=A - x) (b:=B+y) (by omega) (by omega)
 have d:=Int.mul_nonneg (a:=A+x) (b:=B - y) (by omega) (by omega)
 constructor <;> grind
theorem abl {p M:Int} (h1:-(M*4294967296)<=p) (h2:p<=M*4294967296):-M<=rd p 4294967296 false/\rd p 4294967296 false<=rd p 4294967296 true/\rd p 4294967296 true<=M:=by
 refine ⟨(fP (by decide)).2 (by omega),Ai _ _ (by decide),(fQ (by decide)).2 (by omega)⟩
theorem xk {A B M a b c d:Int} (h:Bd A a b) (k:Bd B c d) (hA:A<=4503599627370496) (hB:B<=4503599627370496) (hM:A*B<=M*4294967296) (hM2:M<=4503599627370496):∃ l u,aD a b c d=⟨l,u,0⟩/\Bd M l u:=by
 have ok1:=h.ok hA
 have ok2:=k.ok hB
 obtain ⟨h1,h2,h3⟩:=h
 obtain ⟨k1,k2,k3⟩:=k
 have key:∀ x y,-A<=x->x<=A->-B<=y->y<=B->-M<=mF x y false/\mF x y false<=mF x y true/\mF x y true<=M:=fun x y a1 a2 a3 a4=>by
  have:=VM a1 a2 a3 a4
  exact abl (by omega) (by omega)
 have p1:=key a c (by omega) (by omega) (by omega) (by omega)
 have p2:=key a d (by omega) (by omega) (by omega) (by omega)
 have p3:=key b c (by omega) (by omega) (by omega) (by omega)
 have p4:=key b d (by omega) (by omega) (by omega) (by omega)
 unfold aD oI jQ
 rw [ok1,ok2]
 generalize mF a c false=f1 at *
 generalize mF a d false=f2 at *
 generalize mF b c false=f3 at *
 generalize mF b d false=f4 at *
 generalize mF a c true=g1 at *
 generalize mF a d true=g2 at *
 generalize mF b c true=g3 at *
 generalize mF b d true=g4 at *
 have b1:-M<=mn (mn (mn f1 f2) f3) f4/\mn (mn (mn f1 f2) f3) f4<=f1:=by
  simp only [mn_eq]
  constructor <;> (repeat' split) <;> omega
 have b2:mx (mx (mx g1 g2) g3) g4<=M/\g1<=mx (mx (mx g1 g2) g3) g4:=by
  simp only [mx_eq]
  constructor <;> (repeat' split) <;> omega
 refine ⟨_,_,?_,b1.1,by omega,b2.1⟩
 show d9 _ _=_
 unfold d9
 rw [aH.2 ⟨by omega,by omega⟩,aH.2 ⟨by omega,by omega⟩]
 rfl
theorem CG {A B a b c d:Int} (h:Bd A a b) (k:Bd B c d) (hA:A+B<=4503599627370496) (hA0:0<=A) (hB0:0<=B):eH a b c d=⟨a+c,b+d,0⟩/\Bd (A+B) (a+c) (b+d):=by
 have ok1:=h.ok (by omega)
 have ok2:=k.ok (by omega)
 obtain ⟨h1,h2,h3⟩:=h
 obtain ⟨k1,k2,k3⟩:=k
 refine ⟨?_,by omega,by omega,by omega⟩
 unfold eH oI
 rw [ok1,ok2]
 show d9 _ _=_
 unfold d9
 rw [aH.2 ⟨by omega,by omega⟩,aH.2 ⟨by omega,by omega⟩]
 rfl
def BdV (A:Int) (v:Ve):Prop:=Bd A v.a v.b/\Bd A v.c v.d/\Bd A v.e v.f
def BdM (A:Int) (m:Mat):Prop:=BdV A m.x/\BdV A m.y/\BdV A m.z
theorem BdV.ok {A:Int} {v:Ve} (h:BdV A v) (hA:A<=4503599627370496):wOk vf0 v=false/\MF.ok ⟨bA vf0,au⟩ v=true:=by
 unfold wOk MF.ok
 have h1:=h.1.ok hA
 have h2:=h.2.1.ok hA
 have h3:=h.2.2.ok hA
 show (!bif au _ _ then (bif au _ _ then au _ _ else false) else false)=false/\(bif au _ _ then (bif au _ _ then au _ _ else false) else false)=true
 rw [h1,h2,h3]; exact ⟨rfl,rfl⟩
theorem mY {A B M:Int} {v w:Ve} (h:BdV A v) (k:BdV B w) (hA:A<=4503599627370496) (hB:B<=4503599627370496) (hM:A*B<=M*4294967296) (hM0:0<=M) (hM2:3*M<=4503599627370496):
  ∃ l1 u1 l2 u2 l3 u3,aD v.a v.b w.a w.b=⟨l1,u1,0⟩/\aD v.c v.d w.c w.d=⟨l2,u2,0⟩/\aD v.e v.f w.e w.f=⟨l3,u3,0⟩/\bA vf0 v w=⟨l1+l2+l3,u1+u2+u3,0⟩/\Bd (3*M) (l1+l2+l3) (u1+u2+u3):=by
 obtain ⟨l1,u1,e1,b1⟩:=xk h.1 k.1 hA hB hM (by omega)
 obtain ⟨l2,u2,e2,b2⟩:=xk h.2.1 k.2.1 hA hB hM (by omega)
 obtain ⟨l3,u3,e3,b3⟩:=xk h.2.2 k.2.2 hA hB hM (by omega)
 obtain ⟨a1,c1⟩:=CG b1 b2 (by omega) hM0 hM0
 obtain ⟨a2,c2⟩:=CG c1 b3 (by omega) (by omega) hM0
 have hdA:dA vf0 v w=⟨l1+l2,u1+u2,0⟩:=by
  unfold dA
  show eH (aD v.a v.b w.a w.b).lo (aD v.a v.b w.a w.b).hi (aD v.c v.d w.c w.d).lo (aD v.c v.d w.c w.d).hi=_
  rw [e1,e2]; exact a1
 have hdB:dB vf0 v w=⟨l1+l2+l3,u1+u2+u3,0⟩:=by
  unfold dB
  rw [hdA]
  show eH (l1+l2) (u1+u2) (aD v.e v.f w.e w.f).lo (aD v.e v.f w.e w.f).hi=_
  rw [e3]; exact a2
 have ht:MV vf0 v w vf0.mu=0:=by
  unfold MV z3
  rw [Jh yz]
  unfold MW
  rw [(h.ok hA).1,(k.ok hB).1]
  show tE (aD v.a v.b w.a w.b) (aD v.c v.d w.c w.d) (aD v.e v.f w.e w.f) 0=0
  rw [e1,e2,e3]; rfl
 refine ⟨l1,u1,l2,u2,l3,u3,e1,e2,e3,?_,?_⟩
 .unfold bA dE
  rw [ht,hdA,hdB]; rfl
 .have:3*M=M+M+M:=by omega
  rw [this]; exact c2
theorem oM {A B M:Int} {a b:Mat} (h:BdM A a) (k:BdM B b) (hA:A<=4503599627370496) (hB:B<=4503599627370496) (hM:A*B<=M*4294967296) (hM0:0<=M) (hM2:3*M<=4503599627370496):
  qa ⟨bA vf0,au⟩ a b=0/\BdM (3*M) (mulV ⟨bA vf0,au⟩ a b)/\rmB ⟨bA vf0,au⟩ a b=false/\rmG ⟨bA vf0,au⟩ a b=true:=by
 have kf:BdV B (flip b).x/\BdV B (flip b).y/\BdV B (flip b).z:=by
  obtain ⟨⟨a1,a2,a3⟩,⟨b1,b2,b3⟩,c1,c2,c3⟩:=k
  exact ⟨⟨a1,b1,c1⟩,⟨a2,b2,c2⟩,a3,b3,c3⟩
 have dd:∀ r,BdV A r->∀ s,BdV B s->(bA vf0 r s).e=0/\Bd (3*M) (bA vf0 r s).lo (bA vf0 r s).hi:=fun r hr s hs=>by
  obtain ⟨_,_,_,_,_,_,_,_,_,e,b⟩:=mY hr hs hA hB hM hM0 hM2
  rw [e]; exact ⟨rfl,b⟩
 have okM':∀ {C:Int} {m:Mat},BdM C m->C<=4503599627370496->okM ⟨bA vf0,au⟩ m=true:=fun h hC=>by
  unfold okM
  rw [(h.1.ok hC).2,(h.2.1.ok hC).2,(h.2.2.ok hC).2]; rfl
 have hB1:rmB ⟨bA vf0,au⟩ a b=false:=by
  unfold rmB
  rw [okM' h hA,okM' k hB]; rfl
 have hg:∀ r,BdV A r->rg ⟨bA vf0,au⟩ b r=true:=fun r hr=>by
  unfold rg g3
  show (!((bA vf0 r (flip b).x).e != 0)&&(!((bA vf0 r (flip b).y).e != 0)&&!((bA vf0 r (flip b).z).e != 0)))=true
  rw [(dd r hr _ kf.1).1,(dd r hr _ kf.2.1).1,(dd r hr _ kf.2.2).1]; rfl
 have hG:rmG ⟨bA vf0,au⟩ a b=true:=by
  unfold rmG
  rw [hg _ h.1,hg _ h.2.1,hg _ h.2.2]; rfl
 have hI:∀ x,rmI ⟨bA vf0,au⟩ a b x=x:=fun x=>by
  unfold rmI
  rw [hB1,hG]; rfl
 have hrow:∀ r,BdV A r->BdV (3*M) (rmV ⟨bA vf0,au⟩ a b r):=fun r hr=>by
  unfold rmV
  simp only [hI]
  exact ⟨(dd r hr _ kf.1).2,(dd r hr _ kf.2.1).2,(dd r hr _ kf.2.2).2⟩
 refine ⟨?_,⟨hrow _ h.1,hrow _ h.2.1,hrow _ h.2.2⟩,hB1,hG⟩
 unfold qa
 rw [hB1,hG]; rfl
def uM:Mat:=⟨⟨4294967296,4294967296,0,0,0,0⟩,⟨0,0,4294967296,4294967296,0,0⟩,⟨0,0,0,0,4294967296,4294967296⟩⟩
theorem RO {m:Mat} (h:eqU m=true):m=uM:=by
 unfold eqU at h
 simp only [Bool.and_eq_true,beq_iff_eq,Bool.and_true] at h
 obtain ⟨⟨a,b,c,d,e,f⟩,⟨g,i,j,k,l,n⟩,o,p,q,r,s,t⟩:=m
 obtain ⟨h1,h2,h3,h4,h5,h6,h7,h8,h9,h10,h11,h12,h13,h14,h15,h16,h17,h18⟩:=h
 dsimp only at *
 subst h1 h2 h3 h4 h5 h6 h7 h8 h9 h10 h11 h12 h13 h14 h15 h16 h17 h18
 rfl
theorem ZI (a:Int) (up:Bool):mF a 4294967296 up=a:=by
 unfold mF rd
 cases up
 .exact Int.mul_ediv_cancel a (by decide)
 .show -(-(a*4294967296) / 4294967296)=a
  rw [<- Int.neg_mul,Int.mul_ediv_cancel _ (by decide)]; omega
theorem VN (a:Int) (up:Bool):mF a 0 up=0:=by
 unfold mF rd
 rw [Int.mul_zero]
 cases up <;> rfl
theorem mul_one {A a b:Int} (h:Bd A a b) (hA:A<=4503599627370496):aD a b 4294967296 4294967296=⟨a,b,0⟩:=by
 have ok1:=h.ok hA
 obtain ⟨h1,h2,h3⟩:=h
 unfold aD oI jQ
 rw [ok1]
 simp only [ZI]
 have m1:mn (mn (mn a a) b) b=a:=by
  simp only [mn_eq]
  repeat' split
  all_goals omega
 have m2:mx (mx (mx a a) b) b=b:=by
  simp only [mx_eq]
  repeat' split
  all_goals omega
 rw [m1,m2]
 show d9 a b=_
 exact qZ (by omega) (by omega) (by omega) (by omega)
theorem mul_zero {A a b:Int} (h:Bd A a b) (hA:A<=4503599627370496):aD a b 0 0=⟨0,0,0⟩:=by
 have ok1:=h.ok hA
 unfold aD oI jQ
 rw [ok1]
 simp only [VN]
 rfl
theorem bd0 (A:Int) (h:0<=A):Bd A 0 0:=⟨by omega,by omega,by omega⟩
theorem bd1 (A:Int) (h:4294967296<=A):Bd A 4294967296 4294967296:=⟨by omega,by omega,by omega⟩
theorem LD:BdM 4294967296 uM:=by
 have z:=bd0 4294967296 (by decide)
 have o:=bd1 4294967296 (by decide)
 exact ⟨⟨o,z,z⟩,⟨z,o,z⟩,z,z,o⟩
theorem vN {A:Int} {v:Ve} (h:BdV A v) (hA:A<=1000000000000000) (hA0:0<=A):(bA vf0 v uM.x)=⟨v.a,v.b,0⟩/\(bA vf0 v uM.y)=⟨v.c,v.d,0⟩/\(bA vf0 v uM.z)=⟨v.e,v.f,0⟩:=by
 obtain ⟨u1,u2,u3⟩:=LD
 have hA':A<=4503599627370496:=by omega
 refine ⟨?_,?_,?_⟩
 .obtain ⟨l1,w1,l2,w2,l3,w3,e1,e2,e3,e,_⟩:=mY h u1 hA' (by decide) (Int.le_refl _) hA0 (by omega)
  rw [show aD v.a v.b uM.x.a uM.x.b=aD v.a v.b 4294967296 4294967296 from rfl,mul_one h.1 hA'] at e1
  rw [show aD v.c v.d uM.x.c uM.x.d=aD v.c v.d 0 0 from rfl,mul_zero h.2.1 hA'] at e2
  rw [show aD v.e v.f uM.x.e uM.x.f=aD v.e v.f 0 0 from rfl,mul_zero h.2.2 hA'] at e3
  cases e1; cases e2; cases e3
  rw [e,Int.add_zero,Int.add_zero,Int.add_zero,Int.add_zero]
 .obtain ⟨l1,w1,l2,w2,l3,w3,e1,e2,e3,e,_⟩:=mY h u2 hA' (by decide) (Int.le_refl _) hA0 (by omega)
  rw [show aD v.a v.b uM.y.a uM.y.b=aD v.a v.b 0 0 from rfl,mul_zero h.1 hA'] at e1
  rw [show aD v.c v.d uM.y.c uM.y.d=aD v.c v.d 4294967296 4294967296 from rfl,mul_one h.2.1 hA'] at e2
  rw [show aD v.e v.f uM.y.e uM.y.f=aD v.e v.f 0 0 from rfl,mul_zero h.2.2 hA'] at e3
  cases e1; cases e2; cases e3
  rw [e,Int.zero_add,Int.add_zero,Int.zero_add,Int.add_zero]
 .obtain ⟨l1,w1,l2,w2,l3,w3,e1,e2,e3,e,_⟩:=mY h u3 hA' (by decide) (Int.le_refl _) hA0 (by omega)
  rw [show aD v.a v.b uM.z.a uM.z.b=aD v.a v.b 0 0 from rfl,mul_zero h.1 hA'] at e1
  rw [show aD v.c v.d uM.z.c uM.z.d=aD v.c v.d 0 0 from rfl,mul_zero h.2.1 hA'] at e2
  rw [show aD v.e v.f uM.z.e uM.z.f=aD v.e v.f 4294967296 4294967296 from rfl,mul_one h.2.2 hA'] at e3
  cases e1; cases e2; cases e3
  rw [e,Int.add_zero,Int.zero_add,Int.zero_add]
noncomputable def mf1:MF:=⟨bA vf0,au⟩
theorem vO {A:Int} {m:Mat} (h:BdM A m) (hA:A<=1000000000000000) (hA0:0<=A):mulV mf1 m uM=m:=by
 obtain ⟨_,_,hB,hG⟩:=oM h LD (by omega) (by decide) (Int.le_refl _) hA0 (by omega)
 have hI:∀ x,rmI mf1 m uM x=x:=fun x=>by
  unfold rmI
  rw [show rmB mf1 m uM=false from hB,show rmG mf1 m uM=true from hG]; rfl
 have hrow:∀ r,BdV A r->rmV mf1 m uM r=r:=fun r hr=>by
  obtain ⟨a,b,c⟩:=vN hr hA hA0
  unfold rmV
  simp only [hI]
  rw [show mf1.dt r (flip uM).x=_ from a,show mf1.dt r (flip uM).y=_ from b,show mf1.dt r (flip uM).z=_ from c]
 unfold mulV
 rw [hrow _ h.1,hrow _ h.2.1,hrow _ h.2.2]
theorem abm {m d:Int}:gQ m d<=gT m d:=by
 unfold gQ gT
 repeat' split
 all_goals omega
theorem RP {more n d:Int} (h:snN more n d=true):Bd 13000000000 (iQ more n d) (iR more n d):=by
 unfold iQ iR
 cases hB:rR d with
 | true=>exact bd0 _ (by decide)
 | false=>
  unfold snN at h
  rw [hB] at h
  obtain ⟨a,b,c,d'⟩:=WS h
  have e:=abm (m:=snA more n d) (d:=d)
  cases snK n d more==0||snK n d more==1 with
  | true=>
   show Bd _ (gQ _ _) (gT _ _)
   exact ⟨by omega,e,d'⟩
  | false=>
   show Bd _ (-gT _ _) (-gQ _ _)
   exact ⟨by omega,by omega,by omega⟩
theorem xm {A a b:Int} (h:Bd A a b) (hA:A<=4503599627370496):Be a b=⟨-b,-a,0⟩/\Bd A (-b) (-a):=by
 unfold Be
 rw [h.ok hA]
 obtain ⟨h1,h2,h3⟩:=h
 exact ⟨rfl,by omega,by omega,by omega⟩
theorem Xa {a n:Int}:BdM 13000000000 (abA af0 a n):=by
 have s:=RP (vL 0 n)
 have c:=RP (vL 1 n)
 obtain ⟨g1,g2⟩:=xm s (by decide)
 have z:=bd0 13000000000 (by decide)
 have o:=bd1 13000000000 (by decide)
 unfold abA
 show BdM _ (JN (iQ 0 n 360000000) (iR 0 n 360000000) (iQ 1 n 360000000) (iR 1 n 360000000) (Be (iQ 0 n 360000000) (iR 0 n 360000000)) a)
 rw [g1]
 unfold JN
 cases a==0 with
 | true=>exact ⟨⟨o,z,z⟩,⟨z,c,g2⟩,z,s,c⟩
 | false=>cases a==1 with
  | true=>exact ⟨⟨c,z,s⟩,⟨z,o,z⟩,g2,z,c⟩
  | false=>exact ⟨⟨c,g2,z⟩,⟨s,c,z⟩,z,z,o⟩
noncomputable def AQ (x y:Int):Mat:=mulV mf1 (abA af0 1 y) (abA af0 0 x)
noncomputable def JR (x y z:Int):Mat:=mulV mf1 (abA af0 2 z) (AQ x y)
theorem abn (x y z:Int):ro2 ⟨axN,abA af0,mulV mf1,qa mf1⟩ x y z=JR x y z:=by
 have e1:ro1 ⟨axN,abA af0,mulV mf1,qa mf1⟩ x y=AQ x y:=by
  unfold ro1 AQ
  show VK (eqU (abA af0 0 x)) (abA af0 1 y) (mulV mf1 (abA af0 1 y) (abA af0 0 x))=_
  cases h:eqU (abA af0 0 x) with
  | false=>rfl
  | true=>
   rw [RO h,vO Xa (by decide) (by decide)]; rfl
 unfold ro2 JR
 rw [e1]
 show VK (eqU (AQ x y)) (abA af0 2 z) (mulV mf1 (abA af0 2 z) (AQ x y))=_
 cases h:eqU (AQ x y) with
 | false=>rfl
 | true=>
  rw [RO h,vO Xa (by decide) (by decide)]; rfl
def iq (x y z:Int):Bool:=bif iT x then true else bif iT y then true else iT z
def z0M:Mat:=⟨⟨0,0,0,0,0,0⟩,⟨0,0,0,0,0,0⟩,⟨0,0,0,0,0,0⟩⟩
noncomputable def kY (x y z:Int):Mat:=bif iq x y z then z0M else JR x y z
def kv (x y z:Int):Int:=bif iq x y z then 2 else 0
end Go.Vc
namespace Go.Proofs.YtbhibbcjfgnmhaaGreatDoor.K
open Go Go.Eng Go.Dg Go.Ar Go.Vc
noncomputable section
def maT (m:Mat):Tm:=.a [.n .i64 m.x.a,.n .i64 m.x.b,.n .i64 m.x.c,.n .i64 m.x.d,.n .i64 m.x.e,.n .i64 m.x.f,.n .i64 m.y.a,.n .i64 m.y.b,.n .i64 m.y.c,.n .i64 m.y.d,.n .i64 m.y.e,.n .i64 m.y.f,.n .i64 m.z.a,.n .i64 m.z.b,.n .i64 m.z.c,.n .i64 m.z.d,.n .i64 m.z.e,.n .i64 m.z.f]
def sAb (N:Int->Int->Bool) (A:Int->Int->Mat):aF:=aJ Y7 (some fun|[.n m,.n d]=>N m d|_=>false) fun
 | [.n m,.n d]=>maT (A m d)
 | _=>.u []
def RQ (F:AF):List (FuncId×aF):=[(86,Ib F.n0 F.sl F.sh snE),(87,Ib F.n1 F.cl F.ch snE),(88,sUn F.ng)]
theorem RS:uR Tryz.prog (RQ af0):=by
 intro x hx
 simp only [RQ,List.mem_cons,List.not_mem_nil,or_false] at hx
 rcases hx with rfl|rfl|rfl
 .exact VJ
 .exact NA
 .exact KN
def cAb (F:AF) (i j:Int):Ctx:=gK (mkC Tryz.prog (RQ F) ext) (hZ [(32,.int false .i64 i),(35,.int false .i64 j)])
theorem JS (i j:Int):CtxOk (cAb af0 i j):=cz (oD prog_ok RS ext_ok) _
def zP:AV:=.int false .i64 0
def oP:AV:=.int false .i64 4294967296
def iP (x:Int):AV:=.int true .i64 x
def abL (sl sh cl ch:Int) (m:Sp) (a:Int):List AV:=
 bif a==0 then [oP,oP,zP,zP,zP,zP,zP,zP,iP cl,iP ch,iP m.lo,iP m.hi,zP,zP,iP sl,iP sh,iP cl,iP ch]
 else bif a==1 then [iP cl,iP ch,zP,zP,iP sl,iP sh,zP,zP,oP,oP,zP,zP,iP m.lo,iP m.hi,zP,zP,iP cl,iP ch]
 else [iP cl,iP ch,iP m.lo,iP m.hi,zP,zP,iP sl,iP sh,iP cl,iP ch,zP,zP,zP,zP,zP,zP,oP,oP]
def abV (F:AF) (a n:Int):AV:=.agg (abL (F.sl n 360000000) (F.sh n 360000000) (F.cl n 360000000) (F.ch n 360000000) (F.ng (F.sl n 360000000) (F.sh n 360000000)) a)
theorem VO (F:AF) (n:Int):gD ((run (cAb F 1 2) 300).call 68 [.int true .i64 0,.int true .i64 n] ⟨[],0,1⟩)=some (.p (abN F n 0 1 2),abV F 0 n):=by kernel_rfl
theorem VP (F:AF) (n:Int):gD ((run (cAb F 2 0) 300).call 68 [.int true .i64 1,.int true .i64 n] ⟨[],0,1⟩)=some (.p (abN F n 1 2 0),abV F 1 n):=by kernel_rfl
theorem VQ (F:AF) (n:Int):gD ((run (cAb F 0 1) 300).call 68 [.int true .i64 2,.int true .i64 n] ⟨[],0,1⟩)=some (.p (abN F n 2 0 1),abV F 2 n):=by kernel_rfl
theorem RU {n a i j:Int} (h:(wr (a+1)).tmod 3=i/\(wr (a+2)).tmod 3=j):abN af0 n a i j:=⟨vL 0 n,vL 1 n,h,⟨⟨rfl,rfl⟩,⟨rfl,rfl⟩,rfl,rfl⟩,⟨⟨rfl,rfl⟩,rfl,rfl⟩,rfl,rfl⟩
theorem RV:PureOk Tryz.prog 68 (sAb axN (abA af0)):=by
 refine num_ok' (fun xs hk hN=>?_) ⟨_,Tryz.func68,rfl⟩
 obtain ⟨a,_,rfl,h1⟩:=kn hk; obtain ⟨n,_,rfl,h2⟩:=kn h1; obtain rfl:=k0 h2
 have hN:axN a n=true:=hN
 unfold axN at hN
 simp only [Bool.or_eq_true,beq_iff_eq] at hN
 rcases hN with rfl|rfl|rfl
 .exact ⟨_,300,_,_,JS 1 2,rfl,fun _=>rfl,rfl,VO af0 n,RU (by decide),fun τ W h=>h⟩
 .exact ⟨_,300,_,_,JS 2 0,rfl,fun _=>rfl,rfl,VP af0 n,RU (by decide),fun τ W h=>h⟩
 .exact ⟨_,300,_,_,JS 0 1,rfl,fun _=>rfl,rfl,VQ af0 n,RU (by decide),fun τ W h=>h⟩
def RX (R:RF):List (FuncId×aF):=[(68,sAb R.n R.ab),(48,sMM R.mv R.mo)]
def rf0:RF:=⟨axN,abA af0,mulV mf0,qa mf0⟩
theorem RY:uR Tryz.prog (RX rf0):=by
 intro x hx
 simp only [RX,List.mem_cons,List.not_mem_nil,or_false] at hx
 rcases hx with rfl|rfl
 .exact RV
 .exact KU
def hRo (k:Nat):Nat->Nat->Option AV:=fun c t=>match Nat.beq t 26 with
 | true=>match Nat.ble k c with
  | true=>some (.bool false true)
  | false=>some (.bool false false)
 | false=>none
def cRo (R:RF) (k:Nat):Ctx:=gK (mkC Tryz.prog (RX R) ext) (hRo k)
theorem EP (k:Nat):CtxOk (cRo rf0 k):=cz (oD prog_ok RY ext_ok) _
def abo:List Sh:=[.i .i64,.i .i64,.i .i64]
def outMa' (m:Mat) (e:AV):AV:=.tuple [(maT m).av true,e]
def VR:AV:=.tuple [.agg [zP,zP,zP,zP,zP,zP,zP,zP,zP,zP,zP,zP,zP,zP,zP,zP,zP,zP],.int false .i64 2]
def i3 (x y z:Int):List AV:=[.int true .i64 x,.int true .i64 y,.int true .i64 z]
theorem ZJ (R:RF) (x y z:Int):gD ((run (cRo R 0) 900).call 47 (i3 x y z) ⟨[],0,1⟩)=some (.p (qA x true),VR):=by kernel_rfl
theorem ZK (R:RF) (x y z:Int):gD ((run (cRo R 100) 900).call 47 (i3 x y z) ⟨[],0,1⟩)=some (.p (Zg R x/\qA y true),VR):=by kernel_rfl
theorem ZL (R:RF) (x y z:Int):gD ((run (cRo R 200) 900).call 47 (i3 x y z) ⟨[],0,1⟩)=some (.p (Zg R x/\aba R x y/\qA z true),VR):=by kernel_rfl
theorem VT (R:RF) (x y z:Int):gD ((run (cRo R 9000) 900).call 47 (i3 x y z) ⟨[],0,1⟩)=some (.p (Zg R x/\aba R x y/\acB R x y z),outMa' (ro2 R x y z) (.int false .i64 0)):=by kernel_rfl
def ZM (V:Int->Int->Int->Mat) (E:Int->Int->Int->Int):aF:=aJ abo none fun
 | [.n x,.n y,.n z]=>vv (V x y z) (E x y z)
 | _=>.u []
theorem ZN:PureOk Tryz.prog 47 (ZM kY kv):=by
 refine num_ok' (fun xs hk _=>?_) ⟨_,Tryz.func47,rfl⟩
 obtain ⟨x,_,rfl,h1⟩:=kn hk; obtain ⟨y,_,rfl,h2⟩:=kn h1; obtain ⟨z,_,rfl,h3⟩:=kn h2; obtain rfl:=k0 h3
 have nx:∀ b,iT x=b->qA x b:=fun b h=>h ▸ JM
 have ny:∀ b,iT y=b->qA y b:=fun b h=>h ▸ JM
 have nz:∀ b,iT z=b->qA z b:=fun b h=>h ▸ JM
 have bad:iq x y z=true->∀ τ W,VRel τ VR W->VRel τ ((vv (kY x y z) (kv x y z)).av true) W:=fun h τ W k=>by
  have e1:kY x y z=z0M:=by unfold kY; rw [h]; rfl
  have e2:kv x y z=2:=by unfold kv; rw [h]; rfl
  rw [e1,e2]; exact k
 cases hx:iT x with
 | true=>exact ⟨cRo rf0 0,900,_,_,EP 0,rfl,fun _=>rfl,rfl,ZJ rf0 x y z,nx _ hx,bad (by unfold iq; rw [hx]; rfl)⟩
 | false=>cases hy:iT y with
  | true=>exact ⟨cRo rf0 100,900,_,_,EP 100,rfl,fun _=>rfl,rfl,ZK rf0 x y z,⟨⟨nx _ hx,rfl⟩,ny _ hy⟩,bad (by unfold iq; rw [hx,hy]; rfl)⟩
  | false=>cases hz:iT z with
   | true=>exact ⟨cRo rf0 200,900,_,_,EP 200,rfl,fun _=>rfl,rfl,ZL rf0 x y z,⟨⟨nx _ hx,rfl⟩,⟨ny _ hy,rfl,PQ _⟩,nz _ hz⟩,bad (by unfold iq; rw [hx,hy,hz]; rfl)⟩
   | false=>
    have hb:iq x y z=false:=by unfold iq; rw [hx,hy,hz]; rfl
    refine ⟨cRo rf0 9000,900,_,_,EP 9000,rfl,fun _=>rfl,rfl,VT rf0 x y z,⟨⟨nx _ hx,rfl⟩,⟨ny _ hy,rfl,PQ _⟩,nz _ hz,rfl,PQ _⟩,fun τ W k=>?_⟩
    have e1:kY x y z=ro2 rf0 x y z:=by unfold kY; rw [hb]; exact (abn x y z).symm
    have e2:kv x y z=0:=by unfold kv; rw [hb]; rfl
    show VRel τ ((vv (kY x y z) (kv x y z)).av true) W
    rw [e1,e2]; exact k
end
end Go.Proofs.YtbhibbcjfgnmhaaGreatDoor.K
namespace Go.Sn
open Go
def sg (n:Nat):Rat:=if n % 2=0 then 1 else -1
theorem VU (n:Nat):sg (n+1)=-sg n:=by
 unfold sg
 rcases Nat.mod_two_eq_zero_or_one n with h|h
 .rw [if_neg (by omega),if_pos h]
 .rw [if_pos (by omega),if_neg (by omega)]; grind
theorem abp (x:Rat):∀ n,e (-x) n=sg n*e x n:=by
 intro n
 induction n with
 | zero=>show (1:Rat)=sg 0*1; rw [show sg 0=1 from if_pos rfl]; grind
 | succ n ih=>
  have h1:=gU (-x) n
  have h2:=gU x n
  have hp:=mU n
  rw [ih] at h1
  have h3:((n+1:Nat):Rat)*(e (-x) (n+1) - sg (n+1)*e x (n+1))=0:=by
   rw [VU]
   have:((n+1:Nat):Rat)*(e (-x) (n+1) - -sg n*e x (n+1))=((n+1:Nat):Rat)*e (-x) (n+1)+sg n*(((n+1:Nat):Rat)*e x (n+1)):=by grind
   rw [this,h1,h2]; grind
  rcases Rat.mul_eq_zero.mp h3 with h|h
  .grind
  .grind
def Rd (d:Nat->Nat->Rat) (a b:Rat) (N:Nat):Rat:=sum (fun p=>e a p*sum (fun q=>d p q*e b q) N) N
def Td (d:Nat->Nat->Rat) (a b:Rat) (N:Nat):Rat:=sum (fun p=>e a p*sum (fun q=>d p q*e b q) (N - p)) N
theorem VV {d:Nat->Nat->Rat} (hd:∀ p q,-1<=d p q/\d p q<=1) {a b:Rat} (ha:0<=a) (hb:0<=b) (N:Nat):-tail N (a+b)<=Rd d a b N - Td d a b N/\Rd d a b N - Td d a b N<=tail N (a+b):=by
 have hT:-(Rc one a b N - T one a b N)<=Rd d a b N - Td d a b N/\Rd d a b N - Td d a b N<=Rc one a b N - T one a b N:=by
  have key:∀ p,p<N->-(e a p*sum (fun q=>one (p+q)*e b q) N - e a p*sum (fun q=>one (p+q)*e b q) (N - p))<=e a p*sum (fun q=>d p q*e b q) N - e a p*sum (fun q=>d p q*e b q) (N - p) /\
    e a p*sum (fun q=>d p q*e b q) N - e a p*sum (fun q=>d p q*e b q) (N - p)<=e a p*sum (fun q=>one (p+q)*e b q) N - e a p*sum (fun q=>one (p+q)*e b q) (N - p):=by
   intro p hp
   have hb2:∀ i,i<N->-(one (p+i)*e b i)<=d p i*e b i/\d p i*e b i<=one (p+i)*e b i:=by
    intro i _
    have h1:=qx hb i
    have h2:=hd p i
    have h3:=Rat.mul_nonneg (a:=d p i+1) (by grind) h1
    have h4:=Rat.mul_nonneg (a:=1 - d p i) (by grind) h1
    simp only [one]; grind
   obtain ⟨h1,h2⟩:=AC (f:=fun q=>d p q*e b q) (g:=fun q=>one (p+q)*e b q) (Nat.sub_le N p) hb2
   have h3:=qx ha p
   have h4:=Rat.mul_le_mul_of_nonneg_left h1 h3
   have h5:=Rat.mul_le_mul_of_nonneg_left h2 h3
   grind
  have f1:Rc one a b N - T one a b N=sum (fun p=>e a p*sum (fun q=>one (p+q)*e b q) N - e a p*sum (fun q=>one (p+q)*e b q) (N - p)) N:=by
   unfold Rc T
   rw [<- Ez]
  have f2:Rd d a b N - Td d a b N=sum (fun p=>e a p*sum (fun q=>d p q*e b q) N - e a p*sum (fun q=>d p q*e b q) (N - p)) N:=by
   unfold Rd Td
   rw [<- Ez]
  rw [f1,f2]
  constructor
  .have:=wX (f:=fun p=>-1*(e a p*sum (fun q=>one (p+q)*e b q) N - e a p*sum (fun q=>one (p+q)*e b q) (N - p))) (g:=fun p=>e a p*sum (fun q=>d p q*e b q) N - e a p*sum (fun q=>d p q*e b q) (N - p)) (n:=N) (fun p hp=>by have:=(key p hp).1; grind)
   rw [cO] at this
   grind
  .exact wX fun p hp=>(key p hp).2
 rw [Q4] at hT
 have:=Q5 ha hb N
 unfold tail
 grind
def dC (p q:Nat):Rat:=cF p*cF q+sF p*sF q
theorem Xb (p q:Nat):dC p q=cF (p+q)*sg q:=by
 unfold dC
 rw [Q8]
 unfold cF sF sg
 rcases sZ q with h|h|h|h <;> simp only [h] <;> first|(rw [if_pos (by omega)]; grind)|(rw [if_neg (by omega)]; grind)
theorem abq (p q:Nat):-1<=dC p q/\dC p q<=1:=by
 rw [Xb]
 have:=Q7 (p+q)
 unfold sg
 split <;> grind
theorem abr (a:Rat) (N:Nat):Rd dC a a N=C N a*C N a+S N a*S N a:=by
 unfold Rd
 have h:∀ p,e a p*sum (fun q=>dC p q*e a q) N=C N a*(cF p*e a p)+S N a*(sF p*e a p):=by
  intro p
  have h1:sum (fun q=>dC p q*e a q) N=cF p*C N a+sF p*S N a:=by
   unfold C S Z
   rw [<- cO,<- cO,<- lQ]
   exact dz fun q _=>by unfold dC; grind
  rw [h1]; grind
 rw [dz (fun p _=>h p),lQ,cO,cO]
 unfold S C Z
 grind
theorem ZO (a:Rat) (N:Nat):Td dC a a N=Z cF N 0:=by
 have h:Td dC a a N=T cF a (-a) N:=by
  unfold Td T
  refine dz fun p _=>?_
  congr 1
  refine dz fun q _=>?_
  rw [Xb,abp]; grind
 rw [h,Q4]
 congr 1; grind
theorem ZP:Z cF 64 0=1:=by decide +kernel
theorem ZQ {a:Rat} (ha:0<=a):-tail 64 (a+a)<=C 64 a*C 64 a+S 64 a*S 64 a - 1/\C 64 a*C 64 a+S 64 a*S 64 a - 1<=tail 64 (a+a):=by
 have h:=VV abq ha ha 64
 rw [abr,ZO,ZP] at h
 exact h
def ta:Rat:=1 / 1532495540865888858358347027150309183618739122183602176
theorem RZ:tail 64 (16 / 5)<=ta:=by decide +kernel
theorem abt:1 - ta<=S 64 hp/\S 64 hp<=1+ta:=by decide +kernel
theorem acD:-ta<=C 64 hp/\C 64 hp<=ta:=by decide +kernel
theorem pb {x y X Y:Rat} (h1:-X<=x) (h2:x<=X) (h3:-Y<=y) (h4:y<=Y):-(X*Y)<=x*y/\x*y<=X*Y:=by
 have a1:=Rat.mul_nonneg (a:=X - x) (b:=Y - y) (by grind) (by grind)
 have a2:=Rat.mul_nonneg (a:=X+x) (b:=Y+y) (by grind) (by grind)
 have a3:=Rat.mul_nonneg (a:=X - x) (b:=Y+y) (by grind) (by grind)
 have a4:=Rat.mul_nonneg (a:=X+x) (b:=Y - y) (by grind) (by grind)
 constructor <;> grind
theorem Sa {x:Rat} (h:x*x<=4):-2<=x/\x<=2:=by
 constructor
 .by_cases h1:-2<=x
  .exact h1
  .have:=Rat.mul_pos (a:=-2 - x) (b:=2 - x) (by grind) (by grind)
   grind
 .by_cases h1:x<=2
  .exact h1
  .have:=Rat.mul_pos (a:=x - 2) (b:=x+2) (by grind) (by grind)
   grind
theorem LF (x:Rat):0<=x*x:=by
 rcases Rat.le_total (a:=0) (b:=x) with h|h
 .exact Rat.mul_nonneg h h
 .have:=Rat.mul_nonneg (a:=-x) (b:=-x) (by grind) (by grind); grind
theorem kZ:0<=ta/\ta<=1 / 1000:=by decide +kernel
theorem circle' {a:Rat} (h0:0<=a) (h1:a<=8 / 5):-ta<=C 64 a*C 64 a+S 64 a*S 64 a - 1/\C 64 a*C 64 a+S 64 a*S 64 a - 1<=ta:=by
 have h:=ZQ h0
 have:=(qY (x:=a+a) (y:=16 / 5) (by grind) (by grind) 64).2
 have:=RZ
 grind
theorem two_of {c s t:Rat} (t1:t<=1 / 1000) (h:c*c+s*s - 1<=t):(-2<=c/\c<=2)/\(-2<=s/\s<=2):=by
 have:=LF c
 have:=LF s
 exact ⟨Sa (by grind),Sa (by grind)⟩
theorem Sb {sa ca sb cb t u1 u2 ε:Rat} (t0:0<=t) (t1:t<=1 / 1000) (hε:ca*ca+sa*sa - 1=ε) (e1:-t<=ε) (e2:ε<=t)
  (hb:cb*cb+sb*sb - 1<=t) (h1:sa*cb+ca*sb - 1=u1) (h2:ca*cb - sa*sb=u2) (u1a:-(2*t)<=u1) (u1b:u1<=2*t) (u2a:-(2*t)<=u2) (u2b:u2<=2*t):
  -(10*t)<=ca - sb/\ca - sb<=10*t/\-(41*t)<=sa*sa+sb*sb - 1/\sa*sa+sb*sb - 1<=41*t:=by
 obtain ⟨⟨ca0,ca1⟩,sa0,sa1⟩:=two_of (c:=ca) (s:=sa) t1 (by grind)
 obtain ⟨_,sb0,sb1⟩:=two_of (c:=cb) (s:=sb) t1 hb
 have hD:ca - sb=sb*ε+sa*u2 - ca*u1:=by rw [<- hε,<- h1,<- h2]; grind
 have p1:=pb sb0 sb1 e1 e2
 have p2:=pb sa0 sa1 u2a u2b
 have p3:=pb ca0 ca1 u1a u1b
 have d1:-(10*t)<=ca - sb:=by rw [hD]; grind
 have d2:ca - sb<=10*t:=by rw [hD]; grind
 have p4:=pb (x:=ca - sb) (y:=ca+sb) (X:=10*t) (Y:=4) d1 d2 (by grind) (by grind)
 have hQ:sa*sa+sb*sb - 1=ε - (ca - sb)*(ca+sb):=by rw [<- hε]; grind
 refine ⟨d1,d2,?_,?_⟩ <;> rw [hQ] <;> grind
theorem Sc {q:Rat} (h0:0<=q) (h1:q<=1):-(41*ta)<=tru q*tru q+tru (1 - q)*tru (1 - q) - 1/\tru q*tru q+tru (1 - q)*tru (1 - q) - 1<=41*ta:=by
 obtain ⟨a0,a1⟩:=ED h0 h1
 obtain ⟨b0,b1⟩:=ED (q:=1 - q) (by grind) (by grind)
 have hab:hp*q+hp*(1 - q)=hp:=by grind
 have ca:=circle' a0 a1
 have cb:=circle' b0 b1
 have s:=EA a0 b0 64
 have c:=Lh a0 b0 64
 rw [hab] at s c
 have tl:tail 64 hp<=ta:=by
  have h:=(qY (x:=hp) (y:=16 / 5) Lm.1 (by have:=Lm.2.1; grind) 64).2
  have:=RZ
  grind
 have sh:=abt
 have ch:=acD
 have t:=kZ
 have r:=Sb (sa:=S 64 (hp*q)) (ca:=C 64 (hp*q)) (sb:=S 64 (hp*(1 - q))) (cb:=C 64 (hp*(1 - q))) t.1 t.2 rfl ca.1 ca.2 cb.2 rfl rfl (by grind) (by grind) (by grind) (by grind)
 exact r.2.2
end Go.Sn
namespace Go.Rd
open Go Go.Eng Go.Ar
def EQ (c k:Int):Prop:=(-1000000000<=c/\c<=1000000000)/\(-100000000<=k/\k<=100000000)
def s0 (c k a b d e:Int):Sp:=(vk a b)
def s1 (c k a b d e:Int):Sp:=(vk d e)
def s2 (c k a b d e:Int):Sp:=(eH (s0 c k a b d e).lo (s0 c k a b d e).hi (s1 c k a b d e).lo (s1 c k a b d e).hi)
def s3 (c k a b d e:Int):Sp:=(aG (s2 c k a b d e).lo (s2 c k a b d e).hi c 1000000000)
def s4 (c k a b d e:Int):Sp:=(aG (s3 c k a b d e).lo (s3 c k a b d e).hi c 1000000000)
def s5 (c k a b d e:Int):Sp:=(aG (s4 c k a b d e).lo (s4 c k a b d e).hi (IntKind.i64.wrap (1000000+k)) 1000000)
def s6 (c k a b d e:Int):Sp:=(vg 4294967296 4294967296 (s5 c k a b d e).lo (s5 c k a b d e).hi)
def s7 (c k a b d e:Int):Sp:=(mM (s6 c k a b d e).lo (s6 c k a b d e).hi)
def s8 (c k a b d e:Int):Sp:=(eH (s3 c k a b d e).lo (s3 c k a b d e).hi 0 0)
def s9 (c k a b d e:Int):Sp:=(eH 4294967296 4294967296 (s7 c k a b d e).lo (s7 c k a b d e).hi)
def s10 (c k a b d e:Int):Sp:=(oJ (s8 c k a b d e).lo (s8 c k a b d e).hi (s9 c k a b d e).lo (s9 c k a b d e).hi)
def s11 (c k a b d e:Int):Sp:=(aG d e c 1000000000)
def s12 (c k a b d e:Int):Sp:=(oJ (s11 c k a b d e).lo (s11 c k a b d e).hi (s7 c k a b d e).lo (s7 c k a b d e).hi)
def s13 (c k a b d e:Int):Sp:=(aG a b c 1000000000)
def s14 (c k a b d e:Int):Sp:=(oJ (s13 c k a b d e).lo (s13 c k a b d e).hi (s7 c k a b d e).lo (s7 c k a b d e).hi)
def b0 (c k l m a b d e:Int):Sp:=(vk a b)
def b1 (c k l m a b d e:Int):Sp:=(aG (b0 c k l m a b d e).lo (b0 c k l m a b d e).hi l 1000000000)
def b2 (c k l m a b d e:Int):Sp:=(vk d e)
def b3 (c k l m a b d e:Int):Sp:=(aG (b2 c k l m a b d e).lo (b2 c k l m a b d e).hi c 1000000000)
def b4 (c k l m a b d e:Int):Sp:=(aG (b1 c k l m a b d e).lo (b1 c k l m a b d e).hi l 1000000000)
def b5 (c k l m a b d e:Int):Sp:=(aG (b3 c k l m a b d e).lo (b3 c k l m a b d e).hi c 1000000000)
def b6 (c k l m a b d e:Int):Sp:=(aG (b4 c k l m a b d e).lo (b4 c k l m a b d e).hi (IntKind.i64.wrap (1000000+m)) 1000000)
def b7 (c k l m a b d e:Int):Sp:=(aG (b5 c k l m a b d e).lo (b5 c k l m a b d e).hi (IntKind.i64.wrap (1000000+k)) 1000000)
def b8 (c k l m a b d e:Int):Sp:=(eH (b6 c k l m a b d e).lo (b6 c k l m a b d e).hi (b7 c k l m a b d e).lo (b7 c k l m a b d e).hi)
def b9 (c k l m a b d e:Int):Sp:=(vg 4294967296 4294967296 (b8 c k l m a b d e).lo (b8 c k l m a b d e).hi)
def b10 (c k l m a b d e:Int):Sp:=(mM (b9 c k l m a b d e).lo (b9 c k l m a b d e).hi)
def b11 (c k l m a b d e:Int):Sp:=(eH (b1 c k l m a b d e).lo (b1 c k l m a b d e).hi (b3 c k l m a b d e).lo (b3 c k l m a b d e).hi)
def b12 (c k l m a b d e:Int):Sp:=(eH 4294967296 4294967296 (b10 c k l m a b d e).lo (b10 c k l m a b d e).hi)
def b13 (c k l m a b d e:Int):Sp:=(oJ (b11 c k l m a b d e).lo (b11 c k l m a b d e).hi (b12 c k l m a b d e).lo (b12 c k l m a b d e).hi)
def b14 (c k l m a b d e:Int):Sp:=(aG a b l 1000000000)
def b15 (c k l m a b d e:Int):Sp:=(aG (b14 c k l m a b d e).lo (b14 c k l m a b d e).hi l 1000000000)
def b16 (c k l m a b d e:Int):Sp:=(aG (b15 c k l m a b d e).lo (b15 c k l m a b d e).hi (IntKind.i64.wrap (1000000+m)) 1000000)
def b17 (c k l m a b d e:Int):Sp:=(oJ (b16 c k l m a b d e).lo (b16 c k l m a b d e).hi (b10 c k l m a b d e).lo (b10 c k l m a b d e).hi)
def b18 (c k l m a b d e:Int):Sp:=(aG d e c 1000000000)
def b19 (c k l m a b d e:Int):Sp:=(aG (b18 c k l m a b d e).lo (b18 c k l m a b d e).hi c 1000000000)
def b20 (c k l m a b d e:Int):Sp:=(aG (b19 c k l m a b d e).lo (b19 c k l m a b d e).hi (IntKind.i64.wrap (1000000+k)) 1000000)
def b21 (c k l m a b d e:Int):Sp:=(oJ (b20 c k l m a b d e).lo (b20 c k l m a b d e).hi (b10 c k l m a b d e).lo (b10 c k l m a b d e).hi)
def b22 (c k l m a b d e:Int):Sp:=(aD (b13 c k l m a b d e).lo (b13 c k l m a b d e).hi (b21 c k l m a b d e).lo (b21 c k l m a b d e).hi)
def b23 (c k l m a b d e:Int):Sp:=(aG (b18 c k l m a b d e).lo (b18 c k l m a b d e).hi 2 1)
def b24 (c k l m a b d e:Int):Sp:=(eH (b23 c k l m a b d e).lo (b23 c k l m a b d e).hi (b22 c k l m a b d e).lo (b22 c k l m a b d e).hi)
def b25 (c k l m a b d e:Int):Sp:=(oJ (b24 c k l m a b d e).lo (b24 c k l m a b d e).hi (b12 c k l m a b d e).lo (b12 c k l m a b d e).hi)
def b26 (c k l m a b d e:Int):Sp:=(aD (b13 c k l m a b d e).lo (b13 c k l m a b d e).hi (b17 c k l m a b d e).lo (b17 c k l m a b d e).hi)
def b27 (c k l m a b d e:Int):Sp:=(aG (b14 c k l m a b d e).lo (b14 c k l m a b d e).hi 2 1)
def b28 (c k l m a b d e:Int):Sp:=(eH (b27 c k l m a b d e).lo (b27 c k l m a b d e).hi (b26 c k l m a b d e).lo (b26 c k l m a b d e).hi)
def b29 (c k l m a b d e:Int):Sp:=(oJ (b28 c k l m a b d e).lo (b28 c k l m a b d e).hi (b12 c k l m a b d e).lo (b12 c k l m a b d e).hi)
structure PsagSF (c k a b d e:Int):Prop where
 h0:EQ c k
 h1:au a b=true
 h2:au d e=true
 h3:(s0 c k a b d e).e=0
 h4:(s1 c k a b d e).e=0
 h5:(s2 c k a b d e).e=0
 h6:(s3 c k a b d e).e=0
 h7:(s4 c k a b d e).e=0
 h8:(s5 c k a b d e).e=0
 h9:(s6 c k a b d e).e=0
 h10:decide ((s6 c k a b d e).lo<=0)=true
structure PsagSG (c k a b d e:Int):Prop where
 h0:EQ c k
 h1:au a b=true
 h2:au d e=true
 h3:(s0 c k a b d e).e=0
 h4:(s1 c k a b d e).e=0
 h5:(s2 c k a b d e).e=0
 h6:(s3 c k a b d e).e=0
 h7:(s4 c k a b d e).e=0
 h8:(s5 c k a b d e).e=0
 h9:(s6 c k a b d e).e=0
 h10:decide ((s6 c k a b d e).lo<=0)=false
 h11:(s7 c k a b d e).e=0
 h12:(s8 c k a b d e).e=0
 h13:(s9 c k a b d e).e=0
 h14:(s10 c k a b d e).e=0
structure PsagBF (c k l m a b d e:Int):Prop where
 h0:EQ c k
 h1:EQ l m
 h2:au a b=true
 h3:au d e=true
 h4:(b0 c k l m a b d e).e=0
 h5:(b1 c k l m a b d e).e=0
 h6:(b2 c k l m a b d e).e=0
 h7:(b3 c k l m a b d e).e=0
 h8:(b4 c k l m a b d e).e=0
 h9:(b6 c k l m a b d e).e=0
 h10:(b5 c k l m a b d e).e=0
 h11:(b7 c k l m a b d e).e=0
 h12:(b8 c k l m a b d e).e=0
 h13:(b9 c k l m a b d e).e=0
 h14:decide ((b9 c k l m a b d e).lo<=0)=true
structure PsagBG (c k l m a b d e:Int):Prop where
 h0:EQ c k
 h1:EQ l m
 h2:au a b=true
 h3:au d e=true
 h4:(b0 c k l m a b d e).e=0
 h5:(b1 c k l m a b d e).e=0
 h6:(b2 c k l m a b d e).e=0
 h7:(b3 c k l m a b d e).e=0
 h8:(b4 c k l m a b d e).e=0
 h9:(b6 c k l m a b d e).e=0
 h10:(b5 c k l m a b d e).e=0
 h11:(b7 c k l m a b d e).e=0
 h12:(b8 c k l m a b d e).e=0
 h13:(b9 c k l m a b d e).e=0
 h14:decide ((b9 c k l m a b d e).lo<=0)=false
 h15:(b10 c k l m a b d e).e=0
 h16:(b11 c k l m a b d e).e=0
 h17:(b12 c k l m a b d e).e=0
 h18:(b13 c k l m a b d e).e=0
structure PslopeS (c k a b d e:Int):Prop where
 h0:EQ c k
 h1:au a b=true
 h2:au d e=true
 h3:(s0 c k a b d e).e=0
 h4:(s1 c k a b d e).e=0
 h5:(s2 c k a b d e).e=0
 h6:(s3 c k a b d e).e=0
 h7:(s4 c k a b d e).e=0
 h8:(s5 c k a b d e).e=0
 h9:(s6 c k a b d e).e=0
 h10:decide ((s6 c k a b d e).lo<=0)=false
 h11:(s7 c k a b d e).e=0
 h12:(s8 c k a b d e).e=0
 h13:(s9 c k a b d e).e=0
 h14:(s10 c k a b d e).e=0
 h15:(s13 c k a b d e).e=0
 h16:(s14 c k a b d e).e=0
 h17:(s11 c k a b d e).e=0
 h18:(s12 c k a b d e).e=0
structure PslopeB (c k l m a b d e:Int):Prop where
 h0:EQ c k
 h1:EQ l m
 h2:au a b=true
 h3:au d e=true
 h4:(b0 c k l m a b d e).e=0
 h5:(b1 c k l m a b d e).e=0
 h6:(b2 c k l m a b d e).e=0
 h7:(b3 c k l m a b d e).e=0
 h8:(b4 c k l m a b d e).e=0
 h9:(b6 c k l m a b d e).e=0
 h10:(b5 c k l m a b d e).e=0
 h11:(b7 c k l m a b d e).e=0
 h12:(b8 c k l m a b d e).e=0
 h13:(b9 c k l m a b d e).e=0
 h14:decide ((b9 c k l m a b d e).lo<=0)=false
 h15:(b10 c k l m a b d e).e=0
 h16:(b11 c k l m a b d e).e=0
 h17:(b12 c k l m a b d e).e=0
 h18:(b13 c k l m a b d e).e=0
 h19:(b14 c k l m a b d e).e=0
 h20:(b15 c k l m a b d e).e=0
 h21:(b16 c k l m a b d e).e=0
 h22:(b17 c k l m a b d e).e=0
 h23:(b27 c k l m a b d e).e=0
 h24:(b26 c k l m a b d e).e=0
 h25:(b28 c k l m a b d e).e=0
 h26:(b29 c k l m a b d e).e=0
 h27:(b18 c k l m a b d e).e=0
 h28:(b19 c k l m a b d e).e=0
 h29:(b20 c k l m a b d e).e=0
 h30:(b21 c k l m a b d e).e=0
 h31:(b23 c k l m a b d e).e=0
 h32:(b22 c k l m a b d e).e=0
 h33:(b24 c k l m a b d e).e=0
 h34:(b25 c k l m a b d e).e=0
end Go.Rd
namespace Go.Rd
def g1:ByteArray:=⟨#[66,75,55]⟩
def g2:ByteArray:=⟨#[83,70,45,49]⟩
def g3:ByteArray:=⟨#[77,73,82,82,79,82]⟩
def g4:ByteArray:=⟨#[102,95,50]⟩
def isG (b:ByteArray):Prop:=b=g1\/b=g2\/b=g3\/b=g4
end Go.Rd
namespace Go.Rd
open Go Go.Eng Go.Ar
def inL (x:Int):Prop:=-1000000000<=x/\x<=1000000000
def inK (x:Int):Prop:=-100000000<=x/\x<=100000000
def inA (x:Int):Prop:=-90000000<=x/\x<=90000000
def ZR (se ho:Int):Prop:=0<=se/\se<=1000000000/\0<=ho/\ho<=1000000000/\(se=0\/ho<se)
def inG (s:ByteArray):Prop:=s=⟨#[]⟩\/isG s
structure vStd (c k a0 a1 a2 a3 f0 f1 o th:Int) (s:ByteArray) (se ho:Int):Prop where
 hc:inL c
 hk:inK k
 h0:inL a0
 h1:inL a1
 h2:inL a2
 h3:inL a3
 hf:inL f0
 hg:inL f1
 ho':-3<=o/\o<=3
 ht:inL th
 hs:inG s
 sh:ZR se ho
 ph:(f0=0/\f1=0/\o=0)\/(o≠0/\s≠g3)
structure vBic (c k l m th:Int) (s:ByteArray) (se ho:Int):Prop where
 hc:inL c
 hk:inK k
 hl:inL l
 hm:inK m
 ht:inL th
 hs:inG s
 sh:ZR se ho
structure vBrk (th dx dy ax ay az:Int):Prop where
 ht:inL th
 hx:inL dx
 hy:inL dy
 ha:inA ax
 hb:inA ay
 hc:inA az
structure vIdl (c th se ho:Int):Prop where
 hc:inL c
 ht:inL th
 sh:ZR se ho
def z0 (s:Sp):Bool:=s.e==0
section
variable (c k a0 a1 a2 a3 a b d e:Int)
def u0:Sp:=aG (s2 c k a b d e).lo (s2 c k a b d e).hi 1 100
def ca (n:Int):Sp:=aG 4294967296 4294967296 n 1000000
def u1:Sp:=oQ (u0 c k a b d e) (ca a0) (ca a1) (ca a2) (ca a3)
def u2:Sp:=vk (u0 c k a b d e).lo (u0 c k a b d e).hi
def u3:Sp:=aD (u2 c k a b d e).lo (u2 c k a b d e).hi (u1 c k a0 a1 a2 a3 a b d e).lo (u1 c k a0 a1 a2 a3 a b d e).hi
def u4:Sp:=eH (s10 c k a b d e).lo (s10 c k a b d e).hi (u3 c k a0 a1 a2 a3 a b d e).lo (u3 c k a0 a1 a2 a3 a b d e).hi
end
section
variable (c k l m a b d e:Int)
end
structure Su where
 kd:Int
 c:Int
 k:Int
 l:Int
 m:Int
 a0:Int
 a1:Int
 a2:Int
 a3:Int
 f0:Int
 f1:Int
 o:Int
 th:Int
 g:ByteArray
 se:Int
 ho:Int
 dx:Int
 dy:Int
 ax:Int
 ay:Int
 az:Int
def acE (n:Int) (ys:List Int):Prop:=0<=n/\n<=12/\ys.length=3*n.toNat
def abu (i p q:Int):Bool:=decide (10000000<=i)&&decide (i<=40000000)&&(decide (0<=p)&&decide (p<=1000))&&(decide (1<=q)&&decide (q<=1000))
def Sd:List Int->Bool
 | i :: p :: q :: r=>abu i p q&&Sd r
 | _=>true
end Go.Rd
namespace Go.Vc
open Go Go.Eng Go.Ar Go.Rd
structure NF where
 ck:Su->List Int->Int
 rt:Su->List Int->Bool
 vc:Ve->Int
 sl:Su->List Int->Int->Int->Int->Int->Nat->Int
 uV:Ve->Ve
 uO:Ve->Int
 ng:Int->Int->Sp
 sk:Int->Int->Int
section
variable (F:NF) (s:Su) (n:Int) (ys:List Int) (v:Ve)
def q2:Bool:=!bif F.sk v.a v.b != 0||!(F.sk v.a v.b != 0)&&(F.sk v.c v.d != 0||!(F.sk v.c v.d != 0)&&F.sk v.e v.f != 0) then false else true
end
structure NF.law (F:NF):Prop where
 ck:∀ s ys,F.ck s ys=bif F.rt s ys then 0 else 110
 vc:∀ v,F.vc v=bif q2 F v then 20 else 0
structure BF where
 vc:Ve->Int
 sk:Int->Int->Int
 sl:Su->List Int->Int->Int->Int->Int->Nat->Int
 uV:Ve->Ve
 uO:Ve->Int
 ng:Int->Int->Sp
 ad:Int->Int->Int->Int->Sp
 su:Int->Int->Int->Int->Sp
 mu:Int->Int->Int->Int->Sp
 di:Int->Int->Int->Int->Sp
 sc:Int->Int->Int->Int->Sp
 sq:Int->Int->Sp
 rt:Int->Int->Sp
 dt:Ve->Ve->Sp
 bV:Ve->Ve->Ve
 bO:Ve->Ve->Int
 aV:Ve->Ve->Ve
 aO:Ve->Ve->Int
 mV:Ve->Int->Int->Ve
 mO:Ve->Int->Int->Int
 nV:Ve->Ve
 nO:Ve->Int
structure BX where
 F:BF
 S:Su
 ys:List Int
 a:Int
 b:Int
 l:Int
 v:Ve
 w:Ve
namespace BX
variable (X:BX)
def sl (i:Nat):Int:=X.F.sl X.S X.ys X.v.a X.v.b X.v.c X.v.d i
def n1:Sp:=X.F.ng (X.sl 0) (X.sl 1)
def n2:Sp:=X.F.ng (X.sl 2) (X.sl 3)
def nw:Ve:=⟨X.n1.lo,X.n1.hi,X.n2.lo,X.n2.hi,4294967296,4294967296⟩
def u:Ve:=X.F.uV X.nw
def uo:Int:=X.F.uO X.nw
def k:Sp:=X.F.dt X.w X.u
def mir:Bool:=gI X.S.g ⟨#[77,73,82,82,79,82]⟩
def s1:Sp:=X.F.sc X.w.a X.w.b X.a X.b
def s2:Sp:=X.F.sc X.w.c X.w.d X.a X.b
def s3:Sp:=X.F.sc X.w.e X.w.f X.a X.b
def o0:Bool:=X.S.o==0
def q1:Sp:=X.F.sq X.v.a X.v.b
def q2:Sp:=X.F.sq X.v.c X.v.d
def q3:Sp:=X.F.ad X.q1.lo X.q1.hi X.q2.lo X.q2.hi
def w1:Sp:=X.F.sc 4294967296 4294967296 (IntKind.i64.wrap (2*X.S.f0)) 100000
def w2:Sp:=X.F.sc X.q3.lo X.q3.hi (IntKind.i64.wrap (4*X.S.f1)) 10000000
def w3:Sp:=X.F.ad X.w1.lo X.w1.hi X.w2.lo X.w2.hi
def w4:Sp:=X.F.sc X.w3.lo X.w3.hi (IntKind.i64.wrap (X.S.o*X.l)) 1000000000
def w5:Sp:=X.F.sc X.w4.lo X.w4.hi 10000000 X.b
def t:Ve:=⟨bif !X.mir then X.s1.lo else X.w.a,bif !X.mir then X.s1.hi else X.w.b,bif !X.mir then X.s2.lo else X.w.c,bif !X.mir then X.s2.hi else X.w.d,bif !X.mir then X.s3.lo else X.w.e,bif !X.mir then X.s3.hi else X.w.f⟩
def m1:Sp:=X.F.mu X.v.a X.v.b X.w5.lo X.w5.hi
def m2:Sp:=X.F.ad X.t.a X.t.b X.m1.lo X.m1.hi
def m3:Sp:=X.F.mu X.v.c X.v.d X.w5.lo X.w5.hi
def m4:Sp:=X.F.ad X.t.c X.t.d X.m3.lo X.m3.hi
def av:Ve:=⟨bif X.o0 then X.t.a else X.m2.lo,bif X.o0 then X.t.b else X.m2.hi,bif X.o0 then X.t.c else X.m4.lo,bif X.o0 then X.t.d else X.m4.hi,bif X.o0 then X.t.e else X.t.e,bif X.o0 then X.t.f else X.t.f⟩
def d1:Sp:=X.F.dt X.av X.u
def mo1:Int:=X.F.mO X.u X.d1.lo X.d1.hi
def mv1:Ve:=X.F.mV X.u X.d1.lo X.d1.hi
def bo:Int:=X.F.bO X.av X.mv1
def bv:Ve:=X.F.bV X.av X.mv1
def d2:Sp:=X.F.dt X.bv X.bv
def h:Sp:=X.F.su 4294967296 4294967296 X.d2.lo X.d2.hi
def r:Sp:=X.F.rt X.h.lo X.h.hi
def fl:Bool:=!(decide (X.k.hi<0)==X.mir)
def r2:Sp:=X.F.ng X.r.lo X.r.hi
def rl:Int:=bif X.fl then X.r2.lo else X.r.lo
def rh:Int:=bif X.fl then X.r2.hi else X.r.hi
def mo2:Int:=X.F.mO X.u X.rl X.rh
def mv2:Ve:=X.F.mV X.u X.rl X.rh
def ao:Int:=X.F.aO X.bv X.mv2
end BX
structure Eb where
 z:Bool
 s:Bool
structure BT where
 a1:Eb
 a2:Eb
 a3:Eb
 a4:Eb
 a5:Eb
 u:Bool
 m:Bool
 b1:Eb
 b2:Eb
 b3:Eb
 o:Bool
 c1:Eb
 c2:Eb
 c3:Eb
 c4:Eb
 c5:Eb
 c6:Eb
 c7:Eb
 c8:Eb
 c9:Eb
 d1:Eb
 d2:Eb
 d3:Eb
 e1:Eb
 e2:Eb
 e3:Eb
 e4:Eb
 e5:Eb
 t:Bool
 n:Bool
 f1:Eb
 fl:Bool
 f2:Eb
 f3:Eb
 f4:Eb
namespace BT
variable (B:BT)
def p11:Bool:=B.a1.z&&(B.a2.z&&(B.a3.z&&B.a4.z))
def p22:Bool:=bif !B.m then B.b1.z&&(B.b2.z&&B.b3.z) else true
def p28:Bool:=B.c1.z&&(B.c2.z&&B.c3.z)
def p36:Bool:=B.c4.z&&(B.c5.z&&B.c6.z)
def p40:Bool:=B.c7.z&&B.c8.z
def p47:Bool:=B.c9.z&&B.d1.z
def p52:Bool:=B.p22&&(B.o||!B.o&&(B.p28&&(B.p36&&(B.p40&&(B.p47&&(B.d2.z&&B.d3.z))))))
def p72:Bool:=B.e1.z&&(B.e2.z&&B.e3.z)
def p81:Bool:=B.e4.z&&B.e5.z
def p93:Bool:=bif B.fl then B.f2.z else true
def g (z:Eb->Bool) (u n:Bool):Bool:=
 B.a1.z&&(B.a2.z&&(B.a3.z&&(!B.a4.z&&z B.a4)||!B.a3.z&&z B.a3)||!B.a2.z&&z B.a2)||!B.a1.z&&z B.a1||B.p11&&(!B.a5.z&&z B.a5||B.a5.z&&(u||!B.u&&(B.p52&&(B.e1.z&&(!B.e2.z&&z B.e2||B.e2.z&&(!B.e3.z&&z B.e3))||!B.e1.z&&z B.e1||B.p72&&(B.e4.z&&(!B.e5.z&&z B.e5)||!B.e4.z&&z B.e4||B.p81&&(!B.t&&(n||!B.n&&(B.f1.z&&(B.fl&&(!B.f2.z&&z B.f2)||B.p93&&(!B.f3.z&&z B.f3||B.f3.z&&(!B.f4.z&&z B.f4)))||!B.f1.z&&z B.f1)))))||(!B.m&&(!B.b1.z&&z B.b1||B.b1.z&&(!B.b2.z&&z B.b2||B.b2.z&&(!B.b3.z&&z B.b3)))||B.p22&&(!B.o&&(!B.c1.z&&z B.c1||B.c1.z&&(!B.c2.z&&z B.c2||B.c2.z&&(!B.c3.z&&z B.c3))||B.p28&&(B.c4.z&&(B.c5.z&&(!B.c6.z&&z B.c6)||!B.c5.z&&z B.c5)||!B.c4.z&&z B.c4||B.p36&&(B.c7.z&&(!B.c8.z&&z B.c8)||!B.c7.z&&z B.c7||B.p40&&(B.p47&&(!B.d2.z&&z B.d2||B.d2.z&&(!B.d3.z&&z B.d3))||(!B.c9.z&&z B.c9||B.c9.z&&(!B.d1.z&&z B.d1)))))))))))
def g2:Bool:=B.g (fun e=>!e.s) B.u B.n
end BT
namespace BT
variable (B:BT)
end BT
end Go.Vc
namespace Go.Vc
open Go Go.Eng Go.Ar Go.Rd
def kE (E e:Int):Int:=bif E != 0 then E else bif e != 0 then e else E
def kI (E e x:Int):Int:=bif E != 0 then 0 else bif e != 0 then 0 else x
def kV (E e:Int) (v:Ve):Ve:=⟨kI E e v.a,kI E e v.b,kI E e v.c,kI E e v.d,kI E e v.e,kI E e v.f⟩
theorem vP (E e:Int):kE E e=fe E e:=by
 unfold kE fe
 simp only [bne]
 cases hE:E==0 with
 | false=>rfl
 | true=>
  cases he:e==0 with
  | false=>rfl
  | true=>have:=beq_iff_eq.1 hE; have:=beq_iff_eq.1 he; subst_vars; rfl
theorem dn {x y:Int}:fe x y=0 ↔ x=0/\y=0:=by
 unfold fe
 cases h:x==0 with
 | true=>have:=beq_iff_eq.1 h; simp [this]
 | false=>
  have:x≠0:=by simpa using h
  simp [this]
theorem mZ {E e e':Int} (h:E=0->e=e'):kE E e=fe E e':=by
 rw [vP]
 unfold fe
 cases hE:E==0 with
 | false=>rfl
 | true=>exact h (beq_iff_eq.1 hE)
theorem iC {E e x:Int} (h:fe E e=0):kI E e x=x:=by
 obtain ⟨rfl,rfl⟩:=dn.1 h
 rfl
theorem VW {E e:Int} {v:Ve} (h:fe E e=0):kV E e v=v:=by
 unfold kV
 simp only [iC h]
namespace BX
variable (X:BX)
def E1:Int:=kE (X.sl 4) X.n1.e
def E2:Int:=kE X.E1 X.n2.e
def nw':Ve:=⟨kI (X.sl 4) X.n1.e X.n1.lo,kI (X.sl 4) X.n1.e X.n1.hi,kI X.E1 X.n2.e X.n2.lo,kI X.E1 X.n2.e X.n2.hi,4294967296,4294967296⟩
def E3:Int:=kE X.E2 (X.F.uO X.nw')
def u':Ve:=kV X.E2 (X.F.uO X.nw') (X.F.uV X.nw')
def k':Sp:=X.F.dt X.w X.u'
def E4:Int:=kE X.E3 X.k'.e
def kl:Int:=kI X.E3 X.k'.e X.k'.lo
def kh:Int:=kI X.E3 X.k'.e X.k'.hi
def E5:Int:=kE X.E4 X.s1.e
def E6:Int:=kE X.E5 X.s2.e
def t':Ve:=⟨bif !X.mir then kI X.E4 X.s1.e X.s1.lo else X.w.a,bif !X.mir then kI X.E4 X.s1.e X.s1.hi else X.w.b,bif !X.mir then kI X.E5 X.s2.e X.s2.lo else X.w.c,bif !X.mir then kI X.E5 X.s2.e X.s2.hi else X.w.d,bif !X.mir then kI X.E6 X.s3.e X.s3.lo else X.w.e,bif !X.mir then kI X.E6 X.s3.e X.s3.hi else X.w.f⟩
def E7:Int:=bif !X.mir then kE X.E6 X.s3.e else X.E4
def E8:Int:=kE X.E7 X.w1.e
def E9:Int:=kE X.E8 X.q1.e
def E10:Int:=kE X.E9 X.q2.e
def q3':Sp:=X.F.ad (kI X.E8 X.q1.e X.q1.lo) (kI X.E8 X.q1.e X.q1.hi) (kI X.E9 X.q2.e X.q2.lo) (kI X.E9 X.q2.e X.q2.hi)
def E11:Int:=kE X.E10 X.q3'.e
def w2':Sp:=X.F.sc (kI X.E10 X.q3'.e X.q3'.lo) (kI X.E10 X.q3'.e X.q3'.hi) (IntKind.i64.wrap (4*X.S.f1)) 10000000
def E12:Int:=kE X.E11 X.w2'.e
def w3':Sp:=X.F.ad (kI X.E7 X.w1.e X.w1.lo) (kI X.E7 X.w1.e X.w1.hi) (kI X.E11 X.w2'.e X.w2'.lo) (kI X.E11 X.w2'.e X.w2'.hi)
def E13:Int:=kE X.E12 X.w3'.e
def w4':Sp:=X.F.sc (kI X.E12 X.w3'.e X.w3'.lo) (kI X.E12 X.w3'.e X.w3'.hi) (IntKind.i64.wrap (X.S.o*X.l)) 1000000000
def E14:Int:=kE X.E13 X.w4'.e
def w5':Sp:=X.F.sc (kI X.E13 X.w4'.e X.w4'.lo) (kI X.E13 X.w4'.e X.w4'.hi) 10000000 X.b
def E15:Int:=kE X.E14 X.w5'.e
def wl:Int:=kI X.E14 X.w5'.e X.w5'.lo
def wh:Int:=kI X.E14 X.w5'.e X.w5'.hi
def m1':Sp:=X.F.mu X.v.a X.v.b X.wl X.wh
def E16:Int:=kE X.E15 X.m1'.e
def m2':Sp:=X.F.ad X.t'.a X.t'.b (kI X.E15 X.m1'.e X.m1'.lo) (kI X.E15 X.m1'.e X.m1'.hi)
def E17:Int:=kE X.E16 X.m2'.e
def m3':Sp:=X.F.mu X.v.c X.v.d X.wl X.wh
def E18:Int:=kE X.E17 X.m3'.e
def m4':Sp:=X.F.ad X.t'.c X.t'.d (kI X.E17 X.m3'.e X.m3'.lo) (kI X.E17 X.m3'.e X.m3'.hi)
def E19:Int:=bif X.S.o != 0 then kE X.E18 X.m4'.e else X.E7
def av':Ve:=⟨bif X.S.o != 0 then kI X.E16 X.m2'.e X.m2'.lo else X.t'.a,bif X.S.o != 0 then kI X.E16 X.m2'.e X.m2'.hi else X.t'.b,bif X.S.o != 0 then kI X.E18 X.m4'.e X.m4'.lo else X.t'.c,bif X.S.o != 0 then kI X.E18 X.m4'.e X.m4'.hi else X.t'.d,bif X.S.o != 0 then X.t'.e else X.t'.e,bif X.S.o != 0 then X.t'.f else X.t'.f⟩
def d1':Sp:=X.F.dt X.av' X.u'
def E20:Int:=kE X.E19 X.d1'.e
def dl:Int:=kI X.E19 X.d1'.e X.d1'.lo
def dh:Int:=kI X.E19 X.d1'.e X.d1'.hi
def E21:Int:=kE X.E20 (X.F.mO X.u' X.dl X.dh)
def mv1':Ve:=kV X.E20 (X.F.mO X.u' X.dl X.dh) (X.F.mV X.u' X.dl X.dh)
def E22:Int:=kE X.E21 (X.F.bO X.av' X.mv1')
def bv':Ve:=kV X.E21 (X.F.bO X.av' X.mv1') (X.F.bV X.av' X.mv1')
def d2':Sp:=X.F.dt X.bv' X.bv'
def E23:Int:=kE X.E22 X.d2'.e
def h':Sp:=X.F.su 4294967296 4294967296 (kI X.E22 X.d2'.e X.d2'.lo) (kI X.E22 X.d2'.e X.d2'.hi)
def E24:Int:=kE X.E23 X.h'.e
def hl:Int:=kI X.E23 X.h'.e X.h'.lo
def hh:Int:=kI X.E23 X.h'.e X.h'.hi
def r':Sp:=X.F.rt X.hl X.hh
def E25:Int:=kE X.E24 X.r'.e
def fl':Bool:=!(decide (X.kh<0)==X.mir)
def rl1:Int:=kI X.E24 X.r'.e X.r'.lo
def rh1:Int:=kI X.E24 X.r'.e X.r'.hi
def r2':Sp:=X.F.ng X.rl1 X.rh1
def E26:Int:=bif X.fl' then kE X.E25 X.r2'.e else X.E25
def rl':Int:=bif X.fl' then kI X.E25 X.r2'.e X.r2'.lo else X.rl1
def rh':Int:=bif X.fl' then kI X.E25 X.r2'.e X.r2'.hi else X.rh1
def E27:Int:=kE X.E26 (X.F.mO X.u' X.rl' X.rh')
def mv2':Ve:=kV X.E26 (X.F.mO X.u' X.rl' X.rh') (X.F.mV X.u' X.rl' X.rh')
def E28:Int:=kE X.E27 (X.F.aO X.bv' X.mv2')
def F1:Int:=fe (fe (fe (fe (X.sl 4) X.n1.e) X.n2.e) X.uo) X.k.e
def Fm:Int:=bif !X.mir then fe (fe (fe X.F1 X.s1.e) X.s2.e) X.s3.e else X.F1
def Fc:Int:=fe (fe (fe (fe X.Fm X.q1.e) X.q2.e) X.q3.e) X.w1.e
def Fo:Int:=bif !X.o0 then fe (fe (fe (fe (fe (fe (fe (fe X.Fc X.w2.e) X.w3.e) X.w4.e) X.w5.e) X.m1.e) X.m2.e) X.m3.e) X.m4.e else X.Fm
def F2:Int:=fe (fe (fe (fe (fe X.Fo X.d1.e) X.mo1) X.bo) X.d2.e) X.h.e
def Ff:Int:=bif X.fl then fe (fe X.F2 X.r.e) X.r2.e else fe X.F2 X.r.e
def F3:Int:=fe (fe X.Ff X.mo2) X.ao
end BX
structure BX.law (X:BX):Prop where
 q1:X.q1.e=0\/X.q1.e=6
 q2:X.q2.e=0\/X.q2.e=6
 q3:X.q1.e=0->X.q2.e=0->X.q3.e=0\/X.q3.e=6
 w1:X.w1.e=0\/X.w1.e=6
namespace BX
variable {X:BX}
theorem e1:X.E1=fe (X.sl 4) X.n1.e:=vP _ _
theorem e2:X.E2=fe X.E1 X.n2.e:=vP _ _
theorem abv (h:X.E2=0):X.nw'=X.nw:=by
 have h1:=e1 (X:=X); have h2:=e2 (X:=X)
 rw [h2] at h
 obtain ⟨a,b⟩:=dn.1 h
 have c:=h1 ▸ a
 unfold nw' nw
 simp only [iC c,iC h]
theorem e3:X.E3=fe X.E2 X.uo:=mZ fun h=>by rw [abv h]; rfl
theorem z3 (h:X.E3=0):X.u'=X.u:=by
 rw [e3] at h
 have a:=abv (dn.1 h).1
 have c:X.F.uO X.nw'=X.uo:=by rw [a]; rfl
 unfold u'
 rw [c,a,VW h]
 rfl
theorem z_k (h:X.E3=0):X.k'=X.k:=by unfold k' k; rw [z3 h]
theorem e4:X.E4=fe X.E3 X.k.e:=mZ fun h=>by rw [z_k h]
theorem z4 (h:X.E4=0):X.kl=X.k.lo/\X.kh=X.k.hi:=by
 rw [e4] at h
 have a:=z_k (dn.1 h).1
 unfold kl kh
 rw [a,iC h,iC h]
 exact ⟨rfl,rfl⟩
theorem f1:X.E4=X.F1:=by rw [e4,e3,e2,e1]; rfl
theorem e5:X.E5=fe X.E4 X.s1.e:=vP _ _
theorem e6:X.E6=fe X.E5 X.s2.e:=vP _ _
theorem e7:X.E7=bif !X.mir then fe X.E6 X.s3.e else X.E4:=by unfold E7; rw [vP]
theorem fm:X.E7=X.Fm:=by rw [e7,e6,e5,f1]; rfl
theorem z7 (h:X.E7=0):X.t'=X.t:=by
 rw [e7] at h
 unfold t' t
 cases hm:X.mir with
 | true=>rfl
 | false=>
  rw [hm] at h
  have h:fe X.E6 X.s3.e=0:=h
  have a:=(dn.1 h).1
  rw [e6] at a
  have b:=(dn.1 a).1
  rw [e5] at b
  simp only [iC h,iC a,iC b]
theorem z74 (h:X.E7=0):X.E4=0:=by
 rw [e7] at h
 cases hm:X.mir with
 | true=>rw [hm] at h; exact h
 | false=>
  rw [hm] at h
  have h:fe X.E6 X.s3.e=0:=h
  have a:=(dn.1 h).1
  rw [e6] at a
  have b:=(dn.1 a).1
  rw [e5] at b
  exact (dn.1 b).1
theorem e8:X.E8=fe X.E7 X.w1.e:=vP _ _
theorem e9:X.E9=fe X.E8 X.q1.e:=vP _ _
theorem e10:X.E10=fe X.E9 X.q2.e:=vP _ _
theorem abw (h:X.E10=0):X.q3'=X.q3:=by
 rw [e10] at h
 have a:=(dn.1 h).1
 rw [e9] at a
 unfold q3' q3
 simp only [iC h,iC a]
theorem e11:X.E11=fe X.E10 X.q3.e:=mZ fun h=>by rw [abw h]
theorem abx (h:X.E11=0):X.w2'=X.w2:=by
 rw [e11] at h
 unfold w2' w2
 rw [abw (dn.1 h).1]
 simp only [iC h]
theorem e12:X.E12=fe X.E11 X.w2.e:=mZ fun h=>by rw [abx h]
theorem z11 (h:X.E11=0):X.E8=0:=by
 rw [e11] at h
 have a:=(dn.1 h).1
 rw [e10] at a
 have b:=(dn.1 a).1
 rw [e9] at b
 exact (dn.1 b).1
theorem aby (h:X.E12=0):X.w3'=X.w3:=by
 rw [e12] at h
 have a:=(dn.1 h).1
 have b:=z11 a
 rw [e8] at b
 unfold w3' w3
 rw [abx a]
 simp only [iC h,iC b]
theorem e13:X.E13=fe X.E12 X.w3.e:=mZ fun h=>by rw [aby h]
theorem abz (h:X.E13=0):X.w4'=X.w4:=by
 rw [e13] at h
 unfold w4' w4
 rw [aby (dn.1 h).1]
 simp only [iC h]
theorem e14:X.E14=fe X.E13 X.w4.e:=mZ fun h=>by rw [abz h]
theorem abB (h:X.E14=0):X.w5'=X.w5:=by
 rw [e14] at h
 unfold w5' w5
 rw [abz (dn.1 h).1]
 simp only [iC h]
theorem e15:X.E15=fe X.E14 X.w5.e:=mZ fun h=>by rw [abB h]
theorem z15 (h:X.E15=0):X.wl=X.w5.lo/\X.wh=X.w5.hi:=by
 rw [e15] at h
 unfold wl wh
 rw [abB (dn.1 h).1]
 exact ⟨iC h,iC h⟩
theorem abC (h:X.E15=0):X.m1'=X.m1:=by
 unfold m1' m1
 rw [(z15 h).1,(z15 h).2]
theorem e16:X.E16=fe X.E15 X.m1.e:=mZ fun h=>by rw [abC h]
theorem Si (h:X.E15=0):X.E7=0:=by
 rw [e15] at h
 have a:=(dn.1 h).1
 rw [e14] at a
 have b:=(dn.1 a).1
 rw [e13] at b
 have c:=(dn.1 b).1
 rw [e12] at c
 have d:=z11 (dn.1 c).1
 rw [e8] at d
 exact (dn.1 d).1
theorem abD (h:X.E16=0):X.m2'=X.m2:=by
 rw [e16] at h
 have a:=(dn.1 h).1
 unfold m2' m2
 rw [abC a,z7 (Si a)]
 simp only [iC h]
theorem e17:X.E17=fe X.E16 X.m2.e:=mZ fun h=>by rw [abD h]
theorem JU (h:X.E17=0):X.E16=0/\X.E15=0:=by
 rw [e17] at h
 have a:=(dn.1 h).1
 refine ⟨a,?_⟩
 rw [e16] at a
 exact (dn.1 a).1
theorem abE (h:X.E17=0):X.m3'=X.m3:=by
 have a:=z15 (JU h).2
 unfold m3' m3
 rw [a.1,a.2]
theorem e18:X.E18=fe X.E17 X.m3.e:=mZ fun h=>by rw [abE h]
theorem abF (h:X.E18=0):X.m4'=X.m4:=by
 rw [e18] at h
 have a:=(dn.1 h).1
 unfold m4' m4
 rw [abE a,z7 (Si (JU a).2)]
 simp only [iC h]
theorem abG:(X.S.o != 0)=!X.o0:=rfl
theorem e19:X.E19=bif !X.o0 then fe X.E18 X.m4.e else X.E7:=by
 unfold E19
 rw [abG,mZ (e':=X.m4.e) fun h=>by rw [abF h]]
theorem fc (L:X.law):fe X.E10 X.q3.e=X.Fc:=by
 unfold Fc
 rw [e10,e9,e8,fm]
 obtain ⟨l1,l2,l3,l4⟩:=L
 have go:∀ x:Int,fe 0 x=x:=fun _=>rfl
 have stop:∀ x y:Int,x≠0->fe x y=x:=fun x y h=>by
  unfold fe
  rw [show (x==0)=false by simpa using h]; rfl
 by_cases hm:X.Fm=0
 .rw [hm]
  simp only [go]
  have six:∀ y:Int,fe 6 y=6:=fun _=>rfl
  rcases l4 with w|w <;> rw [w] <;> rcases l1 with a|a <;> rw [a] <;> simp only [go,six] <;> rcases l2 with b|b <;> rw [b] <;> simp only [go,six] <;> (rcases l3 a b with c|c <;> rw [c]) <;> simp only [go,six]
 .simp only [stop _ _ hm]
theorem fo (L:X.law):X.E19=X.Fo:=by
 rw [e19,e18,e17,e16,e15,e14,e13,e12,e11,fc L,fm]
 rfl
theorem z19 (h:X.E19=0):X.av'=X.av/\X.E7=0:=by
 rw [e19] at h
 unfold av' av
 simp only [abG]
 cases ho:X.o0 with
 | true=>
  rw [ho] at h
  have h:X.E7=0:=h
  rw [z7 h]
  exact ⟨rfl,h⟩
 | false=>
  rw [ho] at h
  have h:fe X.E18 X.m4.e=0:=h
  have a:=(dn.1 h).1
  have a':=a
  rw [e18] at a
  have b:=(dn.1 a).1
  have c:=JU b
  have d:=Si c.2
  have b':=b
  rw [e17] at b
  rw [abF a',abD c.1,z7 d]
  simp only [iC h,iC b,Bool.not_false,cond_true,cond_false]
  exact ⟨trivial,d⟩
theorem abI (h:X.E19=0):X.d1'=X.d1:=by
 have a:=z19 h
 have b:=z74 a.2
 rw [e4] at b
 unfold d1' d1
 rw [a.1,z3 (dn.1 b).1]
theorem e20:X.E20=fe X.E19 X.d1.e:=mZ fun h=>by rw [abI h]
theorem z_u (h:X.E19=0):X.u'=X.u:=by
 have b:=z74 (z19 h).2
 rw [e4] at b
 exact z3 (dn.1 b).1
theorem z20 (h:X.E20=0):X.E19=0/\X.dl=X.d1.lo/\X.dh=X.d1.hi:=by
 rw [e20] at h
 have a:=(dn.1 h).1
 unfold dl dh
 rw [abI a]
 exact ⟨a,iC h,iC h⟩
theorem Xc (h:X.E20=0):X.F.mO X.u' X.dl X.dh=X.mo1:=by
 obtain ⟨a,b,c⟩:=z20 h
 rw [z_u a,b,c]
 rfl
theorem e21:X.E21=fe X.E20 X.mo1:=mZ Xc
theorem z21 (h:X.E21=0):X.E19=0/\X.mv1'=X.mv1:=by
 rw [e21] at h
 have a:=(dn.1 h).1
 obtain ⟨b,c,d⟩:=z20 a
 unfold mv1'
 rw [Xc a,VW h,z_u b,c,d]
 exact ⟨b,rfl⟩
theorem abJ (h:X.E21=0):X.F.bO X.av' X.mv1'=X.bo:=by
 obtain ⟨a,b⟩:=z21 h
 rw [b,(z19 a).1]
 rfl
theorem e22:X.E22=fe X.E21 X.bo:=mZ abJ
theorem z22 (h:X.E22=0):X.E19=0/\X.bv'=X.bv:=by
 rw [e22] at h
 have a:=(dn.1 h).1
 obtain ⟨b,c⟩:=z21 a
 unfold bv'
 rw [abJ a,VW h,c,(z19 b).1]
 exact ⟨b,rfl⟩
theorem abK (h:X.E22=0):X.d2'=X.d2:=by
 unfold d2' d2
 rw [(z22 h).2]
theorem e23:X.E23=fe X.E22 X.d2.e:=mZ fun h=>by rw [abK h]
theorem z_h (h:X.E23=0):X.h'=X.h:=by
 rw [e23] at h
 have a:=(dn.1 h).1
 unfold h'
 rw [abK a,iC h,iC h]
 rfl
theorem e24:X.E24=fe X.E23 X.h.e:=mZ fun h=>by rw [z_h h]
theorem f2 (L:X.law):X.E24=X.F2:=by rw [e24,e23,e22,e21,e20,fo L]; rfl
theorem z24 (h:X.E24=0):X.E22=0/\X.hl=X.h.lo/\X.hh=X.h.hi:=by
 rw [e24] at h
 have a:=(dn.1 h).1
 unfold hl hh
 rw [z_h a]
 rw [e23] at a
 exact ⟨(dn.1 a).1,iC h,iC h⟩
theorem z_r (h:X.E24=0):X.r'=X.r:=by
 obtain ⟨_,b,c⟩:=z24 h
 unfold r'
 rw [b,c]
 rfl
theorem e25:X.E25=fe X.E24 X.r.e:=mZ fun h=>by rw [z_r h]
theorem z25 (h:X.E25=0):X.E24=0/\X.rl1=X.r.lo/\X.rh1=X.r.hi:=by
 rw [e25] at h
 have a:=(dn.1 h).1
 unfold rl1 rh1
 rw [z_r a]
 exact ⟨a,iC h,iC h⟩
theorem abM (h:X.E25=0):X.r2'=X.r2:=by
 obtain ⟨_,b,c⟩:=z25 h
 unfold r2'
 rw [b,c]
 rfl
theorem abO (h:X.E4=0):X.fl'=X.fl:=by
 unfold fl' fl
 rw [(z4 h).2]
theorem e26 (h:X.E4=0):X.E26=bif X.fl then fe X.E25 X.r2.e else X.E25:=by
 unfold E26
 rw [abO h,mZ (e':=X.r2.e) fun h=>by rw [abM h]]
theorem z26 (h0:X.E4=0) (h:X.E26=0):X.E24=0/\X.rl'=X.rl/\X.rh'=X.rh:=by
 rw [e26 h0] at h
 unfold rl' rh' rl rh
 rw [abO h0]
 cases hf:X.fl with
 | true=>
  rw [hf] at h
  have h:fe X.E25 X.r2.e=0:=h
  have a:=(dn.1 h).1
  have b:=z25 a
  rw [abM a]
  simp only [iC h,cond_true]
  exact ⟨b.1,trivial,trivial⟩
 | false=>
  rw [hf] at h
  exact z25 h
theorem Xd (h0:X.E4=0) (h:X.E26=0):X.F.mO X.u' X.rl' X.rh'=X.mo2:=by
 obtain ⟨a,b,c⟩:=z26 h0 h
 rw [b,c,z_u (z22 (z24 a).1).1]
 rfl
theorem e27 (h0:X.E4=0):X.E27=fe X.E26 X.mo2:=mZ (Xd h0)
theorem z27 (h0:X.E4=0) (h:X.E27=0):X.E22=0/\X.mv2'=X.mv2:=by
 rw [e27 h0] at h
 have a:=(dn.1 h).1
 obtain ⟨b,c,d⟩:=z26 h0 a
 have e:=(z24 b).1
 unfold mv2'
 rw [Xd h0 a,VW h,c,d,z_u (z22 e).1]
 exact ⟨e,rfl⟩
theorem acF (h0:X.E4=0) (h:X.E27=0):X.F.aO X.bv' X.mv2'=X.ao:=by
 obtain ⟨a,b⟩:=z27 h0 h
 rw [b,(z22 a).2]
 rfl
theorem e28 (h0:X.E4=0):X.E28=fe X.E27 X.ao:=mZ (acF h0)
theorem f3 (L:X.law) (h0:X.E4=0):X.E28=X.F3:=by
 rw [e28 h0,e27 h0,e26 h0,e25,f2 L]; rfl
end BX
end Go.Vc
namespace Go.Rd
open Go Go.Eng Go.Ar
def cAt (b:ByteArray) (i:Int):Int:=((b.data.toList.getD i.toNat 0).toNat:Int)
def Xe (L:Int->Bool) (b:ByteArray):Nat->Int->Bool
 | 0,_=>true
 | n+1,i=>L (cAt b i)&&Xe L b n (IntKind.i64.wrap (i+1))
def abP (c:Int):Bool:=bif c==45 then true else c==95
def abQ (c:Int):Bool:=bif decide (c>=48) then bif decide (c<=57) then true else abP c else abP c
def abR (c:Int):Bool:=bif decide (c>=97) then bif decide (c<=122) then true else abQ c else abQ c
def acG (c:Int):Bool:=bif decide (c>=65) then bif decide (c<=90) then true else abR c else abR c
def abS (n:Int):Bool:=bif decide (n>=1) then decide (n<=16) else false
def abT (b:ByteArray):Bool:=Xe acG b b.size 0&&abS b.size
end Go.Rd
