/- What is proved: TurnKeeps returns true, whatever the input (part 9). No conditions beyond those of the row. -/
import Derived.Test.YtmnhhlnbfkfkaaaGreatPH
import Derived.KernelRfl
set_option linter.unusedVariables false
set_option linter.unusedSimpArgs false
set_option linter.unusedSectionVars false
namespace Go.Proofs.YtmnhhlnbfkfkaaaGreat.K
open Go Go.Eng Go.Dg
noncomputable section
theorem RB {a:List Int} {n:Int} (ha:Dig a) (la:Sm a) (h0:1<=n) (h1:n<=1000000000):CodeOk cL IU (.loop Rz) (Bv a n) ⟨.tt,[⟨.tt,.exit 0,af (Bv a n) (Km (-1) (val a % n) (aY a.length (val a / n)))⟩]⟩:=by
 have la:=la.le
 refine mZ (bR iN 300) (xL a n) (y0:=((a.length:Int) - 1,0,List.replicate a.length 0)) (PaI.start (by omega)) ⟨_,OC a n,⟨⟨rfl,iw (by omega) (by omega)⟩,by rw [show ((a.length:Int)).toNat=a.length by omega]⟩⟩ (by kernel_rfl) (fun y hy=>?_) rfl
 obtain ⟨i,r,d⟩:=y
 have hI:PaI a n i r d:=hy
 obtain ⟨l,dg,i0,i1,z,v,r0,r1⟩:=id hI
 refine ⟨_,V8 a n i r d,fun h=>?_,fun h=>⟨⟨⟨rfl,rfl⟩,rfl⟩,?_⟩,fun h=>?_⟩
 .have h:i>=0:=dt.1 h
  exact ⟨⟨⟨by omega,i1⟩,by omega⟩,by omega,by omega,⟨by omega,i1⟩,by omega⟩
 .obtain ⟨e1,e2,e3⟩:=hI.fin (ndt.1 h)
  show (Ex.exit 0,Km (-1) (val a % n) (aY a.length (val a / n)))=_
  rw [e1,e2,<- e3]
 .have h:i>=0:=dt.1 h
  have g:=ha.get i.toNat
  have e1:IntKind.i64.wrap (r*1000000000)=r*1000000000:=iw (by omega) (by omega)
  have e2:IntKind.i64.wrap (r*1000000000+a.getD i.toNat 0)=r*1000000000+a.getD i.toNat 0:=iw (by omega) (by omega)
  have m0:0<=r*1000000000+a.getD i.toNat 0:=by omega
  have e3:IntKind.i64.wrap ((r*1000000000+a.getD i.toNat 0).tdiv n)=(r*1000000000+a.getD i.toNat 0).tdiv n:=by
   rw [Int.tdiv_eq_ediv_of_nonneg m0]
   have:=Int.ediv_nonneg m0 (show 0<=n by omega)
   have:=Int.ediv_le_self n m0
   exact iw (by omega) (by omega)
  refine ⟨⟨⟨by rw [e1,e2],iw (by omega) (by omega)⟩,by rw [e1,e2,e3,show ((0:Int)+i).toNat=i.toNat by omega]⟩,hI.step ha h,?_,rfl⟩
  show (i - 1+1).toNat<(i+1).toNat
  omega
def kN:AFr:=⟨117,none⟩
def trA:Code:=jE Tryz.prog 117 0
def trP (id:Nat) (y:Int):Patch:=⟨(0,.islice true id 0 y) :: gz 3 17,[],[]⟩
def trU (id:Nat) (d:List Int) (N:Int):SumL Int:=
 {
  S:=fun y=>trP id y
  I:=fun y=>0<=y/\y<=N
  μ:=fun y=>y.toNat
  F:=fun y=>(.exit 0,trP id (tlI d y))
  next:=fun y=>y - 1
  ids:=fun _=>[]
  X:=fun y _=>some (trP id y,[]) }
def trN (id:Nat) (d:List Int) (N y:Int):Prop:=((decide (y>(0:Int))=true->((0:Int)<=IntKind.i64.wrap (y - (1:Int))/\IntKind.i64.wrap (y - (1:Int))<y)/\((0:Int)+IntKind.i64.wrap (y - (1:Int))).toNat<d.length)/\((bif decide (y>(0:Int)) then d.getD ((0:Int)+IntKind.i64.wrap (y - (1:Int))).toNat (0:Int)==(0:Int) else false)=true->(0:Int)<=(0:Int)/\(0:Int)<=IntKind.i64.wrap (y - (1:Int))/\IntKind.i64.wrap (y - (1:Int))<=y))/\((!bif decide (y>(0:Int)) then d.getD ((0:Int)+IntKind.i64.wrap (y - (1:Int))).toNat (0:Int)==(0:Int) else false)=true->((0:Int)=(0:Int)/\y=y)/\(trU id d N).F y=(Ex.exit (0:Nat),trP id y))/\((bif decide (y>(0:Int)) then d.getD ((0:Int)+IntKind.i64.wrap (y - (1:Int))).toNat (0:Int)==(0:Int) else false)=true->((0:Int)+(0:Int)=(0:Int)/\IntKind.i64.wrap (y - (1:Int)) - (0:Int)=(trU id d N).next y)/\(trU id d N).I ((trU id d N).next y)/\(trU id d N).μ ((trU id d N).next y)<(trU id d N).μ y/\(trU id d N).F ((trU id d N).next y)=(trU id d N).F y)
theorem ZH {id:Nat} {d:List Int} {N y:Int} (hN:N=d.length) (ld:Sm d) (h0:0<=y) (h1:y<=N):trN id d N y:=by
 have ld:=ld.le
 have ez:∀ z:Int,(0+z).toNat=z.toNat:=fun z=>by rw [Int.zero_add]
 refine ⟨⟨fun h=>?_,fun h=>?_⟩,fun h=>⟨⟨rfl,rfl⟩,?_⟩,fun h=>?_⟩
 .have h:=of_decide_eq_true h
  rw [iw (by omega) (by omega)]
  omega
 .obtain ⟨h2,_⟩:=bt.1 h
  rw [iw (by omega) (by omega)]
  omega
 .show (Ex.exit 0,trP id (tlI d y))=_
  have h:=nbt.1 h
  by_cases h2:0<y
  .have h3:=neb.1 (h h2)
   rw [iw (by omega) (by omega),ez] at h3
   rw [IJ h2,if_neg h3]
  .have:y=0:=by omega
   subst this; rfl
 .obtain ⟨h2,h3⟩:=bt.1 h
  have h2:0<y:=h2
  have h3:=eb.1 h3
  rw [iw (by omega) (by omega),ez] at h3
  rw [iw (by omega) (by omega)]
  refine ⟨⟨rfl,by show y - 1 - 0=y - 1; omega⟩,?_,?_,?_⟩
  .show 0<=y - 1/\y - 1<=N
   omega
  .show (y - 1).toNat<y.toNat
   omega
  .show (Ex.exit 0,trP id (tlI d (y - 1)))=(Ex.exit 0,trP id (tlI d y))
   rw [IJ h2,if_pos h3]
theorem zC {S:St} {id:Nat} {d:List Int} {N:Int} (hN:N=d.length) (ld:Sm d) (hs:fit S S (af S ((trU id d N).S N)) []=some (.p ((0:Int)=0/\N=N))) (ho:gP S.hp (((trU id d N).S N).old)=true)
  (hb:∀ y,fI S ((trU id d N).way y) ((run cL 300).code kN trA (af S ((trU id d N).S y)))=some (.p (trN id d N y))):CodeOk cL kN (.loop trA) S ⟨.tt,[⟨.tt,.exit 0,af S (trP id (tlI d N))⟩]⟩:=
 mZ (bR iN 300) (trU id d N) (y0:=N) ⟨by omega,by omega⟩ ⟨_,hs,rfl,rfl⟩ ho (fun y hy=>⟨_,hb y,ZH hN ld hy.1 hy.2⟩) rfl
noncomputable def ptS (a d:List Int) (N:Int):St:=vT cL 300 117 [.islice true 1 0 N] ⟨[⟨14,.ints .i64 d⟩,⟨0,.rows .i64 a⟩],2,17⟩
theorem RD (a d:List Int) (N:Int):fit (ptS a d N) (ptS a d N) (af (ptS a d N) ((trU 1 d N).S N)) []=some (.p ((0:Int)=0/\N=N)):=by kernel_rfl
theorem V9 (a d:List Int) (N y:Int):fI (ptS a d N) ((trU 1 d N).way y) ((run cL 300).code kN trA (af (ptS a d N) ((trU 1 d N).S y)))=some (.p (trN 1 d N y)):=by kernel_rfl
theorem Wd (a:List Int) {d:List Int} {N:Int} (hN:N=d.length) (ld:Sm d):CodeOk cL kN (.loop trA) (ptS a d N) ⟨.tt,[⟨.tt,.exit 0,af (ptS a d N) (trP 1 (tlI d N))⟩]⟩:=zC hN ld (RD a d N) (by kernel_rfl) (fun y=>V9 a d N y)
noncomputable def cPt (a:List Int) (n:Int):Ctx:=bq cL [bZ 118 (Bv a n).hp.clock IU Rz (Bv a n) (.exit 0) (Km (-1) (val a % n) (aY a.length (val a / n))),bZ 117 20 kN trA (ptS a (aY a.length (val a / n)) a.length) (.exit 0) (trP 1 (tlI (aY a.length (val a / n)) a.length))]
theorem ZI {a:List Int} {n:Int} (ha:Dig a) (la:Sm a) (h0:1<=n) (h1:n<=1000000000):CtxOk (cPt a n):=
 aQ iN (RB ha la h0 h1) (aQ iN (Wd a (dJ _ _ ▸ rfl) (by show (aY _ _).length<=500000; rw [dJ]; exact la)) (cO iN))
def We (a:List Int) (n:Int):Prop:=(((↑a.length:Int)=(↑a.length:Int)/\(0:Int)<=(↑a.length:Int)/\(↑a.length:Int)<=(1048576:Int))/\At (IU) (IU) (Rz) (Rz) (Bv a n) (Bv a n)/\At (kN) (kN) (trA) (trA) (ptS a (aY a.length (val a / n)) a.length) (ptS a (aY a.length (val a / n)) a.length))
def ZJ (a:List Int) (n:Int):AV:=(AV.tuple [AV.islice true 1 (0:Int) (tlI (aY a.length (val a / n)) (↑a.length:Int)),AV.int true IntKind.i64 (val a % n)])
def ZK (a:List Int) (n:Int):Hp:=⟨[{ wr:=14,body:=ABody.ints IntKind.i64 (aY a.length (val a / n)) },{ wr:=(0:Nat),body:=ABody.rows IntKind.i64 a }],2,26⟩
theorem afb (a:List Int) (n:Int):(run (cPt a n) 300).call 118 (zA a n) (zH a)=some ⟨.p (We a n),[⟨.tt,ZJ a n,ZK a n⟩]⟩:=by kernel_rfl
def ZL:List Nu->List (List Int)->Option (Prop×To)
 | [.n n],[a]=>some (Dig a/\a.length<=500000/\1<=n/\n<=1000000000,.tu [.li false (aa (val a / n).toNat),.nu .i64 (val a % n)])
 | _,_=>none
theorem ZM {a:List Int} {n:Int} (ha:Dig a) (h0:1<=n):val (aY a.length (val a / n))=val a / n:=by
 have h1:=au ha
 have h2:=iB ha
 have h3:=Int.ediv_le_self n h1
 exact lM (Int.ediv_nonneg h1 (by omega)) (by omega)
theorem MC {d:List Int} {N:Int} (h:Dig d) (hN:N=d.length):List.take (tlI d N).toNat (List.drop (Int.toNat 0) d)=aa (val d).toNat:=by
 rw [show Int.toNat 0=0 from rfl,List.drop_zero,hN]
 exact Ry h
theorem part_ok:NOk Tryz.prog (fun _=>none) hG0 118 (dI hG0 .i64 [.li,.nu (.i .i64)] ZL):=by
 refine gD (fun xs ys p t e h=>?_) ⟨_,Tryz.func118,rfl⟩
 unfold ZL at e
 split at e
 .rename_i n a
  cases e
  obtain ⟨ha,la,h0,h1⟩:=h
  refine ⟨cPt a n,300,zA a n,_,_,_,_,_,ZI ha la h0 h1,rfl,rfl,⟨rfl,⟨rfl,rfl⟩,trivial⟩,afb a n,rfl,⟨⟨rfl,by omega,by omega⟩,⟨rfl,rfl,rfl⟩,⟨rfl,rfl,rfl⟩⟩,rfl,rfl,?_⟩
  have hl:=Rx (aY a.length (val a / n))
  rw [dJ] at hl
  refine ⟨⟨⟨by omega,by omega,by rw [dJ]; omega⟩,?_⟩,rfl⟩
  show List.take _ (List.drop _ (aY a.length (val a / n)))=aa (val a / n).toNat
  rw [MC (jX _ _) (by rw [dJ]),ZM ha h0]
 .cases e
end
end Go.Proofs.YtmnhhlnbfkfkaaaGreat.K
namespace Go.Dg
open Go Go.Eng
theorem Du {n j k:Nat} {v:Int} (h0:0<=v) (h:v<pw k) (hj:k<=j):(aY n v).getD j 0=0:=by
 rcases Nat.lt_or_ge j n with h1|h1
 .rw [IQ n v j h1]
  have:=kL hj
  rw [Int.ediv_eq_zero_of_lt h0 (by omega)]
  rfl
 .rw [List.getD_eq_getElem?_getD,List.getElem?_eq_none (by rw [dJ]; exact h1)]
  rfl
theorem Fp:∀ {d:List Int} {k:Nat},Dig d->(∀ j,k<=j->d.getD j 0=0)->val d<pw k
 | [],k,_,_=>pw_pos k
 | x :: l,0,h,z=>by
  have h':=dW.1 h
  have z0:x=0:=z 0 (Nat.le_refl _)
  have:=Fp (k:=0) h'.2 (fun j _=>z (j+1) (by omega))
  have e:pw 0=1:=rfl
  show x+1000000000*val l<pw 0
  omega
 | x :: l,k+1,h,z=>by
  have h':=dW.1 h
  have:=Fp (k:=k) h'.2 (fun j hj=>z (j+1) (by omega))
  rw [kM]
  show x+1000000000*val l<_
  omega
def tmV (a b:List Int) (i:Int):Int:=val (a.take i.toNat)*val b
theorem Ko {a b:List Int} (ha:Dig a) (hb:Dig b) {i:Int} (h0:0<=i) (h1:i<=a.length):0<=tmV a b i/\tmV a b i<pw (i.toNat+b.length):=by
 have t0:=au (ha.take i.toNat)
 have t1:=iB (ha.take i.toNat)
 have b0:=au hb
 have b1:=iB hb
 rw [List.length_take,Nat.min_eq_left (by omega)] at t1
 refine ⟨Int.mul_nonneg t0 b0,?_⟩
 rw [Bq]
 have p:=pw_pos i.toNat
 calc val (a.take i.toNat)*val b<=pw i.toNat*val b:=Int.mul_le_mul_of_nonneg_right (by omega) b0
  _<pw i.toNat*pw b.length:=Int.mul_lt_mul_of_pos_left b1 p
structure TmI (a b:List Int) (i k c:Int) (d:List Int):Prop where
 l:d.length=a.length+b.length
 dg:Dig d
 k0:0<=k
 k1:k<=b.length
 c0:0<=c
 c1:c<1000000000
 v:val d+pw (i.toNat+k.toNat)*c=tmV a b i+pw i.toNat*(a.getD i.toNat 0*val (b.take k.toNat))
 z:∀ j:Nat,i.toNat+b.length<=j->d.getD j 0=0
theorem TmI.start {a b:List Int} (ha:Dig a) (hb:Dig b) {i:Int} (h0:0<=i) (h1:i<a.length):TmI a b i 0 0 (aY (a.length+b.length) (tmV a b i)):=by
 obtain ⟨t0,t1⟩:=Ko ha hb h0 (Int.le_of_lt h1)
 have t2:=kL (show i.toNat+b.length<=a.length+b.length by omega)
 refine ⟨dJ _ _,jX _ _,Int.le_refl _,by omega,Int.le_refl _,by decide,?_,fun j hj=>Du t0 t1 hj⟩
 rw [lM t0 (by omega)]
 simp [val]
theorem TmI.num {a b:List Int} (ha:Dig a) (hb:Dig b) {i k c:Int} {d:List Int} (h:TmI a b i k c d) (hk:k<b.length):0<=a.getD i.toNat 0*b.getD k.toNat 0/\a.getD i.toNat 0*b.getD k.toNat 0<=999999998000000001/\0<=d.getD (i.toNat+k.toNat) 0/\d.getD (i.toNat+k.toNat) 0<1000000000:=by
 have g1:=ha.get i.toNat
 have g2:=hb.get k.toNat
 have g3:=h.dg.get (i.toNat+k.toNat)
 refine ⟨Int.mul_nonneg g1.1 g2.1,?_,g3⟩
 exact Int.mul_le_mul (show a.getD i.toNat 0<=999999999 by omega) (show b.getD k.toNat 0<=999999999 by omega) g2.1 (by decide)
theorem TmI.step {a b:List Int} (ha:Dig a) (hb:Dig b) {i k c:Int} {d:List Int} (h:TmI a b i k c d) (hi:i<a.length) (hk:k<b.length):
  TmI a b i (k+1) ((d.getD (i.toNat+k.toNat) 0+a.getD i.toNat 0*b.getD k.toNat 0+c).tdiv 1000000000) (d.set (i.toNat+k.toNat) ((d.getD (i.toNat+k.toNat) 0+a.getD i.toNat 0*b.getD k.toNat 0+c).tmod 1000000000)):=by
 obtain ⟨m0,m1,m2,m3⟩:=h.num ha hb hk
 obtain ⟨l,dg,k0,k1,c0,c1,v,z⟩:=h
 have n0:0<=d.getD (i.toNat+k.toNat) 0+a.getD i.toNat 0*b.getD k.toNat 0+c:=by omega
 rw [Int.tdiv_eq_ediv_of_nonneg n0,Int.tmod_eq_emod_of_nonneg n0]
 have ek:(k+1).toNat=k.toNat+1:=by omega
 have hl:i.toNat+k.toNat<d.length:=by omega
 refine ⟨by simp [l],dg.set _ (by omega),by omega,by omega,by omega,by omega,?_,fun j hj=>?_⟩
 .rw [ek,l8 _ _ _ hl,eD (by omega),<- Nat.add_assoc,kM]
  have ed:=Int.mul_ediv_add_emod (d.getD (i.toNat+k.toNat) 0+a.getD i.toNat 0*b.getD k.toNat 0+c) 1000000000
  rw [Bq] at v ⊢
  generalize (d.getD (i.toNat+k.toNat) 0+a.getD i.toNat 0*b.getD k.toNat 0+c) / 1000000000=Q at *
  generalize (d.getD (i.toNat+k.toNat) 0+a.getD i.toNat 0*b.getD k.toNat 0+c) % 1000000000=R at *
  generalize d.getD (i.toNat+k.toNat) 0=x at *
  generalize a.getD i.toNat 0=y at *
  generalize b.getD k.toNat 0=w at *
  generalize pw i.toNat=p at *
  generalize pw k.toNat=q at *
  generalize tmV a b i=V at *
  generalize val (b.take k.toNat)=u at *
  generalize val d=D at *
  grind
 .rw [getD_set (by omega)]
  exact z j hj
def tmW (a b:List Int) (i:Int):Int:=tmV a b i+pw i.toNat*(a.getD i.toNat 0*val b)
theorem ZN {a b:List Int} {i:Int} (h0:0<=i) (h1:i<a.length):tmW a b i=tmV a b (i+1):=by
 unfold tmW tmV
 rw [show (i+1).toNat=i.toNat+1 by omega,eD (by omega)]
 grind
theorem TmI.fin {a b:List Int} {i k c:Int} {d:List Int} (h:TmI a b i k c d) (hk:¬ k<b.length):k=b.length/\c=tmW a b i / pw (i.toNat+b.length)/\d=aY (a.length+b.length) (tmW a b i % pw (i.toNat+b.length)):=by
 obtain ⟨l,dg,k0,k1,c0,c1,v,z⟩:=h
 have e:k=b.length:=by omega
 subst e
 have d0:=au dg
 have d1:=Fp dg z
 have p:=pw_pos (i.toNat+b.length)
 rw [show ((b.length:Int)).toNat=b.length by omega,List.take_length] at v
 have hW:tmW a b i=val d+pw (i.toNat+b.length)*c:=v.symm
 refine ⟨rfl,?_,qI dg l ?_⟩
 .rw [hW,Int.add_mul_ediv_left _ _ (by omega),Int.ediv_eq_zero_of_lt d0 d1]; omega
 .rw [hW,Int.add_mul_emod_self_left,Int.emod_eq_of_lt d0 d1]
theorem ZO {a b:List Int} (ha:Dig a) (hb:Dig b) {i:Int} (h0:0<=i) (h1:i<a.length):
  (aY (a.length+b.length) (tmW a b i % pw (i.toNat+b.length))).set (i.toNat+b.length) (tmW a b i / pw (i.toNat+b.length))=aY (a.length+b.length) (tmV a b (i+1)):=by
 obtain ⟨t0,t1⟩:=Ko ha hb (show 0<=i+1 by omega) (show i+1<=a.length by omega)
 have p:=pw_pos (i.toNat+b.length)
 rw [ZN h0 h1]
 rw [show (i+1).toNat+b.length=(i.toNat+b.length)+1 by omega,kM] at t1
 have m0:=Int.emod_nonneg (tmV a b (i+1)) (show pw (i.toNat+b.length)≠0 by omega)
 have m1:=Int.emod_lt_of_pos (tmV a b (i+1)) p
 have m2:=kL (show i.toNat+b.length<=a.length+b.length by omega)
 have q0:=Int.ediv_nonneg t0 (show 0<=pw (i.toNat+b.length) by omega)
 have q1:tmV a b (i+1) / pw (i.toNat+b.length)<1000000000:=Int.ediv_lt_of_lt_mul p (by omega)
 have ed:=Int.mul_ediv_add_emod (tmV a b (i+1)) (pw (i.toNat+b.length))
 apply qI ((jX _ _).set _ ⟨q0,q1⟩)
 .rw [List.length_set,dJ]
 .rw [l8 _ _ _ (by rw [dJ]; omega),Du m0 m1 (Nat.le_refl _),lM m0 (by omega)]
  rw [Int.sub_zero]
  omega
theorem ZP {a b:List Int} (ha:Dig a) (hb:Dig b):val (aY (a.length+b.length) (tmV a b a.length))=val a*val b:=by
 obtain ⟨t0,t1⟩:=Ko ha hb (show 0<=(a.length:Int) by omega) (Int.le_refl _)
 rw [show ((a.length:Int)).toNat=a.length by omega] at t1
 rw [lM t0 t1]
 unfold tmV
 rw [show ((a.length:Int)).toNat=a.length by omega,List.take_length]
end Go.Dg
namespace Go.Proofs.YtmnhhlnbfkfkaaaGreat.K
open Go Go.Eng Go.Dg
noncomputable section
def zB (a b:List Int):List AV:=[.lslice 0 a.length,.lslice 1 b.length]
def zG (a b:List Int):Hp:=lL true hG0 [(.i64,a),(.i64,b)]
def zf:AFr:=⟨98,none⟩
def Kq:Code:=jE Tryz.prog 98 0
def RH:Code:=jE Tryz.prog 98 1
noncomputable def toS (a b:List Int):St:=vT cL 300 98 (zB a b) (zG a b)
def tmL (a b:List Int):Nat:=a.length+b.length
def toP (i:Int) (d:List Int):Patch:=⟨gz 6 6++(20,.int true .i64 i) :: gz 21 41,[(2,.ints .i64 d)],[]⟩
def toU (a b:List Int):SumL Int:=
 {
  S:=fun i=>toP i (aY (tmL a b) (tmV a b i))
  I:=fun i=>0<=i/\i<=a.length
  μ:=fun i=>(a.length - i).toNat
  F:=fun _=>(.exit 0,toP a.length (aY (tmL a b) (tmV a b a.length)))
  next:=fun i=>i+1
  ids:=fun _=>[]
  X:=fun i _=>some (toP i (aY (tmL a b) (tmV a b i)),[]) }
noncomputable def Bw (a b:List Int) (i:Int):St:=ae6 cL 300 zf Kq (af (toS a b) ((toU a b).S i))
def tiP (k c:Int) (d:List Int):Patch:=⟨(8,.int true .i64 c) :: gz 9 3++(27,.int true .i64 k) :: gz 28 26,[(2,.ints .i64 d)],[]⟩
def tiX (a b:List Int) (i:Int):Patch:=tiP b.length (tmW a b i / pw (i.toNat+b.length)) (aY (tmL a b) (tmW a b i % pw (i.toNat+b.length)))
def tiU (a b:List Int) (i:Int):SumL (Int×Int×List Int):=
 {
  S:=fun (k,c,d)=>tiP k c d
  I:=fun (k,c,d)=>TmI a b i k c d
  μ:=fun (k,_,_)=>(b.length - k).toNat
  F:=fun _=>(.exit 2,tiX a b i)
  next:=fun (k,c,d)=>(k+1,(d.getD (i.toNat+k.toNat) 0+a.getD i.toNat 0*b.getD k.toNat 0+c).tdiv 1000000000,d.set (i.toNat+k.toNat) ((d.getD (i.toNat+k.toNat) 0+a.getD i.toNat 0*b.getD k.toNat 0+c).tmod 1000000000))
  ids:=fun _=>[]
  X:=fun (k,c,d) _=>some (tiP k c d,[]) }
noncomputable def ZQ (a b:List Int) (i:Int):Ctx:=bq cL [bZ 98 (Bw a b i).hp.clock zf RH (Bw a b i) (.exit 2) (tiX a b i)]
def hZ (l:List (Nat×AV)):Nat->Nat->Option AV:=fun _ t=>match l with
 | []=>none
 | x :: l=>match Nat.beq t x.1 with
  | true=>some x.2
  | false=>hZ l 0 t
termination_by structural l
def cHz (t:Nat):Ctx:=fZ cL (hZ [(t,.bool false false)])
theorem ZR (t:Nat):CtxOk (cHz t):=bU iN _
def IV (a b:List Int):Prop:=(0:Int)=(0:Int)/\List.replicate (IntKind.i64.wrap ((↑a.length:Int)+(↑b.length:Int))).toNat (0:Int)=aY (tmL a b) (tmV a b (0:Int))
theorem RI (a b:List Int):fit (toS a b) (toS a b) (af (toS a b) ((toU a b).S 0)) ([])=some (.p (IV a b)):=by kernel_rfl
def IW (a b:List Int) (i:Int):Prop:=((0:Int)=(0:Int)/\(0:Int)=(0:Int))/\aY (tmL a b) (tmV a b i)=aY (tmL a b) (tmV a b i)
theorem RJ (a b:List Int) (i:Int):fit (Bw a b i) (Bw a b i) (af (Bw a b i) ((tiU a b i).S (0,0,aY (tmL a b) (tmV a b i)))) ([])=some (.p (IW a b i)):=by kernel_rfl
def Kr (a b:List Int) (i k c:Int) (d:List Int):Prop:=(decide (k<(↑b.length:Int))=true->(((0:Int)<=k/\k<(↑b.length:Int))/\k.toNat<b.length)/\(((0:Int)<=IntKind.i64.wrap (i+k)/\IntKind.i64.wrap (i+k)<IntKind.i64.wrap ((↑a.length:Int)+(↑b.length:Int)))/\((0:Int)+IntKind.i64.wrap (i+k)).toNat<d.length)/\((0:Int)<=IntKind.i64.wrap (i+k)/\IntKind.i64.wrap (i+k)<IntKind.i64.wrap ((↑a.length:Int)+(↑b.length:Int)))/\((0:Int)+IntKind.i64.wrap (i+k)).toNat<d.length)/\((!decide (k<(↑b.length:Int)))=true->((c=c/\k=k)/\d=d)/\(tiU a b i).F (k,c,d)=(Ex.exit (2:Nat),tiP k c d))/\(decide (k<(↑b.length:Int))=true->((IntKind.i64.wrap ((IntKind.i64.wrap (IntKind.i64.wrap (d.getD ((0:Int)+IntKind.i64.wrap (i+k)).toNat (0:Int)+IntKind.i64.wrap (a.getD i.toNat (0:Int)*b.getD k.toNat (0:Int)))+c)).tdiv (1000000000:Int))=(d.getD (i.toNat+k.toNat) (0:Int)+a.getD i.toNat (0:Int)*b.getD k.toNat (0:Int)+c).tdiv (1000000000:Int)/\IntKind.i64.wrap (k+(1:Int))=k+(1:Int))/\d.set ((0:Int)+IntKind.i64.wrap (i+k)).toNat ((IntKind.i64.wrap (IntKind.i64.wrap (d.getD ((0:Int)+IntKind.i64.wrap (i+k)).toNat (0:Int)+IntKind.i64.wrap (a.getD i.toNat (0:Int)*b.getD k.toNat (0:Int)))+c)).tmod (1000000000:Int))=d.set (i.toNat+k.toNat) ((d.getD (i.toNat+k.toNat) (0:Int)+a.getD i.toNat (0:Int)*b.getD k.toNat (0:Int)+c).tmod (1000000000:Int)))/\(tiU a b i).I ((tiU a b i).next (k,c,d))/\(tiU a b i).μ ((tiU a b i).next (k,c,d))<(tiU a b i).μ (k,c,d)/\(tiU a b i).F ((tiU a b i).next (k,c,d))=(tiU a b i).F (k,c,d))
theorem Wh (a b:List Int) (i k c:Int) (d:List Int):fI (Bw a b i) ((tiU a b i).way ((k,c,d))) ((run cL 300).code zf RH (af (Bw a b i) ((tiU a b i).S (k,c,d))))=some (.p (Kr a b i k c d)):=by kernel_rfl
def Kt (a b:List Int) (i:Int):Prop:=(decide (i<(↑a.length:Int))=true->(((0:Int)<=i/\i<(↑a.length:Int))/\i.toNat<a.length)/\At (zf) (zf) (RH) (RH) (Bw a b i) (Bw a b i)/\((0:Int)<=IntKind.i64.wrap (i+(↑b.length:Int))/\IntKind.i64.wrap (i+(↑b.length:Int))<IntKind.i64.wrap ((↑a.length:Int)+(↑b.length:Int)))/\((0:Int)+IntKind.i64.wrap (i+(↑b.length:Int))).toNat<(aY (tmL a b) (tmW a b i % pw (i.toNat+b.length))).length)/\((!decide (i<(↑a.length:Int)))=true->(i=i/\aY (tmL a b) (tmV a b i)=aY (tmL a b) (tmV a b i))/\(toU a b).F i=(Ex.exit (0:Nat),toP i (aY (tmL a b) (tmV a b i))))/\(decide (i<(↑a.length:Int))=true->(IntKind.i64.wrap (i+(1:Int))=(toU a b).next i/\(aY (tmL a b) (tmW a b i % pw (i.toNat+b.length))).set ((0:Int)+IntKind.i64.wrap (i+(↑b.length:Int))).toNat (tmW a b i / pw (i.toNat+b.length))=aY (tmL a b) (tmV a b ((toU a b).next i)))/\(toU a b).I ((toU a b).next i)/\(toU a b).μ ((toU a b).next i)<(toU a b).μ i/\(toU a b).F ((toU a b).next i)=(toU a b).F i)
theorem Wj (a b:List Int) (i:Int):fI (toS a b) ((toU a b).way (i)) ((run (ZQ a b i) 300).code zf Kq (af (toS a b) ((toU a b).S i)))=some (.p (Kt a b i)):=by kernel_rfl
def OD (a b:List Int) (i:Int):Prop:=decide (i<(↑a.length:Int))=false/\(true=true->(i=i/\aY (tmL a b) (tmV a b i)=aY (tmL a b) (tmV a b i))/\(toU a b).F i=(Ex.exit (0:Nat),toP i (aY (tmL a b) (tmV a b i))))
theorem ZT (a b:List Int) (i:Int):fI (toS a b) ((toU a b).way (i)) ((run (cHz 21) 300).code zf Kq (af (toS a b) ((toU a b).S i)))=some (.p (OD a b i)):=by kernel_rfl
theorem RL {a b:List Int} (ha:Dig a) (hb:Dig b) (hl:a.length+b.length<=500000) {i:Int} (h0:0<=i) (h1:i<a.length):CodeOk cL zf (.loop RH) (Bw a b i) ⟨.tt,[⟨.tt,.exit 2,af (Bw a b i) (tiX a b i)⟩]⟩:=by
 refine mZ (bR iN 300) (tiU a b i) (y0:=(0,0,aY (tmL a b) (tmV a b i))) (TmI.start ha hb h0 h1) ⟨_,RJ a b i,⟨rfl,rfl⟩,rfl⟩ (by kernel_rfl) (fun y hy=>?_) rfl
 obtain ⟨k,c,d⟩:=y
 have hI:TmI a b i k c d:=hy
 obtain ⟨l,dg,k0,k1,c0,c1,v,z⟩:=id hI
 have eL:IntKind.i64.wrap ((a.length:Int)+b.length)=a.length+b.length:=iw (by omega) (by omega)
 have e1:IntKind.i64.wrap (i+k)=i+k:=iw (by omega) (by omega)
 have e2:(0+(i+k)).toNat=i.toNat+k.toNat:=by omega
 refine ⟨_,Wh a b i k c d,fun h=>?_,fun h=>⟨⟨⟨rfl,rfl⟩,rfl⟩,?_⟩,fun h=>?_⟩
 .have h:=dt.1 h
  rw [e1,eL,e2]
  exact ⟨⟨⟨k0,h⟩,by omega⟩,⟨⟨by omega,by omega⟩,by omega⟩,⟨by omega,by omega⟩,by omega⟩
 .obtain ⟨f1,f2,f3⟩:=hI.fin (ndt.1 h)
  show (Ex.exit 2,tiX a b i)=(Ex.exit 2,tiP k c d)
  unfold tiX tmL
  rw [f1,f2,<- f3]
 .have h:=dt.1 h
  obtain ⟨m0,m1,m2,m3⟩:=hI.num ha hb h
  rw [e1,e2]
  have e3:IntKind.i64.wrap (a.getD i.toNat 0*b.getD k.toNat 0)=a.getD i.toNat 0*b.getD k.toNat 0:=iw (by omega) (by omega)
  rw [e3]
  have e4:IntKind.i64.wrap (d.getD (i.toNat+k.toNat) 0+a.getD i.toNat 0*b.getD k.toNat 0)=d.getD (i.toNat+k.toNat) 0+a.getD i.toNat 0*b.getD k.toNat 0:=iw (by omega) (by omega)
  rw [e4]
  have e5:IntKind.i64.wrap (d.getD (i.toNat+k.toNat) 0+a.getD i.toNat 0*b.getD k.toNat 0+c)=d.getD (i.toNat+k.toNat) 0+a.getD i.toNat 0*b.getD k.toNat 0+c:=iw (by omega) (by omega)
  rw [e5]
  have st:=hI.step ha hb h1 h
  have e6:IntKind.i64.wrap ((d.getD (i.toNat+k.toNat) 0+a.getD i.toNat 0*b.getD k.toNat 0+c).tdiv 1000000000)=(d.getD (i.toNat+k.toNat) 0+a.getD i.toNat 0*b.getD k.toNat 0+c).tdiv 1000000000:=by
   have:=st.c0
   have:=st.c1
   exact iw (by omega) (by omega)
  refine ⟨⟨⟨e6,iw (by omega) (by omega)⟩,rfl⟩,st,?_,rfl⟩
  show (b.length - (k+1)).toNat<(b.length - k).toNat
  omega
theorem Wl {a b:List Int} (ha:Dig a) (hb:Dig b) (hl:a.length+b.length<=500000) {i:Int} (h0:0<=i) (h1:i<a.length):CtxOk (ZQ a b i):=aQ iN (RL ha hb hl h0 h1) (cO iN)
theorem Wm {a b:List Int} (ha:Dig a) (hb:Dig b) (hl:a.length+b.length<=500000):CodeOk cL zf (.loop Kq) (toS a b) ⟨.tt,[⟨.tt,.exit 0,af (toS a b) (toP a.length (aY (tmL a b) (tmV a b a.length)))⟩]⟩:=by
 have eL:IntKind.i64.wrap ((a.length:Int)+b.length)=a.length+b.length:=iw (by omega) (by omega)
 refine ni (toU a b) (y0:=0) ⟨by omega,by omega⟩ ⟨_,RI a b,rfl,?_⟩ (by kernel_rfl) (fun i hi=>?_) rfl
 .rw [eL,show ((a.length:Int)+b.length).toNat=tmL a b by unfold tmL; omega,IP]
  congr 1
  unfold tmV
  simp [val]
 obtain ⟨i0,i1⟩:=(show 0<=i/\i<=a.length from hi)
 by_cases hlt:i<a.length
 .have e1:IntKind.i64.wrap (i+b.length)=i+b.length:=iw (by omega) (by omega)
  have e2:(0+(i+(b.length:Int))).toNat=i.toNat+b.length:=by omega
  refine ⟨ZQ a b i,300,Wl ha hb hl i0 hlt,rfl,rfl,_,Wj a b i,fun h=>?_,fun h=>absurd hlt (ndt.1 h),fun h=>⟨⟨iw (by omega) (by omega),?_⟩,?_,?_,rfl⟩⟩
  .rw [e1,eL,e2]
   refine ⟨⟨⟨i0,hlt⟩,by omega⟩,⟨rfl,rfl,rfl⟩,⟨by omega,by omega⟩,?_⟩
   rw [dJ]; unfold tmL; omega
  .rw [e1,e2]
   exact ZO ha hb i0 hlt
  .show 0<=i+1/\i+1<=a.length
   omega
  .show (a.length - (i+1)).toNat<(a.length - i).toNat
   omega
 .obtain rfl:i=a.length:=by omega
  exact ⟨cHz 21,300,ZR 21,rfl,rfl,_,ZT a b a.length,ndf hlt,fun _=>⟨⟨rfl,rfl⟩,rfl⟩⟩
noncomputable def ttS (a b d:List Int) (N:Int):St:=vT cL 300 117 [.islice true 2 0 N] ⟨[⟨14,.ints .i64 d⟩,⟨0,.rows .i64 b⟩,⟨0,.rows .i64 a⟩],3,17⟩
theorem RN (a b d:List Int) (N:Int):fit (ttS a b d N) (ttS a b d N) (af (ttS a b d N) ((trU 2 d N).S N)) []=some (.p ((0:Int)=0/\N=N)):=by kernel_rfl
theorem Wn (a b d:List Int) (N y:Int):fI (ttS a b d N) ((trU 2 d N).way y) ((run cL 300).code kN trA (af (ttS a b d N) ((trU 2 d N).S y)))=some (.p (trN 2 d N y)):=by kernel_rfl
theorem Wo (a b:List Int) {d:List Int} {N:Int} (hN:N=d.length) (ld:Sm d):CodeOk cL kN (.loop trA) (ttS a b d N) ⟨.tt,[⟨.tt,.exit 0,af (ttS a b d N) (trP 2 (tlI d N))⟩]⟩:=zC hN ld (RN a b d N) (by kernel_rfl) (fun y=>Wn a b d N y)
def tmN (a b:List Int):Int:=IntKind.i64.wrap ((a.length:Int)+b.length)
def tmD (a b:List Int):List Int:=aY (tmL a b) (tmV a b a.length)
noncomputable def cTt (a b:List Int):Ctx:=bq cL [bZ 98 (toS a b).hp.clock zf Kq (toS a b) (.exit 0) (toP a.length (tmD a b)),bZ 117 20 kN trA (ttS a b (tmD a b) (tmN a b)) (.exit 0) (trP 2 (tlI (tmD a b) (tmN a b)))]
theorem ME {a b:List Int} (hl:a.length+b.length<=500000):tmN a b=(tmD a b).length:=by
 unfold tmN tmD tmL
 rw [iw (by omega) (by omega),dJ]; omega
theorem ZU {a b:List Int} (ha:Dig a) (hb:Dig b) (hl:a.length+b.length<=500000):CtxOk (cTt a b):=
 aQ iN (Wm ha hb hl) (aQ iN (Wo a b (ME hl) (by show (tmD a b).length<=500000; unfold tmD tmL; rw [dJ]; exact hl)) (cO iN))
def Wp (a b:List Int):Prop:=((IntKind.i64.wrap ((↑a.length:Int)+(↑b.length:Int))=IntKind.i64.wrap ((↑a.length:Int)+(↑b.length:Int))/\(0:Int)<=IntKind.i64.wrap ((↑a.length:Int)+(↑b.length:Int))/\IntKind.i64.wrap ((↑a.length:Int)+(↑b.length:Int))<=(1048576:Int))/\At (zf) (zf) (Kq) (Kq) (toS a b) (toS a b)/\At (kN) (kN) (trA) (trA) (ttS a b (tmD a b) (tmN a b)) (ttS a b (tmD a b) (tmN a b)))
def ZV (a b:List Int):AV:=(AV.islice true 2 (0:Int) (tlI (tmD a b) (tmN a b)))
def ZW (a b:List Int):Hp:=⟨[{ wr:=14,body:=ABody.ints IntKind.i64 (tmD a b) },{ wr:=(0:Nat),body:=ABody.rows IntKind.i64 b },{ wr:=(0:Nat),body:=ABody.rows IntKind.i64 a }],3,24⟩
theorem afc (a b:List Int):(run (cTt a b) 300).call 98 (zB a b) (zG a b)=some ⟨.p (Wp a b),[⟨.tt,ZV a b,ZW a b⟩]⟩:=by kernel_rfl
def ZX:List Nu->List (List Int)->Option (Prop×To)
 | [],[a,b]=>some (Dig a/\Dig b/\a.length+b.length<=500000,.li false (aa (val a*val b).toNat))
 | _,_=>none
theorem Fq {d:List Int} {N v:Int} (h:Dig d) (hN:N=d.length) (hv:val d=v):((0:Int)<=0/\0<=tlI d N/\0+tlI d N<=d.length)/\List.take (tlI d N).toNat (List.drop (Int.toNat 0) d)=aa v.toNat:=by
 have hl:=Rx d
 rw [MC h hN,hv,hN]
 exact ⟨⟨by omega,by omega,by omega⟩,rfl⟩
theorem RO:NOk Tryz.prog (fun _=>none) hG0 98 (dI hG0 .i64 [.li,.li] ZX):=by
 refine gD (fun xs ys p t e h=>?_) ⟨_,Tryz.func98,rfl⟩
 unfold ZX at e
 split at e
 .rename_i a b
  cases e
  obtain ⟨ha,hb,hl⟩:=h
  have eN:tmN a b=a.length+b.length:=iw (by omega) (by omega)
  exact ⟨cTt a b,300,zB a b,_,_,_,_,_,ZU ha hb hl,rfl,rfl,⟨rfl,rfl,trivial⟩,afc a b,rfl,⟨⟨rfl,by show 0<=tmN a b; omega,by show tmN a b<=_; omega⟩,⟨rfl,rfl,rfl⟩,⟨rfl,rfl,rfl⟩⟩,rfl,rfl,Fq (jX _ _) (ME hl) (ZP ha hb)⟩
 .cases e
end
end Go.Proofs.YtmnhhlnbfkfkaaaGreat.K
namespace Go.Dg
open Go Go.Eng
def gI:List Int->List Int->List Int
 | x :: a,y :: b=>(x - y) :: gI a b
 | a,[]=>a
 | [],_ :: _=>[]
def mr:List Int->List Int->List Int
 | x :: a,y :: b=>(x+y) :: mr a b
 | a,[]=>a
 | [],_ :: _=>[]
theorem Bz (a:List Int):gI a []=a:=by cases a <;> rfl
theorem BA (a:List Int):mr a []=a:=by cases a <;> rfl
theorem vY:∀ a b:List Int,(gI a b).length=a.length
 | [],[]=>rfl
 | x :: a,[]=>rfl
 | [],_ :: _=>rfl
 | x :: a,y :: b=>by simp [gI,vY a b]
theorem vZ:∀ a b:List Int,(mr a b).length=a.length
 | [],[]=>rfl
 | x :: a,[]=>rfl
 | [],_ :: _=>rfl
 | x :: a,y :: b=>by simp [mr,vZ a b]
theorem BB:∀ (a b:List Int) (i:Nat),i<a.length->(gI a b).getD i 0=a.getD i 0 - b.getD i 0
 | [],_,i,h=>by simp at h
 | x :: a,[],i,h=>by simp [gI]
 | x :: a,y :: b,0,h=>by simp [gI]
 | x :: a,y :: b,i+1,h=>by
  have:=BB a b i (by simpa using h)
  simpa [gI] using this
theorem wm:∀ (a b:List Int) (i:Nat),i<a.length->(mr a b).getD i 0=a.getD i 0+b.getD i 0
 | [],_,i,h=>by simp at h
 | x :: a,[],i,h=>by simp [mr]
 | x :: a,y :: b,0,h=>by simp [mr]
 | x :: a,y :: b,i+1,h=>by
  have:=wm a b i (by simpa using h)
  simpa [mr] using this
theorem Dv:∀ (a b:List Int) (i:Nat),i<b.length->b.length<=a.length->(gI a (b.take i)).set i ((gI a (b.take i)).getD i 0 - b.getD i 0)=gI a (b.take (i+1))
 | _,[],i,h,_=>by simp at h
 | [],y :: b,i,h,h2=>by simp at h2
 | x :: a,y :: b,0,h,_=>by simp [gI,Bz]
 | x :: a,y :: b,i+1,h,h2=>by
  have:=Dv a b i (by simpa using h) (by simpa using h2)
  simpa [gI] using this
theorem Dw:∀ (a b:List Int) (i:Nat),i<b.length->b.length<=a.length->(mr a (b.take i)).set i ((mr a (b.take i)).getD i 0+b.getD i 0)=mr a (b.take (i+1))
 | _,[],i,h,_=>by simp at h
 | [],y :: b,i,h,h2=>by simp at h2
 | x :: a,y :: b,0,h,_=>by simp [mr,BA]
 | x :: a,y :: b,i+1,h,h2=>by
  have:=Dw a b i (by simpa using h) (by simpa using h2)
  simpa [mr] using this
theorem IX:∀ (a b:List Int),b.length<=a.length->val (gI a b)=val a - val b
 | a,[],_=>by simp [Bz,val]
 | [],y :: b,h=>by simp at h
 | x :: a,y :: b,h=>by
  have:=IX a b (by simpa using h)
  simp only [gI,val]
  omega
theorem IY:∀ (a b:List Int),b.length<=a.length->val (mr a b)=val a+val b
 | a,[],_=>by simp [BA,val]
 | [],y :: b,h=>by simp at h
 | x :: a,y :: b,h=>by
  have:=IY a b (by simpa using h)
  simp only [mr,val]
  omega
theorem Ku {d:List Int} (h:∀ j,j<d.length->0<=d.getD j 0/\d.getD j 0<1000000000):Dig d:=by
 intro x hx
 obtain ⟨j,hj,rfl⟩:=List.getElem_of_mem hx
 have:=h j hj
 simpa [List.getD_eq_getElem?_getD,List.getElem?_eq_getElem hj] using this
structure NbI (L:Nat) (V:Int) (i:Nat) (d:List Int):Prop where
 l:d.length=L
 i1:i<=L
 lo:∀ j,j<i->0<=d.getD j 0/\d.getD j 0<1000000000
 me:-1000000000<=d.getD i 0/\d.getD i 0<1000000000
 hi:∀ j,i<j->-1000000000<d.getD j 0/\d.getD j 0<1000000000
 v:val d=V
theorem NbI.start {a b:List Int} (ha:Dig a) (hb:Dig b) (hl:b.length<=a.length):NbI a.length (val a - val b) 0 (gI a b):=by
 have g:∀ j,-1000000000<(gI a b).getD j 0/\(gI a b).getD j 0<1000000000:=by
  intro j
  rcases Nat.lt_or_ge j a.length with h|h
  .rw [BB a b j h]
   have:=ha.get j
   have:=hb.get j
   omega
  .rw [List.getD_eq_getElem?_getD,List.getElem?_eq_none (by rw [vY]; exact h)]
   simp
 exact ⟨vY a b,Nat.zero_le _,fun j hj=>by omega,⟨by have:=g 0; omega,(g 0).2⟩,fun j _=>g j,IX a b hl⟩
theorem Wq {d:List Int} {i:Nat} (hl:d.length=i+1) (lo:∀ j,j<i->0<=d.getD j 0/\d.getD j 0<1000000000) (hn:d.getD i 0<0):val d<0:=by
 have e:val d=val (d.take i)+pw i*d.getD i 0:=by
  rw [<- eD (by omega),<- hl,List.take_length]
 have dg:Dig (d.take i):=by
  apply Ku
  intro j hj
  rw [List.length_take] at hj
  have:=lo j (by omega)
  simpa [List.getD_eq_getElem?_getD,List.getElem?_take,show j<i by omega] using this
 have h1:=iB dg
 rw [List.length_take,Nat.min_eq_left (by omega)] at h1
 have h2:pw i*d.getD i 0<=pw i * -1:=Int.mul_le_mul_of_nonneg_left (by omega) (Int.le_of_lt (pw_pos i))
 omega
theorem NbI.in {L:Nat} {V:Int} {i:Nat} {d:List Int} (h:NbI L V i d) (hV:0<=V) (hi:i<L) (hn:d.getD i 0<0):i+1<L:=by
 rcases Nat.lt_or_ge (i+1) L with h1|h1
 .exact h1
 .have:=Wq (i:=i) (by rw [h.l]; omega) h.lo hn
  rw [h.v] at this
  omega
theorem NbI.skip {L:Nat} {V:Int} {i:Nat} {d:List Int} (h:NbI L V i d) (hi:i<L) (hn:¬ d.getD i 0<0):NbI L V (i+1) d:=by
 obtain ⟨l,i1,lo,me,hi',v⟩:=h
 refine ⟨l,hi,fun j hj=>?_,?_,fun j hj=>hi' j (by omega),v⟩
 .rcases Nat.lt_or_ge j i with h1|h1
  .exact lo j h1
  .have:j=i:=by omega
   subst this; omega
 .have:=hi' (i+1) (by omega); omega
theorem NbI.step {L:Nat} {V:Int} {i:Nat} {d:List Int} (h:NbI L V i d) (hV:0<=V) (hi:i<L) (hn:d.getD i 0<0):
  NbI L V (i+1) ((d.set i (d.getD i 0+1000000000)).set (i+1) ((d.set i (d.getD i 0+1000000000)).getD (i+1) 0 - 1)):=by
 have h1:=h.in hV hi hn
 obtain ⟨l,i1,lo,me,hi',v⟩:=h
 have e1:(d.set i (d.getD i 0+1000000000)).getD (i+1) 0=d.getD (i+1) 0:=getD_set (by omega)
 rw [e1]
 have hn1:=hi' (i+1) (by omega)
 refine ⟨by simp [l],hi,fun j hj=>?_,?_,fun j hj=>?_,?_⟩
 .rw [getD_set (by omega)]
  rcases Nat.lt_or_ge j i with h2|h2
  .rw [getD_set (by omega)]; exact lo j h2
  .have:j=i:=by omega
   subst this
   rw [ib (by omega)]; omega
 .rw [ib (by rw [List.length_set]; omega)]; omega
 .rw [getD_set (by omega),getD_set (by omega)]
  exact hi' j (by omega)
 .rw [l8 _ _ _ (by rw [List.length_set]; omega),l8 _ _ _ (by omega),e1,kM]
  grind
theorem NbI.fin {L:Nat} {V:Int} {d:List Int} (h:NbI L V L d):d=aY L V:=by
 exact qI (Ku fun j hj=>h.lo j (by rw [<- h.l]; exact hj)) h.l h.v
structure NcI (L:Nat) (V:Int) (i:Nat) (d:List Int):Prop where
 l:d.length=L+1
 i1:i<=L
 lo:∀ j,j<i->0<=d.getD j 0/\d.getD j 0<1000000000
 me:0<=d.getD i 0/\d.getD i 0<2000000000
 hi:∀ j,i<j->0<=d.getD j 0/\d.getD j 0<1999999999
 t0:i<L->d.getD L 0=0
 t1:d.getD L 0<=1
 v:val d=V
theorem NcI.start {a b:List Int} (ha:Dig a) (hb:Dig b) (hl:b.length<=a.length):NcI a.length (val a+val b) 0 (mr (a++[0]) b):=by
 have da:Dig (a++[0]):=Mv.2 ⟨ha,dW.2 ⟨by omega,kK⟩⟩
 have ll:(a++[(0:Int)]).length=a.length+1:=by simp
 have g:∀ j,0<=(mr (a++[0]) b).getD j 0/\(mr (a++[0]) b).getD j 0<1999999999:=by
  intro j
  rcases Nat.lt_or_ge j (a++[(0:Int)]).length with h|h
  .rw [wm _ b j h]
   have:=da.get j
   have:=hb.get j
   omega
  .rw [List.getD_eq_getElem?_getD,List.getElem?_eq_none (by rw [vZ]; exact h)]
   simp
 have top:(mr (a++[0]) b).getD a.length 0=0:=by
  rw [wm _ b _ (by omega)]
  have e1:(a++[(0:Int)]).getD a.length 0=0:=by simp [List.getD_eq_getElem?_getD]
  have e2:b.getD a.length 0=0:=by rw [List.getD_eq_getElem?_getD,List.getElem?_eq_none hl]; rfl
  omega
 refine ⟨by rw [vZ,ll],Nat.zero_le _,fun j hj=>by omega,⟨(g 0).1,by have:=(g 0).2; omega⟩,fun j _=>g j,fun _=>top,by omega,?_⟩
 rw [IY _ b (by rw [ll]; omega),Fg]
 simp [val]
theorem NcI.skip {L:Nat} {V:Int} {i:Nat} {d:List Int} (h:NcI L V i d) (hi:i<L) (hn:¬ 1000000000<=d.getD i 0):NcI L V (i+1) d:=by
 obtain ⟨l,i1,lo,me,hi',t0,t1,v⟩:=h
 refine ⟨l,hi,fun j hj=>?_,?_,fun j hj=>hi' j (by omega),fun _=>t0 hi,t1,v⟩
 .rcases Nat.lt_or_ge j i with h1|h1
  .exact lo j h1
  .have:j=i:=by omega
   subst this; omega
 .have:=hi' (i+1) (by omega); omega
theorem NcI.step {L:Nat} {V:Int} {i:Nat} {d:List Int} (h:NcI L V i d) (hi:i<L) (hn:1000000000<=d.getD i 0):
  NcI L V (i+1) ((d.set i (d.getD i 0 - 1000000000)).set (i+1) ((d.set i (d.getD i 0 - 1000000000)).getD (i+1) 0+1)):=by
 obtain ⟨l,i1,lo,me,hi',t0,t1,v⟩:=h
 have e1:(d.set i (d.getD i 0 - 1000000000)).getD (i+1) 0=d.getD (i+1) 0:=getD_set (by omega)
 rw [e1]
 have hn1:=hi' (i+1) (by omega)
 refine ⟨by simp [l],hi,fun j hj=>?_,?_,fun j hj=>?_,fun h2=>?_,?_,?_⟩
 .rw [getD_set (by omega)]
  rcases Nat.lt_or_ge j i with h2|h2
  .rw [getD_set (by omega)]; exact lo j h2
  .have:j=i:=by omega
   subst this
   rw [ib (by omega)]; omega
 .rw [ib (by rw [List.length_set]; omega)]; omega
 .rw [getD_set (by omega),getD_set (by omega)]
  exact hi' j (by omega)
 .rw [getD_set (by omega),getD_set (by omega)]
  exact t0 hi
 .rcases Nat.lt_or_ge (i+1) L with h2|h2
  .rw [getD_set (by omega),getD_set (by omega),t0 hi]; decide
  .have e2:i+1=L:=by omega
   have z:=t0 hi
   rw [<- e2] at z ⊢
   rw [ib (by rw [List.length_set]; omega),z]; decide
 .rw [l8 _ _ _ (by rw [List.length_set]; omega),l8 _ _ _ (by omega),e1,kM]
  grind
theorem NcI.fin {L:Nat} {V:Int} {d:List Int} (h:NcI L V L d):d=aY (L+1) V:=by
 refine qI (Ku fun j hj=>?_) h.l h.v
 rw [h.l] at hj
 rcases Nat.lt_or_ge j L with h1|h1
 .exact h.lo j h1
 .have e:j=L:=by omega
  have h2:=h.t1
  have h3:=h.me
  subst e
  omega
end Go.Dg
namespace Go.Proofs.YtmnhhlnbfkfkaaaGreat.K
open Go Go.Eng Go.Dg
noncomputable section
def xM:AFr:=⟨104,none⟩
def OE:Code:=jE Tryz.prog 104 0
def Kv:Code:=jE Tryz.prog 104 1
noncomputable def m1S (a b:List Int):St:=vT cL 300 104 (zB a b) (zG a b)
def m1P (i:Int) (d:List Int):Patch:=⟨gz 6 2++(13,.int true .i64 i) :: gz 14 12,[(2,.ints .i64 d)],[]⟩
def m1X (a b:List Int):Patch:=m1P b.length (gI a (b.take ((b.length:Int)).toNat))
def m1U (a b:List Int):SumL Int:=
 {
  S:=fun i=>m1P i (gI a (b.take i.toNat))
  I:=fun i=>0<=i/\i<=b.length
  μ:=fun i=>(b.length - i).toNat
  F:=fun _=>(.exit 0,m1X a b)
  next:=fun i=>i+1
  ids:=fun _=>[]
  X:=fun i _=>some (m1P i (gI a (b.take i.toNat)),[]) }
noncomputable def cM1 (a b:List Int):Ctx:=bq cL [bZ 104 (m1S a b).hp.clock xM OE (m1S a b) (.exit 0) (m1X a b)]
noncomputable def m2S (a b:List Int):St:=vT (cM1 a b) 300 104 (zB a b) (zG a b)
def m2P (i:Int) (d:List Int):Patch:=⟨(8,.any false) :: (28,.int true .i64 i) :: gz 29 21,[(2,.ints .i64 d)],[]⟩
def BC (a b:List Int):Int:=val a - val b
def m2U (a b:List Int):SumL (Int×List Int):=
 {
  S:=fun (i,d)=>m2P i d
  I:=fun (i,d)=>0<=i/\NbI a.length (BC a b) i.toNat d
  μ:=fun (i,_)=>(a.length - i).toNat
  F:=fun _=>(.exit 2,m2P a.length (aY a.length (BC a b)))
  next:=fun (i,d)=>(i+1,bif decide (d.getD i.toNat 0<0) then (d.set i.toNat (d.getD i.toNat 0+1000000000)).set (i.toNat+1) ((d.set i.toNat (d.getD i.toNat 0+1000000000)).getD (i.toNat+1) 0 - 1) else d)
  ids:=fun _=>[]
  X:=fun (i,d) _=>some (m2P i d,[]) }
def cHb (l:List (Nat×Bool)):Ctx:=fZ cL (hZ (l.map fun x=>(x.1,match x.2 with|true=>.bool false true|false=>.bool false false)))
theorem qJ (l:List (Nat×Bool)):CtxOk (cHb l):=bU iN _
def IZ (a b:List Int):Prop:=(0:Int)=(0:Int)/\a=gI a (List.take (Int.toNat (0:Int)) b)
theorem RP (a b:List Int):fit (m1S a b) (m1S a b) (af (m1S a b) ((m1U a b).S 0)) ([])=some (.p (IZ a b)):=by kernel_rfl
def Kw (a b:List Int) (i:Int):Prop:=(decide (i<(↑b.length:Int))=true->(((0:Int)<=i/\i<(↑b.length:Int))/\i.toNat<b.length)/\((0:Int)<=i/\i<(↑a.length:Int))/\((0:Int)+i).toNat<(gI a (List.take i.toNat b)).length/\((0:Int)<=i/\i<(↑a.length:Int))/\((0:Int)+i).toNat<(gI a (List.take i.toNat b)).length)/\((!decide (i<(↑b.length:Int)))=true->(i=i/\gI a (List.take i.toNat b)=gI a (List.take i.toNat b))/\(m1U a b).F i=(Ex.exit (0:Nat),m1P i (gI a (List.take i.toNat b))))/\(decide (i<(↑b.length:Int))=true->(IntKind.i64.wrap (i+(1:Int))=(m1U a b).next i/\(gI a (List.take i.toNat b)).set ((0:Int)+i).toNat (IntKind.i64.wrap ((gI a (List.take i.toNat b)).getD ((0:Int)+i).toNat (0:Int) - b.getD i.toNat (0:Int)))=gI a (List.take ((m1U a b).next i).toNat b))/\(m1U a b).I ((m1U a b).next i)/\(m1U a b).μ ((m1U a b).next i)<(m1U a b).μ i/\(m1U a b).F ((m1U a b).next i)=(m1U a b).F i)
theorem Ws (a b:List Int) (i:Int):fI (m1S a b) ((m1U a b).way (i)) ((run cL 300).code xM OE (af (m1S a b) ((m1U a b).S i)))=some (.p (Kw a b i)):=by kernel_rfl
def I1 (a b:List Int):Prop:=(0:Int)=(0:Int)/\gI a (List.take (↑b.length:Int).toNat b)=gI a (List.take (↑b.length:Int).toNat b)
theorem RQ (a b:List Int):fit (m2S a b) (m2S a b) (af (m2S a b) ((m2U a b).S (0,gI a (b.take ((b.length:Int)).toNat)))) ([])=some (.p (I1 a b)):=by kernel_rfl
def OG (a b:List Int) (i:Int) (d:List Int):Prop:=decide (i<(↑a.length:Int))=false/\(true=true->(i=i/\d=d)/\(m2U a b).F (i,d)=(Ex.exit (2:Nat),m2P i d))
theorem ZY (a b:List Int) (i:Int) (d:List Int):fI (m2S a b) ((m2U a b).way ((i,d))) ((run (cHb [(29,false)]) 300).code xM Kv (af (m2S a b) ((m2U a b).S (i,d))))=some (.p (OG a b i d)):=by kernel_rfl
def Ky (a b:List Int) (i:Int) (d:List Int):Prop:=(decide (i<(↑a.length:Int))=true/\((0:Int)<=i/\i<(↑a.length:Int))/\((0:Int)+i).toNat<d.length/\decide (d.getD ((0:Int)+i).toNat (0:Int)<(0:Int))=false)/\(true=true->(IntKind.i64.wrap (i+(1:Int))=i+(1:Int)/\d=bif decide (d.getD i.toNat (0:Int)<(0:Int)) then (d.set i.toNat (d.getD i.toNat (0:Int)+(1000000000:Int))).set (i.toNat+(1:Nat)) ((d.set i.toNat (d.getD i.toNat (0:Int)+(1000000000:Int))).getD (i.toNat+(1:Nat)) (0:Int) - (1:Int)) else d)/\(m2U a b).I ((m2U a b).next (i,d))/\(m2U a b).μ ((m2U a b).next (i,d))<(m2U a b).μ (i,d)/\(m2U a b).F ((m2U a b).next (i,d))=(m2U a b).F (i,d))
theorem Wt (a b:List Int) (i:Int) (d:List Int):fI (m2S a b) ((m2U a b).way ((i,d))) ((run (cHb [(29,true),(35,false)]) 300).code xM Kv (af (m2S a b) ((m2U a b).S (i,d))))=some (.p (Ky a b i d)):=by kernel_rfl
def Kz (a b:List Int) (i:Int) (d:List Int):Prop:=(decide (i<(↑a.length:Int))=true/\(((0:Int)<=i/\i<(↑a.length:Int))/\((0:Int)+i).toNat<d.length/\decide (d.getD ((0:Int)+i).toNat (0:Int)<(0:Int))=true)/\(((0:Int)<=i/\i<(↑a.length:Int))/\((0:Int)+i).toNat<d.length/\((0:Int)<=i/\i<(↑a.length:Int))/\((0:Int)+i).toNat<d.length)/\((0:Int)<=IntKind.i64.wrap (i+(1:Int))/\IntKind.i64.wrap (i+(1:Int))<(↑a.length:Int))/\((0:Int)+IntKind.i64.wrap (i+(1:Int))).toNat<(d.set ((0:Int)+i).toNat (IntKind.i64.wrap (d.getD ((0:Int)+i).toNat (0:Int)+(1000000000:Int)))).length/\((0:Int)<=IntKind.i64.wrap (i+(1:Int))/\IntKind.i64.wrap (i+(1:Int))<(↑a.length:Int))/\((0:Int)+IntKind.i64.wrap (i+(1:Int))).toNat<(d.set ((0:Int)+i).toNat (IntKind.i64.wrap (d.getD ((0:Int)+i).toNat (0:Int)+(1000000000:Int)))).length)/\(true=true->(IntKind.i64.wrap (i+(1:Int))=i+(1:Int)/\(d.set ((0:Int)+i).toNat (IntKind.i64.wrap (d.getD ((0:Int)+i).toNat (0:Int)+(1000000000:Int)))).set ((0:Int)+IntKind.i64.wrap (i+(1:Int))).toNat (IntKind.i64.wrap ((d.set ((0:Int)+i).toNat (IntKind.i64.wrap (d.getD ((0:Int)+i).toNat (0:Int)+(1000000000:Int)))).getD ((0:Int)+IntKind.i64.wrap (i+(1:Int))).toNat (0:Int) - (1:Int)))=bif decide (d.getD i.toNat (0:Int)<(0:Int)) then (d.set i.toNat (d.getD i.toNat (0:Int)+(1000000000:Int))).set (i.toNat+(1:Nat)) ((d.set i.toNat (d.getD i.toNat (0:Int)+(1000000000:Int))).getD (i.toNat+(1:Nat)) (0:Int) - (1:Int)) else d)/\(m2U a b).I ((m2U a b).next (i,d))/\(m2U a b).μ ((m2U a b).next (i,d))<(m2U a b).μ (i,d)/\(m2U a b).F ((m2U a b).next (i,d))=(m2U a b).F (i,d))
theorem Wu (a b:List Int) (i:Int) (d:List Int):fI (m2S a b) ((m2U a b).way ((i,d))) ((run (cHb [(29,true),(35,true)]) 300).code xM Kv (af (m2S a b) ((m2U a b).S (i,d))))=some (.p (Kz a b i d)):=by kernel_rfl
theorem zt (i:Int):(0+i).toNat=i.toNat:=by rw [Int.zero_add]
theorem Wv {a b:List Int} (ha:Dig a) (hb:Dig b) (la:Sm a) (hl:b.length<=a.length):CodeOk cL xM (.loop OE) (m1S a b) ⟨.tt,[⟨.tt,.exit 0,af (m1S a b) (m1X a b)⟩]⟩:=by
 have la:=la.le
 refine mZ (bR iN 300) (m1U a b) (y0:=0) ⟨by omega,by omega⟩ ⟨_,RP a b,rfl,(Bz a).symm⟩ (by kernel_rfl) (fun i hi=>⟨_,Ws a b i,?_⟩) rfl
 obtain ⟨i0,i1⟩:=(show 0<=i/\i<=b.length from hi)
 have ll:=vY a (b.take i.toNat)
 refine ⟨fun h=>?_,fun h=>⟨⟨rfl,rfl⟩,?_⟩,fun h=>?_⟩
 .have h:i<b.length:=dt.1 h
  rw [zt,ll]
  exact ⟨⟨⟨i0,h⟩,by omega⟩,⟨i0,by omega⟩,by omega,⟨i0,by omega⟩,by omega⟩
 .have h:=ndt.1 h
  obtain rfl:i=b.length:=by omega
  rfl
 .have h:i<b.length:=dt.1 h
  have g1:=ha.get i.toNat
  have g2:=hb.get i.toNat
  have e0:(b.take i.toNat).getD i.toNat 0=0:=by rw [List.getD_eq_getElem?_getD,List.getElem?_eq_none (by rw [List.length_take]; omega)]; rfl
  have e1:=BB a (b.take i.toNat) i.toNat (by omega)
  rw [e0] at e1
  refine ⟨⟨iw (by omega) (by omega),?_⟩,?_,?_,rfl⟩
  .rw [zt,iw (by omega) (by omega),Dv a b i.toNat (by omega) hl]
   show _=gI a (b.take (i+1).toNat)
   rw [show (i+1).toNat=i.toNat+1 by omega]
  .show 0<=i+1/\i+1<=b.length
   omega
  .show (b.length - (i+1)).toNat<(b.length - i).toNat
   omega
theorem Ww {a b:List Int} (ha:Dig a) (hb:Dig b) (la:Sm a) (hl:b.length<=a.length) (hV:0<=BC a b):CodeOk cL xM (.loop Kv) (m2S a b) ⟨.tt,[⟨.tt,.exit 2,af (m2S a b) (m2P a.length (aY a.length (BC a b)))⟩]⟩:=by
 have la:=la.le
 refine ni (m2U a b) (y0:=(0,gI a (b.take ((b.length:Int)).toNat))) ?_ ⟨_,RQ a b,rfl,rfl⟩ (by kernel_rfl) (fun y hy=>?_) rfl
 .show 0<=(0:Int)/\NbI _ _ _ _
  rw [show ((b.length:Int)).toNat=b.length by omega,List.take_length]
  exact ⟨by decide,NbI.start ha hb hl⟩
 obtain ⟨i,d⟩:=y
 obtain ⟨i0,hI⟩:=(show 0<=i/\NbI a.length (BC a b) i.toNat d from hy)
 obtain ⟨l,i1,lo,me,hi',v⟩:=id hI
 have e2:(i+1).toNat=i.toNat+1:=by omega
 by_cases hlt:i<a.length
 .have iw1:IntKind.i64.wrap (i+1)=i+1:=iw (by omega) (by omega)
  have mu:(a.length - (i+1)).toNat<(a.length - i).toNat:=by omega
  by_cases hn:d.getD i.toNat 0<0
  .have h1:=hI.in hV (by omega) hn
   have h2:=hi' (i.toNat+1) (by omega)
   have e3:(d.set i.toNat (d.getD i.toNat 0+1000000000)).getD (i.toNat+1) 0=d.getD (i.toNat+1) 0:=getD_set (by omega)
   have e4:IntKind.i64.wrap (d.getD i.toNat 0+1000000000)=d.getD i.toNat 0+1000000000:=iw (by omega) (by omega)
   have e5:IntKind.i64.wrap (d.getD (i.toNat+1) 0 - 1)=d.getD (i.toNat+1) 0 - 1:=iw (by omega) (by omega)
   have hb':(bif decide (d.getD i.toNat 0<0) then (d.set i.toNat (d.getD i.toNat 0+1000000000)).set (i.toNat+1) ((d.set i.toNat (d.getD i.toNat 0+1000000000)).getD (i.toNat+1) 0 - 1) else d)=(d.set i.toNat (d.getD i.toNat 0+1000000000)).set (i.toNat+1) ((d.set i.toNat (d.getD i.toNat 0+1000000000)).getD (i.toNat+1) 0 - 1):=by rw [decide_eq_true hn]; rfl
   refine ⟨cHb [(29,true),(35,true)],300,qJ _,rfl,rfl,_,Wu a b i d,?_,fun _=>?_⟩
   .rw [zt,iw1,zt,e2,e4,List.length_set]
    exact ⟨decide_eq_true hlt,⟨⟨i0,hlt⟩,by omega,decide_eq_true hn⟩,⟨⟨i0,hlt⟩,by omega,⟨i0,hlt⟩,by omega⟩,⟨by omega,by omega⟩,by omega,⟨by omega,by omega⟩,by omega⟩
   .refine ⟨⟨iw1,?_⟩,?_,mu,rfl⟩
    .rw [zt,iw1,zt,e2,e4,hb',e3,e5]
    .show 0<=i+1/\NbI _ _ (i+1).toNat _
     rw [e2,hb']
     exact ⟨by omega,hI.step hV (by omega) hn⟩
  .have hb':(bif decide (d.getD i.toNat 0<0) then (d.set i.toNat (d.getD i.toNat 0+1000000000)).set (i.toNat+1) ((d.set i.toNat (d.getD i.toNat 0+1000000000)).getD (i.toNat+1) 0 - 1) else d)=d:=by rw [decide_eq_false hn]; rfl
   refine ⟨cHb [(29,true),(35,false)],300,qJ _,rfl,rfl,_,Wt a b i d,?_,fun _=>⟨⟨iw1,hb'.symm⟩,?_,mu,rfl⟩⟩
   .rw [zt]
    exact ⟨decide_eq_true hlt,⟨i0,hlt⟩,by omega,decide_eq_false hn⟩
   .show 0<=i+1/\NbI _ _ (i+1).toNat _
    rw [e2,hb']
    exact ⟨by omega,hI.skip (by omega) hn⟩
 .refine ⟨cHb [(29,false)],300,qJ _,rfl,rfl,_,ZY a b i d,decide_eq_false hlt,fun _=>⟨⟨rfl,rfl⟩,?_⟩⟩
  have e:i.toNat=a.length:=by omega
  rw [e] at hI
  show (Ex.exit 2,m2P a.length (aY a.length (BC a b)))=(Ex.exit 2,m2P i d)
  rw [<- hI.fin,show i=a.length by omega]
noncomputable def mtS (a b d:List Int) (N:Int):St:=vT cL 300 117 [.islice true 2 0 N] ⟨[⟨23,.ints .i64 d⟩,⟨0,.rows .i64 b⟩,⟨0,.rows .i64 a⟩],3,26⟩
theorem RS (a b d:List Int) (N:Int):fit (mtS a b d N) (mtS a b d N) (af (mtS a b d N) ((trU 2 d N).S N)) []=some (.p ((0:Int)=0/\N=N)):=by kernel_rfl
theorem Wx (a b d:List Int) (N y:Int):fI (mtS a b d N) ((trU 2 d N).way y) ((run cL 300).code kN trA (af (mtS a b d N) ((trU 2 d N).S y)))=some (.p (trN 2 d N y)):=by kernel_rfl
theorem Wy (a b:List Int) {d:List Int} {N:Int} (hN:N=d.length) (ld:Sm d):CodeOk cL kN (.loop trA) (mtS a b d N) ⟨.tt,[⟨.tt,.exit 0,af (mtS a b d N) (trP 2 (tlI d N))⟩]⟩:=zC hN ld (RS a b d N) (by kernel_rfl) (fun y=>Wx a b d N y)
def miD (a b:List Int):List Int:=aY a.length (BC a b)
noncomputable def cMt (a b:List Int):Ctx:=bq cL [bZ 104 (m1S a b).hp.clock xM OE (m1S a b) (.exit 0) (m1X a b),bZ 104 (m2S a b).hp.clock xM Kv (m2S a b) (.exit 2) (m2P a.length (miD a b)),
 bZ 117 29 kN trA (mtS a b (miD a b) a.length) (.exit 0) (trP 2 (tlI (miD a b) a.length))]
theorem Fs (a b:List Int):(miD a b).length=a.length:=dJ _ _
theorem ZZ {a b:List Int} (ha:Dig a) (hb:Dig b) (la:Sm a) (hl:b.length<=a.length) (hV:0<=BC a b):CtxOk (cMt a b):=
 aQ iN (Wv ha hb la hl) (aQ iN (Ww ha hb la hl hV) (aQ iN (Wy a b (by rw [Fs]) (by show (miD a b).length<=500000; rw [Fs]; exact la)) (cO iN)))
def RU (a b:List Int):Prop:=(((0:Int)<(↑a.length:Int)/\(↑a.length:Int)=(↑a.length:Int)/\(0:Int)<(↑a.length:Int)/\(↑a.length:Int)<=(1048576:Int))/\At (xM) (xM) (OE) (OE) (m1S a b) (m1S a b)/\At (xM) (xM) (Kv) (Kv) (m2S a b) (m2S a b)/\At (kN) (kN) (trA) (trA) (mtS a b (miD a b) a.length) (mtS a b (miD a b) a.length))
def Wz (a b:List Int):AV:=(AV.islice true 2 (0:Int) (tlI (miD a b) (↑a.length:Int)))
def WA (a b:List Int):Hp:=⟨[{ wr:=23,body:=ABody.ints IntKind.i64 (miD a b) },{ wr:=(0:Nat),body:=ABody.rows IntKind.i64 b },{ wr:=(0:Nat),body:=ABody.rows IntKind.i64 a }],3,33⟩
theorem acu (a b:List Int):(run (cMt a b) 300).call 104 (zB a b) (zG a b)=some ⟨.p (RU a b),[⟨.tt,Wz a b,WA a b⟩]⟩:=by kernel_rfl
def Z0:List Nu->List (List Int)->Option (Prop×To)
 | [],[a,b]=>some (Dig a/\Dig b/\0<a.length/\a.length<=500000/\b.length<=a.length/\val b<=val a,.li false (aa (val a - val b).toNat))
 | _,_=>none
theorem WB:NOk Tryz.prog (fun _=>none) hG0 104 (dI hG0 .i64 [.li,.li] Z0):=by
 refine gD (fun xs ys p t e h=>?_) ⟨_,Tryz.func104,rfl⟩
 unfold Z0 at e
 split at e
 .rename_i a b
  cases e
  obtain ⟨ha,hb,l0,l1,hl,hv⟩:=h
  have hV:0<=BC a b:=by unfold BC; omega
  have b0:=au hb
  have a1:=iB ha
  have ev:val (miD a b)=val a - val b:=lM hV (by unfold BC; omega)
  exact ⟨cMt a b,300,zB a b,_,_,_,_,_,ZZ ha hb l1 hl hV,rfl,rfl,⟨rfl,rfl,trivial⟩,acu a b,rfl,⟨⟨by omega,rfl,by omega,by omega⟩,⟨rfl,rfl,rfl⟩,⟨rfl,rfl,rfl⟩,⟨rfl,rfl,rfl⟩⟩,rfl,rfl,Fq (jX _ _) (by rw [Fs]) ev⟩
 .cases e
def qK:AFr:=⟨105,none⟩
def I4:Code:=jE Tryz.prog 105 0
def Fu:Code:=jE Tryz.prog 105 1
def cPl (s:Bool):Ctx:=cHb [(13,s)]
theorem Fv (s:Bool):CtxOk (cPl s):=qJ _
def bu (s:Bool) (a b:List Int):List Int:=match s with|true=>b|false=>a
def shA (s:Bool) (a b:List Int):List Int:=match s with|true=>a|false=>b
noncomputable def q1S (s:Bool) (a b:List Int):St:=vT (cPl s) 300 105 (zB a b) (zG a b)
def q1P (i:Int) (d:List Int):Patch:=⟨gz 6 2++(25,.int true .i64 i) :: gz 26 12,[(2,.ints .i64 d)],[]⟩
def q1D (s:Bool) (a b:List Int) (i:Int):List Int:=mr (bu s a b++[0]) ((shA s a b).take i.toNat)
def q1X (s:Bool) (a b:List Int):Patch:=q1P (shA s a b).length (q1D s a b (shA s a b).length)
def q1U (s:Bool) (a b:List Int):SumL Int:=
 {
  S:=fun i=>q1P i (q1D s a b i)
  I:=fun i=>0<=i/\i<=(shA s a b).length
  μ:=fun i=>((shA s a b).length - i).toNat
  F:=fun _=>(.exit 0,q1X s a b)
  next:=fun i=>i+1
  ids:=fun _=>[]
  X:=fun i _=>some (q1P i (q1D s a b i),[]) }
noncomputable def cQ1 (s:Bool) (a b:List Int):Ctx:=bq (cPl s) [bZ 105 (q1S s a b).hp.clock qK I4 (q1S s a b) (.exit 0) (q1X s a b)]
noncomputable def q2S (s:Bool) (a b:List Int):St:=vT (cQ1 s a b) 300 105 (zB a b) (zG a b)
def q2P (i:Int) (d:List Int):Patch:=⟨(8,.any false) :: (40,.int true .i64 i) :: gz 41 21,[(2,.ints .i64 d)],[]⟩
def plV (a b:List Int):Int:=val a+val b
def q2F (s:Bool) (a b:List Int):List Int:=aY ((bu s a b).length+1) (plV a b)
def q2U (s:Bool) (a b:List Int):SumL (Int×List Int):=
 {
  S:=fun (i,d)=>q2P i d
  I:=fun (i,d)=>0<=i/\NcI (bu s a b).length (plV a b) i.toNat d
  μ:=fun (i,_)=>((bu s a b).length - i).toNat
  F:=fun _=>(.exit 2,q2P (bu s a b).length (q2F s a b))
  next:=fun (i,d)=>(i+1,bif decide (d.getD i.toNat 0>=1000000000) then (d.set i.toNat (d.getD i.toNat 0 - 1000000000)).set (i.toNat+1) ((d.set i.toNat (d.getD i.toNat 0 - 1000000000)).getD (i.toNat+1) 0+1) else d)
  ids:=fun _=>[]
  X:=fun (i,d) _=>some (q2P i d,[]) }
def I5 (s:Bool) (a b:List Int):Prop:=(0:Int)=(0:Int)/\Np (List.replicate (IntKind.i64.wrap ((↑(bu s a b).length:Int)+(1:Int))).toNat (0:Int)) (Int.toNat (0:Int)) (bu s a b)=q1D s a b (0:Int)
theorem RV (s:Bool) (a b:List Int):fit (q1S s a b) (q1S s a b) (af (q1S s a b) ((q1U s a b).S 0)) ([])=some (.p (I5 s a b)):=by cases s <;> kernel_rfl
def KA (s:Bool) (a b:List Int) (i:Int):Prop:=(decide (i<(↑(shA s a b).length:Int))=true->(((0:Int)<=i/\i<(↑(shA s a b).length:Int))/\i.toNat<(shA s a b).length)/\((0:Int)<=i/\i<IntKind.i64.wrap ((↑(bu s a b).length:Int)+(1:Int)))/\((0:Int)+i).toNat<(q1D s a b i).length/\((0:Int)<=i/\i<IntKind.i64.wrap ((↑(bu s a b).length:Int)+(1:Int)))/\((0:Int)+i).toNat<(q1D s a b i).length)/\((!decide (i<(↑(shA s a b).length:Int)))=true->(i=i/\q1D s a b i=q1D s a b i)/\(q1U s a b).F i=(Ex.exit (0:Nat),q1P i (q1D s a b i)))/\(decide (i<(↑(shA s a b).length:Int))=true->(IntKind.i64.wrap (i+(1:Int))=(q1U s a b).next i/\(q1D s a b i).set ((0:Int)+i).toNat (IntKind.i64.wrap ((q1D s a b i).getD ((0:Int)+i).toNat (0:Int)+(shA s a b).getD i.toNat (0:Int)))=q1D s a b ((q1U s a b).next i))/\(q1U s a b).I ((q1U s a b).next i)/\(q1U s a b).μ ((q1U s a b).next i)<(q1U s a b).μ i/\(q1U s a b).F ((q1U s a b).next i)=(q1U s a b).F i)
theorem WC (s:Bool) (a b:List Int) (i:Int):fI (q1S s a b) ((q1U s a b).way (i)) ((run cL 300).code qK I4 (af (q1S s a b) ((q1U s a b).S i)))=some (.p (KA s a b i)):=by cases s <;> kernel_rfl
def I6 (s:Bool) (a b:List Int):Prop:=(0:Int)=(0:Int)/\q1D s a b (↑(shA s a b).length:Int)=q1D s a b (↑(shA s a b).length:Int)
theorem RX (s:Bool) (a b:List Int):fit (q2S s a b) (q2S s a b) (af (q2S s a b) ((q2U s a b).S (0,q1D s a b (shA s a b).length))) ([])=some (.p (I6 s a b)):=by cases s <;> kernel_rfl
def OH (s:Bool) (a b:List Int) (i:Int) (d:List Int):Prop:=decide (i<(↑(bu s a b).length:Int))=false/\(true=true->(i=i/\d=d)/\(q2U s a b).F (i,d)=(Ex.exit (2:Nat),q2P i d))
theorem Z4 (s:Bool) (a b:List Int) (i:Int) (d:List Int):fI (q2S s a b) ((q2U s a b).way ((i,d))) ((run (cHb [(41,false)]) 300).code qK Fu (af (q2S s a b) ((q2U s a b).S (i,d))))=some (.p (OH s a b i d)):=by cases s <;> kernel_rfl
def KC (s:Bool) (a b:List Int) (i:Int) (d:List Int):Prop:=(decide (i<(↑(bu s a b).length:Int))=true/\((0:Int)<=i/\i<IntKind.i64.wrap ((↑(bu s a b).length:Int)+(1:Int)))/\((0:Int)+i).toNat<d.length/\decide (d.getD ((0:Int)+i).toNat (0:Int)>=(1000000000:Int))=false)/\(true=true->(IntKind.i64.wrap (i+(1:Int))=i+(1:Int)/\d=bif decide (d.getD i.toNat (0:Int)>=(1000000000:Int)) then (d.set i.toNat (d.getD i.toNat (0:Int) - (1000000000:Int))).set (i.toNat+(1:Nat)) ((d.set i.toNat (d.getD i.toNat (0:Int) - (1000000000:Int))).getD (i.toNat+(1:Nat)) (0:Int)+(1:Int)) else d)/\(q2U s a b).I ((q2U s a b).next (i,d))/\(q2U s a b).μ ((q2U s a b).next (i,d))<(q2U s a b).μ (i,d)/\(q2U s a b).F ((q2U s a b).next (i,d))=(q2U s a b).F (i,d))
theorem WE (s:Bool) (a b:List Int) (i:Int) (d:List Int):fI (q2S s a b) ((q2U s a b).way ((i,d))) ((run (cHb [(41,true),(47,false)]) 300).code qK Fu (af (q2S s a b) ((q2U s a b).S (i,d))))=some (.p (KC s a b i d)):=by cases s <;> kernel_rfl
def KD (s:Bool) (a b:List Int) (i:Int) (d:List Int):Prop:=(decide (i<(↑(bu s a b).length:Int))=true/\(((0:Int)<=i/\i<IntKind.i64.wrap ((↑(bu s a b).length:Int)+(1:Int)))/\((0:Int)+i).toNat<d.length/\decide (d.getD ((0:Int)+i).toNat (0:Int)>=(1000000000:Int))=true)/\(((0:Int)<=i/\i<IntKind.i64.wrap ((↑(bu s a b).length:Int)+(1:Int)))/\((0:Int)+i).toNat<d.length/\((0:Int)<=i/\i<IntKind.i64.wrap ((↑(bu s a b).length:Int)+(1:Int)))/\((0:Int)+i).toNat<d.length)/\((0:Int)<=IntKind.i64.wrap (i+(1:Int))/\IntKind.i64.wrap (i+(1:Int))<IntKind.i64.wrap ((↑(bu s a b).length:Int)+(1:Int)))/\((0:Int)+IntKind.i64.wrap (i+(1:Int))).toNat<(d.set ((0:Int)+i).toNat (IntKind.i64.wrap (d.getD ((0:Int)+i).toNat (0:Int) - (1000000000:Int)))).length/\((0:Int)<=IntKind.i64.wrap (i+(1:Int))/\IntKind.i64.wrap (i+(1:Int))<IntKind.i64.wrap ((↑(bu s a b).length:Int)+(1:Int)))/\((0:Int)+IntKind.i64.wrap (i+(1:Int))).toNat<(d.set ((0:Int)+i).toNat (IntKind.i64.wrap (d.getD ((0:Int)+i).toNat (0:Int) - (1000000000:Int)))).length)/\(true=true->(IntKind.i64.wrap (i+(1:Int))=i+(1:Int)/\(d.set ((0:Int)+i).toNat (IntKind.i64.wrap (d.getD ((0:Int)+i).toNat (0:Int) - (1000000000:Int)))).set ((0:Int)+IntKind.i64.wrap (i+(1:Int))).toNat (IntKind.i64.wrap ((d.set ((0:Int)+i).toNat (IntKind.i64.wrap (d.getD ((0:Int)+i).toNat (0:Int) - (1000000000:Int)))).getD ((0:Int)+IntKind.i64.wrap (i+(1:Int))).toNat (0:Int)+(1:Int)))=bif decide (d.getD i.toNat (0:Int)>=(1000000000:Int)) then (d.set i.toNat (d.getD i.toNat (0:Int) - (1000000000:Int))).set (i.toNat+(1:Nat)) ((d.set i.toNat (d.getD i.toNat (0:Int) - (1000000000:Int))).getD (i.toNat+(1:Nat)) (0:Int)+(1:Int)) else d)/\(q2U s a b).I ((q2U s a b).next (i,d))/\(q2U s a b).μ ((q2U s a b).next (i,d))<(q2U s a b).μ (i,d)/\(q2U s a b).F ((q2U s a b).next (i,d))=(q2U s a b).F (i,d))
theorem WF (s:Bool) (a b:List Int) (i:Int) (d:List Int):fI (q2S s a b) ((q2U s a b).way ((i,d))) ((run (cHb [(41,true),(47,true)]) 300).code qK Fu (af (q2S s a b) ((q2U s a b).S (i,d))))=some (.p (KD s a b i d)):=by cases s <;> kernel_rfl
theorem RY (u:List Int):Np (List.replicate (u.length+1) 0) 0 u=u++[0]:=by
 unfold Np
 rw [List.take_zero,List.nil_append,List.drop_replicate,show u.length+1 - (0+u.length)=1 by omega]
 rfl
theorem WG (s:Bool) (a b:List Int) (i:Int):(q1D s a b i).length=(bu s a b).length+1:=by
 unfold q1D
 rw [vZ]; simp
theorem WH {s:Bool} {a b:List Int} (ha:Dig a) (hb:Dig b) (la:(bu s a b).length<=400000) (hl:(shA s a b).length<=(bu s a b).length):CodeOk cL qK (.loop I4) (q1S s a b) ⟨.tt,[⟨.tt,.exit 0,af (q1S s a b) (q1X s a b)⟩]⟩:=by
 have hL:Dig (bu s a b):=by cases s <;> assumption
 have hS:Dig (shA s a b):=by cases s <;> assumption
 have hLz:Dig (bu s a b++[0]):=Mv.2 ⟨hL,dW.2 ⟨by omega,kK⟩⟩
 have eN:IntKind.i64.wrap ((bu s a b).length+1:Int)=(bu s a b).length+1:=iw (by omega) (by omega)
 refine mZ (bR iN 300) (q1U s a b) (y0:=0) ⟨by omega,by omega⟩ ⟨_,RV s a b,rfl,?_⟩ (by cases s <;> kernel_rfl) (fun i hi=>⟨_,WC s a b i,?_⟩) rfl
 .rw [eN,show ((bu s a b).length+1:Int).toNat=(bu s a b).length+1 by omega,show Int.toNat 0=0 from rfl,RY]
  exact (BA _).symm
 obtain ⟨i0,i1⟩:=(show 0<=i/\i<=(shA s a b).length from hi)
 have ll:=WG s a b i
 refine ⟨fun h=>?_,fun h=>⟨⟨rfl,rfl⟩,?_⟩,fun h=>?_⟩
 .have h:i<(shA s a b).length:=dt.1 h
  rw [zt,ll,eN]
  exact ⟨⟨⟨i0,h⟩,by omega⟩,⟨i0,by omega⟩,by omega,⟨i0,by omega⟩,by omega⟩
 .have h:=ndt.1 h
  obtain rfl:i=(shA s a b).length:=by omega
  rfl
 .have h:i<(shA s a b).length:=dt.1 h
  have g1:=hLz.get i.toNat
  have g2:=hS.get i.toNat
  have e0:((shA s a b).take i.toNat).getD i.toNat 0=0:=by rw [List.getD_eq_getElem?_getD,List.getElem?_eq_none (by rw [List.length_take]; omega)]; rfl
  have e1:(q1D s a b i).getD i.toNat 0=(bu s a b++[0]).getD i.toNat 0+((shA s a b).take i.toNat).getD i.toNat 0:=wm _ _ i.toNat (by simp; omega)
  rw [e0] at e1
  refine ⟨⟨iw (by omega) (by omega),?_⟩,?_,?_,rfl⟩
  .rw [zt,iw (by omega) (by omega)]
   unfold q1D
   rw [Dw _ _ i.toNat (by omega) (by simp; omega)]
   show _=mr _ ((shA s a b).take (i+1).toNat)
   rw [show (i+1).toNat=i.toNat+1 by omega]
  .show 0<=i+1/\i+1<=(shA s a b).length
   omega
  .show ((shA s a b).length - (i+1)).toNat<((shA s a b).length - i).toNat
   omega
theorem Z6 (s:Bool) (a b:List Int):plV a b=val (bu s a b)+val (shA s a b):=by
 unfold plV
 cases s
 .rfl
 .show val a+val b=val b+val a
  omega
theorem WI {s:Bool} {a b:List Int} (ha:Dig a) (hb:Dig b) (la:(bu s a b).length<=400000) (hl:(shA s a b).length<=(bu s a b).length):CodeOk cL qK (.loop Fu) (q2S s a b) ⟨.tt,[⟨.tt,.exit 2,af (q2S s a b) (q2P (bu s a b).length (q2F s a b))⟩]⟩:=by
 have hL:Dig (bu s a b):=by cases s <;> assumption
 have hS:Dig (shA s a b):=by cases s <;> assumption
 have eN:IntKind.i64.wrap ((bu s a b).length+1:Int)=(bu s a b).length+1:=iw (by omega) (by omega)
 refine ni (q2U s a b) (y0:=(0,q1D s a b (shA s a b).length)) ?_ ⟨_,RX s a b,rfl,rfl⟩ (by cases s <;> kernel_rfl) (fun y hy=>?_) rfl
 .show 0<=(0:Int)/\NcI _ _ _ _
  unfold q1D
  rw [show (((shA s a b).length:Int)).toNat=(shA s a b).length by omega,List.take_length,Z6 s]
  exact ⟨by decide,NcI.start hL hS hl⟩
 obtain ⟨i,d⟩:=y
 obtain ⟨i0,hI⟩:=(show 0<=i/\NcI (bu s a b).length (plV a b) i.toNat d from hy)
 obtain ⟨l,i1,lo,me,hi',t0,t1,v⟩:=id hI
 have e2:(i+1).toNat=i.toNat+1:=by omega
 by_cases hlt:i<(bu s a b).length
 .have iw1:IntKind.i64.wrap (i+1)=i+1:=iw (by omega) (by omega)
  have mu:((bu s a b).length - (i+1)).toNat<((bu s a b).length - i).toNat:=by omega
  by_cases hn:d.getD i.toNat 0>=1000000000
  .have h2:=hi' (i.toNat+1) (by omega)
   have e3:(d.set i.toNat (d.getD i.toNat 0 - 1000000000)).getD (i.toNat+1) 0=d.getD (i.toNat+1) 0:=getD_set (by omega)
   have e4:IntKind.i64.wrap (d.getD i.toNat 0 - 1000000000)=d.getD i.toNat 0 - 1000000000:=iw (by omega) (by omega)
   have e5:IntKind.i64.wrap (d.getD (i.toNat+1) 0+1)=d.getD (i.toNat+1) 0+1:=iw (by omega) (by omega)
   have hb':(bif decide (d.getD i.toNat 0>=1000000000) then (d.set i.toNat (d.getD i.toNat 0 - 1000000000)).set (i.toNat+1) ((d.set i.toNat (d.getD i.toNat 0 - 1000000000)).getD (i.toNat+1) 0+1) else d)=(d.set i.toNat (d.getD i.toNat 0 - 1000000000)).set (i.toNat+1) ((d.set i.toNat (d.getD i.toNat 0 - 1000000000)).getD (i.toNat+1) 0+1):=by rw [decide_eq_true hn]; rfl
   refine ⟨cHb [(41,true),(47,true)],300,qJ _,rfl,rfl,_,WF s a b i d,?_,fun _=>?_⟩
   .rw [zt,iw1,zt,e2,e4,List.length_set,eN]
    exact ⟨decide_eq_true hlt,⟨⟨i0,by omega⟩,by omega,decide_eq_true hn⟩,⟨⟨i0,by omega⟩,by omega,⟨i0,by omega⟩,by omega⟩,⟨by omega,by omega⟩,by omega,⟨by omega,by omega⟩,by omega⟩
   .refine ⟨⟨iw1,?_⟩,?_,mu,rfl⟩
    .rw [zt,iw1,zt,e2,e4,hb',e3,e5]
    .show 0<=i+1/\NcI _ _ (i+1).toNat _
     rw [e2,hb']
     exact ⟨by omega,hI.step (by omega) hn⟩
  .have hb':(bif decide (d.getD i.toNat 0>=1000000000) then (d.set i.toNat (d.getD i.toNat 0 - 1000000000)).set (i.toNat+1) ((d.set i.toNat (d.getD i.toNat 0 - 1000000000)).getD (i.toNat+1) 0+1) else d)=d:=by rw [decide_eq_false hn]; rfl
   refine ⟨cHb [(41,true),(47,false)],300,qJ _,rfl,rfl,_,WE s a b i d,?_,fun _=>⟨⟨iw1,hb'.symm⟩,?_,mu,rfl⟩⟩
   .rw [zt,eN]
    exact ⟨decide_eq_true hlt,⟨i0,by omega⟩,by omega,decide_eq_false hn⟩
   .show 0<=i+1/\NcI _ _ (i+1).toNat _
    rw [e2,hb']
    exact ⟨by omega,hI.skip (by omega) hn⟩
 .refine ⟨cHb [(41,false)],300,qJ _,rfl,rfl,_,Z4 s a b i d,decide_eq_false hlt,fun _=>⟨⟨rfl,rfl⟩,?_⟩⟩
  have e:i.toNat=(bu s a b).length:=by omega
  rw [e] at hI
  show (Ex.exit 2,q2P (bu s a b).length (q2F s a b))=(Ex.exit 2,q2P i d)
  unfold q2F
  rw [<- hI.fin,show i=(bu s a b).length by omega]
def plW (s:Bool):Nat:=match s with|true=>29|false=>25
def plC (s:Bool):Nat:=match s with|true=>32|false=>28
noncomputable def qtS (s:Bool) (a b d:List Int) (N:Int):St:=vT cL 300 117 [.islice true 2 0 N] ⟨[⟨plW s,.ints .i64 d⟩,⟨0,.rows .i64 b⟩,⟨0,.rows .i64 a⟩],3,plC s⟩
theorem RZ (s:Bool) (a b d:List Int) (N:Int):fit (qtS s a b d N) (qtS s a b d N) (af (qtS s a b d N) ((trU 2 d N).S N)) []=some (.p ((0:Int)=0/\N=N)):=by cases s <;> kernel_rfl
theorem WJ (s:Bool) (a b d:List Int) (N y:Int):fI (qtS s a b d N) ((trU 2 d N).way y) ((run cL 300).code kN trA (af (qtS s a b d N) ((trU 2 d N).S y)))=some (.p (trN 2 d N y)):=by cases s <;> kernel_rfl
theorem WK (s:Bool) (a b:List Int) {d:List Int} {N:Int} (hN:N=d.length) (ld:Sm d):CodeOk cL kN (.loop trA) (qtS s a b d N) ⟨.tt,[⟨.tt,.exit 0,af (qtS s a b d N) (trP 2 (tlI d N))⟩]⟩:=zC hN ld (RZ s a b d N) (by cases s <;> kernel_rfl) (fun y=>WJ s a b d N y)
def plN (s:Bool) (a b:List Int):Int:=IntKind.i64.wrap ((bu s a b).length+1:Int)
noncomputable def cQt (s:Bool) (a b:List Int):Ctx:=bq (cPl s) [bZ 105 (q1S s a b).hp.clock qK I4 (q1S s a b) (.exit 0) (q1X s a b),bZ 105 (q2S s a b).hp.clock qK Fu (q2S s a b) (.exit 2) (q2P (bu s a b).length (q2F s a b)),
 bZ 117 (plC s+3) kN trA (qtS s a b (q2F s a b) (plN s a b)) (.exit 0) (trP 2 (tlI (q2F s a b) (plN s a b)))]
theorem MG (s:Bool) (a b:List Int):(q2F s a b).length=(bu s a b).length+1:=dJ _ _
theorem Fw {s:Bool} {a b:List Int} (la:(bu s a b).length<=400000):plN s a b=(q2F s a b).length:=by
 unfold plN
 rw [iw (by omega) (by omega),MG]; omega
theorem BD {C D:Ctx} {fr:AFr} {a:Code} {S:St} {r:R} (h:CodeOk C fr (.loop a) S r) (hP:D.P=C.P) (hg:D.glob=C.glob):CodeOk D fr (.loop a) S r:=CodeOk.ctx hP hg h
theorem Sa {s:Bool} {a b:List Int} (ha:Dig a) (hb:Dig b) (la:(bu s a b).length<=400000) (hl:(shA s a b).length<=(bu s a b).length):CtxOk (cQt s a b):=
 aQ (Fv s) (BD (WH ha hb la hl) rfl rfl) (aQ (Fv s) (BD (WI ha hb la hl) rfl rfl) (aQ (Fv s) (BD (WK s a b (Fw la) (by show (q2F s a b).length<=500000; rw [MG]; omega)) rfl rfl) (cO (Fv s))))
def WL (a b:List Int):Prop:=(decide ((↑a.length:Int)<(↑b.length:Int))=false/\(IntKind.i64.wrap ((↑a.length:Int)+(1:Int))=IntKind.i64.wrap ((↑a.length:Int)+(1:Int))/\(0:Int)<=IntKind.i64.wrap ((↑a.length:Int)+(1:Int))/\IntKind.i64.wrap ((↑a.length:Int)+(1:Int))<=(1048576:Int))/\((↑a.length:Int)=(↑a.length:Int)/\(0:Int)<=(0:Int)/\(0:Int)<(↑a.length:Int)/\(↑a.length:Int)<=IntKind.i64.wrap ((↑a.length:Int)+(1:Int))/\(0:Int)+IntKind.i64.wrap ((↑a.length:Int)+(1:Int))<=(↑(List.replicate (IntKind.i64.wrap ((↑a.length:Int)+(1:Int))).toNat (0:Int)).length:Int))/\At (qK) (qK) (I4) (I4) (q1S false a b) (q1S false a b)/\At (qK) (qK) (Fu) (Fu) (q2S false a b) (q2S false a b)/\At (kN) (kN) (trA) (trA) (qtS false a b (q2F false a b) (plN false a b)) (qtS false a b (q2F false a b) (plN false a b)))
def Z7 (a b:List Int):AV:=(AV.islice true 2 (0:Int) (tlI (q2F false a b) (plN false a b)))
def Z8 (a b:List Int):Hp:=⟨[{ wr:=25,body:=ABody.ints IntKind.i64 (q2F false a b) },{ wr:=(0:Nat),body:=ABody.rows IntKind.i64 b },{ wr:=(0:Nat),body:=ABody.rows IntKind.i64 a }],3,35⟩
theorem afd (a b:List Int):(run (cQt false a b) 300).call 105 (zB a b) (zG a b)=some ⟨.p (WL a b),[⟨.tt,Z7 a b,Z8 a b⟩]⟩:=by kernel_rfl
def WM (a b:List Int):Prop:=(decide ((↑a.length:Int)<(↑b.length:Int))=true/\(IntKind.i64.wrap ((↑b.length:Int)+(1:Int))=IntKind.i64.wrap ((↑b.length:Int)+(1:Int))/\(0:Int)<=IntKind.i64.wrap ((↑b.length:Int)+(1:Int))/\IntKind.i64.wrap ((↑b.length:Int)+(1:Int))<=(1048576:Int))/\((↑b.length:Int)=(↑b.length:Int)/\(0:Int)<=(0:Int)/\(0:Int)<(↑b.length:Int)/\(↑b.length:Int)<=IntKind.i64.wrap ((↑b.length:Int)+(1:Int))/\(0:Int)+IntKind.i64.wrap ((↑b.length:Int)+(1:Int))<=(↑(List.replicate (IntKind.i64.wrap ((↑b.length:Int)+(1:Int))).toNat (0:Int)).length:Int))/\At (qK) (qK) (I4) (I4) (q1S true a b) (q1S true a b)/\At (qK) (qK) (Fu) (Fu) (q2S true a b) (q2S true a b)/\At (kN) (kN) (trA) (trA) (qtS true a b (q2F true a b) (plN true a b)) (qtS true a b (q2F true a b) (plN true a b)))
def Z9 (a b:List Int):AV:=(AV.islice true 2 (0:Int) (tlI (q2F true a b) (plN true a b)))
def aaa (a b:List Int):Hp:=⟨[{ wr:=29,body:=ABody.ints IntKind.i64 (q2F true a b) },{ wr:=(0:Nat),body:=ABody.rows IntKind.i64 b },{ wr:=(0:Nat),body:=ABody.rows IntKind.i64 a }],3,39⟩
theorem afe (a b:List Int):(run (cQt true a b) 300).call 105 (zB a b) (zG a b)=some ⟨.p (WM a b),[⟨.tt,Z9 a b,aaa a b⟩]⟩:=by kernel_rfl
def aab:List Nu->List (List Int)->Option (Prop×To)
 | [],[a,b]=>some (Dig a/\Dig b/\(0<a.length\/0<b.length)/\a.length<=400000/\b.length<=400000,.li false (aa (val a+val b).toNat))
 | _,_=>none
theorem Sb {s:Bool} {a b:List Int} (ha:Dig a) (hb:Dig b) (hl:(shA s a b).length<=(bu s a b).length):val (q2F s a b)=val a+val b:=by
 have a0:=au ha
 have b0:=au hb
 have a1:=iB ha
 have b1:=iB hb
 refine lM (by unfold plV; omega) ?_
 have e:pw ((bu s a b).length+1)=1000000000*pw (bu s a b).length:=by simp [pw]
 have p0:=pw_pos (bu s a b).length
 have ka:val a<pw (bu s a b).length:=by
  refine Int.lt_of_lt_of_le a1 (kL ?_)
  cases s <;> simp only [bu,shA] at hl ⊢ <;> omega
 have kb:val b<pw (bu s a b).length:=by
  refine Int.lt_of_lt_of_le b1 (kL ?_)
  cases s <;> simp only [bu,shA] at hl ⊢ <;> omega
 rw [e]; unfold plV; omega
theorem WN:NOk Tryz.prog (fun _=>none) hG0 105 (dI hG0 .i64 [.li,.li] aab):=by
 refine gD (fun xs ys p t e h=>?_) ⟨_,Tryz.func105,rfl⟩
 unfold aab at e
 split at e
 .rename_i a b
  cases e
  obtain ⟨ha,hb,l0,la,lb⟩:=h
  have wa:IntKind.i64.wrap ((a.length:Int)+1)=a.length+1:=iw (by omega) (by omega)
  have wb:IntKind.i64.wrap ((b.length:Int)+1)=b.length+1:=iw (by omega) (by omega)
  by_cases hs:a.length<b.length
  .have hl:(shA true a b).length<=(bu true a b).length:=by show a.length<=b.length; omega
   have lg:(bu true a b).length<=400000:=lb
   refine ⟨cQt true a b,300,zB a b,_,_,_,_,_,Sa ha hb lg hl,rfl,rfl,⟨rfl,rfl,trivial⟩,afe a b,rfl,⟨decide_eq_true (by omega),⟨rfl,by omega,by omega⟩,⟨rfl,by omega,by omega,by omega,?_⟩,⟨rfl,rfl,rfl⟩,⟨rfl,rfl,rfl⟩,⟨rfl,rfl,rfl⟩⟩,rfl,rfl,Fq (jX _ _) (Fw lg) (Sb ha hb hl)⟩
   rw [List.length_replicate,wb]; omega
  .have hl:(shA false a b).length<=(bu false a b).length:=by show b.length<=a.length; omega
   have lg:(bu false a b).length<=400000:=la
   refine ⟨cQt false a b,300,zB a b,_,_,_,_,_,Sa ha hb lg hl,rfl,rfl,⟨rfl,rfl,trivial⟩,afd a b,rfl,⟨decide_eq_false (by omega),⟨rfl,by omega,by omega⟩,⟨rfl,by omega,by omega,by omega,?_⟩,⟨rfl,rfl,rfl⟩,⟨rfl,rfl,rfl⟩,⟨rfl,rfl,rfl⟩⟩,rfl,rfl,Fq (jX _ _) (Fw lg) (Sb ha hb hl)⟩
   rw [List.length_replicate,wa]; omega
 .cases e
end
end Go.Proofs.YtmnhhlnbfkfkaaaGreat.K
namespace Go.Dg
open Go Go.Eng
def dfB (a b:List Int):Nat->Int
 | 0=>0
 | n+1=>if a.getD n 0=b.getD n 0 then dfB a b n else IntKind.i64.wrap (a.getD n 0 - b.getD n 0)
def dfI (a b:List Int) (i:Int):Int:=dfB a b (i+1).toNat
theorem MH {a b:List Int} {i:Int} (h:0<=i):dfI a b i=if a.getD i.toNat 0=b.getD i.toNat 0 then dfI a b (i - 1) else IntKind.i64.wrap (a.getD i.toNat 0 - b.getD i.toNat 0):=by
 unfold dfI
 rw [show (i+1).toNat=i.toNat+1 by omega,show (i - 1+1).toNat=i.toNat by omega,dfB]
theorem Sc {a b:List Int}:∀ n,OB a b n=false->dfB a b n=0
 | 0,_=>rfl
 | n+1,h=>by
  simp only [OB] at h
  simp only [dfB]
  split at h
  .rename_i e; rw [if_pos e]; exact Sc n h
  .cases h
def sj (a b:List Int):Int:=if a.length=b.length then dfB a b a.length else IntKind.i64.wrap ((a.length:Int) - b.length)
theorem Fx {a b:List Int} (ha:Dig a) (hb:Dig b):∀ n,(dfB a b n<0 ↔ vX a b n=true)/\(0<dfB a b n ↔ vX b a n=true)
 | 0=>by simp [dfB,vX]
 | n+1=>by
  have i:=Fx ha hb n
  have a0:=ha.get n
  have b0:=hb.get n
  simp only [dfB,vX]
  by_cases e:a.getD n 0=b.getD n 0
  .rw [if_pos e,if_pos e,if_pos e.symm]; exact i
  .rw [if_neg e,if_neg e,if_neg (fun h=>e h.symm),iw (by omega) (by omega)]
   simp only [decide_eq_true_eq]
   omega
theorem WO {a b:List Int} (ha:Dig a) (hb:Dig b) (ta:Top a) (tb:Top b) (la:a.length<=500000) (lb:b.length<=500000):sj a b<0 ↔ val a<val b:=by
 rw [<- Dt ha hb ta tb]
 unfold sj Mw
 by_cases e:a.length=b.length
 .rw [if_pos e,if_pos e]; exact (Fx ha hb _).1
 .rw [if_neg e,if_neg e,iw (by omega) (by omega)]
  simp only [decide_eq_true_eq]
  omega
theorem WP {a b:List Int} (ha:Dig a) (hb:Dig b) (ta:Top a) (tb:Top b) (la:a.length<=500000) (lb:b.length<=500000):0<sj a b ↔ val b<val a:=by
 rw [<- Dt hb ha tb ta]
 unfold sj Mw
 by_cases e:a.length=b.length
 .rw [if_pos e,if_pos e.symm,<- e]; exact (Fx ha hb _).2
 .rw [if_neg e,if_neg (fun h=>e h.symm),iw (by omega) (by omega)]
  simp only [decide_eq_true_eq]
  omega
end Go.Dg
namespace Go.Proofs.YtmnhhlnbfkfkaaaGreat.K
open Go Go.Eng Go.Dg
noncomputable section
def KE (d:Bool):Ctx:=cHb [(10,d)]
theorem zD (d:Bool):CtxOk (KE d):=qJ _
noncomputable def zg (a b:List Int):St:=vT (KE false) 300 102 (zB a b) (zG a b)
def I7:AFr:=⟨102,none⟩
def Sd:Code:=jE Tryz.prog 102 0
def aff (i:Int):Patch:=⟨(5,.int true .i64 i) :: gz 19 22,[],[]⟩
def cmR (r:Int):Patch:=⟨(4,.int true .i64 r) :: (5,.any false) :: gz 19 22,[],[]⟩
def I8:Patch:=⟨(5,.any false) :: gz 19 22,[],[]⟩
def uA (a b:List Int):SumL Int:=
 {
  S:=aff
  I:=fun i=>-1<=i/\i<a.length
  μ:=fun i=>(i+1).toNat
  F:=fun i=>bif xK a b i then (.ret,cmR (dfI a b i)) else (.exit 0,I8)
  next:=fun i=>IntKind.i64.wrap (i - 1)
  ids:=fun _=>[]
  X:=fun i x=>match x with
   | .ret=>some (cmR (IntKind.i64.wrap (a.getD i.toNat 0 - b.getD i.toNat 0)),[])
   | .exit _=>some (I8,[])
   | _=>none }
def I9 (a b:List Int):Prop:=IntKind.i64.wrap ((↑a.length:Int) - (1:Int))=IntKind.i64.wrap ((↑a.length:Int) - (1:Int))
theorem OI (a b:List Int):fit (zg a b) (zg a b) (af (zg a b) ((uA a b).S (IntKind.i64.wrap ((a.length:Int) - 1)))) ([])=some (.p (I9 a b)):=by kernel_rfl
def KF (a b:List Int) (i:Int):Prop:=(decide (i>=(0:Int))=true->(((0:Int)<=i/\i<(↑a.length:Int))/\i.toNat<a.length/\((0:Int)<=i/\i<(↑b.length:Int))/\i.toNat<b.length)/\((a.getD i.toNat (0:Int) != b.getD i.toNat (0:Int))=true->((0:Int)<=i/\i<(↑a.length:Int))/\i.toNat<a.length/\((0:Int)<=i/\i<(↑b.length:Int))/\i.toNat<b.length))/\((!decide (i>=(0:Int)))=true->(uA a b).F i=(Ex.exit (0:Nat),I8))/\((decide (i>=(0:Int))&&!a.getD i.toNat (0:Int) != b.getD i.toNat (0:Int))=true->IntKind.i64.wrap (i - (1:Int))=(uA a b).next i/\(uA a b).I ((uA a b).next i)/\(uA a b).μ ((uA a b).next i)<(uA a b).μ i/\(uA a b).F ((uA a b).next i)=(uA a b).F i)/\((decide (i>=(0:Int))&&a.getD i.toNat (0:Int) != b.getD i.toNat (0:Int))=true->IntKind.i64.wrap (a.getD i.toNat (0:Int) - b.getD i.toNat (0:Int))=IntKind.i64.wrap (a.getD i.toNat (0:Int) - b.getD i.toNat (0:Int))/\(uA a b).F i=(Ex.ret,cmR (IntKind.i64.wrap (a.getD i.toNat (0:Int) - b.getD i.toNat (0:Int)))))
theorem WQ (a b:List Int) (i:Int):fI (zg a b) ((uA a b).way (i)) ((run (KE false) 300).code I7 Sd (af (zg a b) ((uA a b).S i)))=some (.p (KF a b i)):=by kernel_rfl
theorem Si (a b:List Int) (hs:Sm a) (hl:a.length=b.length):CodeOk (KE false) I7 (.loop Sd) (zg a b) ⟨.tt,[⟨.b (xK a b (a.length - 1)),.ret,af (zg a b) (cmR (dfI a b (a.length - 1)))⟩,⟨.b (!xK a b (a.length - 1)),.exit 0,af (zg a b) I8⟩]⟩:=by
 have hs:=hs.le
 have e0:IntKind.i64.wrap ((a.length:Int) - 1)=a.length - 1:=iw (by omega) (by omega)
 refine QD (bR (zD false) 300) (uA a b) (y0:=IntKind.i64.wrap ((a.length:Int) - 1)) (by rw [e0]; exact ⟨by omega,by omega⟩) ⟨_,OI a b,rfl⟩ (by kernel_rfl) (fun i hi=>⟨_,WQ a b i,?_⟩) (by rw [e0]; rfl)
 obtain ⟨i0,i1⟩:=(show -1<=i/\i<a.length from hi)
 refine ⟨fun h=>?_,fun h=>?_,fun h=>?_,fun h=>?_⟩
 .have h:=dt.1 h
  have q:((0:Int)<=i/\i<(↑a.length:Int))/\i.toNat<a.length/\((0:Int)<=i/\i<(↑b.length:Int))/\i.toNat<b.length:=by omega
  exact ⟨q,fun _=>q⟩
 .have h:=ndt.1 h
  have:i=-1:=by omega
  subst this; rfl
 .obtain ⟨h0,h⟩:=YA.1 h
  have h:=afa.1 h
  have e:IntKind.i64.wrap (i - 1)=i - 1:=iw (by omega) (by omega)
  refine ⟨rfl,?_,?_,?_⟩
  .show -1<=IntKind.i64.wrap (i - 1)/\IntKind.i64.wrap (i - 1)<a.length
   rw [e]; omega
  .show (IntKind.i64.wrap (i - 1)+1).toNat<(i+1).toNat
   rw [e]; omega
  .show (bif xK a b (IntKind.i64.wrap (i - 1)) then (Ex.ret,cmR (dfI a b (IntKind.i64.wrap (i - 1)))) else (.exit 0,I8))=bif xK a b i then (Ex.ret,cmR (dfI a b i)) else (.exit 0,I8)
   rw [e,IK h0,MH h0,if_pos h,if_pos h]
 .obtain ⟨h0,h⟩:=YA.1 h
  have h:=IL.1 h
  refine ⟨rfl,?_⟩
  show (bif xK a b i then (Ex.ret,cmR (dfI a b i)) else (.exit 0,I8))=_
  rw [IK h0,MH h0,if_neg h,if_neg h]; rfl
noncomputable def aac (a b:List Int):Ctx:=bq (KE false) [EQ 102 (zg a b).hp.clock I7 Sd (zg a b) (xK a b (a.length - 1)) .ret (cmR (dfI a b (a.length - 1))) (.exit 0) I8]
theorem WR (a b:List Int) (hs:Sm a) (hl:a.length=b.length):CtxOk (aac a b):=JX (zD false) (Si a b hs hl) (cO (zD false))
def Sj (a b:List Int):Prop:=(((↑a.length:Int) != (↑b.length:Int))=false/\At (I7) (I7) (Sd) (Sd) (zg a b) (zg a b))
def WS (a b:List Int):AV:=(AV.int true IntKind.i64 (bif !xK a b ((↑a.length:Int) - (1:Int)) then (0:Int) else dfI a b ((↑a.length:Int) - (1:Int))))
def WT (a b:List Int):Hp:=⟨[{ wr:=(0:Nat),body:=ABody.rows IntKind.i64 b },{ wr:=(0:Nat),body:=ABody.rows IntKind.i64 a }],2,15⟩
theorem acv (a b:List Int):(run (aac a b) 300).call 102 (zB a b) (zG a b)=some ⟨.p (Sj a b),[⟨.tt,WS a b,WT a b⟩]⟩:=by kernel_rfl
def Sk (a b:List Int):Prop:=(((↑a.length:Int) != (↑b.length:Int))=true)
def WU (a b:List Int):AV:=(AV.int true IntKind.i64 (IntKind.i64.wrap ((↑a.length:Int) - (↑b.length:Int))))
def WV (a b:List Int):Hp:=⟨[{ wr:=(0:Nat),body:=ABody.rows IntKind.i64 b },{ wr:=(0:Nat),body:=ABody.rows IntKind.i64 a }],2,14⟩
theorem acw (a b:List Int):(run (KE true) 300).call 102 (zB a b) (zG a b)=some ⟨.p (Sk a b),[⟨.tt,WU a b,WV a b⟩]⟩:=by kernel_rfl
def cmpV:List Nu->List (List Int)->Option (Prop×To)
 | [],[a,b]=>some (Sm a/\Sm b,.nu .i64 (sj a b))
 | _,_=>none
theorem aad:NOk Tryz.prog (fun _=>none) hG0 102 (dI hG0 .i64 [.li,.li] cmpV):=by
 refine gD (fun xs ys p t e h=>?_) ⟨_,Tryz.func102,rfl⟩
 unfold cmpV at e
 split at e
 .rename_i a b
  cases e
  obtain ⟨ha,hb⟩:=h
  by_cases hl:a.length=b.length
  .refine ⟨aac a b,300,zB a b,_,_,_,_,_,WR a b ha hl,rfl,rfl,⟨rfl,rfl,trivial⟩,acv a b,rfl,⟨?_,rfl,rfl,rfl⟩,rfl,rfl,?_⟩
   .rw [hl]; exact Mx.2 rfl
   .show (bif !xK a b ((a.length:Int) - 1) then 0 else dfI a b ((a.length:Int) - 1))=sj a b
    unfold sj xK dfI
    rw [if_pos hl,show ((a.length:Int) - 1+1).toNat=a.length by omega]
    cases e:OB a b a.length with
    | true=>rfl
    | false=>rw [Sc _ e]; rfl
  .refine ⟨KE true,300,zB a b,_,_,_,_,_,zD true,rfl,rfl,⟨rfl,rfl,trivial⟩,acw a b,rfl,?_,rfl,rfl,?_⟩
   .exact IL.2 (by omega)
   .show IntKind.i64.wrap ((a.length:Int) - b.length)=sj a b
    unfold sj
    rw [if_neg hl]
 .cases e
def hUp (x t0:Nat):Nat->Nat->Option AV:=fun c t=>match Nat.beq t t0 with
 | true=>match Nat.ble c x with
  | true=>some (.bool false true)
  | false=>some (.bool false false)
 | false=>none
def cOn (x:Nat):Ctx:=fZ cL (hUp x 9)
theorem Sq (x:Nat):CtxOk (cOn x):=bU iN _
def WW (n:Int):Prop:=((n != (0:Int))=true/\(IntKind.i64.wrap (n.tdiv (1000000000:Int)) != (0:Int))=false)
def aae (n:Int):AV:=(AV.agg [AV.bool true (decide (n<(0:Int))),AV.gslice (0:Nat) (0:Nat) 1 1])
def aaf (n:Int):Hp:=⟨[{ wr:=23,body:=ABody.grown [AV.int true IntKind.i64 (if IntKind.i64.wrap ((0:Int) - n.tmod (1000000000:Int))>n.tmod (1000000000:Int) then IntKind.i64.wrap ((0:Int) - n.tmod (1000000000:Int)) else n.tmod (1000000000:Int))] }],1,32⟩
theorem afg (n:Int):(run (cOn 11) 300).call 99 [.int true .i64 n] hG0=some ⟨.p (WW n),[⟨.tt,aae n,aaf n⟩]⟩:=by kernel_rfl
def WX (n:Int):Prop:=((n != (0:Int))=true/\(IntKind.i64.wrap (n.tdiv (1000000000:Int)) != (0:Int))=true/\(IntKind.i64.wrap ((IntKind.i64.wrap (n.tdiv (1000000000:Int))).tdiv (1000000000:Int)) != (0:Int))=false)
def aag (n:Int):AV:=(AV.agg [AV.bool true (decide (n<(0:Int))),AV.gslice (0:Nat) (0:Nat) 2 1])
def aah (n:Int):Hp:=⟨[{ wr:=42,body:=ABody.grown [AV.int true IntKind.i64 (if IntKind.i64.wrap ((0:Int) - n.tmod (1000000000:Int))>n.tmod (1000000000:Int) then IntKind.i64.wrap ((0:Int) - n.tmod (1000000000:Int)) else n.tmod (1000000000:Int)),AV.int true IntKind.i64 (if IntKind.i64.wrap ((0:Int) - (IntKind.i64.wrap (n.tdiv (1000000000:Int))).tmod (1000000000:Int))>(IntKind.i64.wrap (n.tdiv (1000000000:Int))).tmod (1000000000:Int) then IntKind.i64.wrap ((0:Int) - (IntKind.i64.wrap (n.tdiv (1000000000:Int))).tmod (1000000000:Int)) else (IntKind.i64.wrap (n.tdiv (1000000000:Int))).tmod (1000000000:Int))] }],1,51⟩
theorem afh (n:Int):(run (cOn 30) 300).call 99 [.int true .i64 n] hG0=some ⟨.p (WX n),[⟨.tt,aag n,aah n⟩]⟩:=by kernel_rfl
def onV:List Nu->List (List Int)->Option (Prop×To)
 | [.n n],[]=>some (0<n/\n<1000000000000000000,.st [.pb false,.li false (aa n.toNat)])
 | _,_=>none
theorem acx {n:Int} (h0:0<=n) (h1:n<9000000000000000000):(if IntKind.i64.wrap (0 - n.tmod 1000000000)>n.tmod 1000000000 then IntKind.i64.wrap (0 - n.tmod 1000000000) else n.tmod 1000000000)=n % 1000000000:=by
 have e:n.tmod 1000000000=n % 1000000000:=Int.tmod_eq_emod_of_nonneg h0
 rw [e,iw (by omega) (by omega),if_neg (by omega)]
theorem acy {n:Int} (h0:0<=n) (h1:n<9000000000000000000):IntKind.i64.wrap (n.tdiv 1000000000)=n / 1000000000:=by
 rw [Int.tdiv_eq_ediv_of_nonneg h0,iw (by omega) (by omega)]
theorem aai {n:Int} (h0:0<n) (h1:n<1000000000):aa n.toNat=[n % 1000000000]:=by
 rw [gG (by omega),show n.toNat / 1000000000=0 by omega,fT]
 congr 1
 omega
theorem aaj {n:Int} (h0:1000000000<=n) (h1:n<1000000000000000000):aa n.toNat=[n % 1000000000,n / 1000000000 % 1000000000]:=by
 rw [gG (by omega),gG (by omega),show n.toNat / 1000000000 / 1000000000=0 by omega,fT]
 congr 1
 .omega
 .congr 1
  omega
theorem acz:NOk Tryz.prog (fun _=>none) hG0 99 (dI hG0 .i64 [.nu (.i .i64)] onV):=by
 refine gD (fun xs ys p t e h=>?_) ⟨_,Tryz.func99,rfl⟩
 unfold onV at e
 split at e
 .rename_i n
  cases e
  obtain ⟨h0,h1⟩:=h
  have q1:=acy (n:=n) (by omega) (by omega)
  have d1:=acx (n:=n) (by omega) (by omega)
  by_cases h:n<1000000000
  .refine ⟨cOn 11,300,[.int true .i64 n],_,_,_,_,_,Sq 11,rfl,rfl,⟨⟨rfl,rfl⟩,trivial⟩,afg n,rfl,⟨IL.2 (by omega),?_⟩,rfl,rfl,?_⟩
   .rw [q1]; exact Mx.2 (by omega)
   .refine ⟨decide_eq_false (by omega),?_⟩
    show [_]=aa n.toNat
    rw [d1,aai h0 h]
  .have q2:=acy (n:=n / 1000000000) (by omega) (by omega)
   have d2:=acx (n:=n / 1000000000) (by omega) (by omega)
   refine ⟨cOn 30,300,[.int true .i64 n],_,_,_,_,_,Sq 30,rfl,rfl,⟨⟨rfl,rfl⟩,trivial⟩,afh n,rfl,⟨IL.2 (by omega),?_,?_⟩,rfl,rfl,?_⟩
   .rw [q1]; exact IL.2 (by omega)
   .rw [q1,q2]; exact Mx.2 (by omega)
   .refine ⟨decide_eq_false (by omega),?_⟩
    show [_,_]=aa n.toNat
    rw [d1,q1,d2,aaj (by omega) h1]
 .cases e
def tZ:List (FuncId×pu):=
 (118,dI hG0 .i64 [.li,.nu (.i .i64)] ZL) ::
 (98,dI hG0 .i64 [.li,.li] ZX) ::
 (104,dI hG0 .i64 [.li,.li] Z0) ::
 (105,dI hG0 .i64 [.li,.li] aab) ::
 (102,dI hG0 .i64 [.li,.li] cmpV) ::
 (99,dI hG0 .i64 [.nu (.i .i64)] onV) :: []
theorem YB:∀ x∈tZ,NOk Tryz.prog (fun _=>none) hG0 x.1 x.2:=by
 intro x hx
 simp only [tZ,List.mem_cons,List.not_mem_nil,or_false] at hx
 rcases hx with rfl|rfl|rfl|rfl|rfl|rfl
 .exact part_ok
 .exact RO
 .exact WB
 .exact WN
 .exact aad
 .exact acz
def cZ:Ctx:=mkN Tryz.prog (fun _=>none) hG0 tZ [] lH
theorem qL:CtxOk cZ:=ES dL (qD _) YB (fun x h=>by cases h)
def cZb (l:List (Nat×Bool)):Ctx:=fZ cZ (hZ (l.map fun x=>(x.1,match x.2 with|true=>.bool false true|false=>.bool false false)))
theorem KG (l:List (Nat×Bool)):CtxOk (cZb l):=bU qL _
def xO (y:List Int):List AV:=[.lslice 0 y.length,.int false .i64 5]
def Ja:AFr:=⟨101,none⟩
def seA:Code:=jE Tryz.prog 101 0
noncomputable def seS (y:List Int):St:=vT cZ 300 101 (xO y) (zH y)
end
end Go.Proofs.YtmnhhlnbfkfkaaaGreat.K
namespace Go.Dg
open Go Go.Eng
def PP:Int:=1000000000000000000000000000000000000000000000
def mD (sq:Int):Nat->Int->Int->Int->Int
 | 0,_,_,s=>s
 | n+1,i,t,s=>match decide (t*sq / PP / (i*(i+1))=0) with
  | true=>s
  | false=>mD sq n (i+2) (t*sq / PP / (i*(i+1))) (match decide (i % 4=2) with|true=>s - t*sq / PP / (i*(i+1))|false=>s+t*sq / PP / (i*(i+1)))
def aZ (n:Int):Int:=if n<5 then n else 5
def cutL (v:Int):List Int:=List.take ((aa v.toNat).length - aZ (aa v.toNat).length:Int).toNat (List.drop (aZ (aa v.toNat).length).toNat (aa v.toNat))
theorem BG:∀ {l:List Int} (k:Nat),Dig l->val (l.drop k)=val l / pw k
 | l,0,_=>by simp [pw]
 | [],k+1,_=>by simp [val]
 | x :: l,k+1,h=>by
  have hh:=dW.1 h
  have p:=pw_pos k
  rw [List.drop_succ_cons,BG k hh.2,kM,<- Int.ediv_ediv_of_nonneg (by omega)]
  congr 1
  simp only [val]
  omega
theorem YC:pw 5=PP:=by decide
theorem MI {v:Int} (h:0<=v):cutL v=(aa v.toNat).drop (aZ (aa v.toNat).length).toNat:=by
 unfold cutL aZ
 rw [List.take_of_length_le]
 rw [List.length_drop]
 split <;> omega
theorem wo {v:Int} (h:0<=v):val (cutL v)=v / PP:=by
 have hv:val (aa v.toNat)=v:=by rw [Br]; omega
 have hd:=aH v.toNat
 rw [MI h]
 unfold aZ
 split
 .rename_i h5
  rw [show (((aa v.toNat).length:Int)).toNat=(aa v.toNat).length by omega,List.drop_length]
  have h1:=iB hd
  have h2:=kL (show (aa v.toNat).length<=5 by omega)
  rw [YC] at h2
  rw [hv] at h1
  show (0:Int)=v / PP
  rw [Int.ediv_eq_zero_of_lt h (by omega)]
 .rw [show Int.toNat 5=5 from rfl,BG 5 hd,hv,YC]
theorem Sr {l:List Int} (h:Dig l) (n:Nat):Dig (l.take n):=fun x hx=>h x (List.mem_of_mem_take hx)
theorem Jb {l:List Int} (h:Dig l) (n:Nat):Dig (l.drop n):=fun x hx=>h x (List.mem_of_mem_drop hx)
theorem wu (v:Int):Dig (cutL v):=Sr (Jb (aH _) _) _
end Go.Dg
namespace Go.Dg
theorem gQ:0<PP:=by decide
theorem Sv {sq t i:Int} (hs0:0<=sq) (hs:sq<=3*PP) (ht:0<=t) (hi:2<=i):0<=t*sq / PP / (i*(i+1))/\2*(t*sq / PP / (i*(i+1)))<=t:=by
 have p:=gQ
 have hii:6<=i*(i+1):=Int.mul_le_mul (a:=2) (b:=3) (c:=i) (d:=i+1) hi (by omega) (by decide) (by omega)
 have h1:t*sq<=t*(3*PP):=Int.mul_le_mul_of_nonneg_left hs ht
 have h2:t*sq / PP<=3*t:=by
  refine Int.ediv_le_of_le_mul p ?_
  rw [show 3*t*PP=t*(3*PP) by rw [Int.mul_comm 3 t,Int.mul_assoc]]
  exact h1
 have h0:0<=t*sq / PP:=Int.ediv_nonneg (Int.mul_nonneg ht hs0) (by omega)
 have h3:0<=t*sq / PP / (i*(i+1)):=Int.ediv_nonneg h0 (by omega)
 have h4:=Int.ediv_mul_le (t*sq / PP) (b:=i*(i+1)) (by omega)
 have h5:=Int.mul_le_mul_of_nonneg_left hii h3
 exact ⟨h3,by omega⟩
theorem Jc {sq:Int} {n:Nat} {i t s:Int} (h:t*sq / PP / (i*(i+1))=0):mD sq (n+1) i t s=s:=by
 rw [mD,decide_eq_true h]
theorem xP {sq:Int} {n:Nat} {i t s:Int} (h:t*sq / PP / (i*(i+1))≠0):mD sq (n+1) i t s=mD sq n (i+2) (t*sq / PP / (i*(i+1))) (match decide (i % 4=2) with|true=>s - t*sq / PP / (i*(i+1))|false=>s+t*sq / PP / (i*(i+1))):=by
 rw [mD,decide_eq_false h]
def dN (x:Int):Nat->Int->Int->Int->Int
 | 0,_,_,s=>s
 | n+1,i,t,s=>match decide (t / (x*x) / i=0) with
  | true=>s
  | false=>dN x n (i+2) (t / (x*x)) (match decide (i % 4=1) with|true=>s+t / (x*x) / i|false=>s - t / (x*x) / i)
theorem Sw {x:Int} {n:Nat} {i t s:Int} (h:t / (x*x) / i=0):dN x (n+1) i t s=s:=by
 rw [dN,decide_eq_true h]
theorem Dx {x:Int} {n:Nat} {i t s:Int} (h:t / (x*x) / i≠0):dN x (n+1) i t s=dN x n (i+2) (t / (x*x)) (match decide (i % 4=1) with|true=>s+t / (x*x) / i|false=>s - t / (x*x) / i):=by
 rw [dN,decide_eq_false h]
end Go.Dg
namespace Go.Proofs.YtmnhhlnbfkfkaaaGreat.K
open Go Go.Eng Go.Dg
noncomputable section
def cSe (e m:Bool):Ctx:=cZb [(33,e),(37,m)]
theorem Fy (e m:Bool):CtxOk (cSe e m):=KG _
def seP:Option (Int×Int×Int)->Patch
 | none=>⟨(8,.int true .i64 2) :: gz 16 28,[],[]⟩
 | some (i,t,s)=>⟨(6,.lslice 3 (aa s.toNat).length) :: (7,.lslice 2 (aa t.toNat).length) :: (8,.int true .i64 i) :: gz 16 28,[],[.rows .i64 (aa s.toNat),.rows .i64 (aa t.toNat)]⟩
def seX (s:Int):Patch:=⟨(4,.lslice 2 (aa s.toNat).length) :: (6,.any false) :: (7,.any false) :: (8,.any false) :: gz 16 28,[],[.rows .i64 (aa s.toNat)]⟩
def uB (y:List Int):Int:=val y*val y / PP
def seT (y:List Int) (i t:Int):Int:=t*uB y / PP / (i*(i+1))
def seR (y:List Int):Option (Int×Int×Int)->Int
 | none=>mD (uB y) 200 2 (val y) (val y)
 | some (i,t,s)=>mD (uB y) (201 - (i / 2).toNat) i t s
def seU (y:List Int):SumL (Option (Int×Int×Int)):=
 {
  S:=seP
  I:=fun x=>match x with
   | none=>True
   | some (i,t,s)=>0<t/\i % 2=0/\2<i/\i<=400/\2 ^ (i / 2).toNat*t<=4*PP/\0<s/\(i % 4=2->t<=s)/\s<=i*PP
  μ:=fun x=>match x with
   | none=>400
   | some (i,_,_)=>(400 - i).toNat
  F:=fun x=>(.ret,seX (seR y x))
  next:=fun x=>match x with
   | none=>some (4,seT y 2 (val y),val y - seT y 2 (val y))
   | some (i,t,s)=>some (i+2,seT y i t,match decide (i % 4=2) with|true=>s - seT y i t|false=>s+seT y i t)
  ids:=fun x=>match x with
   | none=>[3,4]
   | some _=>[5,6]
  X:=fun x _=>match x with
   | none=>none
   | some (_,_,s)=>some (seX s,[3]) }
def Jd (y:List Int):Prop:=(2:Int)=(2:Int)
theorem Sy (y:List Int):fit (seS y) (seS y) (af (seS y) ((seU y).S none)) ([])=some (.p (Jd y)):=by kernel_rfl
def Sz (y:List Int):Prop:=(((((↑y.length:Int)=(↑y.length:Int)/\((0:Int)<=aZ (↑(aa (val y*val y).toNat).length:Int))/\((0:Int)<=(↑(aa (val y*val y).toNat).length:Int) - aZ (↑(aa (val y*val y).toNat).length:Int))/\(aZ (↑(aa (val y*val y).toNat).length:Int))+((↑(aa (val y*val y).toNat).length:Int) - aZ (↑(aa (val y*val y).toNat).length:Int))<=(↑(aa (val y*val y).toNat).length:Int))/\Dig y/\Dig (cutL (val y*val y))/\y.length+(cutL (val y*val y)).length<=(500000:Nat))/\(((0:Int)<=aZ (↑(aa (val y*val (cutL (val y*val y))).toNat).length:Int))/\(aZ (↑(aa (val y*val (cutL (val y*val y))).toNat).length:Int))<=(↑(aa (val y*val (cutL (val y*val y))).toNat).length:Int)/\(↑(aa (val y*val (cutL (val y*val y))).toNat).length:Int)<=(↑(aa (val y*val (cutL (val y*val y))).toNat).length:Int))/\(((0:Int)<=aZ (↑(aa (val y*val (cutL (val y*val y))).toNat).length:Int))/\((0:Int)<=(↑(aa (val y*val (cutL (val y*val y))).toNat).length:Int) - aZ (↑(aa (val y*val (cutL (val y*val y))).toNat).length:Int))/\(aZ (↑(aa (val y*val (cutL (val y*val y))).toNat).length:Int))+((↑(aa (val y*val (cutL (val y*val y))).toNat).length:Int) - aZ (↑(aa (val y*val (cutL (val y*val y))).toNat).length:Int))<=(↑(aa (val y*val (cutL (val y*val y))).toNat).length:Int))/\Dig (cutL (val y*val (cutL (val y*val y))))/\(cutL (val y*val (cutL (val y*val y)))).length<=(500000:Nat)/\(1:Int)<=IntKind.i64.wrap ((2:Int)*IntKind.i64.wrap ((2:Int)+(1:Int)))/\IntKind.i64.wrap ((2:Int)*IntKind.i64.wrap ((2:Int)+(1:Int)))<=(1000000000:Int))/\((↑(aa (val (cutL (val y*val (cutL (val y*val y)))) / IntKind.i64.wrap ((2:Int)*IntKind.i64.wrap ((2:Int)+(1:Int)))).toNat).length:Int)==(0:Int))=false/\(Int.tmod (2:Int) (4:Int)==(2:Int))=true/\((↑y.length:Int)=(↑y.length:Int)/\(↑(aa (val (cutL (val y*val (cutL (val y*val y)))) / IntKind.i64.wrap ((2:Int)*IntKind.i64.wrap ((2:Int)+(1:Int)))).toNat).length:Int)=(↑(aa (val (cutL (val y*val (cutL (val y*val y)))) / IntKind.i64.wrap ((2:Int)*IntKind.i64.wrap ((2:Int)+(1:Int)))).toNat).length:Int))/\Dig y/\Dig (aa (val (cutL (val y*val (cutL (val y*val y)))) / IntKind.i64.wrap ((2:Int)*IntKind.i64.wrap ((2:Int)+(1:Int)))).toNat)/\(0:Nat)<y.length/\y.length<=(500000:Nat)/\(aa (val (cutL (val y*val (cutL (val y*val y)))) / IntKind.i64.wrap ((2:Int)*IntKind.i64.wrap ((2:Int)+(1:Int)))).toNat).length<=y.length/\val (aa (val (cutL (val y*val (cutL (val y*val y)))) / IntKind.i64.wrap ((2:Int)*IntKind.i64.wrap ((2:Int)+(1:Int)))).toNat)<=val y)/\(true=true->(((↑(aa (val y - val (aa (val (cutL (val y*val (cutL (val y*val y)))) / IntKind.i64.wrap ((2:Int)*IntKind.i64.wrap ((2:Int)+(1:Int)))).toNat)).toNat).length:Int)=(↑(aa (val y - seT y (2:Int) (val y)).toNat).length:Int)/\(↑(aa (val (cutL (val y*val (cutL (val y*val y)))) / IntKind.i64.wrap ((2:Int)*IntKind.i64.wrap ((2:Int)+(1:Int)))).toNat).length:Int)=(↑(aa (seT y (2:Int) (val y)).toNat).length:Int)/\IntKind.i64.wrap ((2:Int)+(2:Int))=(4:Int))/\aa (val y - val (aa (val (cutL (val y*val (cutL (val y*val y)))) / IntKind.i64.wrap ((2:Int)*IntKind.i64.wrap ((2:Int)+(1:Int)))).toNat)).toNat=aa (val y - seT y (2:Int) (val y)).toNat/\aa (val (cutL (val y*val (cutL (val y*val y)))) / IntKind.i64.wrap ((2:Int)*IntKind.i64.wrap ((2:Int)+(1:Int)))).toNat=aa (seT y (2:Int) (val y)).toNat)/\(seU y).I ((seU y).next none)/\(seU y).μ ((seU y).next none)<(seU y).μ none/\(seU y).F ((seU y).next none)=(seU y).F none)
theorem acA (y:List Int):fI (seS y) ((seU y).way (none)) ((run (cSe false true) 300).code Ja seA (af (seS y) ((seU y).S none)))=some (.p (Sz y)):=by kernel_rfl
def SA (y:List Int) (i t s:Int):Prop:=(((((↑(aa t.toNat).length:Int)=(↑(aa t.toNat).length:Int)/\((0:Int)<=aZ (↑(aa (val y*val y).toNat).length:Int))/\((0:Int)<=(↑(aa (val y*val y).toNat).length:Int) - aZ (↑(aa (val y*val y).toNat).length:Int))/\(aZ (↑(aa (val y*val y).toNat).length:Int))+((↑(aa (val y*val y).toNat).length:Int) - aZ (↑(aa (val y*val y).toNat).length:Int))<=(↑(aa (val y*val y).toNat).length:Int))/\Dig (aa t.toNat)/\Dig (cutL (val y*val y))/\(aa t.toNat).length+(cutL (val y*val y)).length<=(500000:Nat))/\(((0:Int)<=aZ (↑(aa (val (aa t.toNat)*val (cutL (val y*val y))).toNat).length:Int))/\(aZ (↑(aa (val (aa t.toNat)*val (cutL (val y*val y))).toNat).length:Int))<=(↑(aa (val (aa t.toNat)*val (cutL (val y*val y))).toNat).length:Int)/\(↑(aa (val (aa t.toNat)*val (cutL (val y*val y))).toNat).length:Int)<=(↑(aa (val (aa t.toNat)*val (cutL (val y*val y))).toNat).length:Int))/\(((0:Int)<=aZ (↑(aa (val (aa t.toNat)*val (cutL (val y*val y))).toNat).length:Int))/\((0:Int)<=(↑(aa (val (aa t.toNat)*val (cutL (val y*val y))).toNat).length:Int) - aZ (↑(aa (val (aa t.toNat)*val (cutL (val y*val y))).toNat).length:Int))/\(aZ (↑(aa (val (aa t.toNat)*val (cutL (val y*val y))).toNat).length:Int))+((↑(aa (val (aa t.toNat)*val (cutL (val y*val y))).toNat).length:Int) - aZ (↑(aa (val (aa t.toNat)*val (cutL (val y*val y))).toNat).length:Int))<=(↑(aa (val (aa t.toNat)*val (cutL (val y*val y))).toNat).length:Int))/\Dig (cutL (val (aa t.toNat)*val (cutL (val y*val y))))/\(cutL (val (aa t.toNat)*val (cutL (val y*val y)))).length<=(500000:Nat)/\(1:Int)<=IntKind.i64.wrap (i*IntKind.i64.wrap (i+(1:Int)))/\IntKind.i64.wrap (i*IntKind.i64.wrap (i+(1:Int)))<=(1000000000:Int))/\((↑(aa (val (cutL (val (aa t.toNat)*val (cutL (val y*val y)))) / IntKind.i64.wrap (i*IntKind.i64.wrap (i+(1:Int)))).toNat).length:Int)==(0:Int))=false/\(i.tmod (4:Int)==(2:Int))=true/\((↑(aa s.toNat).length:Int)=(↑(aa s.toNat).length:Int)/\(↑(aa (val (cutL (val (aa t.toNat)*val (cutL (val y*val y)))) / IntKind.i64.wrap (i*IntKind.i64.wrap (i+(1:Int)))).toNat).length:Int)=(↑(aa (val (cutL (val (aa t.toNat)*val (cutL (val y*val y)))) / IntKind.i64.wrap (i*IntKind.i64.wrap (i+(1:Int)))).toNat).length:Int))/\Dig (aa s.toNat)/\Dig (aa (val (cutL (val (aa t.toNat)*val (cutL (val y*val y)))) / IntKind.i64.wrap (i*IntKind.i64.wrap (i+(1:Int)))).toNat)/\(0:Nat)<(aa s.toNat).length/\(aa s.toNat).length<=(500000:Nat)/\(aa (val (cutL (val (aa t.toNat)*val (cutL (val y*val y)))) / IntKind.i64.wrap (i*IntKind.i64.wrap (i+(1:Int)))).toNat).length<=(aa s.toNat).length/\val (aa (val (cutL (val (aa t.toNat)*val (cutL (val y*val y)))) / IntKind.i64.wrap (i*IntKind.i64.wrap (i+(1:Int)))).toNat)<=val (aa s.toNat))/\(true=true->(((↑(aa (val (aa s.toNat) - val (aa (val (cutL (val (aa t.toNat)*val (cutL (val y*val y)))) / IntKind.i64.wrap (i*IntKind.i64.wrap (i+(1:Int)))).toNat)).toNat).length:Int)=(↑(aa (match decide (i % (4:Int)=(2:Int)) with|true=>s - seT y i t|false=>s+seT y i t).toNat).length:Int)/\(↑(aa (val (cutL (val (aa t.toNat)*val (cutL (val y*val y)))) / IntKind.i64.wrap (i*IntKind.i64.wrap (i+(1:Int)))).toNat).length:Int)=(↑(aa (seT y i t).toNat).length:Int)/\IntKind.i64.wrap (i+(2:Int))=i+(2:Int))/\aa (val (aa s.toNat) - val (aa (val (cutL (val (aa t.toNat)*val (cutL (val y*val y)))) / IntKind.i64.wrap (i*IntKind.i64.wrap (i+(1:Int)))).toNat)).toNat=aa (match decide (i % (4:Int)=(2:Int)) with|true=>s - seT y i t|false=>s+seT y i t).toNat/\aa (val (cutL (val (aa t.toNat)*val (cutL (val y*val y)))) / IntKind.i64.wrap (i*IntKind.i64.wrap (i+(1:Int)))).toNat=aa (seT y i t).toNat)/\(seU y).I ((seU y).next (some (i,t,s)))/\(seU y).μ ((seU y).next (some (i,t,s)))<(seU y).μ (some (i,t,s))/\(seU y).F ((seU y).next (some (i,t,s)))=(seU y).F (some (i,t,s)))
theorem acB (y:List Int) (i t s:Int):fI (seS y) ((seU y).way ((some (i,t,s)))) ((run (cSe false true) 300).code Ja seA (af (seS y) ((seU y).S (some (i,t,s)))))=some (.p (SA y i t s)):=by kernel_rfl
def SB (y:List Int) (i t s:Int):Prop:=(((((↑(aa t.toNat).length:Int)=(↑(aa t.toNat).length:Int)/\((0:Int)<=aZ (↑(aa (val y*val y).toNat).length:Int))/\((0:Int)<=(↑(aa (val y*val y).toNat).length:Int) - aZ (↑(aa (val y*val y).toNat).length:Int))/\(aZ (↑(aa (val y*val y).toNat).length:Int))+((↑(aa (val y*val y).toNat).length:Int) - aZ (↑(aa (val y*val y).toNat).length:Int))<=(↑(aa (val y*val y).toNat).length:Int))/\Dig (aa t.toNat)/\Dig (cutL (val y*val y))/\(aa t.toNat).length+(cutL (val y*val y)).length<=(500000:Nat))/\(((0:Int)<=aZ (↑(aa (val (aa t.toNat)*val (cutL (val y*val y))).toNat).length:Int))/\(aZ (↑(aa (val (aa t.toNat)*val (cutL (val y*val y))).toNat).length:Int))<=(↑(aa (val (aa t.toNat)*val (cutL (val y*val y))).toNat).length:Int)/\(↑(aa (val (aa t.toNat)*val (cutL (val y*val y))).toNat).length:Int)<=(↑(aa (val (aa t.toNat)*val (cutL (val y*val y))).toNat).length:Int))/\(((0:Int)<=aZ (↑(aa (val (aa t.toNat)*val (cutL (val y*val y))).toNat).length:Int))/\((0:Int)<=(↑(aa (val (aa t.toNat)*val (cutL (val y*val y))).toNat).length:Int) - aZ (↑(aa (val (aa t.toNat)*val (cutL (val y*val y))).toNat).length:Int))/\(aZ (↑(aa (val (aa t.toNat)*val (cutL (val y*val y))).toNat).length:Int))+((↑(aa (val (aa t.toNat)*val (cutL (val y*val y))).toNat).length:Int) - aZ (↑(aa (val (aa t.toNat)*val (cutL (val y*val y))).toNat).length:Int))<=(↑(aa (val (aa t.toNat)*val (cutL (val y*val y))).toNat).length:Int))/\Dig (cutL (val (aa t.toNat)*val (cutL (val y*val y))))/\(cutL (val (aa t.toNat)*val (cutL (val y*val y)))).length<=(500000:Nat)/\(1:Int)<=IntKind.i64.wrap (i*IntKind.i64.wrap (i+(1:Int)))/\IntKind.i64.wrap (i*IntKind.i64.wrap (i+(1:Int)))<=(1000000000:Int))/\((↑(aa (val (cutL (val (aa t.toNat)*val (cutL (val y*val y)))) / IntKind.i64.wrap (i*IntKind.i64.wrap (i+(1:Int)))).toNat).length:Int)==(0:Int))=false/\(i.tmod (4:Int)==(2:Int))=false/\((↑(aa s.toNat).length:Int)=(↑(aa s.toNat).length:Int)/\(↑(aa (val (cutL (val (aa t.toNat)*val (cutL (val y*val y)))) / IntKind.i64.wrap (i*IntKind.i64.wrap (i+(1:Int)))).toNat).length:Int)=(↑(aa (val (cutL (val (aa t.toNat)*val (cutL (val y*val y)))) / IntKind.i64.wrap (i*IntKind.i64.wrap (i+(1:Int)))).toNat).length:Int))/\Dig (aa s.toNat)/\Dig (aa (val (cutL (val (aa t.toNat)*val (cutL (val y*val y)))) / IntKind.i64.wrap (i*IntKind.i64.wrap (i+(1:Int)))).toNat)/\((0:Nat)<(aa s.toNat).length\/(0:Nat)<(aa (val (cutL (val (aa t.toNat)*val (cutL (val y*val y)))) / IntKind.i64.wrap (i*IntKind.i64.wrap (i+(1:Int)))).toNat).length)/\(aa s.toNat).length<=(400000:Nat)/\(aa (val (cutL (val (aa t.toNat)*val (cutL (val y*val y)))) / IntKind.i64.wrap (i*IntKind.i64.wrap (i+(1:Int)))).toNat).length<=(400000:Nat))/\(true=true->(((↑(aa (val (aa s.toNat)+val (aa (val (cutL (val (aa t.toNat)*val (cutL (val y*val y)))) / IntKind.i64.wrap (i*IntKind.i64.wrap (i+(1:Int)))).toNat)).toNat).length:Int)=(↑(aa (match decide (i % (4:Int)=(2:Int)) with|true=>s - seT y i t|false=>s+seT y i t).toNat).length:Int)/\(↑(aa (val (cutL (val (aa t.toNat)*val (cutL (val y*val y)))) / IntKind.i64.wrap (i*IntKind.i64.wrap (i+(1:Int)))).toNat).length:Int)=(↑(aa (seT y i t).toNat).length:Int)/\IntKind.i64.wrap (i+(2:Int))=i+(2:Int))/\aa (val (aa s.toNat)+val (aa (val (cutL (val (aa t.toNat)*val (cutL (val y*val y)))) / IntKind.i64.wrap (i*IntKind.i64.wrap (i+(1:Int)))).toNat)).toNat=aa (match decide (i % (4:Int)=(2:Int)) with|true=>s - seT y i t|false=>s+seT y i t).toNat/\aa (val (cutL (val (aa t.toNat)*val (cutL (val y*val y)))) / IntKind.i64.wrap (i*IntKind.i64.wrap (i+(1:Int)))).toNat=aa (seT y i t).toNat)/\(seU y).I ((seU y).next (some (i,t,s)))/\(seU y).μ ((seU y).next (some (i,t,s)))<(seU y).μ (some (i,t,s))/\(seU y).F ((seU y).next (some (i,t,s)))=(seU y).F (some (i,t,s)))
theorem acC (y:List Int) (i t s:Int):fI (seS y) ((seU y).way ((some (i,t,s)))) ((run (cSe false false) 300).code Ja seA (af (seS y) ((seU y).S (some (i,t,s)))))=some (.p (SB y i t s)):=by kernel_rfl
def WY (y:List Int) (i t s:Int):Prop:=(((((↑(aa t.toNat).length:Int)=(↑(aa t.toNat).length:Int)/\((0:Int)<=aZ (↑(aa (val y*val y).toNat).length:Int))/\((0:Int)<=(↑(aa (val y*val y).toNat).length:Int) - aZ (↑(aa (val y*val y).toNat).length:Int))/\(aZ (↑(aa (val y*val y).toNat).length:Int))+((↑(aa (val y*val y).toNat).length:Int) - aZ (↑(aa (val y*val y).toNat).length:Int))<=(↑(aa (val y*val y).toNat).length:Int))/\Dig (aa t.toNat)/\Dig (cutL (val y*val y))/\(aa t.toNat).length+(cutL (val y*val y)).length<=(500000:Nat))/\(((0:Int)<=aZ (↑(aa (val (aa t.toNat)*val (cutL (val y*val y))).toNat).length:Int))/\(aZ (↑(aa (val (aa t.toNat)*val (cutL (val y*val y))).toNat).length:Int))<=(↑(aa (val (aa t.toNat)*val (cutL (val y*val y))).toNat).length:Int)/\(↑(aa (val (aa t.toNat)*val (cutL (val y*val y))).toNat).length:Int)<=(↑(aa (val (aa t.toNat)*val (cutL (val y*val y))).toNat).length:Int))/\(((0:Int)<=aZ (↑(aa (val (aa t.toNat)*val (cutL (val y*val y))).toNat).length:Int))/\((0:Int)<=(↑(aa (val (aa t.toNat)*val (cutL (val y*val y))).toNat).length:Int) - aZ (↑(aa (val (aa t.toNat)*val (cutL (val y*val y))).toNat).length:Int))/\(aZ (↑(aa (val (aa t.toNat)*val (cutL (val y*val y))).toNat).length:Int))+((↑(aa (val (aa t.toNat)*val (cutL (val y*val y))).toNat).length:Int) - aZ (↑(aa (val (aa t.toNat)*val (cutL (val y*val y))).toNat).length:Int))<=(↑(aa (val (aa t.toNat)*val (cutL (val y*val y))).toNat).length:Int))/\Dig (cutL (val (aa t.toNat)*val (cutL (val y*val y))))/\(cutL (val (aa t.toNat)*val (cutL (val y*val y)))).length<=(500000:Nat)/\(1:Int)<=IntKind.i64.wrap (i*IntKind.i64.wrap (i+(1:Int)))/\IntKind.i64.wrap (i*IntKind.i64.wrap (i+(1:Int)))<=(1000000000:Int))/\((↑(aa (val (cutL (val (aa t.toNat)*val (cutL (val y*val y)))) / IntKind.i64.wrap (i*IntKind.i64.wrap (i+(1:Int)))).toNat).length:Int)==(0:Int))=true)/\(true=true->((↑(aa s.toNat).length:Int)=(↑(aa s.toNat).length:Int)/\aa s.toNat=aa s.toNat)/\(seU y).F (some (i,t,s))=(Ex.ret,seX s))
theorem afi (y:List Int) (i t s:Int):fI (seS y) ((seU y).way ((some (i,t,s)))) ((run (cSe true false) 300).code Ja seA (af (seS y) ((seU y).S (some (i,t,s)))))=some (.p (WY y i t s)):=by kernel_rfl
structure SeD (y:List Int):Prop where
 d:Dig y
 l:y.length<=100
 hi:val y<=1700000000000000000000000000000000000000000000
 lo:0<seT y 2 (val y)
theorem SeD.sq {y:List Int} (h:SeD y):0<=uB y/\uB y<=3*PP:=by
 have v0:=au h.d
 have v1:=h.hi
 have p:=gQ
 refine ⟨Int.ediv_nonneg (Int.mul_nonneg v0 v0) (by omega),Int.ediv_le_of_le_mul p ?_⟩
 have:=Int.mul_le_mul (a:=val y) (b:=val y) (c:=1700000000000000000000000000000000000000000000) (d:=1700000000000000000000000000000000000000000000) v1 v1 v0 (by decide)
 have e:(1700000000000000000000000000000000000000000000:Int)*1700000000000000000000000000000000000000000000<=3*PP*PP:=by decide
 omega
theorem YD {i:Int} (h0:2<=i) (h1:i<=400):IntKind.i64.wrap (i*IntKind.i64.wrap (i+1))=i*(i+1):=by
 have e:i*(i+1)<=400*401:=Int.mul_le_mul (a:=i) (b:=i+1) (c:=400) (d:=401) h1 (by omega) (by omega) (by decide)
 have e2:2*3<=i*(i+1):=Int.mul_le_mul (a:=2) (b:=3) (c:=i) (d:=i+1) h0 (by omega) (by decide) (by omega)
 rw [show IntKind.i64.wrap (i+1)=i+1 from iw (by omega) (by omega),iw (by omega) (by omega)]
theorem SeD.q {y:List Int} (h:SeD y) {v i:Int} (hv:0<=v) (h0:2<=i) (h1:i<=400):val (cutL (v*val (cutL (val y*val y)))) / IntKind.i64.wrap (i*IntKind.i64.wrap (i+1))=seT y i v:=by
 have v0:=au h.d
 have h2:=h.sq
 rw [YD h0 h1,wo (Int.mul_nonneg v0 v0),wo (v:=v*(val y*val y / PP)) (Int.mul_nonneg hv h2.1)]
 rfl
theorem xQ {n:Int} (h:0<=n):0<=aZ n/\aZ n<=n:=by unfold aZ; split <;> omega
theorem BH (v:Int):(cutL v).length<=(aa v.toNat).length:=by
 unfold cutL
 rw [List.length_take,List.length_drop]
 omega
theorem jL {v:Int} {n:Nat} (h0:0<=v) (h:v<pw n):(aa v.toNat).length<=n:=IM (by omega)
theorem len_mul {a b:Int} (a0:0<=a) (a1:a<=4*PP) (b0:0<=b) (b1:b<=4*PP):(aa (a*b).toNat).length<=11:=by
 have p:=gQ
 have h:=Int.mul_le_mul a1 b1 b0 (by omega)
 have e:4*PP*(4*PP)<pw 11:=by decide
 exact jL (Int.mul_nonneg a0 b0) (by omega)
theorem ky {a:Int} (a0:0<=a) (a1:a<=400*PP):(aa a.toNat).length<=6:=by
 have e:400*PP<pw 6:=by decide
 exact jL a0 (by omega)
theorem dv {a:Int} (a0:0<=a):val (aa a.toNat)=a:=by rw [Br]; omega
theorem Je {a:Int} (a0:0<a):0<(aa a.toNat).length:=Fh (by omega)
theorem aak {a b:Int} (a0:0<=a) (h:a<=b):(aa a.toNat).length<=(aa b.toNat).length:=by
 refine jL a0 ?_
 have:=iB (aH b.toNat)
 rw [dv (by omega)] at this
 omega
theorem Fz {n:Nat} {t:Int} (h0:0<t) (h:2 ^ n*t<=4*PP):n<=151:=by
 refine Nat.le_of_not_lt fun hn=>?_
 have h1:(2:Int) ^ 152<=2 ^ n:=by
  have:=Nat.pow_le_pow_right (n:=2) (by decide) (show 152<=n by omega)
  have e1:((2 ^ 152:Nat):Int)<=((2 ^ n:Nat):Int):=by exact_mod_cast this
  simpa using e1
 have h2:(2:Int) ^ n*1<=2 ^ n*t:=Int.mul_le_mul_of_nonneg_left (by omega) (by omega)
 have e:4*PP<(2:Int) ^ 152:=by decide
 omega
theorem FB {y:List Int} (h:SeD y) {i t:Int} (ht:0<=t) (hi:2<=i):0<=seT y i t/\2*seT y i t<=t:=Sv h.sq.1 h.sq.2 ht hi
theorem SC {y:List Int} (h:SeD y):seR y (some (4,seT y 2 (val y),val y - seT y 2 (val y)))=seR y none:=by
 show mD (uB y) 199 4 _ _=mD (uB y) (199+1) 2 (val y) (val y)
 rw [xP (show val y*uB y / PP / (2*(2+1))≠0 from by have:=h.lo; unfold seT at this; omega)]
 rfl
theorem WZ {y:List Int} {i t s:Int} (hi:(i / 2).toNat<=200) (h:seT y i t=0):seR y (some (i,t,s))=s:=by
 show mD (uB y) (201 - (i / 2).toNat) i t s=s
 rw [show 201 - (i / 2).toNat=(200 - (i / 2).toNat)+1 by omega,Jc h]
theorem SE {y:List Int} {i t s:Int} (h0:0<=i) (hi:(i / 2).toNat<=200) (h:seT y i t≠0):seR y ((seU y).next (some (i,t,s)))=seR y (some (i,t,s)):=by
 show mD (uB y) (201 - ((i+2) / 2).toNat) (i+2) (seT y i t) _=mD (uB y) (201 - (i / 2).toNat) i t s
 rw [show 201 - (i / 2).toNat=(200 - (i / 2).toNat)+1 by omega,xP h,show 201 - ((i+2) / 2).toNat=200 - (i / 2).toNat by omega]
 rfl
theorem SF {y:List Int} (h:SeD y) {i t s:Int} (hI:(seU y).I (some (i,t,s))) (h0:seT y i t≠0):(seU y).I ((seU y).next (some (i,t,s))):=by
 obtain ⟨t0,i0,i1,i2,pw,s0,ts,sb⟩:=(show 0<t/\i % 2=0/\2<i/\i<=400/\2 ^ (i / 2).toNat*t<=4*PP/\0<s/\(i % 4=2->t<=s)/\s<=i*PP from hI)
 obtain ⟨b0,b1⟩:=FB h (i:=i) (t:=t) (by omega) (by omega)
 have k:=Fz t0 pw
 have hp:(2:Int) ^ ((i+2) / 2).toNat*seT y i t<=4*PP:=by
  rw [show ((i+2) / 2).toNat=(i / 2).toNat+1 by omega,Int.pow_succ,Int.mul_assoc]
  have:(2:Int) ^ (i / 2).toNat*(2*seT y i t)<=2 ^ (i / 2).toNat*t:=Int.mul_le_mul_of_nonneg_left b1 (Int.pow_nonneg (by decide))
  omega
 have ht:t<=PP:=by
  have h4:(4:Int)*t<=2 ^ (i / 2).toNat*t:=by
   refine Int.mul_le_mul_of_nonneg_right ?_ (by omega)
   have:=Nat.pow_le_pow_right (n:=2) (by decide) (show 2<=(i / 2).toNat by omega)
   have e1:((2 ^ 2:Nat):Int)<=((2 ^ (i / 2).toNat:Nat):Int):=by exact_mod_cast this
   simpa using e1
  omega
 have e2:(i+2)*PP=i*PP+2*PP:=Int.add_mul _ _ _
 have p:=gQ
 show 0<seT y i t/\(i+2) % 2=0/\2<i+2/\i+2<=400/\2 ^ ((i+2) / 2).toNat*seT y i t<=4*PP/\0<(match decide (i % 4=2) with|true=>s - seT y i t|false=>s+seT y i t)/\((i+2) % 4=2->seT y i t<=(match decide (i % 4=2) with|true=>s - seT y i t|false=>s+seT y i t))/\(match decide (i % 4=2) with|true=>s - seT y i t|false=>s+seT y i t)<=(i+2)*PP
 by_cases hm:i % 4=2
 .have:=ts hm
  rw [show (match decide (i % 4=2) with|true=>s - seT y i t|false=>s+seT y i t)=s - seT y i t by rw [decide_eq_true hm]]
  refine ⟨by omega,by omega,by omega,by omega,hp,by omega,by omega,by omega⟩
 .rw [show (match decide (i % 4=2) with|true=>s - seT y i t|false=>s+seT y i t)=s+seT y i t by rw [decide_eq_false hm]]
  refine ⟨by omega,by omega,by omega,by omega,hp,by omega,by omega,by omega⟩
theorem OJ {y:List Int} (h:SeD y):(seU y).I ((seU y).next none):=by
 have v0:=au h.d
 have v1:=h.hi
 have l0:=h.lo
 obtain ⟨b0,b1⟩:=FB h (i:=2) (t:=val y) v0 (by omega)
 have e:(1700000000000000000000000000000000000000000000:Int)<=2*PP:=by decide
 show 0<seT y 2 (val y)/\(4:Int) % 2=0/\(2:Int)<4/\(4:Int)<=400/\(2:Int) ^ (2:Nat)*seT y 2 (val y)<=4*PP/\0<val y - seT y 2 (val y)/\((4:Int) % 4=2->seT y 2 (val y)<=val y - seT y 2 (val y))/\val y - seT y 2 (val y)<=4*PP
 have p:=gQ
 refine ⟨l0,by decide,by decide,by decide,?_,by omega,by omega,by omega⟩
 rw [show (2:Int) ^ (2:Nat)=4 from rfl]; omega
theorem W9 {y:List Int} (h:SeD y):CodeOk cZ Ja (.loop seA) (seS y) ⟨.tt,[⟨.tt,.ret,af (seS y) (seX (seR y none))⟩]⟩:=by
 refine ni (seU y) (y0:=none) trivial ⟨_,Sy y,rfl⟩ (by kernel_rfl) (fun x hx=>?_) rfl
 have v0:=au h.d
 have v1:=h.hi
 have yl:=h.l
 have l0:=h.lo
 have p:=gQ
 have e17:(1700000000000000000000000000000000000000000000:Int)<=2*PP:=by decide
 obtain ⟨q0,q1⟩:=h.sq
 have hsq:val (cutL (val y*val y))=uB y:=by rw [wo (Int.mul_nonneg v0 v0)]; rfl
 have m1:=len_mul v0 (by omega) v0 (by omega:val y<=4*PP)
 have k1:=BH (val y*val y)
 have c1:=xQ (n:=((aa (val y*val y).toNat).length:Int)) (by omega)
 have d1:=wu (val y*val y)
 cases x with
 | none=>
  have Q:=h.q (v:=val y) v0 (i:=2) (by omega) (by omega)
  have c2:=xQ (n:=((aa (val y*val (cutL (val y*val y))).toNat).length:Int)) (by omega)
  have d2:=wu (val y*val (cutL (val y*val y)))
  have m2:=len_mul v0 (by omega:val y<=4*PP) q0 (by omega)
  rw [<- hsq] at m2
  have k2:=BH (val y*val (cutL (val y*val y)))
  obtain ⟨b0,b1⟩:=FB h (i:=2) (t:=val y) v0 (by omega)
  have dq:=aH (seT y 2 (val y)).toNat
  have lq:=Je l0
  have vq:=dv b0
  have yp:0<y.length:=by
   rcases Nat.eq_zero_or_pos y.length with e|e
   .rw [List.length_eq_zero_iff.1 e] at b1 l0
    have:val []=0:=rfl
    omega
   .exact e
  have ql:(aa (seT y 2 (val y)).toNat).length<=y.length:=jL b0 (by have:=iB h.d; omega)
  have nx:=OJ h
  have w6:IntKind.i64.wrap (2*IntKind.i64.wrap (2+1))=6:=by decide
  refine ⟨cSe false true,300,Fy _ _,rfl,rfl,_,acA y,?_,fun _=>?_⟩
  .rw [Q,w6,vq]
   refine ⟨⟨⟨⟨rfl,by omega,by omega,by omega⟩,h.d,d1,by omega⟩,⟨by omega,by omega,by omega⟩,⟨by omega,by omega,by omega⟩,d2,by omega,by omega,by omega⟩,beq_eq_false_iff_ne.2 (by omega),rfl,⟨rfl,rfl⟩,h.d,dq,yp,by omega,ql,by omega⟩
  .rw [Q,vq]
   refine ⟨⟨⟨rfl,rfl,by decide⟩,rfl,rfl⟩,nx,by show (400 - 4:Int).toNat<400; omega,?_⟩
   exact congrArg (fun z=>(Ex.ret,seX z)) (SC h)
 | some x=>
  obtain ⟨i,t,s⟩:=x
  have hI:=hx
  obtain ⟨t0,i0,i1,i2,pw2,s0,ts,sb⟩:=(show 0<t/\i % 2=0/\2<i/\i<=400/\2 ^ (i / 2).toNat*t<=4*PP/\0<s/\(i % 4=2->t<=s)/\s<=i*PP from hx)
  have k:=Fz t0 pw2
  have ht:t<=4*PP:=by
   have h4:(1:Int)*t<=2 ^ (i / 2).toNat*t:=by
    refine Int.mul_le_mul_of_nonneg_right ?_ (by omega)
    have:=Nat.one_le_two_pow (n:=(i / 2).toNat)
    have e1:((1:Nat):Int)<=((2 ^ (i / 2).toNat:Nat):Int):=by exact_mod_cast this
    simpa using e1
   omega
  have hs:s<=400*PP:=by
   have:i*PP<=400*PP:=Int.mul_le_mul_of_nonneg_right i2 (by omega)
   omega
  have vt:=dv (a:=t) (by omega)
  have vs:=dv (a:=s) (by omega)
  have dt:=aH t.toNat
  have ds:=aH s.toNat
  have lt:=ky (a:=t) (by omega) (by omega)
  have ls:=ky (a:=s) (by omega) hs
  have ls0:=Je s0
  have Q:=h.q (v:=t) (by omega) (i:=i) (by omega) i2
  have c2:=xQ (n:=((aa (t*val (cutL (val y*val y))).toNat).length:Int)) (by omega)
  have d2:=wu (t*val (cutL (val y*val y)))
  have m2:=len_mul (a:=t) (by omega) ht q0 (by omega)
  rw [<- hsq] at m2
  have k2:=BH (t*val (cutL (val y*val y)))
  obtain ⟨b0,b1⟩:=FB h (i:=i) (t:=t) (by omega) (by omega)
  have dq:=aH (seT y i t).toNat
  have vq:=dv b0
  have w6:=YD (i:=i) (by omega) i2
  have w7:1<=i*(i+1):=by have:=Int.mul_le_mul (a:=2) (b:=3) (c:=i) (d:=i+1) (by omega) (by omega) (by decide) (by omega); omega
  have w8:i*(i+1)<=400*401:=Int.mul_le_mul (a:=i) (b:=i+1) (c:=400) (d:=401) i2 (by omega) (by omega) (by decide)
  have w9:IntKind.i64.wrap (i+2)=i+2:=iw (by omega) (by omega)
  by_cases h0:seT y i t=0
  .refine ⟨cSe true false,300,Fy _ _,rfl,rfl,_,afi y i t s,?_,fun _=>⟨⟨rfl,rfl⟩,?_⟩⟩
   .rw [vt,Q,w6,h0]
    exact ⟨⟨⟨⟨rfl,by omega,by omega,by omega⟩,dt,d1,by omega⟩,⟨by omega,by omega,by omega⟩,⟨by omega,by omega,by omega⟩,d2,by omega,by omega,by omega⟩,by rw [show aa (0:Int).toNat=[] from fT]; rfl⟩
   .show (Ex.ret,seX _)=(Ex.ret,seX _)
    rw [WZ (by omega) h0]
  .have lq:=Je (a:=seT y i t) (by omega)
   have nx:=SF h hI h0
   have nr:=SE (y:=y) (i:=i) (t:=t) (s:=s) (by omega) (by omega) h0
   have mu:(400 - (i+2)).toNat<(400 - i).toNat:=by
    have:i<=304:=by omega
    omega
   by_cases hm:i % 4=2
   .have hts:=ts hm
    have ql:=aak b0 (show seT y i t<=s by omega)
    have e4:(match decide (i % 4=2) with|true=>s - seT y i t|false=>s+seT y i t)=s - seT y i t:=by rw [decide_eq_true hm]
    refine ⟨cSe false true,300,Fy _ _,rfl,rfl,_,acB y i t s,?_,fun _=>?_⟩
    .rw [vt,Q,w6,vq,vs]
     refine ⟨⟨⟨⟨rfl,by omega,by omega,by omega⟩,dt,d1,by omega⟩,⟨by omega,by omega,by omega⟩,⟨by omega,by omega,by omega⟩,d2,by omega,by omega,by omega⟩,beq_eq_false_iff_ne.2 (by omega),?_,⟨rfl,rfl⟩,ds,dq,ls0,by omega,ql,by omega⟩
     rw [Int.tmod_eq_emod_of_nonneg (by omega),hm]; rfl
    .rw [vt,Q,vq,vs]
     exact ⟨⟨⟨congrArg (fun z:Int=>((aa z.toNat).length:Int)) e4.symm,rfl,w9⟩,congrArg (fun z:Int=>aa z.toNat) e4.symm,rfl⟩,nx,mu,congrArg (fun z=>(Ex.ret,seX z)) nr⟩
   .have hmm:i % 4=0:=by omega
    have ql:=ky (a:=seT y i t) b0 (by omega)
    have e4:(match decide (i % 4=2) with|true=>s - seT y i t|false=>s+seT y i t)=s+seT y i t:=by rw [decide_eq_false hm]
    refine ⟨cSe false false,300,Fy _ _,rfl,rfl,_,acC y i t s,?_,fun _=>?_⟩
    .rw [vt,Q,w6]
     refine ⟨⟨⟨⟨rfl,by omega,by omega,by omega⟩,dt,d1,by omega⟩,⟨by omega,by omega,by omega⟩,⟨by omega,by omega,by omega⟩,d2,by omega,by omega,by omega⟩,beq_eq_false_iff_ne.2 (by omega),?_,⟨rfl,rfl⟩,ds,dq,.inl ls0,by omega,by omega⟩
     rw [Int.tmod_eq_emod_of_nonneg (by omega),hmm]; rfl
    .rw [vt,Q,vq,vs]
     exact ⟨⟨⟨congrArg (fun z:Int=>((aa z.toNat).length:Int)) e4.symm,rfl,w9⟩,congrArg (fun z:Int=>aa z.toNat) e4.symm,rfl⟩,nx,mu,congrArg (fun z=>(Ex.ret,seX z)) nr⟩
noncomputable def aal (y:List Int):Ctx:=bq cZ [bZ 101 (seS y).hp.clock Ja seA (seS y) .ret (seX (seR y none))]
theorem Xa {y:List Int} (h:SeD y):CtxOk (aal y):=aQ qL (W9 h) (cO qL)
def Xb (y:List Int):Prop:=(((((↑y.length:Int)=(↑y.length:Int)/\(↑y.length:Int)=(↑y.length:Int))/\Dig y/\Dig y/\y.length+y.length<=(500000:Nat))/\((0:Int)<=aZ (↑(aa (val y*val y).toNat).length:Int))/\(aZ (↑(aa (val y*val y).toNat).length:Int))<=(↑(aa (val y*val y).toNat).length:Int)/\(↑(aa (val y*val y).toNat).length:Int)<=(↑(aa (val y*val y).toNat).length:Int))/\At (Ja) (Ja) (seA) (seA) (seS y) (seS y))
def aam (y:List Int):AV:=(AV.lslice 1 (↑(aa (seR y none).toNat).length:Int))
def aan (y:List Int):Hp:=⟨[{ wr:=24,body:=ABody.rows IntKind.i64 (aa (seR y none).toNat) },{ wr:=(0:Nat),body:=ABody.rows IntKind.i64 y }],2,25⟩
theorem afj (y:List Int):(run (aal y) 300).call 101 (xO y) (zH y)=some ⟨.p (Xb y),[⟨.tt,aam y,aan y⟩]⟩:=by kernel_rfl
def aao:List Nu->List (List Int)->Option (Prop×To)
 | [.n k],[y]=>some (k=5/\SeD y,.li false (aa (seR y none).toNat))
 | _,_=>none
theorem OL:NOk Tryz.prog (fun _=>none) hG0 101 (dI hG0 .i64 [.li,.nu (.i .i64)] aao):=by
 refine gD (fun xs ys p t e h=>?_) ⟨_,Tryz.func101,rfl⟩
 unfold aao at e
 split at e
 .rename_i k y
  cases e
  obtain ⟨rfl,h⟩:=h
  have hd:=h.d
  have hl:=h.l
  have c1:=xQ (n:=((aa (val y*val y).toNat).length:Int)) (by omega)
  exact ⟨aal y,300,xO y,_,_,_,_,_,Xa h,rfl,rfl,⟨rfl,⟨rfl,rfl⟩,trivial⟩,afj y,rfl,⟨⟨⟨⟨rfl,rfl⟩,hd,hd,by omega⟩,⟨by omega,by omega,by omega⟩⟩,⟨rfl,rfl,rfl⟩⟩,rfl,rfl,rfl,rfl⟩
 .cases e
def tZ2:List (FuncId×pu):=(101,dI hG0 .i64 [.li,.nu (.i .i64)] aao) :: tZ
theorem aap:∀ x∈tZ2,NOk Tryz.prog (fun _=>none) hG0 x.1 x.2:=by
 intro x hx
 rcases List.mem_cons.1 hx with rfl|hx
 .exact OL
 exact YB x hx
def SG:AFr:=⟨103,none⟩
def dwA:Code:=jE Tryz.prog 103 0
noncomputable def dwS (a:List Int):St:=vT cZ 300 103 (xO a) (zH a)
def dwV (a:List Int):Int:=val a*val (aa (4294967296:Int).toNat)
def dwP (i n:Int):Patch:=⟨(5,.int true .i64 n) :: (7,.int true .i64 i) :: gz 17 11,[],[]⟩
def dwU (a:List Int):SumL (Int×Int):=
 {
  S:=fun (i,n)=>dwP i n
  I:=fun (i,n)=>-1<=i/\i<(cutL (dwV a)).length/\n=val ((cutL (dwV a)).drop (i+1).toNat)
  μ:=fun (i,_)=>(i+1).toNat
  F:=fun _=>(.exit 0,dwP (-1) (dwV a / PP))
  next:=fun (i,n)=>(i - 1,n*1000000000+(cutL (dwV a)).getD i.toNat 0)
  ids:=fun _=>[]
  X:=fun (i,n) _=>some (dwP i n,[]) }
end
end Go.Proofs.YtmnhhlnbfkfkaaaGreat.K
