/- What is proved: TurnKeeps returns true, whatever the input (part 16). No conditions beyond those of the row. -/
import Derived.Test.YtmnhhlnbfkfkaaaGreatPO
set_option linter.unusedVariables false
set_option linter.unusedSimpArgs false
set_option linter.unusedSectionVars false
namespace Go.Proofs.YtmnhhlnbfkfkaaaGreat.K
open Go Go.Eng Go.Dg Go.Ar Go.Vc Go.Sn
noncomputable section
def kpX (p q r s:Int):Bool:=bif decide (p>r) then true else decide (q<s)
def kpC (B V:Ve):Bool:=kpX B.a B.b V.a V.b||(!kpX B.a B.b V.a V.b)&&(kpX B.c B.d V.c V.d||(!kpX B.c B.d V.c V.d)&&kpX B.e B.f V.e V.f)
def kpM (n m:Sp):Bool:=bif decide (n.lo<=m.hi) then decide (m.lo<=n.hi) else false
section
variable (F:KpF) (R:Mat) (ro:Int) (V:Ve)
def kpB:Ve:=F.tv (flip R) (F.tv R V)
def kpN:Prop:=((ro != 0)=false/\((F.ck R != 0)=true->true=false)/\((F.ck R != 0)=false->((F.te R V != 0)=true->true=false)/\((F.te R V != 0)=false->(F.te (flip R) (F.tv R V) != 0)=false))) /\
 (((!kpX (kpB F R V).a (kpB F R V).b V.a V.b)&&((!kpX (kpB F R V).c (kpB F R V).d V.c V.d)&&!kpX (kpB F R V).e (kpB F R V).f V.e V.f))=true->(((F.nm V).e==0)=true->((F.nm (F.tv R V)).e==0)=true)/\(((F.nm V).e==0)=false->false=true))
def kpY:Bool:=bif kpM (F.nm V) (F.nm (F.tv R V)) then bif F.te uM V==0 then bif veE (F.tv uM V) V then bif F.mo uM R==0 then mtE (F.mv uM R) R else false else false else false else false
def kpV:Bool:=bif kpC (kpB F R V) V then false else bif (F.nm V).e==0 then kpY F R V else kpY F R V
end
def kpR (F:KpF) (x y z:Int):Mat:=F.rv (x.tmod 360000001) (y.tmod 360000001) (z.tmod 360000001)
def kpO (F:KpF) (x y z:Int):Int:=F.ro (x.tmod 360000001) (y.tmod 360000001) (z.tmod 360000001)
def kpW (F:KpF) (a b c d e f g h i:Int):Ve:=⟨F.sl a b,F.sh a b c,F.sl d e,F.sh d e f,F.sl g h,F.sh g h i⟩
def i9 (a b c d e f g h i:Int):List AV:=[.int true .i64 a,.int true .u8 b,.int true .u32 c,.int true .i64 d,.int true .u8 e,.int true .u32 f,.int true .i64 g,.int true .u8 h,.int true .u32 i]
theorem ab7 (F:KpF) (x y z a b c d e f g h i:Int):Qn hG0.size hG0.clock ((run (cKp F) 3000).call 6 [.agg (i3 x y z),.agg (i9 a b c d e f g h i)] hG0)=some (.p (kpN F (kpR F x y z) (kpO F x y z) (kpW F a b c d e f g h i)),.bool true (kpV F (kpR F x y z) (kpW F a b c d e f g h i))):=by kernel_rfl
theorem Yi {x y z:Int} {V:Ve} (h:BdV 73014444032 V):kpN kpF (bG x y z) 0 V/\kpV kpF (bG x y z) V=true:=by
 obtain ⟨hc,t0,b0,ht,_,⟨a1,a2⟩,⟨c1,c2⟩,e1,e2⟩:=Nh (x:=x) (y:=y) (z:=z) h
 obtain ⟨n1,n2,m1,m2⟩:=Yf (x:=x) (y:=y) (z:=z) h
 obtain ⟨u1,u2⟩:=O7 h (by decide) (by decide)
 obtain ⟨v1,v2⟩:=UC (Ng x y z) (by decide) (by decide)
 have kx:∀ {p q r s:Int},p<=r->s<=q->kpX p q r s=false:=fun h k=>by
  unfold kpX
  rw [decide_eq_false (by omega),decide_eq_false (by omega)]; rfl
 have hB:kpB kpF (bG x y z) V=tuV mf1 (flip (bG x y z)) (tuV mf1 (bG x y z) V):=rfl
 have x1:kpX (kpB kpF (bG x y z) V).a (kpB kpF (bG x y z) V).b V.a V.b=false:=kx a1 a2
 have x2:kpX (kpB kpF (bG x y z) V).c (kpB kpF (bG x y z) V).d V.c V.d=false:=kx c1 c2
 have x3:kpX (kpB kpF (bG x y z) V).e (kpB kpF (bG x y z) V).f V.e V.f=false:=kx e1 e2
 have hn1:(kpF.nm V).e=0:=n1
 have hn2:(kpF.nm (kpF.tv (bG x y z) V)).e=0:=n2
 refine ⟨⟨⟨rfl,fun g=>?_,fun _=>⟨fun g=>?_,fun _=>?_⟩⟩,fun _=>⟨fun _=>?_,fun g=>?_⟩⟩,?_⟩
 .rw [show kpF.ck (bG x y z)=0 from hc] at g; cases g
 .rw [show kpF.te (bG x y z) V=0 from t0] at g; cases g
 .rw [show kpF.te (flip (bG x y z)) (kpF.tv (bG x y z) V)=0 from b0]; rfl
 .rw [hn2]; rfl
 .rw [hn1] at g; cases g
 .have hC:kpC (kpB kpF (bG x y z) V) V=false:=by
   unfold kpC
   rw [x1,x2,x3]; rfl
  have hM:kpM (kpF.nm V) (kpF.nm (kpF.tv (bG x y z) V))=true:=by
   unfold kpM
   rw [decide_eq_true (show (kpF.nm V).lo<=(kpF.nm (kpF.tv (bG x y z) V)).hi from m1),decide_eq_true (show (kpF.nm (kpF.tv (bG x y z) V)).lo<=(kpF.nm V).hi from m2)]; rfl
  unfold kpV kpY
  rw [hC,hn1,hM,show kpF.te uM V=0 from u1,show kpF.tv uM V=V from u2,show kpF.mo uM (bG x y z)=0 from v1,show kpF.mv uM (bG x y z)=bG x y z from v2,aex,aey]; rfl
theorem UH {x y z:Int} (hz:0<=z/\z<=4294967295):Bd 73014444032 (smL x y) (smH x y z):=by
 obtain ⟨h0,h1⟩:=Gp (y:=y) (k:=37) (by decide)
 have hD:1<=smD y/\smD y<=68719476737:=by
  unfold smD
  obtain ⟨n,hn⟩:∃ n:Nat,(smK y 37).toNat=n:=⟨_,rfl⟩
  rw [hn]
  have hn2:n<37:=by omega
  have hb:min n IntKind.i64.bits=n:=Nat.min_eq_left (by show n<=64; omega)
  rw [hb]
  have:∀ m,m<37->1<=wr (wr (1*2 ^ m)+1)/\wr (wr (1*2 ^ m)+1)<=68719476737:=by decide
  exact this n hn2
 have hL:-68719476736<=smL x y/\smL x y<=68719476736:=by
  unfold smL
  have a:=Int.tmod_lt_of_pos x (b:=smD y) (by omega)
  have b:=Int.lt_tmod_of_pos x (b:=smD y) (by omega)
  omega
 have hq:0<=z.fdiv (2 ^ min (smK y 32).toNat IntKind.u32.bits)/\z.fdiv (2 ^ min (smK y 32).toNat IntKind.u32.bits)<=z:=by
  have p:(0:Int)<2 ^ min (smK y 32).toNat IntKind.u32.bits:=Int.pow_pos (by decide)
  rw [Int.fdiv_eq_ediv_of_nonneg _ (by omega)]
  exact ⟨Int.ediv_nonneg hz.1 (by omega),Int.ediv_le_self _ hz.1⟩
 have e1:wr (z.fdiv (2 ^ min (smK y 32).toNat IntKind.u32.bits))=z.fdiv (2 ^ min (smK y 32).toNat IntKind.u32.bits):=qR (by omega) (by omega)
 have e2:smH x y z=smL x y+z.fdiv (2 ^ min (smK y 32).toNat IntKind.u32.bits):=by
  unfold smH
  rw [e1]; exact qR (by omega) (by omega)
 rw [e2]
 exact ⟨by omega,by omega,by omega⟩
theorem Lc (x:Int):jH (x.tmod 360000001)=false:=by
 have a:=Int.tmod_lt_of_pos x (b:=360000001) (by decide)
 have b:=Int.lt_tmod_of_pos x (b:=360000001) (by decide)
 unfold jH
 rw [decide_eq_false (by omega),decide_eq_false (by omega)]; rfl
def UI:List Sh:=[age,aew]
theorem Ld:∀ xs,xs.map Nu.isN=Sh.kindsL UI->aD (Sh.leavesL UI) xs->LZ Tryz.prog (fun _=>none) hG0 6 (Sh.mkL UI xs).1:=by
 intro xs hk hr
 obtain ⟨x,_,rfl,h1⟩:=kn hk; obtain ⟨y,_,rfl,h2⟩:=kn h1; obtain ⟨z,_,rfl,h3⟩:=kn h2
 obtain ⟨a,_,rfl,g1⟩:=kn h3; obtain ⟨b,_,rfl,g2⟩:=kn g1; obtain ⟨c,_,rfl,g3⟩:=kn g2
 obtain ⟨d,_,rfl,g4⟩:=kn g3; obtain ⟨e,_,rfl,g5⟩:=kn g4; obtain ⟨f,_,rfl,g6⟩:=kn g5
 obtain ⟨g,_,rfl,g7⟩:=kn g6; obtain ⟨h,_,rfl,g8⟩:=kn g7; obtain ⟨i,_,rfl,g9⟩:=kn g8; obtain rfl:=k0 g9
 have hr:IntKind.i64.has x/\IntKind.i64.has y/\IntKind.i64.has z/\IntKind.i64.has a/\IntKind.u8.has b/\IntKind.u32.has c/\IntKind.i64.has d/\IntKind.u8.has e/\IntKind.u32.has f/\IntKind.i64.has g/\IntKind.u8.has h/\IntKind.u32.has i/\True:=hr
 obtain ⟨_,_,_,_,_,rc,_,_,rf,_,_,ri,_⟩:=hr
 have un:∀ {w:Int},IntKind.u32.has w->0<=w/\w<=4294967295:=fun h=>h
 have rc:=un rc
 have rf:=un rf
 have ri:=un ri
 have hV:BdV 73014444032 (kpW kpF a b c d e f g h i):=⟨UH rc,UH rf,UH ri⟩
 have hb:sV (x.tmod 360000001) (y.tmod 360000001) (z.tmod 360000001)=false:=by
  unfold sV
  rw [Lc,Lc,Lc]; rfl
 have eR:kpR kpF x y z=bG (x.tmod 360000001) (y.tmod 360000001) (z.tmod 360000001):=by
  show pI _ _ _=_
  unfold pI
  rw [hb]; rfl
 have eO:kpO kpF x y z=0:=by
  show sG _ _ _=_
  unfold sG
  rw [hb]; rfl
 have r:=ab7 kpF x y z a b c d e f g h i
 rw [eR,eO] at r
 obtain ⟨t1,t2⟩:=Yi (x:=x.tmod 360000001) (y:=y.tmod 360000001) (z:=z.tmod 360000001) hV
 rw [t2] at r
 exact ⟨cKp kpF,3000,_,_,_,ab6,rfl,rfl,r,t1,rfl⟩
end
end Go.Proofs.YtmnhhlnbfkfkaaaGreat.K
