/- What is proved: MtfTwo returns true, whatever the input (part 29). No conditions beyond those of the row. -/
import Derived.Test.YtbiiiloimbjpaaaGreatDoorPH
import Derived.Test.YtbiiiloimbjpaaaGreatDoorPM
import Derived.Test.YtbiiiloimbjpaaaGreatDoorPY
import Derived.Test.YtbiiiloimbjpaaaGreatDoorPb
set_option linter.unusedVariables false
set_option linter.unusedSimpArgs false
set_option linter.unusedSectionVars false
namespace Go.Proofs.YtbiiiloimbjpaaaGreatDoor.K
open Go Go.Eng Go.Dg Go.Ar Go.Vc
noncomputable section
def gdV (s:Sp):AV:=.tuple [.agg [.int true .i64 s.lo,.int true .i64 s.hi],.int false .i64 0]
theorem NN {σ:Sg} {s:Bool} {x:Sp} {W:Value} (h:VRel σ ((yu x).av s) W) (f:x.e=0):VRel σ (gdV x) W:=by obtain ⟨K,rfl,h1⟩:=h;obtain ⟨w,g,i,h2,h3⟩:=h1;obtain ⟨j,k,l,a,m⟩:=h3;obtain ⟨n,rfl,o⟩:=h2;obtain ⟨p,q,e3,b,r⟩:=o;obtain ⟨t,u,v,c,d⟩:=r;have a:=(Go.Eng.mkInt_rel _ _ _ _).1 a;have b:=(Go.Eng.mkInt_rel _ _ _ _).1 b;have c:=(Go.Eng.mkInt_rel _ _ _ _).1 c;rw [f] at a;exact ⟨K,rfl,_,g,i,⟨n,rfl,p,q,e3,b,t,u,v,c,d⟩,j,k,l,a,m⟩
def k4 (f:List Sh) (F G:Int->Int->Int->Int->Sp):eT:=fun args=>match Sh.readL f args with
 | some (s,[.n a,.n b,.n c,.n d])=>match s with
  | true=>some (.p ((F a b c d).e=0),gdV (F a b c d))
  | false=>some (.tt,(yu (G a b c d)).av false)
 | _=>none
def k2 (F G:Int->Int->Sp):eT:=fun args=>match Sh.readL [shS] args with
 | some (s,[.n a,.n b])=>match s with
  | true=>some (.p ((F a b).e=0),gdV (F a b))
  | false=>some (.tt,(yu (G a b)).av false)
 | _=>none
theorem anC {f:FuncId} {F:Int->Int->Int->Int->Sp} (g:PureOk Tryz.prog f (Zr F)):GOk Tryz.prog glob hG f (k4 [shS,shS] F F):=by
 refine (g.g glob hG).weaken fun args nd v e=>?_;unfold k4 at e;split at e
 .rename_i s a b c d i;cases s <;> cases e
  .exact ⟨.tt,(yu (F a b c d)).av false,by unfold Zr fD;rw [i],fun hn=>⟨trivial,fun σ W h=>h⟩⟩
  .exact ⟨.tt,(yu (F a b c d)).av true,by unfold Zr fD;rw [i],fun hn=>⟨trivial,fun σ W h=>NN h hn⟩⟩
 .cases e
theorem arn {f:FuncId} {F:Int->Int->Int->Int->Sp} (g:PureOk Tryz.prog f (sSc F)):GOk Tryz.prog glob hG f (k4 [shS,.i .i64,.i .i64] F F):=by
 refine (g.g glob hG).weaken fun args nd v e=>?_;unfold k4 at e;split at e
 .rename_i s a b c d j;cases s <;> cases e
  .exact ⟨.tt,(yu (F a b c d)).av false,by unfold sSc fD;rw [j],fun hn=>⟨trivial,fun σ W h=>h⟩⟩
  .exact ⟨.tt,(yu (F a b c d)).av true,by unfold sSc fD;rw [j],fun hn=>⟨trivial,fun σ W h=>NN h hn⟩⟩
 .cases e
theorem aiR {f:FuncId} {F:Int->Int->Sp} (g:PureOk Tryz.prog f (sUn F)):GOk Tryz.prog glob hG f (k2 F F):=by
 refine (g.g glob hG).weaken fun args nd v e=>?_;unfold k2 at e;split at e
 .rename_i s a b d;cases s <;> cases e
  .exact ⟨.tt,(yu (F a b)).av false,by unfold sUn fD;rw [d],fun hn=>⟨trivial,fun σ W c=>c⟩⟩
  .exact ⟨.tt,(yu (F a b)).av true,by unfold sUn fD;rw [d],fun hn=>⟨trivial,fun σ W c=>NN c hn⟩⟩
 .cases e
def kSn (N:Int->Int->Bool) (L H:Int->Int->Int):eT:=fun args=>match Sh.readL alN args with
 | some (true,[.n n,.n d])=>match decide (d=4294967296) with
  | true=>some (.p (N n d=true),.tuple [.agg [.int true .i64 (L n d),.int true .i64 (H n d)],.int false .i64 0])
  | false=>none
 | _=>none
theorem Tu {f:FuncId} {N:Int->Int->Bool} {L H:Int->Int->Int} (g:PureOk Tryz.prog f (FW N L H snE)):GOk Tryz.prog glob hG f (kSn N L H):=by
 refine (g.g glob hG).weaken fun args nd v e=>?_;unfold kSn at e;split at e
 .rename_i n d b;split at e
  .rename_i hd;cases e;have hd:=bK hd;subst hd;exact ⟨.p (N n 4294967296=true),(Tm.u [.a [.n .i64 (L n 4294967296),.n .i64 (H n 4294967296)],.n .i64 (snE 4294967296)]).av true,by unfold FW fD;rw [b],fun hn=>⟨hn,fun σ W c=>c⟩⟩
  .cases e
 .cases e
def kCk (O:Int->Int->Bool):eT:=fun args=>match Sh.readL [shS] args with
 | some (s,[.n a,.n b])=>match s with
  | true=>some (.p (O a b=true),.int false .i64 0)
  | false=>match fQ a b with
   | true=>some (.tt,.int false .i64 0)
   | false=>none
 | _=>none
structure TwF where
 ad:Int->Int->Int->Int->Sp
 sc:Int->Int->Int->Int->Sp
 sq:Int->Int->Sp
 rt:Int->Int->Sp
 ok:Int->Int->Bool
 lo:Int->Int->Int->Int
 hi:Int->Int->Int->Int
 n:Int->Int->Int->Bool
 nr:Int->Int->Int->Bool
def twF:TwF:=⟨qP,p9,oh,uk,fQ,j6,kg,snN,XA⟩
theorem anD:GOk Tryz.prog glob hG 67 (kCk fQ):=by
 refine (UD.g glob hG).weaken fun args nd v e=>?_;unfold kCk at e;split at e
 .rename_i s a b d;split at e
  .cases e;refine ⟨.tt,gB true .i64 (Zt a b),by unfold aeA fD;rw [d];rfl,fun hn=>⟨trivial,fun σ W c=>?_⟩⟩;have hn:fQ a b=true:=hn;have:=(Go.Eng.mkInt_rel _ _ _ _).1 c;unfold Zt at this;rw [hn] at this;exact this
  .split at e
   .rename_i f;cases e;refine ⟨.tt,gB false .i64 (Zt a b),by unfold aeA fD;rw [d];rfl,fun hn=>⟨trivial,fun σ W c=>?_⟩⟩;have:=(Go.Eng.mkInt_rel _ _ _ _).1 c;unfold Zt at this;rw [f] at this;exact this
   .cases e
 .cases e
def ac2 (F:TwF):List (FuncId×ku):=[(10,Uk (.bool false true)),(30,hN (gH (kSn (F.n 0) (F.lo 0) (F.hi 0)))),(29,hN (gH (kSn (F.n 1) (F.lo 1) (F.hi 1)))),(14,hN (gH (kSn (F.nr 1) (F.lo 1) (F.hi 1)))),
 (67,hN (gH (kCk F.ok))),(32,hN (gH (k4 [shS,shS] F.ad qP))),(33,hN (gH (k2 F.sq oh))),(35,hN (gH (k2 F.rt uk))),(34,hN (gH (k4 [shS,.i .i64,.i .i64] F.sc p9)))]
theorem ac3:∀ x∈ac2 twF,NOk Tryz.prog glob hG x.1 x.2:=by
 intro x a;simp only [ac2,aN,eX,eY] at a;rcases a with rfl|rfl|rfl|rfl|rfl|rfl|rfl|rfl|rfl
 .exact ac1
 .exact (Tu U6).h.n
 .exact (Tu La).h.n
 .exact (Tu Tq).h.n
 .exact anD.h.n
 .exact (anC UE).h.n
 .exact (aiR UF).h.n
 .exact (aiR PO).h.n
 .exact (arn KR).h.n
def hTw:List (Nat×Nat×AV)->Nat->Nat->Option AV
 | [],_,_=>none
 | (a,b,v) :: l,c,t=>match Nat.beq t b&&Nat.beq a c with
  | true=>some v
  | false=>hTw l c t
def cTw (F:TwF):Ctx:=eZ (mkN Tryz.prog glob hG (ac2 F) [] ext) (hTw [(322,20,.bool false false)])
theorem anE:CtxOk (cTw twF):=bW (mf prog_ok ext_ok ac3 (fun _ h=>by cases h)) _
end
end Go.Proofs.YtbiiiloimbjpaaaGreatDoor.K
namespace Go.Sn
open Go
def sg (n:Nat):Rat:=if n % 2=0 then 1 else -1
theorem ahO (n:Nat):sg (n+1)=-sg n:=by
 unfold sg;rcases yS n with h|h
 .rw [aB (by omega),aC h]
 .rw [aC (by omega),aB (by omega)];grind
theorem aro (x:Rat):∀ n,e (-x) n=sg n*e x n:=by
 intro n
 induction n with
 | zero=>show (1:Rat)=sg 0*1;rw [show sg 0=1 from aC rfl];grind
 | succ n a=>
  have h1:=lN (-x) n;have h2:=lN x n;have hp:=vK n;rw [a] at h1;have h3:((n+1:Nat):Rat)*(e (-x) (n+1) - sg (n+1)*e x (n+1))=0:=by
   rw [ahO];have:((n+1:Nat):Rat)*(e (-x) (n+1) - -sg n*e x (n+1))=((n+1:Nat):Rat)*e (-x) (n+1)+sg n*(((n+1:Nat):Rat)*e x (n+1)):=by grind
   rw [this,h1,h2];grind
  rcases Rat.mul_eq_zero.mp h3 with h|h
  .grind
  .grind
def Rd (d:Nat->Nat->Rat) (a b:Rat) (N:Nat):Rat:=sum (fun p=>e a p*sum (fun q=>d p q*e b q) N) N
def Td (d:Nat->Nat->Rat) (a b:Rat) (N:Nat):Rat:=sum (fun p=>e a p*sum (fun q=>d p q*e b q) (N - p)) N
theorem ahP {d:Nat->Nat->Rat} (hd:∀ p q,-1<=d p q/\d p q<=1) {a b:Rat} (ha:0<=a) (hb:0<=b) (N:Nat):-tail N (a+b)<=Rd d a b N - Td d a b N/\Rd d a b N - Td d a b N<=tail N (a+b):=by
 have j:-(Rc one a b N - T one a b N)<=Rd d a b N - Td d a b N/\Rd d a b N - Td d a b N<=Rc one a b N - T one a b N:=by
  have c:∀ p,p<N->-(e a p*sum (fun q=>one (p+q)*e b q) N - e a p*sum (fun q=>one (p+q)*e b q) (N - p))<=e a p*sum (fun q=>d p q*e b q) N - e a p*sum (fun q=>d p q*e b q) (N - p) /\
    e a p*sum (fun q=>d p q*e b q) N - e a p*sum (fun q=>d p q*e b q) (N - p)<=e a p*sum (fun q=>one (p+q)*e b q) N - e a p*sum (fun q=>one (p+q)*e b q) (N - p):=by
   intro p hp;have h:∀ i,i<N->-(one (p+i)*e b i)<=d p i*e b i/\d p i*e b i<=one (p+i)*e b i:=by intro i _;have h1:=yK hb i;have h2:=hd p i;have h3:=bB (a:=d p i+1) (by grind) h1;have k:=bB (a:=1 - d p i) (by grind) h1;simp only [one];grind
   obtain ⟨h1,h2⟩:=Jk (f:=fun q=>d p q*e b q) (g:=fun q=>one (p+q)*e b q) (Nat.sub_le N p) h;have h3:=yK ha p;have k:=bA h1 h3;have o:=bA h2 h3;grind
  have l:Rc one a b N - T one a b N=sum (fun p=>e a p*sum (fun q=>one (p+q)*e b q) N - e a p*sum (fun q=>one (p+q)*e b q) (N - p)) N:=by unfold Rc T;rw [<- Nb]
  have m:Rd d a b N - Td d a b N=sum (fun p=>e a p*sum (fun q=>d p q*e b q) N - e a p*sum (fun q=>d p q*e b q) (N - p)) N:=by unfold Rd Td;rw [<- Nb]
  rw [l,m];constructor
  .have:=E5 (f:=fun p=>-1*(e a p*sum (fun q=>one (p+q)*e b q) N - e a p*sum (fun q=>one (p+q)*e b q) (N - p))) (g:=fun p=>e a p*sum (fun q=>d p q*e b q) N - e a p*sum (fun q=>d p q*e b q) (N - p)) (n:=N) (fun p hp=>by have:=(c p hp).1;grind);rw [jb] at this;grind
  .exact E5 fun p hp=>(c p hp).2
 rw [abf] at j;have:=abg ha hb N;unfold tail;grind
def dC (p q:Nat):Rat:=cF p*cF q+sF p*sF q
theorem aiS (p q:Nat):dC p q=cF (p+q)*sg q:=by unfold dC;rw [abk];unfold cF sF sg;rcases Bu q with h|h|h|h <;> simp only [h] <;> first|(rw [aC (by omega)];grind)|(rw [aB (by omega)];grind)
theorem arp (p q:Nat):-1<=dC p q/\dC p q<=1:=by rw [aiS];have:=abj (p+q);unfold sg;split <;> grind
theorem arq (a:Rat) (N:Nat):Rd dC a a N=C N a*C N a+S N a*S N a:=by
 unfold Rd;have h:∀ p,e a p*sum (fun q=>dC p q*e a q) N=C N a*(cF p*e a p)+S N a*(sF p*e a p):=by
  intro p;have h1:sum (fun q=>dC p q*e a q) N=cF p*C N a+sF p*S N a:=by unfold C S Z;rw [<- jb,<- jb,<- uo];exact jo fun q _=>by unfold dC;grind
  rw [h1];grind
 rw [jo (fun p _=>h p),uo,jb,jb];unfold S C Z;grind
theorem anF (a:Rat) (N:Nat):Td dC a a N=Z cF N 0:=by
 have h:Td dC a a N=T cF a (-a) N:=by
  unfold Td T;refine jo fun p _=>?_
  congr 1
  refine jo fun q _=>?_;rw [aiS,aro];grind
 rw [h,abf]
 congr 1;grind
theorem anG:Z cF 64 0=1:=by decide +kernel
theorem anH {a:Rat} (ha:0<=a):-tail 64 (a+a)<=C 64 a*C 64 a+S 64 a*S 64 a - 1/\C 64 a*C 64 a+S 64 a*S 64 a - 1<=tail 64 (a+a):=by have h:=ahP arp ha ha 64;rw [arq,anF,anG] at h;exact h
def ta:Rat:=1 / 1532495540865888858358347027150309183618739122183602176
theorem Tv:tail 64 (16 / 5)<=ta:=by decide +kernel
theorem ahQ:1 - ta<=S 64 hp/\S 64 hp<=1+ta:=by decide +kernel
theorem anI:-ta<=C 64 hp/\C 64 hp<=ta:=by decide +kernel
theorem pb {x y X Y:Rat} (h1:-X<=x) (h2:x<=X) (h3:-Y<=y) (c:y<=Y):-(X*Y)<=x*y/\x*y<=X*Y:=by have a1:=bB (a:=X - x) (b:=Y - y) (by grind) (by grind);have a2:=bB (a:=X+x) (b:=Y+y) (by grind) (by grind);have d:=bB (a:=X - x) (b:=Y+y) (by grind) (by grind);have f:=bB (a:=X+x) (b:=Y - y) (by grind) (by grind);constructor <;> grind
theorem ac4 {x:Rat} (h:x*x<=4):-2<=x/\x<=2:=by
 constructor
 .by_cases h1:-2<=x
  .exact h1
  .have:=zK (a:=-2 - x) (b:=2 - x) (by grind) (by grind);grind
 .by_cases h1:x<=2
  .exact h1
  .have:=zK (a:=x - 2) (b:=x+2) (by grind) (by grind);grind
theorem aiT (x:Rat):0<=x*x:=by
 rcases Eh (a:=0) (b:=x) with h|h
 .exact bB h h
 .have:=bB (a:=-x) (b:=-x) (by grind) (by grind);grind
theorem j5:0<=ta/\ta<=1 / 1000:=by decide +kernel
theorem circle' {a:Rat} (b:0<=a) (h1:a<=8 / 5):-ta<=C 64 a*C 64 a+S 64 a*S 64 a - 1/\C 64 a*C 64 a+S 64 a*S 64 a - 1<=ta:=by have h:=anH b;have:=(vL (x:=a+a) (y:=16 / 5) (by grind) (by grind) 64).2;have:=Tv;grind
theorem two_of {c s t:Rat} (t1:t<=1 / 1000) (h:c*c+s*s - 1<=t):(-2<=c/\c<=2)/\(-2<=s/\s<=2):=by have:=aiT c;have:=aiT s;exact ⟨ac4 (by grind),ac4 (by grind)⟩
theorem ac5 {sa ca sb cb t d f a:Rat} (t0:0<=t) (t1:t<=1 / 1000) (b:ca*ca+sa*sa - 1=a) (u:-t<=a) (v:a<=t)
  (hb:cb*cb+sb*sb - 1<=t) (h1:sa*cb+ca*sb - 1=d) (h2:ca*cb - sa*sb=f) (g:-(2*t)<=d) (h:d<=2*t) (i:-(2*t)<=f) (j:f<=2*t):
  -(10*t)<=ca - sb/\ca - sb<=10*t/\-(41*t)<=sa*sa+sb*sb - 1/\sa*sa+sb*sb - 1<=41*t:=by
 obtain ⟨⟨k,l⟩,m,n⟩:=two_of (c:=ca) (s:=sa) t1 (by grind);obtain ⟨_,o,p⟩:=two_of (c:=cb) (s:=sb) t1 hb;have hD:ca - sb=sb*a+sa*f - ca*d:=by rw [<- b,<- h1,<- h2];grind
 have z:=pb o p u v;have p2:=pb m n i j;have A:=pb k l g h;have q:-(10*t)<=ca - sb:=by rw [hD];grind
 have r:ca - sb<=10*t:=by rw [hD];grind
 have D:=pb (x:=ca - sb) (y:=ca+sb) (X:=10*t) (Y:=4) q r (by grind) (by grind);have w:sa*sa+sb*sb - 1=a - (ca - sb)*(ca+sb):=by rw [<- b];grind
 refine ⟨q,r,?_,?_⟩ <;> rw [w] <;> grind
theorem ac6 {q:Rat} (f:0<=q) (h1:q<=1):-(41*ta)<=tru q*tru q+tru (1 - q)*tru (1 - q) - 1/\tru q*tru q+tru (1 - q)*tru (1 - q) - 1<=41*ta:=by
 obtain ⟨a0,a1⟩:=yO f h1;obtain ⟨a,g⟩:=yO (q:=1 - q) (by grind) (by grind);have b:hp*q+hp*(1 - q)=hp:=by grind
 have d:=circle' a0 a1;have i:=circle' a g;have s:=Ag a0 a 64;have c:=CV a0 a 64;rw [b] at s c;have tl:tail 64 hp<=ta:=by have h:=(vL (x:=hp) (y:=16 / 5) Jl.1 (by have:=Jl.2.1;grind) 64).2;have:=Tv;grind
 have sh:=ahQ;have j:=anI;have t:=j5;have r:=ac5 (sa:=S 64 (hp*q)) (ca:=C 64 (hp*q)) (sb:=S 64 (hp*(1 - q))) (cb:=C 64 (hp*(1 - q))) t.1 t.2 rfl d.1 d.2 i.2 rfl rfl (by grind) (by grind) (by grind) (by grind);exact r.2.2
end Go.Sn
namespace Go.Rd
open Go Go.Eng Go.Ar
structure Bd (s:Sp) (M:Int):Prop where
 e:s.e=0
 lo:-M<=s.lo
 le:s.lo<=s.hi
 hi:s.hi<=M
structure En (s:Sp) (N D:Int):Prop where
 lo:s.lo*D<=N
 hi:N<=s.hi*D
theorem anJ {n d:Int} (hd:0<d):rd n d false*d<=n/\n<rd n d false*d+d:=by have h1:=gL n d;have h2:=dE n (show d≠0 by omega);have h3:=d9 n hd;show n / d*d<=n/\n<n / d*d+d;rw [eO] at h1;omega
theorem ars {n d:Int} (hd:0<d):n<=rd n d true*d/\rd n d true*d<n+d:=by have:=anJ (n:=-n) hd;have e:rd n d true=-(rd (-n) d false):=rfl;rw [e,rZ];omega
theorem ac7 {n d M:Int} (hd:0<d) (h:n<=M*d):rd n d true<=M:=by
 have:=(ars (n:=n) hd).2;rcases nz M (rd n d true) with c|c
 .have:(M+1)*d<=rd n d true*d:=bG (by omega) (by omega);rw [iQ] at this;omega
 .exact c
theorem ac8 {n d M:Int} (hd:0<d) (h:M*d<=n):M<=rd n d false:=by
 have:=(anJ (n:=n) hd).2;rcases nz (rd n d false) M with c|c
 .have:(rd n d false+1)*d<=M*d:=bG (by omega) (by omega);rw [iQ] at this;omega
 .exact c
structure Wi (s t:Sp):Prop where
 lo:t.lo<=s.lo
 le:s.lo<=s.hi
 hi:s.hi<=t.hi
structure Ri (s:Sp):Prop where
 lo:-4503599627370496<=s.lo
 le:s.lo<=s.hi
 hi:s.hi<=4503599627370496
theorem Ri.ok {s:Sp} (h:Ri s):fQ s.lo s.hi=true:=dx.2 ⟨h.lo,h.le,h.hi⟩
theorem Ri.of {s:Sp} (h:fQ s.lo s.hi=true):Ri s:=let k:=dx.1 h;⟨k.1,k.2.1,k.2.2⟩
theorem GM {lo hi:Int} (h:(nM lo hi).e=0):nM lo hi=⟨lo,hi,0⟩/\-4503599627370496<=lo/\lo<=4503599627370496/\-4503599627370496<=hi/\hi<=4503599627370496:=by
 unfold nM at h ⊢;cases h1:okF lo <;> cases h2:okF hi <;> rw [h1,h2] at h
 .cases h
 .cases h
 .cases h
 .have:=gW.1 h1;have:=gW.1 h2;exact ⟨rfl,by omega,by omega,by omega,by omega⟩
theorem NP {lo hi:Int} (h1:-4503599627370496<=lo) (h2:lo<=4503599627370496) (h3:-4503599627370496<=hi) (a:hi<=4503599627370496):nM lo hi=⟨lo,hi,0⟩:=by unfold nM;rw [gW.2 (by omega),gW.2 (by omega)];rfl
theorem Vn {a b c d:Int} {r:Sp} (h:(MC a b c d r).e=0):fQ a b=true/\fQ c d=true/\MC a b c d r=r:=by
 unfold MC at h ⊢;cases h1:fQ a b <;> cases h2:fQ c d <;> rw [h1,h2] at h
 .cases h
 .cases h
 .cases h
 .exact ⟨rfl,rfl,rfl⟩
theorem ahR {a b c d:Int} {r:Sp} (h1:fQ a b=true) (h2:fQ c d=true):MC a b c d r=r:=by unfold MC;rw [h1,h2];rfl
theorem Fj {n d m:Int} (hd:0<d):m<=rd n d false ↔ m*d<=n:=by
 constructor
 .intro h;have:=(anJ (n:=n) hd).1;have:=bG h (fK hd);omega
 .exact ac8 hd
theorem Fp {n d m:Int} (hd:0<d):rd n d true<=m ↔ n<=m*d:=by
 constructor
 .intro h;have:=(ars (n:=n) hd).1;have:=bG h (fK hd);omega
 .exact ac7 hd
theorem Wi.at {s t:Sp} (w:Wi s t) {x:Int} (h:x=s.lo\/x=s.hi):t.lo<=x/\x<=t.hi:=by obtain ⟨E,J,O⟩:=w;omega
theorem sq_le {a b:Int} (h:0<=a) (k:a<=b):a*a<=b*b:=bC k k h (jk h k)
def ng (s:Sp):Sp:=⟨-s.hi,-s.lo,s.e⟩
def gt:List Sp->Nat->Sp
 | [],_=>⟨0,0,0⟩
 | a :: _,0=>a
 | _ :: l,i+1=>gt l i
inductive Wis:List Sp->List Sp->Prop where
 | nil:Wis [] []
 | cons {a b:Sp} {l m:List Sp}:Wi a b->Wis l m->Wis (a :: l) (b :: m)
theorem Wis.gt {l m:List Sp} (h:Wis l m):∀ i,Wi (gt l i) (gt m i):=by
 induction h with
 | nil=>exact fun _=>⟨dO _,dO _,dO _⟩
 | cons w _ E=>
  intro i
  cases i with
  | zero=>exact w
  | succ i=>exact E i
def okSc (n d:Int):Prop:=okR n d=true->4503599627370496*sg n n<18446744073709551615*d
theorem anK {a b:Int} (h:fQ a b=true):0<=abH a b/\abH a b<=4503599627370496:=by have:=dx.1 h;unfold abH;have:=tN b (-a);omega
theorem sc_eq {a b n d:Int} (k:okSc n d):p9 a b n d=ol a b n d:=by
 refine RQ a b n d fun h1 h2=>?_;have:=k h2;have p:=anK h1;have q:0<=sg n n:=by
  unfold sg
  cases h:decide (n<0) with
  | true=>have:=bK h;show 0<=-n;omega
  | false=>have:=dJ h;show 0<=n;omega
 have:=bG p.2 q;omega
def tn (b:Bool) (s:Sp):Sp:=bif b then ng s else s
inductive Tns:List Bool->List Sp->List Sp->Prop where
 | nil:Tns [] [] []
 | cons {b:Bool} {a c:Sp} {bs:List Bool} {l m:List Sp}:a=tn b c->Tns bs l m->Tns (b :: bs) (a :: l) (c :: m)
def bt:List Bool->Nat->Bool
 | [],_=>false
 | a :: _,0=>a
 | _ :: l,i+1=>bt l i
theorem Tns.gt {bs:List Bool} {l m:List Sp} (h:Tns bs l m):∀ i,gt l i=tn (bt bs i) (gt m i):=by
 induction h with
 | nil=>exact fun _=>rfl
 | cons e _ E=>intro i;cases i with
  | zero=>exact e
  | succ i=>exact E i
theorem Tns.e {bs:List Bool} {l m:List Sp} (h:Tns bs l m) (i:Nat):(Go.Rd.gt l i).e=(Go.Rd.gt m i).e:=by rw [h.gt i];cases bt bs i <;> rfl
end Go.Rd
namespace Go.Iv
open Go Go.Ar Go.Rd
def cn (a b:Int) (x:Rat):Prop:=(a:Rat)<=x*4294967296/\x*4294967296<=(b:Rat)
theorem qd {a b:Int} (h:a<=b):(a:Rat)<=(b:Rat):=by exact_mod_cast h
theorem Tw {a b:Int} (h:(a:Rat)<=(b:Rat)):a<=b:=by exact_mod_cast h
theorem Vo {a b:Int} {x:Rat} (h:cn a b x):a<=b:=Tw (df h.1 h.2)
theorem atj:cn 0 0 0:=by unfold cn;push_cast;grind
theorem atl:cn 4294967296 4294967296 1:=by unfold cn;push_cast;grind
theorem Tx {a b c d:Int} {x y:Rat} (h:cn a b x) (k:cn c d y) (f:(x - y)*4294967296<1) (g:(y - x)*4294967296<1):a<=d/\c<=b:=by
 obtain ⟨h1,h2⟩:=h;obtain ⟨k1,k2⟩:=k;have p:(a:Rat)<((d+1:Int):Rat):=by
  have:((d+1:Int):Rat)=(d:Rat)+1:=by push_cast;rfl
  rw [this];grind
 have q:(c:Rat)<((b+1:Int):Rat):=by
  have:((b+1:Int):Rat)=(b:Rat)+1:=by push_cast;rfl
  rw [this];grind
 have p:a<d+1:=by exact_mod_cast p
 have q:c<b+1:=by exact_mod_cast q
 omega
theorem art {a b c d:Int} (e:(qP a b c d).e=0):qP a b c d=⟨a+c,b+d,0⟩:=by unfold qP at e ⊢;have h:=(Vn e).2.2;rw [h] at e ⊢;exact (GM e).1
theorem ac9 {a b c d:Int} {x y:Rat} (e:(qP a b c d).e=0) (h:cn a b x) (k:cn c d y):cn (qP a b c d).lo (qP a b c d).hi (x+y):=by rw [art e];obtain ⟨h1,h2⟩:=h;obtain ⟨k1,k2⟩:=k;unfold cn;push_cast;grind
theorem BA (a b:Rat):a<=b\/b<=a:=Eh
theorem Di {a b c:Rat} (h:a<=b) (d:0<=c):a*c<=b*c:=gm h d
theorem XD {a b c:Rat} (h:a<=b) (d:0<=c):c*a<=c*b:=bA h d
theorem ada {a b c:Rat} (h:a<=b) (d:c<=0):b*c<=a*c:=by have:=Di h (c:=-c) (by grind);grind
theorem rdf {n d:Int} (hd:0<d):((rd n d false:Int):Rat)*(d:Rat)<=(n:Rat):=by exact_mod_cast (Fj hd).1 (dO _)
theorem rdt {n d:Int} (hd:0<d):(n:Rat)<=((rd n d true:Int):Rat)*(d:Rat):=by exact_mod_cast (Fp hd).1 (dO _)
theorem Gf:(0:Int)<4294967296:=by decide
theorem aiU {l f:Int} {n D z:Rat} (hD:0<D) (h:l<=f) (a:(f:Rat)*D<=n) (b:n<=z*D):(l:Rat)<=z:=by have h:=qd h;exact df h (bH (df a b) hD)
theorem aiV {l f:Int} {n D z:Rat} (hD:0<D) (h:f<=l) (a:n<=(f:Rat)*D) (b:z*D<=n):z<=(l:Rat):=by have h:=qd h;exact df (bH (df b a) hD) h
theorem Ty {l X:Rat} (a:0<=l) (h:l<=X\/l<=-X):l*l<=X*X:=by
 rcases h with h|h
 .exact df (XD h a) (Di h (by grind))
 .have:=df (XD h a) (Di h (c:=-X) (by grind));grind
theorem sq_le {l X:Rat} (h:X<=l) (k:-X<=l):X*X<=l*l:=by
 rcases BA 0 X with a|a
 .exact df (XD h a) (Di h (by grind))
 .have:=df (XD k (c:=-X) (by grind)) (Di k (c:=l) (by grind));grind
theorem aru {a b:Int} (e:(oh a b).e=0):fQ a b=true/\oh a b=⟨rd (abL a b*abL a b) 4294967296 false,rd (abH a b*abH a b) 4294967296 true,0⟩:=by
 unfold oh at e ⊢
 cases h:fQ a b with
 | false=>rw [h] at e;cases e
 | true=>rw [h] at e;exact ⟨rfl,(GM e).1⟩
theorem anL {a b:Int} {x:Rat} (e:(oh a b).e=0) (h:cn a b x):cn (oh a b).lo (oh a b).hi (x*x):=by
 obtain ⟨m,j⟩:=aru e;rw [j];obtain ⟨h1,h2⟩:=h;have c:0<=abL a b:=(tN _ 0).2.1;have k:abL a b=a\/abL a b=-b\/abL a b=0:=by unfold abL;have p:=tN a (-b);have q:=tN (mx a (-b)) 0;omega
 have d:=tN b (-a);have D:(0:Rat)<4294967296:=by decide
 have f:x*x*4294967296*4294967296=x*4294967296*(x*4294967296):=by grind
 have g:=rdf (n:=abL a b*abL a b) Gf;have i:=rdt (n:=abH a b*abH a b) Gf;push_cast at g i;constructor
 .refine aiU D (dO _) g ?_;rw [f];have c0:(0:Rat)<=(abL a b:Rat):=by exact_mod_cast c
  rcases k with p|p|p
  .refine Ty c0 (.inl ?_);rw [p];exact h1
  .refine Ty c0 (.inr ?_);rw [p];push_cast;grind
  .rw [p];have:=Ty (l:=0) (X:=x*4294967296) zL (by rcases BA 0 (x*4294967296) with h|h <;> grind);exact this
 .refine aiV D (dO _) i ?_;rw [f];have p:(b:Rat)<=(abH a b:Rat):=by exact_mod_cast d.1
  have q:((-a:Int):Rat)<=(abH a b:Rat):=qd d.2.1;push_cast at q;exact sq_le (df h2 p) (by grind)
theorem ahS {a b n d:Int} (e:(ol a b n d).e=0):0<d/\ol a b n d=⟨rd (mn (a*n) (b*n)) d false,rd (mx (a*n) (b*n)) d true,0⟩:=by
 unfold ol at e ⊢
 cases h:fQ a b with
 | false=>rw [h] at e;cases e
 | true=>
  cases k:okR n d with
  | false=>rw [h,k] at e;cases e
  | true=>
   rw [h,k] at e;refine ⟨?_,(GM e).1⟩;unfold okR at k;simp only [aF,aT] at k;omega
theorem adb {a b n d:Int} {x:Rat} (e:(ol a b n d).e=0) (h:cn a b x):cn (ol a b n d).lo (ol a b n d).hi (x*(n:Rat) / (d:Rat)):=by
 obtain ⟨hd,g⟩:=ahS e;rw [g];obtain ⟨h1,h2⟩:=h;have D:(0:Rat)<(d:Rat):=by exact_mod_cast hd
 have f:x*(n:Rat) / (d:Rat)*4294967296*(d:Rat)=x*4294967296*(n:Rat):=by grind
 have m:=aoc (a*n) (b*n);have M:=tN (a*n) (b*n);have i:∀ z:Rat,((a*n:Int):Rat)<=z\/((b*n:Int):Rat)<=z->((mn (a*n) (b*n):Int):Rat)<=z:=fun z c=>by
  rcases c with c|c
  .exact df (qd m.1) c
  .exact df (qd m.2.1) c
 have j:∀ z:Rat,z<=((a*n:Int):Rat)\/z<=((b*n:Int):Rat)->z<=((mx (a*n) (b*n):Int):Rat):=fun z c=>by
  rcases c with c|c
  .exact df c (qd M.1)
  .exact df c (qd M.2.1)
 constructor
 .refine aiU D (dO _) (rdf hd) ?_;rw [f];refine i _ ?_;push_cast;rcases BA 0 (n:Rat) with hn|hn
  .exact .inl (Di h1 hn)
  .exact .inr (ada h2 hn)
 .refine aiV D (dO _) (rdt hd) ?_;rw [f];refine j _ ?_;push_cast;rcases BA 0 (n:Rat) with hn|hn
  .exact .inr (Di h2 hn)
  .exact .inl (ada h1 hn)
theorem Vp {P:Nat->Prop} (a:P 0):∀ n,¬ P n->∃ k,P k/\¬ P (k+1)
 | 0,h=>absurd a h
 | n+1,h=>by
  classical
  by_cases hn:P n
  .exact ⟨n,hn,h⟩
  .exact Vp a n hn
theorem arv {u v:Rat} (a:0<=v) (h:u*u<=v*v):u<=v:=by
 rcases BA u v with k|k
 .exact k
 .rcases Rat.le_iff_lt_or_eq.1 k with k|k
  .exfalso;have b:0<u:=by grind
   have:=Rat.mul_lt_mul_of_pos_right k b;have:=XD (lX k) a;grind
  .rw [k];exact zL
theorem anM {a b:Int} (e:(uk a b).e=0):fQ a b=true/\0<=a/\uk a b=⟨rtV a false,rtV b true,0⟩:=by
 unfold uk at e ⊢
 cases h:fQ a b with
 | false=>rw [h] at e;cases e
 | true=>
  cases k:decide (a<0) with
  | true=>rw [h,k] at e;cases e
  | false=>exact ⟨rfl,by have:=dJ k;omega,rfl⟩
theorem ahT {a b:Int} {x:Rat} (e:(uk a b).e=0) (h:cn a b x) (K:Nat) (w:0<K):∃ s:Rat,0<=s/\cn (uk a b).lo (uk a b).hi s/\s*s<=x/\(x - s*s)*(K:Rat)<=1:=by
 obtain ⟨D,E,F⟩:=anM e;have hb:=dx.1 D;have I:qO a=true:=by unfold qO okF;simp only [aF,aT];omega
 have J:qO b=true:=by unfold qO okF;simp only [aF,aT];omega
 obtain ⟨j,l,_,_⟩:=qE I;obtain ⟨L,q1,q2,q3⟩:=qE J;have H:0<=rtV b true/\b*4294967296<=rtV b true*rtV b true/\rtV b true<=8796093022208:=by
  unfold rtV
  cases k:sqR b*sqR b==b*4294967296 with
  | true=>exact ⟨L,by have:=dV.1 k;show _<=sqR b*sqR b;omega,by show sqR b<=_;omega⟩
  | false=>exact ⟨by show 0<=sqR b+1;omega,by show _<=(sqR b+1)*(sqR b+1);omega,by show sqR b+1<=_;omega⟩
 rw [F];obtain ⟨h1,h2⟩:=h;have M:rtV a false=sqR a:=rfl;rw [M];generalize rtV b true=hi at H ⊢;generalize sqR a=lo at j l ⊢;obtain ⟨f,m,r⟩:=H;have j:(0:Rat)<=(lo:Rat):=by exact_mod_cast j
 have l:(lo:Rat)*(lo:Rat)<=(a:Rat)*4294967296:=by have:=qd l;push_cast at this;exact this
 have f:(0:Rat)<=(hi:Rat):=by exact_mod_cast f
 have m:(b:Rat)*4294967296<=(hi:Rat)*(hi:Rat):=by have:=qd m;push_cast at this;exact this
 have r:(hi:Rat)<=8796093022208:=by have:=qd r;push_cast at this;exact this
 have d:(0:Rat)<(K:Rat):=by exact_mod_cast w
 have N:((0:Nat):Rat)*((0:Nat):Rat)<=x*4294967296*4294967296*((K:Rat)*(K:Rat)):=by
  have:(0:Rat)<=(a:Rat):=by exact_mod_cast E
  have:=bB (a:=x*4294967296) (b:=4294967296) (by grind) (by decide);have:=bB this (bB (lX d) (lX d));push_cast;grind
 obtain ⟨n,hn⟩:∃ n:Nat,(n:Rat)=(hi:Rat)*(K:Rat)+1:=by
  have:0<=hi:=by exact_mod_cast f
  refine ⟨(hi*K+1).toNat,?_⟩;have e:(((hi*K+1).toNat:Nat):Int)=hi*K+1:=iN (by have:=aV this (oM K);omega);have:=bL (fun z:Int=>(z:Rat)) e;push_cast at this;exact this
 have O:¬ ((n:Rat)*(n:Rat)<=x*4294967296*4294967296*((K:Rat)*(K:Rat))):=by intro Q;have t1:=Di h2 (c:=4294967296) (by decide);have u:=df t1 m;have t3:=Di u (bB (lX d) (lX d));rw [hn] at Q;have t4:=bB f (lX d);grind
 obtain ⟨k,W,o⟩:=Vp (P:=fun k=>(k:Rat)*(k:Rat)<=x*4294967296*4294967296*((K:Rat)*(K:Rat))) N n O;have o:=uZ.1 o;push_cast at o;obtain ⟨S,g⟩:∃ S:Rat,S*(K:Rat)=(k:Rat):=⟨(k:Rat) / (K:Rat),by grind⟩;have hk:(0:Rat)<=(k:Rat):=by exact_mod_cast kU k
 have S0:0<=S:=bH (c:=(K:Rat)) (by rw [g];grind) d;have y:0<(K:Rat)*(K:Rat):=zK d d;have S1:S*S<=x*4294967296*4294967296:=bH (c:=(K:Rat)*(K:Rat)) (by rw [<- g] at W;grind) y;have i:S<=(hi:Rat):=arv f (df S1 (df (Di h2 (by decide)) m));have v:(lo:Rat)<=S:=by
  rcases BA (lo:Rat) S with h|h
  .exact h
  .-- lo K is a whole p at A k
   have q:(lo:Rat)*(K:Rat)*((lo:Rat)*(K:Rat))<=x*4294967296*4294967296*((K:Rat)*(K:Rat)):=by have t1:=df l (Di h1 (c:=4294967296) (by decide));have u:=Di t1 (lX y);grind
   have t:(lo:Rat)*(K:Rat)<(k:Rat)+1:=by
    rcases BA ((k:Rat)+1) ((lo:Rat)*(K:Rat)) with h|h
    .exfalso;have:=df (XD h (c:=(k:Rat)+1) (by grind)) (Di h (bB j (lX d)));grind
    .rcases Rat.le_iff_lt_or_eq.1 h with h|e
     .exact h
     .exfalso;rw [e] at q;grind
   have t:lo*(K:Int)<(k:Int)+1:=by exact_mod_cast t
   have t:lo*(K:Int)<=(k:Int):=by omega
   have t:(lo:Rat)*(K:Rat)<=(k:Rat):=by exact_mod_cast t
   rw [<- g] at t;exact bH t d
 have X:(x*4294967296*4294967296 - S*S)*(K:Rat)<=18446744073709551616:=by
  have Y:(1:Rat)<=(K:Rat):=by exact_mod_cast w
  have t1:x*4294967296*4294967296*((K:Rat)*(K:Rat)) - S*S*((K:Rat)*(K:Rat))<=2*(k:Rat)+1:=by rw [<- g] at o ⊢;grind
  have u:2*(k:Rat)+1<=18446744073709551616*(K:Rat):=by rw [<- g];have:=Di (df i r) (lX d);grind
  refine bH (c:=(K:Rat)) ?_ d;grind
 have es:S / 4294967296*4294967296=S:=by grind
 refine ⟨S / 4294967296,by refine bH (c:=4294967296) ?_ (by decide);rw [es];grind,⟨by rw [es];exact v,by rw [es];exact i⟩,?_,?_⟩
 .refine bH (c:=4294967296*4294967296) ?_ (by grind);grind
 .refine bH (c:=4294967296*4294967296) ?_ (by grind);grind
theorem anN {l h:Int} {r:Sp} (b:r=nM l h) (e:r.e=0) (a:r.lo<=r.hi):fQ r.lo r.hi=true:=by subst b;have:=GM e;rw [this.1] at a ⊢;exact dx.2 ⟨this.2.1,a,this.2.2.2.2⟩
theorem aiW {a b c d:Int} {z:Rat} (e:(qP a b c d).e=0) (h:cn (qP a b c d).lo (qP a b c d).hi z):fQ (qP a b c d).lo (qP a b c d).hi=true:=
 anN (Vn e).2.2 e (Vo h)
theorem adc {lo hi:Int} (h:-4503599627370496<=lo/\lo<=4503599627370496) (k:-4503599627370496<=hi/\hi<=4503599627370496):(nM lo hi).e=0:=by rw [NP (by omega) (by omega) (by omega) (by omega)]
theorem XE {a b M m:Int} (f:fQ a b=true) (ha:-M<=a) (hb:b<=M) (g:M*M<=m*4294967296) (n:0<=m) (h1:m<=4503599627370496):(oh a b).e=0/\0<=(oh a b).lo/\(oh a b).lo<=m/\0<=(oh a b).hi/\(oh a b).hi<=m:=by
 have j:=(dx.1 f).2.1;have c:0<=abL a b:=(tN (mx a (-b)) 0).2.1;have h:abL a b<=M:=by unfold abL;have p:=tN a (-b);have q:=tN (mx a (-b)) 0;omega
 have d:0<=abH a b:=by unfold abH;have p:=tN b (-a);omega
 have i:abH a b<=M:=by unfold abH;have p:=tN b (-a);omega
 have k:abL a b*abL a b<=m*4294967296:=jk (bC h h c (by omega)) g;have HH:abH a b*abH a b<=m*4294967296:=jk (bC i i d (by omega)) g;have l:0<=rd (abL a b*abL a b) 4294967296 false:=(Fj Gf).2 (by have:=aV c c;omega);have l1:rd (abL a b*abL a b) 4294967296 false<=m:=jk (aid _ _ Gf) ((Fp Gf).2 k);have h2:0<=rd (abH a b*abH a b) 4294967296 true:=jk ((Fj Gf).2 (by have:=aV d d;omega)) (aid _ _ Gf);have h3:rd (abH a b*abH a b) 4294967296 true<=m:=(Fp Gf).2 HH;unfold oh;rw [f];show (nM _ _).e=0/\0<=(nM _ _).lo/\(nM _ _).lo<=m/\0<=(nM _ _).hi/\(nM _ _).hi<=m;rw [NP (by omega) (by omega) (by omega) (by omega)];exact ⟨rfl,l,l1,h2,h3⟩
theorem add_small {a b c d:Int} (h1:fQ a b=true) (h2:fQ c d=true) (k1:-4503599627370496<=a+c) (k2:b+d<=4503599627370496):qP a b c d=⟨a+c,b+d,0⟩:=by have p:=dx.1 h1;have q:=dx.1 h2;unfold qP;rw [ahR h1 h2,NP (by omega) (by omega) (by omega) (by omega)]
end Go.Iv
namespace Go.Vc
open Go Go.Eng Go.Ar Go.Dg Go.Sn Go.Iv
def qv (m d:Int):Rat:=if m=0 then 0 else if m=d then 1 else if 3*m=d then 1 / 2 else tru ((m:Rat) / (d:Rat))
theorem ahU:cn 2147483648 2147483648 (1 / 2):=by unfold cn;decide +kernel
theorem anO {q:Rat} {k:Int} (h:QA q k):cn k (k+1) (tru q):=by
 unfold QA dl at h;have e:((k+1:Int):Rat)=(k:Rat)+1:=by rw [ni];rfl
 unfold cn;rw [e];constructor <;> grind
theorem arw {m:Int} (f:0<=m) (h1:m<=4294967296) (c:m % 4=0):cn (jD m 4294967296) (jE m 4294967296) (qv m 4294967296):=by
 unfold jD jE qv;by_cases z:m=0
 .rw [aC z,aC z,aC z];exact atj
 by_cases a:m=4294967296
 .rw [aB z,aB z,aB z,aC a,aC a,aC a];exact atl
 by_cases z3:3*m=4294967296
 .rw [aB z,aB z,aB z,aB a,aB a,aB a,aC z3,aC z3,aC z3];exact ahU
 rw [aB z,aB z,aB z,aB a,aB a,aB a,aB z3,aB z3,aB z3];obtain ⟨k,b⟩:=SC (m:=m) (by omega) (by omega) c;have e:=(Nc (m:=m) (d:=4294967296) (by omega) (by omega) (by decide) b).2;rw [e];exact anO b
theorem ahV:1 / 2 - ta<=S 64 (hp*(1 / 3))/\S 64 (hp*(1 / 3))<=1 / 2+ta:=by decide +kernel
theorem anP:S 64 0=0:=by decide +kernel
theorem GN {m d:Int} (hd:0<d):-ta<=qv m d - tru ((m:Rat) / (d:Rat))/\qv m d - tru ((m:Rat) / (d:Rat))<=ta:=by
 have t:=j5.1;have b:(d:Rat)≠0:=by
  intro h;have:d=0:=by exact_mod_cast h
  omega
 unfold qv;by_cases z:m=0
 .rw [aC z,z];have:hp*(((0:Int):Rat) / (d:Rat))=0:=by
   have:((0:Int):Rat)=0:=rfl;rw [this,Rat.div_def,Rat.zero_mul,Rat.mul_zero]
  unfold tru;rw [this,anP];constructor <;> grind
 by_cases a:m=d
 .rw [aB z,aC a,a];have:hp*((d:Rat) / (d:Rat))=hp:=by
   rw [Rat.div_def,Rat.mul_inv_cancel _ b,Rat.mul_one]
  have s:=ahQ;unfold tru;rw [this];constructor <;> grind
 by_cases z3:3*m=d
 .rw [aB z,aB a,aC z3];have:(m:Rat) / (d:Rat)=1 / 3:=by
   have e:(d:Rat)=3*(m:Rat):=by rw [<- z3];exact_mod_cast rfl
   grind
  have s:=ahV;unfold tru;rw [this];constructor <;> grind
 rw [aB z,aB a,aB z3];constructor <;> grind
theorem Vq {q:Rat} (a:0<=q) (h1:q<=1):-2<=tru q/\tru q<=2:=by obtain ⟨a0,a1⟩:=yO a h1;exact (two_of j5.2 (circle' a0 a1).2).2
theorem ade {x y a b t:Rat} (t0:0<=t) (t1:t<=1 / 1000) (h1:-t<=x - a) (h2:x - a<=t) (k1:-t<=y - b) (k2:y - b<=t) (a0:-2<=a) (a1:a<=2) (c:-2<=b) (d:b<=2)
  (f:-(41*t)<=a*a+b*b - 1) (p2:a*a+b*b - 1<=41*t):-(60*t)<=x*x+y*y - 1/\x*x+y*y - 1<=60*t:=by
 have g:=pb (x:=x - a) (y:=x+a) (X:=t) (Y:=5) h1 h2 (by grind) (by grind);have h:=pb (x:=y - b) (y:=y+b) (X:=t) (Y:=5) k1 k2 (by grind) (by grind);constructor <;> grind
theorem Vr {m d:Int} (j:0<=m) (h1:m<=d) (hd:0<d):-(60*ta)<=qv m d*qv m d+qv (d - m) d*qv (d - m) d - 1/\qv m d*qv m d+qv (d - m) d*qv (d - m) d - 1<=60*ta:=by
 obtain ⟨b,c,_⟩:=abo j h1 hd;have k:(d:Rat)≠0:=by
  intro h;have:d=0:=by exact_mod_cast h
  omega
 have e:((d - m:Int):Rat) / (d:Rat)=1 - (m:Rat) / (d:Rat):=by rw [Rat.intCast_sub];grind
 have f:=GN (m:=m) hd;have a:=GN (m:=d - m) hd;rw [e] at a;have p:=ac6 b c;have g:=Vq b c;have i:=Vq (q:=1 - (m:Rat) / (d:Rat)) (by grind) (by grind);exact ade j5.1 j5.2 f.1 f.2 a.1 a.2 g.1 g.2 i.1 i.2 p.1 p.2
def D32:Int:=4294967296
def rs2 (more n:Int):Rat:=if (snK n D32 more==0||snK n D32 more==1)=true then qv (snA more n D32) D32 else -qv (snA more n D32) D32
theorem Jw (more n:Int):0<=snA more n D32/\snA more n D32<=D32/\snA more n D32 % 4=0:=by
 obtain ⟨_,_,_,_,_,a,b⟩:=CX (n:=n) (d:=D32) (by decide) (by decide);have c:snM n D32 % 4=0:=by unfold snM D32;omega
 have:D32 % 4=0:=by decide
 unfold snA
 cases snK n D32 more==0||snK n D32 more==2 with
 | true=>simp only [aQ];omega
 | false=>simp only [aR];omega
theorem adf {a b:Int} {x:Rat} (h:cn a b x):cn (-b) (-a) (-x):=by
 unfold cn at *
 rw [DX,DX];constructor <;> grind
theorem NQ (more n:Int):cn (j6 more n 4294967296) (kg more n 4294967296) (rs2 more n):=by
 obtain ⟨a0,a1,a⟩:=Jw more n;have h:=arw a0 a1 a;have hb:qG 4294967296=false:=by decide
 unfold j6 kg rs2;rw [hb];show cn (bif snK n D32 more==0||snK n D32 more==1 then jD (snA more n D32) D32 else -jE (snA more n D32) D32) (bif snK n D32 more==0||snK n D32 more==1 then jE (snA more n D32) D32 else -jD (snA more n D32) D32) _
 cases snK n D32 more==0||snK n D32 more==1 with
 | true=>exact h
 | false=>exact adf h
theorem adg (n:Int):snA 1 n D32=D32 - snA 0 n D32:=by
 obtain ⟨_,_,_,c,f,_,_⟩:=CX (n:=n) (d:=D32) (by decide) (by decide);have a:snK n D32 0=snQ n D32:=by unfold snK;omega
 have b:snK n D32 1=(snQ n D32+1) % 4:=rfl;have hq:snQ n D32=0\/snQ n D32=1\/snQ n D32=2\/snQ n D32=3:=by omega
 unfold snA;rw [a,b];rcases hq with h|h|h|h <;> rw [h]
 .show D32 - snM n D32=D32 - snM n D32;rfl
 .show snM n D32=D32 - (D32 - snM n D32);omega
 .show D32 - snM n D32=D32 - snM n D32;rfl
 .show snM n D32=D32 - (D32 - snM n D32);omega
theorem adh (more n:Int):rs2 more n*rs2 more n=qv (snA more n D32) D32*qv (snA more n D32) D32:=by unfold rs2;split <;> grind
theorem Dj (n:Int):-(60*ta)<=rs2 0 n*rs2 0 n+rs2 1 n*rs2 1 n - 1/\rs2 0 n*rs2 0 n+rs2 1 n*rs2 1 n - 1<=60*ta:=by obtain ⟨a0,a1,_⟩:=Jw 0 n;have h:=Vr a0 a1 (by decide);rw [adh,adh,adg];exact h
theorem Vs (n:Int):(-2<=rs2 0 n/\rs2 0 n<=2)/\(-2<=rs2 1 n/\rs2 1 n<=2):=by
 have h:=(Dj n).2;have:60*ta<=1 / 1000:=by decide +kernel
 exact two_of this h
theorem Ai {x y a b s:Rat} (h1:-s<=x - a) (h2:x - a<=s) (k1:-s<=y - b) (k2:y - b<=s) (x0:-2<=x) (x1:x<=2) (c:-2<=b) (d:b<=2):-(4*s)<=x*y - a*b/\x*y - a*b<=4*s:=by have p:=pb x0 x1 k1 k2;have q:=pb h1 h2 c d;grind
theorem NR {x:Rat} (c:0<=x) (h1:x<=16 / 5):0<=tail 64 x/\tail 64 x<=ta:=by obtain ⟨a,b⟩:=vL c h1 64;have:=Tv;grind
theorem NS {x:Rat} (a:0<=x) (h1:x<=8 / 5):(-2<=C 64 x/\C 64 x<=2)/\(-2<=S 64 x/\S 64 x<=2):=two_of j5.2 (circle' a h1).2
theorem adi {q:Rat} (i:0<=q) (h1:q<=1):-(10*ta)<=tru (1 - q) - C 64 (hp*q)/\tru (1 - q) - C 64 (hp*q)<=10*ta:=by
 obtain ⟨a0,a1⟩:=yO i h1;obtain ⟨f,j⟩:=yO (q:=1 - q) (by grind) (by grind);have e:hp*q+hp*(1 - q)=hp:=by grind
 have s:=Ag a0 f 64;have c:=CV a0 f 64;rw [e] at s c;have t:=NR (x:=hp) (by have:=Jl;grind) (by have:=Jl;grind);obtain ⟨⟨l,m⟩,p2,n⟩:=NS a0 a1;obtain ⟨_,o,p⟩:=NS f j;have k:=circle' a0 a1;have sh:=ahQ;have r:=anI;unfold tru;generalize S 64 (hp*q)=b at *
 generalize C 64 (hp*q)=a at *
 generalize S 64 (hp*(1 - q))=sb at *
 generalize C 64 (hp*(1 - q))=d at *
 have g:-(2*ta)<=b*d+a*sb - 1/\b*d+a*sb - 1<=2*ta:=by grind
 have h:-(2*ta)<=a*d - b*sb/\a*d - b*sb<=2*ta:=by grind
 have u:=pb l m g.1 g.2;have v:=pb p2 n h.1 h.2;have w:=pb o p k.1 k.2;have id:sb - a=a*(b*d+a*sb - 1) - b*(a*d - b*sb) - sb*(a*a+b*b - 1):=by grind
 grind
def qa (m:Int):Rat:=qv m D32
def qb (m:Int):Rat:=qv (D32 - m) D32
def qx (m:Int):Rat:=hp*((m:Rat) / ((D32:Int):Rat))
theorem adj {m:Int} (c:0<=m) (h1:m<=D32):0<=qx m/\qx m<=8 / 5:=by obtain ⟨a,b,_⟩:=abo c h1 (by decide);exact yO a b
theorem GQ {m:Int}:-(20*ta)<=qa m - S 64 (qx m)/\qa m - S 64 (qx m)<=20*ta:=by have:=GN (m:=m) (d:=D32) (by decide);have t:=j5.1;unfold tru at this;unfold qa qx;grind
theorem GR {m:Int} (f:0<=m) (h1:m<=D32):-(20*ta)<=qb m - C 64 (qx m)/\qb m - C 64 (qx m)<=20*ta:=by
 obtain ⟨a,b,_⟩:=abo f h1 (by decide);have k:=GN (m:=D32 - m) (d:=D32) (by decide);have e:(((D32 - m:Int):Rat) / ((D32:Int):Rat))=1 - (m:Rat) / ((D32:Int):Rat):=by
  rw [Rat.intCast_sub];have:((D32:Int):Rat)≠0:=by decide +kernel
  grind
 rw [e] at k;have c:=adi a b;have t:=j5.1;unfold qb qx;grind
theorem ahW {m:Int} (a:0<=m) (h1:m<=D32):(-2<=qa m/\qa m<=2)/\(-2<=qb m/\qb m<=2):=by
 have h:=Vr a h1 (by decide);have:60*ta<=1 / 1000:=by decide +kernel
 exact two_of this h.2
def TT:Rat:=400*ta
theorem aiX {m k:Int} (j:0<=m) (l:m<=D32) (k0:0<=k) (k1:k<=D32):
  (-(200*ta)<=qa m*qb k+qb m*qa k - S 64 (qx m+qx k)/\qa m*qb k+qb m*qa k - S 64 (qx m+qx k)<=200*ta)/\(-(200*ta)<=qb m*qb k - qa m*qa k - C 64 (qx m+qx k)/\qb m*qb k - qa m*qa k - C 64 (qx m+qx k)<=200*ta):=by
 obtain ⟨a0,a1⟩:=adj j l;obtain ⟨n,o⟩:=adj k0 k1;have s:=Ag a0 n 64;have c:=CV a0 n 64;have t:=NR (x:=qx m+qx k) (by grind) (by grind);have a:=GQ (m:=m);have b:=GR j l;have d:=GQ (m:=k);have f:=GR k0 k1;obtain ⟨x1,g⟩:=ahW j l;obtain ⟨h,i⟩:=NS n o;have q:=Ai a.1 a.2 f.1 f.2 x1.1 x1.2 h.1 h.2;have p2:=Ai b.1 b.2 d.1 d.2 g.1 g.2 i.1 i.2;have r:=Ai b.1 b.2 f.1 f.2 g.1 g.2 h.1 h.2;have u:=Ai a.1 a.2 d.1 d.2 x1.1 x1.2 i.1 i.2;have p:=j5.1;grind
theorem Tz (m k:Int):qx (m+k)=qx m+qx k:=by
 unfold qx;rw [ni];have:((D32:Int):Rat)≠0:=by decide +kernel
 grind
theorem anQ:qx D32=hp:=by
 unfold qx;have:((D32:Int):Rat)≠0:=by decide +kernel
 grind
theorem anR {m k:Int} (a:0<=m) (k0:0<=k) (h:m+k<=D32):
  (-TT<=qa m*qb k+qb m*qa k - qa (m+k)/\qa m*qb k+qb m*qa k - qa (m+k)<=TT)/\(-TT<=qb m*qb k - qa m*qa k - qb (m+k)/\qb m*qb k - qa m*qa k - qb (m+k)<=TT):=by
 obtain ⟨s,c⟩:=aiX a (by omega) k0 (by omega);have b:=GQ (m:=m+k);have d:=GR (m:=m+k) (by omega) h;rw [Tz] at b d;have f:=j5.1;unfold TT;grind
theorem anS {m k:Int} (n:m<=D32) (k1:k<=D32) (h:D32<=m+k):
  (-TT<=qa m*qb k+qb m*qa k - qb (m+k - D32)/\qa m*qb k+qb m*qa k - qb (m+k - D32)<=TT)/\(-TT<=qb m*qb k - qa m*qa k+qa (m+k - D32)/\qb m*qb k - qa m*qa k+qa (m+k - D32)<=TT):=by
 obtain ⟨s,c⟩:=aiX (m:=m) (k:=k) (by omega) n (by omega) k1;have q:=GQ (m:=m+k - D32);have r:=GR (m:=m+k - D32) (by omega) (by omega);have e:qx m+qx k=hp+qx (m+k - D32):=by have:=Tz D32 (m+k - D32);rw [show D32+(m+k - D32)=m+k by omega,Tz,anQ] at this;exact this
 rw [e] at s c;obtain ⟨i,o⟩:=adj (m:=m+k - D32) (by omega) (by omega);have hb:=Jl;have u:=Ag (a:=hp) (b:=qx (m+k - D32)) (by grind) i 64;have c2:=CV (a:=hp) (b:=qx (m+k - D32)) (by grind) i 64;have t:=NR (x:=hp+qx (m+k - D32)) (by grind) (by grind);obtain ⟨d,f⟩:=NS i o;have sh:=ahQ;have g:=anI;have p:=j5.1;generalize C 64 (qx (m+k - D32))=j at *
 generalize S 64 (qx (m+k - D32))=sg at *
 generalize S 64 (hp+qx (m+k - D32))=v at *
 generalize C 64 (hp+qx (m+k - D32))=w at *
 generalize S 64 hp=S1 at *
 generalize C 64 hp=l at *
 have z:=pb (x:=S1 - 1) (y:=j) (X:=ta) (Y:=2) (by grind) (by grind) d.1 d.2;have A:=pb (x:=l) (y:=sg) (X:=ta) (Y:=2) g.1 g.2 f.1 f.2;have D:=pb (x:=l) (y:=j) (X:=ta) (Y:=2) g.1 g.2 d.1 d.2;have E:=pb (x:=S1 - 1) (y:=sg) (X:=ta) (Y:=2) (by grind) (by grind) f.1 f.2;unfold TT;grind
def coQ (q:Int) (a b:Rat):Rat:=if q=0 then b else if q=1 then -a else if q=2 then -b else a
def siQ' (q:Int) (a b:Rat):Rat:=if q=0 then a else if q=1 then b else if q=2 then -a else -b
theorem NT {q:Int} (a:0<=q) (h1:q<=3):q=0\/q=1\/q=2\/q=3:=by omega
theorem Aj (n:Int):rs2 1 n=coQ (snQ n D32) (qa (snM n D32)) (qb (snM n D32))/\rs2 0 n=siQ' (snQ n D32) (qa (snM n D32)) (qb (snM n D32)):=by
 obtain ⟨_,_,_,c,f,_,_⟩:=CX (n:=n) (d:=D32) (by decide) (by decide);have a:snK n D32 0=snQ n D32:=by unfold snK;omega
 have b:snK n D32 1=(snQ n D32+1) % 4:=rfl;unfold rs2 snA qa qb;rw [a,b];generalize snQ n D32=Q at *
 generalize snM n D32=M;generalize D32 - M=L;clear a b;generalize D32=D;rcases NT c f with h|h|h|h <;> rw [h] <;> constructor <;> simp [coQ,siQ']
theorem ahX {a b:Int} (f:0<=a) (h1:a<=3) (k0:0<=b) (k1:b<=3) (a1 c a2 d:Rat):
  coQ a a1 c*coQ b a2 d - siQ' a a1 c*siQ' b a2 d=coQ ((a+b) % 4) (a1*d+c*a2) (c*d - a1*a2) /\
  siQ' a a1 c*coQ b a2 d+coQ a a1 c*siQ' b a2 d=siQ' ((a+b) % 4) (a1*d+c*a2) (c*d - a1*a2):=by
 rcases NT f h1 with h|h|h|h <;> rcases NT k0 k1 with k|k|k|k <;> subst h <;> subst k <;> (simp only [coQ,siQ',Int.reduceAdd,Int.reduceMod,Int.reduceEq,bn,bz];constructor <;> grind)
theorem adk {q:Int} (c:0<=q) (h1:q<=3) (a b:Rat):coQ q b (-a)=coQ ((q+1) % 4) a b/\siQ' q b (-a)=siQ' ((q+1) % 4) a b:=by rcases NT c h1 with h|h|h|h <;> subst h <;> (simp only [coQ,siQ',Int.reduceAdd,Int.reduceMod,Int.reduceEq,bn,bz];constructor <;> grind)
theorem QY {q:Int} {a b a' c t:Rat} (h1:-t<=a - a') (h2:a - a'<=t) (k1:-t<=b - c) (k2:b - c<=t):
  (-t<=coQ q a b - coQ q a' c/\coQ q a b - coQ q a' c<=t)/\(-t<=siQ' q a b - siQ' q a' c/\siQ' q a b - siQ' q a' c<=t):=by
 unfold coQ siQ';refine ⟨?_,?_⟩
 .repeat' split
  all_goals (constructor <;> grind)
 .repeat' split
  all_goals (constructor <;> grind)
theorem anT (n m:Int):(snM n D32+snM m D32<D32/\snQ (n+m) D32=(snQ n D32+snQ m D32) % 4/\snM (n+m) D32=snM n D32+snM m D32) ∨
  (D32<=snM n D32+snM m D32/\snQ (n+m) D32=((snQ n D32+snQ m D32) % 4+1) % 4/\snM (n+m) D32=snM n D32+snM m D32 - D32):=by
 unfold snQ snM snR D32;omega
theorem adl (n m:Int):(-TT<=rs2 1 n*rs2 1 m - rs2 0 n*rs2 0 m - rs2 1 (n+m)/\rs2 1 n*rs2 1 m - rs2 0 n*rs2 0 m - rs2 1 (n+m)<=TT)/\(-TT<=rs2 0 n*rs2 1 m+rs2 1 n*rs2 0 m - rs2 0 (n+m)/\rs2 0 n*rs2 1 m+rs2 1 n*rs2 0 m - rs2 0 (n+m)<=TT):=by
 obtain ⟨_,_,_,a0,i,j,s⟩:=CX (n:=n) (d:=D32) (by decide) (by decide);obtain ⟨_,_,_,c0,c3,l,t⟩:=CX (n:=m) (d:=D32) (by decide) (by decide);rw [(Aj n).1,(Aj n).2,(Aj m).1,(Aj m).2,(Aj (n+m)).1,(Aj (n+m)).2];obtain ⟨r1,o⟩:=ahX a0 i c0 c3 (qa (snM n D32)) (qb (snM n D32)) (qa (snM m D32)) (qb (snM m D32));rw [r1,o];rcases anT n m with ⟨h,a,b⟩|⟨h,a,b⟩
 .rw [a,b];obtain ⟨⟨c,f⟩,t1,g⟩:=anR j l (by omega);exact QY c f t1 g
 .rw [a,b];obtain ⟨⟨c,f⟩,t1,g⟩:=anS (m:=snM n D32) (k:=snM m D32) (by omega) (by omega) h;obtain ⟨p,r⟩:=adk (q:=(snQ n D32+snQ m D32) % 4) (by omega) (by omega) (qa (snM n D32+snM m D32 - D32)) (qb (snM n D32+snM m D32 - D32));rw [<- p,<- r];exact QY c f (by grind) (by grind)
theorem adm {n m:Int} (more:Int) (h:n % D32=m % D32):rs2 more n=rs2 more m:=by
 have e:snR n D32=snR m D32:=h;have a:snQ n D32=snQ m D32:=by unfold snQ;rw [e]
 have b:snM n D32=snM m D32:=by unfold snM;rw [e]
 unfold rs2 snA snK;rw [a,b]
theorem ahY {b a k:Int} (h:b % D32=(a+2*k) % D32):
  -(40*TT)<=(rs2 1 b+rs2 1 a)*(rs2 1 b+rs2 1 a)+(rs2 0 b+rs2 0 a)*(rs2 0 b+rs2 0 a) - 4*(rs2 1 k*rs2 1 k) /\
  (rs2 1 b+rs2 1 a)*(rs2 1 b+rs2 1 a)+(rs2 0 b+rs2 0 a)*(rs2 0 b+rs2 0 a) - 4*(rs2 1 k*rs2 1 k)<=40*TT:=by
 have c:2*k=k+k:=by omega
 rw [adm 1 h,adm 0 h];obtain ⟨⟨x1,d⟩,f,g⟩:=adl a (2*k);obtain ⟨⟨i,j⟩,_,_⟩:=adl k k;rw [<- c] at i j;have t:=Dj a;have p2:=Dj k;have u:=Dj (a+2*k);obtain ⟨⟨l,m⟩,n,o⟩:=Vs a;obtain ⟨_,r,s⟩:=Vs (2*k);have v:60*ta<=TT:=by unfold TT;have:=j5.1;grind
 generalize rs2 1 (a+2*k)=c0 at *
 generalize rs2 0 (a+2*k)=s0 at *
 generalize rs2 1 a=X at *
 generalize rs2 0 a=Y at *
 generalize rs2 1 (2*k)=E at *
 generalize rs2 0 (2*k)=F at *
 generalize rs2 1 k=p at *
 generalize rs2 0 k=q at *
 have w:0<=TT:=by unfold TT;have:=j5.1;grind
 have z:=pb (x:=X) (y:=X*E - Y*F - c0) n o x1 d;have A:=pb (x:=Y) (y:=Y*E+X*F - s0) l m f g;have D:=pb (x:=E) (y:=Y*Y+X*X - 1) (Y:=TT) r s (by grind) (by grind);have id:(c0+X)*(c0+X)+(s0+Y)*(s0+Y) - 4*(p*p)=(s0*s0+c0*c0 - 1)+(Y*Y+X*X - 1) - 2*(q*q+p*p - 1) - 2*(p*p - q*q - E)+2*(E*(Y*Y+X*X - 1)) - 2*(X*(X*E - Y*F - c0)) - 2*(Y*(Y*E+X*F - s0)):=by grind
 rw [id];constructor <;> grind
theorem Le {s r A B d:Rat} (s0:0<=s) (r0:0<=r) (c:0<=d) (h:s*s<=r*r+d) (hd:d*4294967296*4294967296<1):(s - r)*4294967296<1:=by
 by_cases g:(s - r)*4294967296<1
 .exact g
 .have h1:1<=(s - r)*4294967296:=by grind
  have h2:r<=s:=by
   by_cases k:r<=s
   .exact k
   .grind
  have h3:=bB (a:=(s - r)*4294967296 - 1) (b:=(s - r)*4294967296+1) (by grind) (by grind);have f:=bB (a:=r) (b:=s - r) r0 (by grind);grind
theorem adn {m:Int} (a:0<=m) (h1:m<=D32) (b:m % 4=0):quN m D32=true:=by
 have e:m.tmod 4=0:=by rw [cO a];exact b
 have h1:m<=4294967296:=h1;unfold quN D32;rw [aI a,aI h1,e];rfl
theorem GU (more n:Int):fQ (j6 more n D32) (kg more n D32)=true/\-13000000000<=j6 more n D32/\kg more n D32<=13000000000:=by
 obtain ⟨a0,a1,a⟩:=Jw more n;obtain ⟨b,c,d,f⟩:=aiD (adn a0 a1 a);have h:=Vo (NQ more n);have hb:qG D32=false:=by decide
 have e:-13000000000<=j6 more n D32/\kg more n D32<=13000000000:=by unfold j6 kg;rw [hb];cases snK n D32 more==0||snK n D32 more==1 <;> simp only [aQ,aR] <;> omega
 exact ⟨dx.2 ⟨by omega,h,by omega⟩,e⟩
def mtA (more a b:Int):Sp:=qP (j6 more a D32) (kg more a D32) (j6 more b D32) (kg more b D32)
def mtQ (a b:Int):Sp:=qP (oh (mtA 1 a b).lo (mtA 1 a b).hi).lo (oh (mtA 1 a b).lo (mtA 1 a b).hi).hi (oh (mtA 0 a b).lo (mtA 0 a b).hi).lo (oh (mtA 0 a b).lo (mtA 0 a b).hi).hi
def mtR (a b:Int):Sp:=uk (mtQ a b).lo (mtQ a b).hi
def mtO (a b:Int):Sp:=ol (mtR a b).lo (mtR a b).hi 1 2
theorem TA (more c d:Int):(mtA more c d).e=0/\fQ (mtA more c d).lo (mtA more c d).hi=true/\-26000000000<=(mtA more c d).lo/\(mtA more c d).hi<=26000000000/\cn (mtA more c d).lo (mtA more c d).hi (rs2 more c+rs2 more d):=by
 obtain ⟨a,a1,a2⟩:=GU more c;obtain ⟨b,h,i⟩:=GU more d;have e:mtA more c d=⟨j6 more c D32+j6 more d D32,kg more c D32+kg more d D32,0⟩:=Iv.add_small a b (by omega) (by omega);have f:(mtA more c d).e=0:=by rw [e]
 have g:=ac9 f (NQ more c) (NQ more d);exact ⟨f,aiW f g,by rw [e];show _<=_+_;omega,by rw [e];show _+_<=_;omega,g⟩
def mtX (a b:Int):Rat:=(rs2 1 a+rs2 1 b)*(rs2 1 a+rs2 1 b)+(rs2 0 a+rs2 0 b)*(rs2 0 a+rs2 0 b)
theorem Vt (more a b:Int):(oh (mtA more a b).lo (mtA more a b).hi).e=0/\fQ (oh (mtA more a b).lo (mtA more a b).hi).lo (oh (mtA more a b).lo (mtA more a b).hi).hi=true/\0<=(oh (mtA more a b).lo (mtA more a b).hi).lo/\(oh (mtA more a b).lo (mtA more a b).hi).hi<=200000000000/\cn (oh (mtA more a b).lo (mtA more a b).hi).lo (oh (mtA more a b).lo (mtA more a b).hi).hi ((rs2 more a+rs2 more b)*(rs2 more a+rs2 more b)):=by obtain ⟨_,a1,a2,d,f⟩:=TA more a b;obtain ⟨e,g,l1,h,h1⟩:=XE (m:=200000000000) a1 a2 d (by decide) (by decide) (by decide);have c:=anL e f;have:=Vo c;exact ⟨e,dx.2 ⟨by omega,this,by omega⟩,g,h1,c⟩
theorem ado (a b:Int):(mtQ a b).e=0/\fQ (mtQ a b).lo (mtQ a b).hi=true/\0<=(mtQ a b).lo/\(mtQ a b).hi<=400000000000/\cn (mtQ a b).lo (mtQ a b).hi (mtX a b):=by
 obtain ⟨_,a1,a2,i,g⟩:=Vt 1 a b;obtain ⟨_,d,j,k,h⟩:=Vt 0 a b;have p:=dx.1 a1;have q:=dx.1 d;have e:mtQ a b=⟨_,_,0⟩:=Iv.add_small a1 d (by omega) (by omega);have c:(mtQ a b).e=0:=by rw [e]
 have f:=ac9 c g h;exact ⟨c,aiW c f,by rw [e];show _<=_+_;omega,by rw [e];show _+_<=_;omega,f⟩
theorem adp (a b:Int):(mtR a b).e=0/\fQ (mtR a b).lo (mtR a b).hi=true/\∃ s:Rat,0<=s/\cn (mtR a b).lo (mtR a b).hi s/\s*s<=mtX a b/\(mtX a b - s*s)*((2 ^ 200:Nat):Rat)<=1:=by
 obtain ⟨_,a1,a2,j,f⟩:=ado a b;have e:mtR a b=⟨rtV (mtQ a b).lo false,rtV (mtQ a b).hi true,0⟩:=by unfold mtR uk;rw [a1,aG (by omega)];rfl
 have c:(mtR a b).e=0:=by rw [e]
 obtain ⟨s,s0,d,g,h⟩:=ahT c f (2 ^ 200) (by decide);have i:(mtR a b).lo<=(mtR a b).hi:=Vo d;have p:=dx.1 a1;have k1:qO (mtQ a b).lo=true:=by unfold qO okF;simp only [aF,aT];omega
 have k2:qO (mtQ a b).hi=true:=by unfold qO okF;simp only [aF,aT];omega
 obtain ⟨r0,_,_,k⟩:=qE k1;obtain ⟨t0,_,_,l⟩:=qE k2;have m:(mtR a b).hi<=8796093022209:=by rw [e];show rtV _ true<=_;unfold rtV;cases (true&&!(sqR (mtQ a b).hi*sqR (mtQ a b).hi==(mtQ a b).hi*4294967296)) <;> simp only [aQ,aR] <;> omega
 have n:0<=(mtR a b).lo:=by rw [e];show 0<=rtV _ false;exact r0
 exact ⟨c,dx.2 ⟨by omega,i,by omega⟩,s,s0,d,g,h⟩
theorem anU (a b:Int):(mtO a b).e=0/\∃ s:Rat,0<=s/\cn (mtO a b).lo (mtO a b).hi (s / 2)/\s*s<=mtX a b/\(mtX a b - s*s)*((2 ^ 200:Nat):Rat)<=1:=by
 obtain ⟨_,a1,s,s0,d,f,g⟩:=adp a b;have p:=dx.1 a1;have c:(mtO a b).e=0:=by
  unfold mtO ol;rw [a1,show okR 1 2=true by decide];have i:mn ((mtR a b).lo*1) ((mtR a b).hi*1)=(mtR a b).lo:=by unfold mn;rw [kW,kW,aG (show ¬ (mtR a b).hi<(mtR a b).lo by omega)];rfl
  have j:mx ((mtR a b).lo*1) ((mtR a b).hi*1)=(mtR a b).hi:=by unfold mx;rw [kW,kW];cases h:decide ((mtR a b).lo<(mtR a b).hi) with
   | true=>rfl
   | false=>have:=dJ h;show (mtR a b).lo=_;omega
  rw [i,j];refine adc ?_ ?_
  .show -4503599627370496<=(mtR a b).lo / 2/\(mtR a b).lo / 2<=4503599627370496;omega
  .show -4503599627370496<=-(-(mtR a b).hi / 2)/\-(-(mtR a b).hi / 2)<=4503599627370496;omega
 refine ⟨c,s,s0,?_,f,g⟩;have h:=adb c d;have e:s*((1:Int):Rat) / ((2:Int):Rat)=s / 2:=by
  have:((1:Int):Rat)=1:=by decide +kernel
  have k:((2:Int):Rat)=2:=by decide +kernel
  rw [this,k];grind
 rw [e] at h;exact h
def adq (c d:Int):Int:=bif decide (d<=0) then -d else bif decide (c<0) then 0 else c
def adr (c d:Int):Int:=bif decide (d<=0) then -c else bif decide (c<0) then max (-c) d else d
theorem anV {c d:Int} {x:Rat} (h:cn c d x):cn (adq c d) (adr c d) (if 0<=x then x else -x):=by
 unfold adq adr
 cases h1:decide (d<=0) with
 | true=>
  have h1:d<=0:=bK h1;have hd:(d:Rat)<=0:=by exact_mod_cast h1
  have g:x*4294967296<=0:=by have:=h.2;grind
  have e:(if 0<=x then x else -x)=-x:=by split <;> grind
  rw [e];exact adf h
 | false=>cases h2:decide (c<0) with
  | true=>
   have h1:¬ d<=0:=dJ h1;have h2:c<0:=bK h2;obtain ⟨a,b⟩:=h;simp only [aR,aQ];unfold cn;have f:((-c:Int):Rat)<=((max (-c) d:Int):Rat):=by exact_mod_cast Int.le_max_left _ _
   have i:((d:Int):Rat)<=((max (-c) d:Int):Rat):=by exact_mod_cast Int.le_max_right _ _
   rw [DX] at f;have z:((0:Int):Rat)=0:=by decide +kernel
   rw [z];split <;> constructor <;> grind
  | false=>
   have h2:¬ c<0:=dJ h2;have j:(0:Rat)<=(c:Rat):=by exact_mod_cast Int.not_lt.1 h2
   have e:(if 0<=x then x else -x)=x:=by have:=h.1;split <;> grind
   rw [e];exact h
theorem XF {a b k:Int} (h:a % D32=(b+2*k) % D32):(mtO a b).e=0/\(mtO a b).lo<=adr (j6 1 k D32) (kg 1 k D32)/\adq (j6 1 k D32) (kg 1 k D32)<=(mtO a b).hi:=by
 obtain ⟨j,s,s0,l,q,m⟩:=anU a b;have ha:=anV (NQ 1 k);obtain ⟨t1,g⟩:=ahY h;have n:(rs2 1 a+rs2 1 b)*(rs2 1 a+rs2 1 b)+(rs2 0 a+rs2 0 b)*(rs2 0 a+rs2 0 b)=mtX a b:=rfl;rw [n] at t1 g;have o:((2 ^ 200:Nat):Rat)=1606938044258990275541962092341162602522202993782792835301376:=by decide +kernel
 rw [o] at m;have t:0<=TT/\40*TT*4294967296*4294967296<1 / 2:=by unfold TT ta;decide +kernel
 generalize i:(if 0<=rs2 1 k then rs2 1 k else -rs2 1 k)=r at ha;have r0:0<=r:=by rw [<- i];split <;> grind
 have p:rs2 1 k*rs2 1 k=r*r:=by rw [<- i];split <;> grind
 rw [p] at t1 g;have c:(s / 2 - r)*4294967296<1:=Le (A:=0) (B:=0) (by grind) r0 (d:=10*TT) (by grind) (by grind) (by grind);have f:(r - s / 2)*4294967296<1:=Le (A:=0) (B:=0) r0 (by grind) (d:=10*TT+1 / 1606938044258990275541962092341162602522202993782792835301376) (by grind) (by grind) (by grind);exact ⟨j,Tx l ha c f⟩
theorem arx {f g v w:Int} (d:f=2*g):((f*(v % D32)) % D32) % D32=((f*(w % D32)) % D32+2*(g*(v - w)).tmod D32) % D32:=by
 have h:=zI v D32;have i:=zI w D32;have e3:=zI (f*(v % D32)) D32;have j:=zI (f*(w % D32)) D32;have k:=Int.tmod_def (g*(v - w)) D32;have c:(f*(v % D32)) % D32=(f*(w % D32)) % D32+2*(g*(v - w)).tmod D32+D32*(-(f*(v / D32)) - f*(v % D32) / D32+f*(w / D32)+f*(w % D32) / D32+2*(g*(v - w)).tdiv D32):=by rw [e3,j,k];generalize f*(v % D32) / D32=p;generalize f*(w % D32) / D32=q;generalize (g*(v - w)).tdiv D32=r;rw [h,i,d];generalize v / D32=a;generalize w / D32=b;grind
 rw [c,JN]
def mdW (a:Int):Int:=(wr (a.tmod 4294967296+4294967296)).tmod 4294967296
theorem ads (a:Int):mdW a=a % D32:=by obtain ⟨t1,b,c⟩:=QD (n:=a) (d:=4294967296) (by decide);unfold mdW;rw [kH (by omega) (by omega)];exact t1
theorem NU (more n:Int):snN more n 4294967296=true:=by obtain ⟨a0,a1,a⟩:=Jw more n;unfold snN;rw [show quN (snA more n 4294967296) 4294967296=true from adn a0 a1 a];cases qG 4294967296 <;> rfl
end Go.Vc
