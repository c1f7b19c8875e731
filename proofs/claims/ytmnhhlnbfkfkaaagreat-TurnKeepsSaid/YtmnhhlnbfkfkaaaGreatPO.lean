/- What is proved: TurnKeeps returns true, whatever the input (part 15). No conditions beyond those of the row. -/
import Derived.Test.YtmnhhlnbfkfkaaaGreatPF
import Derived.Test.YtmnhhlnbfkfkaaaGreatPH
import Derived.Test.YtmnhhlnbfkfkaaaGreatPJ
import Derived.Test.YtmnhhlnbfkfkaaaGreatPN
set_option linter.unusedVariables false
set_option linter.unusedSimpArgs false
set_option linter.unusedSectionVars false
namespace Go.Proofs.YtmnhhlnbfkfkaaaGreat.K
open Go Go.Eng Go.Dg Go.Ar Go.Vc Go.Sn
noncomputable section
structure PdF where
 mv:Mat->Mat->Mat
 mo:Mat->Mat->Int
 ck:Mat->Int
 tv:Mat->Ve->Ve
 te:Mat->Ve->Int
 bv:Mat->Ve->Ve
 be:Mat->Ve->Int
 rv:Int->Int->Int->Mat
 sl:Int->Int->Int
 sh:Int->Int->Int->Int
def veE (v w:Ve):Bool:=(v.a==w.a&&(v.b==w.b&&(v.c==w.c&&(v.d==w.d&&(v.e==w.e&&(v.f==w.f&&true))))))
def mtE (m n:Mat):Bool:=(m.x.a==n.x.a&&(m.x.b==n.x.b&&(m.x.c==n.x.c&&(m.x.d==n.x.d&&(m.x.e==n.x.e&&(m.x.f==n.x.f&&(m.y.a==n.y.a&&(m.y.b==n.y.b&&(m.y.c==n.y.c&&(m.y.d==n.y.d&&(m.y.e==n.y.e&&(m.y.f==n.y.f&&(m.z.a==n.z.a&&(m.z.b==n.z.b&&(m.z.c==n.z.c&&(m.z.d==n.z.d&&(m.z.e==n.z.e&&(m.z.f==n.z.f&&true))))))))))))))))))
theorem aex (v:Ve):veE v v=true:=by unfold veE; simp
theorem aey (m:Mat):mtE m m=true:=by unfold mtE; simp
end
end Go.Proofs.YtmnhhlnbfkfkaaaGreat.K
namespace Go.Sn
open Go
def sg (n:Nat):Rat:=if n % 2=0 then 1 else -1
theorem X4 (n:Nat):sg (n+1)=-sg n:=by
 unfold sg
 rcases Nat.mod_two_eq_zero_or_one n with h|h
 .rw [if_neg (by omega),if_pos h]
 .rw [if_pos (by omega),if_neg (by omega)]; grind
theorem aez (x:Rat):∀ n,e (-x) n=sg n*e x n:=by
 intro n
 induction n with
 | zero=>show (1:Rat)=sg 0*1; rw [show sg 0=1 from if_pos rfl]; grind
 | succ n ih=>
  have h1:=iE (-x) n
  have h2:=iE x n
  have hp:=nN n
  rw [ih] at h1
  have h3:((n+1:Nat):Rat)*(e (-x) (n+1) - sg (n+1)*e x (n+1))=0:=by
   rw [X4]
   have:((n+1:Nat):Rat)*(e (-x) (n+1) - -sg n*e x (n+1))=((n+1:Nat):Rat)*e (-x) (n+1)+sg n*(((n+1:Nat):Rat)*e x (n+1)):=by grind
   rw [this,h1,h2]; grind
  rcases Rat.mul_eq_zero.mp h3 with h|h
  .grind
  .grind
def Rd (d:Nat->Nat->Rat) (a b:Rat) (N:Nat):Rat:=sum (fun p=>e a p*sum (fun q=>d p q*e b q) N) N
def Td (d:Nat->Nat->Rat) (a b:Rat) (N:Nat):Rat:=sum (fun p=>e a p*sum (fun q=>d p q*e b q) (N - p)) N
theorem X5 {d:Nat->Nat->Rat} (hd:∀ p q,-1<=d p q/\d p q<=1) {a b:Rat} (ha:0<=a) (hb:0<=b) (N:Nat):-lQ N (a+b)<=Rd d a b N - Td d a b N/\Rd d a b N - Td d a b N<=lQ N (a+b):=by
 have hT:-(Rc one a b N - T one a b N)<=Rd d a b N - Td d a b N/\Rd d a b N - Td d a b N<=Rc one a b N - T one a b N:=by
  have key:∀ p,p<N->-(e a p*sum (fun q=>one (p+q)*e b q) N - e a p*sum (fun q=>one (p+q)*e b q) (N - p))<=e a p*sum (fun q=>d p q*e b q) N - e a p*sum (fun q=>d p q*e b q) (N - p) /\
    e a p*sum (fun q=>d p q*e b q) N - e a p*sum (fun q=>d p q*e b q) (N - p)<=e a p*sum (fun q=>one (p+q)*e b q) N - e a p*sum (fun q=>one (p+q)*e b q) (N - p):=by
   intro p hp
   have hb2:∀ i,i<N->-(one (p+i)*e b i)<=d p i*e b i/\d p i*e b i<=one (p+i)*e b i:=by
    intro i _
    have h1:=qP hb i
    have h2:=hd p i
    have h3:=Rat.mul_nonneg (a:=d p i+1) (by grind) h1
    have h4:=Rat.mul_nonneg (a:=1 - d p i) (by grind) h1
    simp only [one]; grind
   obtain ⟨h1,h2⟩:=BJ (f:=fun q=>d p q*e b q) (g:=fun q=>one (p+q)*e b q) (Nat.sub_le N p) hb2
   have h3:=qP ha p
   have h4:=Rat.mul_le_mul_of_nonneg_left h1 h3
   have h5:=Rat.mul_le_mul_of_nonneg_left h2 h3
   grind
  have f1:Rc one a b N - T one a b N=sum (fun p=>e a p*sum (fun q=>one (p+q)*e b q) N - e a p*sum (fun q=>one (p+q)*e b q) (N - p)) N:=by
   unfold Rc T
   rw [<- FM]
  have f2:Rd d a b N - Td d a b N=sum (fun p=>e a p*sum (fun q=>d p q*e b q) N - e a p*sum (fun q=>d p q*e b q) (N - p)) N:=by
   unfold Rd Td
   rw [<- FM]
  rw [f1,f2]
  constructor
  .have:=xR (f:=fun p=>-1*(e a p*sum (fun q=>one (p+q)*e b q) N - e a p*sum (fun q=>one (p+q)*e b q) (N - p))) (g:=fun p=>e a p*sum (fun q=>d p q*e b q) N - e a p*sum (fun q=>d p q*e b q) (N - p)) (n:=N) (fun p hp=>by have:=(key p hp).1; grind)
   rw [dM] at this
   grind
  .exact xR fun p hp=>(key p hp).2
 rw [Tj] at hT
 have:=Tk ha hb N
 unfold lQ
 grind
def dC (p q:Nat):Rat:=cF p*cF q+sF p*sF q
theorem Y7 (p q:Nat):dC p q=cF (p+q)*sg q:=by
 unfold dC
 rw [Tq]
 unfold cF sF sg
 rcases uC q with h|h|h|h <;> simp only [h] <;> first|(rw [if_pos (by omega)]; grind)|(rw [if_neg (by omega)]; grind)
theorem aeA (p q:Nat):-1<=dC p q/\dC p q<=1:=by
 rw [Y7]
 have:=Tp (p+q)
 unfold sg
 split <;> grind
theorem aeB (a:Rat) (N:Nat):Rd dC a a N=C N a*C N a+S N a*S N a:=by
 unfold Rd
 have h:∀ p,e a p*sum (fun q=>dC p q*e a q) N=C N a*(cF p*e a p)+S N a*(sF p*e a p):=by
  intro p
  have h1:sum (fun q=>dC p q*e a q) N=cF p*C N a+sF p*S N a:=by
   unfold C S Z
   rw [<- dM,<- dM,<- l9]
   exact dR fun q _=>by unfold dC; grind
  rw [h1]; grind
 rw [dR (fun p _=>h p),l9,dM,dM]
 unfold S C Z
 grind
theorem abS (a:Rat) (N:Nat):Td dC a a N=Z cF N 0:=by
 have h:Td dC a a N=T cF a (-a) N:=by
  unfold Td T
  refine dR fun p _=>?_
  congr 1
  refine dR fun q _=>?_
  rw [Y7,aez]; grind
 rw [h,Tj]
 congr 1; grind
theorem abT:Z cF 64 0=1:=by decide +kernel
theorem abU {a:Rat} (ha:0<=a):-lQ 64 (a+a)<=C 64 a*C 64 a+S 64 a*S 64 a - 1/\C 64 a*C 64 a+S 64 a*S 64 a - 1<=lQ 64 (a+a):=by
 have h:=X5 aeA ha ha 64
 rw [aeB,abS,abT] at h
 exact h
def ta:Rat:=1 / 1532495540865888858358347027150309183618739122183602176
theorem Uk:lQ 64 (16 / 5)<=ta:=by decide +kernel
theorem aeC:1 - ta<=S 64 hp/\S 64 hp<=1+ta:=by decide +kernel
theorem agh:-ta<=C 64 hp/\C 64 hp<=ta:=by decide +kernel
theorem pb {x y X Y:Rat} (h1:-X<=x) (h2:x<=X) (h3:-Y<=y) (h4:y<=Y):-(X*Y)<=x*y/\x*y<=X*Y:=by
 have a1:=Rat.mul_nonneg (a:=X - x) (b:=Y - y) (by grind) (by grind)
 have a2:=Rat.mul_nonneg (a:=X+x) (b:=Y+y) (by grind) (by grind)
 have a3:=Rat.mul_nonneg (a:=X - x) (b:=Y+y) (by grind) (by grind)
 have a4:=Rat.mul_nonneg (a:=X+x) (b:=Y - y) (by grind) (by grind)
 constructor <;> grind
theorem Ul {x:Rat} (h:x*x<=4):-2<=x/\x<=2:=by
 constructor
 .by_cases h1:-2<=x
  .exact h1
  .have:=Rat.mul_pos (a:=-2 - x) (b:=2 - x) (by grind) (by grind)
   grind
 .by_cases h1:x<=2
  .exact h1
  .have:=Rat.mul_pos (a:=x - 2) (b:=x+2) (by grind) (by grind)
   grind
theorem M7 (x:Rat):0<=x*x:=by
 rcases Rat.le_total (a:=0) (b:=x) with h|h
 .exact Rat.mul_nonneg h h
 .have:=Rat.mul_nonneg (a:=-x) (b:=-x) (by grind) (by grind); grind
theorem nS:0<=ta/\ta<=1 / 1000:=by decide +kernel
theorem circle' {a:Rat} (h0:0<=a) (h1:a<=8 / 5):-ta<=C 64 a*C 64 a+S 64 a*S 64 a - 1/\C 64 a*C 64 a+S 64 a*S 64 a - 1<=ta:=by
 have h:=abU h0
 have:=(rT (x:=a+a) (y:=16 / 5) (by grind) (by grind) 64).2
 have:=Uk
 grind
theorem two_of {c s t:Rat} (t1:t<=1 / 1000) (h:c*c+s*s - 1<=t):(-2<=c/\c<=2)/\(-2<=s/\s<=2):=by
 have:=M7 c
 have:=M7 s
 exact ⟨Ul (by grind),Ul (by grind)⟩
theorem Um {sa ca sb cb t u1 u2 ε:Rat} (t0:0<=t) (t1:t<=1 / 1000) (hε:ca*ca+sa*sa - 1=ε) (e1:-t<=ε) (e2:ε<=t)
  (hb:cb*cb+sb*sb - 1<=t) (h1:sa*cb+ca*sb - 1=u1) (h2:ca*cb - sa*sb=u2) (u1a:-(2*t)<=u1) (u1b:u1<=2*t) (u2a:-(2*t)<=u2) (u2b:u2<=2*t):
  -(10*t)<=ca - sb/\ca - sb<=10*t/\-(41*t)<=sa*sa+sb*sb - 1/\sa*sa+sb*sb - 1<=41*t:=by
 obtain ⟨⟨ca0,ca1⟩,sa0,sa1⟩:=two_of (c:=ca) (s:=sa) t1 (by grind)
 obtain ⟨_,sb0,sb1⟩:=two_of (c:=cb) (s:=sb) t1 hb
 have hD:ca - sb=sb*ε+sa*u2 - ca*u1:=by rw [<- hε,<- h1,<- h2]; grind
 have p1:=pb sb0 sb1 e1 e2
 have p2:=pb sa0 sa1 u2a u2b
 have p3:=pb ca0 ca1 u1a u1b
 have d1:-(10*t)<=ca - sb:=by rw [hD]; grind
 have d2:ca - sb<=10*t:=by rw [hD]; grind
 have p4:=pb (x:=ca - sb) (y:=ca+sb) (X:=10*t) (Y:=4) d1 d2 (by grind) (by grind)
 have hQ:sa*sa+sb*sb - 1=ε - (ca - sb)*(ca+sb):=by rw [<- hε]; grind
 refine ⟨d1,d2,?_,?_⟩ <;> rw [hQ] <;> grind
theorem Un {q:Rat} (h0:0<=q) (h1:q<=1):-(41*ta)<=tru q*tru q+tru (1 - q)*tru (1 - q) - 1/\tru q*tru q+tru (1 - q)*tru (1 - q) - 1<=41*ta:=by
 obtain ⟨a0,a1⟩:=FQ h0 h1
 obtain ⟨b0,b1⟩:=FQ (q:=1 - q) (by grind) (by grind)
 have hab:hp*q+hp*(1 - q)=hp:=by grind
 have ca:=circle' a0 a1
 have cb:=circle' b0 b1
 have s:=FN a0 b0 64
 have c:=MN a0 b0 64
 rw [hab] at s c
 have tl:lQ 64 hp<=ta:=by
  have h:=(rT (x:=hp) (y:=16 / 5) MR.1 (by have:=MR.2.1; grind) 64).2
  have:=Uk
  grind
 have sh:=aeC
 have ch:=agh
 have t:=nS
 have r:=Um (sa:=S 64 (hp*q)) (ca:=C 64 (hp*q)) (sb:=S 64 (hp*(1 - q))) (cb:=C 64 (hp*(1 - q))) t.1 t.2 rfl ca.1 ca.2 cb.2 rfl rfl (by grind) (by grind) (by grind) (by grind)
 exact r.2.2
end Go.Sn
namespace Go.Rd
open Go Go.Eng Go.Ar
def Gq (c k:Int):Prop:=(-1000000000<=c/\c<=1000000000)/\(-100000000<=k/\k<=100000000)
def s0 (c k a b d e:Int):Sp:=(gK a b)
def s1 (c k a b d e:Int):Sp:=(gK d e)
def s2 (c k a b d e:Int):Sp:=(fC (s0 c k a b d e).lo (s0 c k a b d e).hi (s1 c k a b d e).lo (s1 c k a b d e).hi)
def s3 (c k a b d e:Int):Sp:=(aK (s2 c k a b d e).lo (s2 c k a b d e).hi c 1000000000)
def s4 (c k a b d e:Int):Sp:=(aK (s3 c k a b d e).lo (s3 c k a b d e).hi c 1000000000)
def s5 (c k a b d e:Int):Sp:=(aK (s4 c k a b d e).lo (s4 c k a b d e).hi (IntKind.i64.wrap (1000000+k)) 1000000)
def s6 (c k a b d e:Int):Sp:=(Bn 4294967296 4294967296 (s5 c k a b d e).lo (s5 c k a b d e).hi)
def s7 (c k a b d e:Int):Sp:=(eH (s6 c k a b d e).lo (s6 c k a b d e).hi)
def s8 (c k a b d e:Int):Sp:=(fC (s3 c k a b d e).lo (s3 c k a b d e).hi 0 0)
def s9 (c k a b d e:Int):Sp:=(fC 4294967296 4294967296 (s7 c k a b d e).lo (s7 c k a b d e).hi)
def s10 (c k a b d e:Int):Sp:=(oZ (s8 c k a b d e).lo (s8 c k a b d e).hi (s9 c k a b d e).lo (s9 c k a b d e).hi)
def s11 (c k a b d e:Int):Sp:=(aK d e c 1000000000)
def s12 (c k a b d e:Int):Sp:=(oZ (s11 c k a b d e).lo (s11 c k a b d e).hi (s7 c k a b d e).lo (s7 c k a b d e).hi)
def s13 (c k a b d e:Int):Sp:=(aK a b c 1000000000)
def s14 (c k a b d e:Int):Sp:=(oZ (s13 c k a b d e).lo (s13 c k a b d e).hi (s7 c k a b d e).lo (s7 c k a b d e).hi)
def b0 (c k l m a b d e:Int):Sp:=(gK a b)
def b1 (c k l m a b d e:Int):Sp:=(aK (b0 c k l m a b d e).lo (b0 c k l m a b d e).hi l 1000000000)
def b2 (c k l m a b d e:Int):Sp:=(gK d e)
def b3 (c k l m a b d e:Int):Sp:=(aK (b2 c k l m a b d e).lo (b2 c k l m a b d e).hi c 1000000000)
def b4 (c k l m a b d e:Int):Sp:=(aK (b1 c k l m a b d e).lo (b1 c k l m a b d e).hi l 1000000000)
def b5 (c k l m a b d e:Int):Sp:=(aK (b3 c k l m a b d e).lo (b3 c k l m a b d e).hi c 1000000000)
def b6 (c k l m a b d e:Int):Sp:=(aK (b4 c k l m a b d e).lo (b4 c k l m a b d e).hi (IntKind.i64.wrap (1000000+m)) 1000000)
def b7 (c k l m a b d e:Int):Sp:=(aK (b5 c k l m a b d e).lo (b5 c k l m a b d e).hi (IntKind.i64.wrap (1000000+k)) 1000000)
def b8 (c k l m a b d e:Int):Sp:=(fC (b6 c k l m a b d e).lo (b6 c k l m a b d e).hi (b7 c k l m a b d e).lo (b7 c k l m a b d e).hi)
def b9 (c k l m a b d e:Int):Sp:=(Bn 4294967296 4294967296 (b8 c k l m a b d e).lo (b8 c k l m a b d e).hi)
def b10 (c k l m a b d e:Int):Sp:=(eH (b9 c k l m a b d e).lo (b9 c k l m a b d e).hi)
def b11 (c k l m a b d e:Int):Sp:=(fC (b1 c k l m a b d e).lo (b1 c k l m a b d e).hi (b3 c k l m a b d e).lo (b3 c k l m a b d e).hi)
def b12 (c k l m a b d e:Int):Sp:=(fC 4294967296 4294967296 (b10 c k l m a b d e).lo (b10 c k l m a b d e).hi)
def b13 (c k l m a b d e:Int):Sp:=(oZ (b11 c k l m a b d e).lo (b11 c k l m a b d e).hi (b12 c k l m a b d e).lo (b12 c k l m a b d e).hi)
def b14 (c k l m a b d e:Int):Sp:=(aK a b l 1000000000)
def b15 (c k l m a b d e:Int):Sp:=(aK (b14 c k l m a b d e).lo (b14 c k l m a b d e).hi l 1000000000)
def b16 (c k l m a b d e:Int):Sp:=(aK (b15 c k l m a b d e).lo (b15 c k l m a b d e).hi (IntKind.i64.wrap (1000000+m)) 1000000)
def b17 (c k l m a b d e:Int):Sp:=(oZ (b16 c k l m a b d e).lo (b16 c k l m a b d e).hi (b10 c k l m a b d e).lo (b10 c k l m a b d e).hi)
def b18 (c k l m a b d e:Int):Sp:=(aK d e c 1000000000)
def b19 (c k l m a b d e:Int):Sp:=(aK (b18 c k l m a b d e).lo (b18 c k l m a b d e).hi c 1000000000)
def b20 (c k l m a b d e:Int):Sp:=(aK (b19 c k l m a b d e).lo (b19 c k l m a b d e).hi (IntKind.i64.wrap (1000000+k)) 1000000)
def b21 (c k l m a b d e:Int):Sp:=(oZ (b20 c k l m a b d e).lo (b20 c k l m a b d e).hi (b10 c k l m a b d e).lo (b10 c k l m a b d e).hi)
def b22 (c k l m a b d e:Int):Sp:=(aI (b13 c k l m a b d e).lo (b13 c k l m a b d e).hi (b21 c k l m a b d e).lo (b21 c k l m a b d e).hi)
def b23 (c k l m a b d e:Int):Sp:=(aK (b18 c k l m a b d e).lo (b18 c k l m a b d e).hi 2 1)
def b24 (c k l m a b d e:Int):Sp:=(fC (b23 c k l m a b d e).lo (b23 c k l m a b d e).hi (b22 c k l m a b d e).lo (b22 c k l m a b d e).hi)
def b25 (c k l m a b d e:Int):Sp:=(oZ (b24 c k l m a b d e).lo (b24 c k l m a b d e).hi (b12 c k l m a b d e).lo (b12 c k l m a b d e).hi)
def b26 (c k l m a b d e:Int):Sp:=(aI (b13 c k l m a b d e).lo (b13 c k l m a b d e).hi (b17 c k l m a b d e).lo (b17 c k l m a b d e).hi)
def b27 (c k l m a b d e:Int):Sp:=(aK (b14 c k l m a b d e).lo (b14 c k l m a b d e).hi 2 1)
def b28 (c k l m a b d e:Int):Sp:=(fC (b27 c k l m a b d e).lo (b27 c k l m a b d e).hi (b26 c k l m a b d e).lo (b26 c k l m a b d e).hi)
def b29 (c k l m a b d e:Int):Sp:=(oZ (b28 c k l m a b d e).lo (b28 c k l m a b d e).hi (b12 c k l m a b d e).lo (b12 c k l m a b d e).hi)
structure PsagSF (c k a b d e:Int):Prop where
 h0:Gq c k
 h1:aj a b=true
 h2:aj d e=true
 h3:(s0 c k a b d e).e=0
 h4:(s1 c k a b d e).e=0
 h5:(s2 c k a b d e).e=0
 h6:(s3 c k a b d e).e=0
 h7:(s4 c k a b d e).e=0
 h8:(s5 c k a b d e).e=0
 h9:(s6 c k a b d e).e=0
 h10:decide ((s6 c k a b d e).lo<=0)=true
structure PsagSG (c k a b d e:Int):Prop where
 h0:Gq c k
 h1:aj a b=true
 h2:aj d e=true
 h3:(s0 c k a b d e).e=0
 h4:(s1 c k a b d e).e=0
 h5:(s2 c k a b d e).e=0
 h6:(s3 c k a b d e).e=0
 h7:(s4 c k a b d e).e=0
 h8:(s5 c k a b d e).e=0
 h9:(s6 c k a b d e).e=0
 h10:decide ((s6 c k a b d e).lo<=0)=false
 h11:(s7 c k a b d e).e=0
 h12:(s8 c k a b d e).e=0
 h13:(s9 c k a b d e).e=0
 h14:(s10 c k a b d e).e=0
structure PsagBF (c k l m a b d e:Int):Prop where
 h0:Gq c k
 h1:Gq l m
 h2:aj a b=true
 h3:aj d e=true
 h4:(b0 c k l m a b d e).e=0
 h5:(b1 c k l m a b d e).e=0
 h6:(b2 c k l m a b d e).e=0
 h7:(b3 c k l m a b d e).e=0
 h8:(b4 c k l m a b d e).e=0
 h9:(b6 c k l m a b d e).e=0
 h10:(b5 c k l m a b d e).e=0
 h11:(b7 c k l m a b d e).e=0
 h12:(b8 c k l m a b d e).e=0
 h13:(b9 c k l m a b d e).e=0
 h14:decide ((b9 c k l m a b d e).lo<=0)=true
structure PsagBG (c k l m a b d e:Int):Prop where
 h0:Gq c k
 h1:Gq l m
 h2:aj a b=true
 h3:aj d e=true
 h4:(b0 c k l m a b d e).e=0
 h5:(b1 c k l m a b d e).e=0
 h6:(b2 c k l m a b d e).e=0
 h7:(b3 c k l m a b d e).e=0
 h8:(b4 c k l m a b d e).e=0
 h9:(b6 c k l m a b d e).e=0
 h10:(b5 c k l m a b d e).e=0
 h11:(b7 c k l m a b d e).e=0
 h12:(b8 c k l m a b d e).e=0
 h13:(b9 c k l m a b d e).e=0
 h14:decide ((b9 c k l m a b d e).lo<=0)=false
 h15:(b10 c k l m a b d e).e=0
 h16:(b11 c k l m a b d e).e=0
 h17:(b12 c k l m a b d e).e=0
 h18:(b13 c k l m a b d e).e=0
structure PslopeS (c k a b d e:Int):Prop where
 h0:Gq c k
 h1:aj a b=true
 h2:aj d e=true
 h3:(s0 c k a b d e).e=0
 h4:(s1 c k a b d e).e=0
 h5:(s2 c k a b d e).e=0
 h6:(s3 c k a b d e).e=0
 h7:(s4 c k a b d e).e=0
 h8:(s5 c k a b d e).e=0
 h9:(s6 c k a b d e).e=0
 h10:decide ((s6 c k a b d e).lo<=0)=false
 h11:(s7 c k a b d e).e=0
 h12:(s8 c k a b d e).e=0
 h13:(s9 c k a b d e).e=0
 h14:(s10 c k a b d e).e=0
 h15:(s13 c k a b d e).e=0
 h16:(s14 c k a b d e).e=0
 h17:(s11 c k a b d e).e=0
 h18:(s12 c k a b d e).e=0
structure PslopeB (c k l m a b d e:Int):Prop where
 h0:Gq c k
 h1:Gq l m
 h2:aj a b=true
 h3:aj d e=true
 h4:(b0 c k l m a b d e).e=0
 h5:(b1 c k l m a b d e).e=0
 h6:(b2 c k l m a b d e).e=0
 h7:(b3 c k l m a b d e).e=0
 h8:(b4 c k l m a b d e).e=0
 h9:(b6 c k l m a b d e).e=0
 h10:(b5 c k l m a b d e).e=0
 h11:(b7 c k l m a b d e).e=0
 h12:(b8 c k l m a b d e).e=0
 h13:(b9 c k l m a b d e).e=0
 h14:decide ((b9 c k l m a b d e).lo<=0)=false
 h15:(b10 c k l m a b d e).e=0
 h16:(b11 c k l m a b d e).e=0
 h17:(b12 c k l m a b d e).e=0
 h18:(b13 c k l m a b d e).e=0
 h19:(b14 c k l m a b d e).e=0
 h20:(b15 c k l m a b d e).e=0
 h21:(b16 c k l m a b d e).e=0
 h22:(b17 c k l m a b d e).e=0
 h23:(b27 c k l m a b d e).e=0
 h24:(b26 c k l m a b d e).e=0
 h25:(b28 c k l m a b d e).e=0
 h26:(b29 c k l m a b d e).e=0
 h27:(b18 c k l m a b d e).e=0
 h28:(b19 c k l m a b d e).e=0
 h29:(b20 c k l m a b d e).e=0
 h30:(b21 c k l m a b d e).e=0
 h31:(b23 c k l m a b d e).e=0
 h32:(b22 c k l m a b d e).e=0
 h33:(b24 c k l m a b d e).e=0
 h34:(b25 c k l m a b d e).e=0
def kk (n:Int):Int:=IntKind.i64.wrap (1000*IntKind.i64.wrap (n.tmod 3000))
end Go.Rd
namespace Go.Rd
def g1:ByteArray:=⟨#[66,75,55]⟩
def g2:ByteArray:=⟨#[83,70,45,49]⟩
def g3:ByteArray:=⟨#[77,73,82,82,79,82]⟩
def g4:ByteArray:=⟨#[102,95,50]⟩
def isG (b:ByteArray):Prop:=b=g1\/b=g2\/b=g3\/b=g4
end Go.Rd
namespace Go.Rd
open Go Go.Eng Go.Ar
def inL (x:Int):Prop:=-1000000000<=x/\x<=1000000000
def inK (x:Int):Prop:=-100000000<=x/\x<=100000000
def inA (x:Int):Prop:=-90000000<=x/\x<=90000000
def abW (se ho:Int):Prop:=0<=se/\se<=1000000000/\0<=ho/\ho<=1000000000/\(se=0\/ho<se)
def inG (s:ByteArray):Prop:=s=⟨#[]⟩\/isG s
structure vStd (c k a0 a1 a2 a3 f0 f1 o th:Int) (s:ByteArray) (se ho:Int):Prop where
 hc:inL c
 hk:inK k
 h0:inL a0
 h1:inL a1
 h2:inL a2
 h3:inL a3
 hf:inL f0
 hg:inL f1
 ho':-3<=o/\o<=3
 ht:inL th
 hs:inG s
 sh:abW se ho
 ph:(f0=0/\f1=0/\o=0)\/(o≠0/\s≠g3)
structure vBic (c k l m th:Int) (s:ByteArray) (se ho:Int):Prop where
 hc:inL c
 hk:inK k
 hl:inL l
 hm:inK m
 ht:inL th
 hs:inG s
 sh:abW se ho
structure vBrk (th dx dy ax ay az:Int):Prop where
 ht:inL th
 hx:inL dx
 hy:inL dy
 ha:inA ax
 hb:inA ay
 hc:inA az
structure vIdl (c th se ho:Int):Prop where
 hc:inL c
 ht:inL th
 sh:abW se ho
def z0 (s:Sp):Bool:=s.e==0
section
variable (c k a0 a1 a2 a3 a b d e:Int)
def u0:Sp:=aK (s2 c k a b d e).lo (s2 c k a b d e).hi 1 100
def ca (n:Int):Sp:=aK 4294967296 4294967296 n 1000000
def u1:Sp:=pz (u0 c k a b d e) (ca a0) (ca a1) (ca a2) (ca a3)
def u2:Sp:=gK (u0 c k a b d e).lo (u0 c k a b d e).hi
def u3:Sp:=aI (u2 c k a b d e).lo (u2 c k a b d e).hi (u1 c k a0 a1 a2 a3 a b d e).lo (u1 c k a0 a1 a2 a3 a b d e).hi
def u4:Sp:=fC (s10 c k a b d e).lo (s10 c k a b d e).hi (u3 c k a0 a1 a2 a3 a b d e).lo (u3 c k a0 a1 a2 a3 a b d e).hi
end
section
variable (c k l m a b d e:Int)
end
structure Su where
 kd:Int
 c:Int
 k:Int
 l:Int
 m:Int
 a0:Int
 a1:Int
 a2:Int
 a3:Int
 f0:Int
 f1:Int
 o:Int
 th:Int
 g:ByteArray
 se:Int
 ho:Int
 dx:Int
 dy:Int
 ax:Int
 ay:Int
 az:Int
def Su.cells (s:Su) (kd:AV):List AV:=[kd,.int true .i64 s.c,.int true .i64 s.k,.int true .i64 s.l,.int true .i64 s.m,.int true .i64 s.a0,.int true .i64 s.a1,.int true .i64 s.a2,.int true .i64 s.a3,.int true .i64 s.f0,.int true .i64 s.f1,.int true .i64 s.o,.int true .i64 s.th,.str true s.g,
 .int true .i64 s.se,.int true .i64 s.ho,.int true .i64 s.dx,.int true .i64 s.dy,.int true .i64 s.ax,.int true .i64 s.ay,.int true .i64 s.az]
def agi (n:Int) (ys:List Int):Prop:=0<=n/\n<=12/\ys.length=3*n.toNat
def aeD (i p q:Int):Bool:=decide (10000000<=i)&&decide (i<=40000000)&&(decide (0<=p)&&decide (p<=1000))&&(decide (1<=q)&&decide (q<=1000))
def Uo:List Int->Bool
 | i :: p :: q :: r=>aeD i p q&&Uo r
 | _=>true
end Go.Rd
namespace Go.Vc
open Go Go.Eng Go.Ar Go.Rd
structure NF where
 ck:Su->List Int->Int
 rt:Su->List Int->Bool
 vc:Ve->Int
 sl:Su->List Int->Int->Int->Int->Int->Nat->Int
 uV:Ve->Ve
 uO:Ve->Int
 ng:Int->Int->Sp
 sk:Int->Int->Int
section
variable (F:NF) (s:Su) (n:Int) (ys:List Int) (v:Ve)
def q2:Bool:=!bif F.sk v.a v.b != 0||!(F.sk v.a v.b != 0)&&(F.sk v.c v.d != 0||!(F.sk v.c v.d != 0)&&F.sk v.e v.f != 0) then false else true
end
structure NF.law (F:NF):Prop where
 ck:∀ s ys,F.ck s ys=bif F.rt s ys then 0 else 110
 vc:∀ v,F.vc v=bif q2 F v then 20 else 0
structure BF where
 vc:Ve->Int
 sk:Int->Int->Int
 sl:Su->List Int->Int->Int->Int->Int->Nat->Int
 uV:Ve->Ve
 uO:Ve->Int
 ng:Int->Int->Sp
 ad:Int->Int->Int->Int->Sp
 su:Int->Int->Int->Int->Sp
 mu:Int->Int->Int->Int->Sp
 di:Int->Int->Int->Int->Sp
 sc:Int->Int->Int->Int->Sp
 sq:Int->Int->Sp
 rt:Int->Int->Sp
 dt:Ve->Ve->Sp
 bV:Ve->Ve->Ve
 bO:Ve->Ve->Int
 aV:Ve->Ve->Ve
 aO:Ve->Ve->Int
 mV:Ve->Int->Int->Ve
 mO:Ve->Int->Int->Int
 nV:Ve->Ve
 nO:Ve->Int
structure BX where
 F:BF
 S:Su
 ys:List Int
 a:Int
 b:Int
 l:Int
 v:Ve
 w:Ve
namespace BX
variable (X:BX)
def sl (i:Nat):Int:=X.F.sl X.S X.ys X.v.a X.v.b X.v.c X.v.d i
def n1:Sp:=X.F.ng (X.sl 0) (X.sl 1)
def n2:Sp:=X.F.ng (X.sl 2) (X.sl 3)
def nw:Ve:=⟨X.n1.lo,X.n1.hi,X.n2.lo,X.n2.hi,4294967296,4294967296⟩
def u:Ve:=X.F.uV X.nw
def uo:Int:=X.F.uO X.nw
def k:Sp:=X.F.dt X.w X.u
def mir:Bool:=ic X.S.g ⟨#[77,73,82,82,79,82]⟩
def s1:Sp:=X.F.sc X.w.a X.w.b X.a X.b
def s2:Sp:=X.F.sc X.w.c X.w.d X.a X.b
def s3:Sp:=X.F.sc X.w.e X.w.f X.a X.b
def o0:Bool:=X.S.o==0
def q1:Sp:=X.F.sq X.v.a X.v.b
def q2:Sp:=X.F.sq X.v.c X.v.d
def q3:Sp:=X.F.ad X.q1.lo X.q1.hi X.q2.lo X.q2.hi
def w1:Sp:=X.F.sc 4294967296 4294967296 (IntKind.i64.wrap (2*X.S.f0)) 100000
def w2:Sp:=X.F.sc X.q3.lo X.q3.hi (IntKind.i64.wrap (4*X.S.f1)) 10000000
def w3:Sp:=X.F.ad X.w1.lo X.w1.hi X.w2.lo X.w2.hi
def w4:Sp:=X.F.sc X.w3.lo X.w3.hi (IntKind.i64.wrap (X.S.o*X.l)) 1000000000
def w5:Sp:=X.F.sc X.w4.lo X.w4.hi 10000000 X.b
def t:Ve:=⟨bif !X.mir then X.s1.lo else X.w.a,bif !X.mir then X.s1.hi else X.w.b,bif !X.mir then X.s2.lo else X.w.c,bif !X.mir then X.s2.hi else X.w.d,bif !X.mir then X.s3.lo else X.w.e,bif !X.mir then X.s3.hi else X.w.f⟩
def m1:Sp:=X.F.mu X.v.a X.v.b X.w5.lo X.w5.hi
def m2:Sp:=X.F.ad X.t.a X.t.b X.m1.lo X.m1.hi
def m3:Sp:=X.F.mu X.v.c X.v.d X.w5.lo X.w5.hi
def m4:Sp:=X.F.ad X.t.c X.t.d X.m3.lo X.m3.hi
def av:Ve:=⟨bif X.o0 then X.t.a else X.m2.lo,bif X.o0 then X.t.b else X.m2.hi,bif X.o0 then X.t.c else X.m4.lo,bif X.o0 then X.t.d else X.m4.hi,bif X.o0 then X.t.e else X.t.e,bif X.o0 then X.t.f else X.t.f⟩
def d1:Sp:=X.F.dt X.av X.u
def mo1:Int:=X.F.mO X.u X.d1.lo X.d1.hi
def mv1:Ve:=X.F.mV X.u X.d1.lo X.d1.hi
def bo:Int:=X.F.bO X.av X.mv1
def bv:Ve:=X.F.bV X.av X.mv1
def d2:Sp:=X.F.dt X.bv X.bv
def h:Sp:=X.F.su 4294967296 4294967296 X.d2.lo X.d2.hi
def r:Sp:=X.F.rt X.h.lo X.h.hi
def fl:Bool:=!(decide (X.k.hi<0)==X.mir)
def r2:Sp:=X.F.ng X.r.lo X.r.hi
def rl:Int:=bif X.fl then X.r2.lo else X.r.lo
def rh:Int:=bif X.fl then X.r2.hi else X.r.hi
def mo2:Int:=X.F.mO X.u X.rl X.rh
def mv2:Ve:=X.F.mV X.u X.rl X.rh
def ao:Int:=X.F.aO X.bv X.mv2
end BX
structure Eb where
 z:Bool
 s:Bool
structure BT where
 a1:Eb
 a2:Eb
 a3:Eb
 a4:Eb
 a5:Eb
 u:Bool
 m:Bool
 b1:Eb
 b2:Eb
 b3:Eb
 o:Bool
 c1:Eb
 c2:Eb
 c3:Eb
 c4:Eb
 c5:Eb
 c6:Eb
 c7:Eb
 c8:Eb
 c9:Eb
 d1:Eb
 d2:Eb
 d3:Eb
 e1:Eb
 e2:Eb
 e3:Eb
 e4:Eb
 e5:Eb
 t:Bool
 n:Bool
 f1:Eb
 fl:Bool
 f2:Eb
 f3:Eb
 f4:Eb
namespace BT
variable (B:BT)
def p11:Bool:=B.a1.z&&(B.a2.z&&(B.a3.z&&B.a4.z))
def p22:Bool:=bif !B.m then B.b1.z&&(B.b2.z&&B.b3.z) else true
def p28:Bool:=B.c1.z&&(B.c2.z&&B.c3.z)
def p36:Bool:=B.c4.z&&(B.c5.z&&B.c6.z)
def p40:Bool:=B.c7.z&&B.c8.z
def p47:Bool:=B.c9.z&&B.d1.z
def p52:Bool:=B.p22&&(B.o||!B.o&&(B.p28&&(B.p36&&(B.p40&&(B.p47&&(B.d2.z&&B.d3.z))))))
def p72:Bool:=B.e1.z&&(B.e2.z&&B.e3.z)
def p81:Bool:=B.e4.z&&B.e5.z
def p93:Bool:=bif B.fl then B.f2.z else true
def g (z:Eb->Bool) (u n:Bool):Bool:=
 B.a1.z&&(B.a2.z&&(B.a3.z&&(!B.a4.z&&z B.a4)||!B.a3.z&&z B.a3)||!B.a2.z&&z B.a2)||!B.a1.z&&z B.a1||B.p11&&(!B.a5.z&&z B.a5||B.a5.z&&(u||!B.u&&(B.p52&&(B.e1.z&&(!B.e2.z&&z B.e2||B.e2.z&&(!B.e3.z&&z B.e3))||!B.e1.z&&z B.e1||B.p72&&(B.e4.z&&(!B.e5.z&&z B.e5)||!B.e4.z&&z B.e4||B.p81&&(!B.t&&(n||!B.n&&(B.f1.z&&(B.fl&&(!B.f2.z&&z B.f2)||B.p93&&(!B.f3.z&&z B.f3||B.f3.z&&(!B.f4.z&&z B.f4)))||!B.f1.z&&z B.f1)))))||(!B.m&&(!B.b1.z&&z B.b1||B.b1.z&&(!B.b2.z&&z B.b2||B.b2.z&&(!B.b3.z&&z B.b3)))||B.p22&&(!B.o&&(!B.c1.z&&z B.c1||B.c1.z&&(!B.c2.z&&z B.c2||B.c2.z&&(!B.c3.z&&z B.c3))||B.p28&&(B.c4.z&&(B.c5.z&&(!B.c6.z&&z B.c6)||!B.c5.z&&z B.c5)||!B.c4.z&&z B.c4||B.p36&&(B.c7.z&&(!B.c8.z&&z B.c8)||!B.c7.z&&z B.c7||B.p40&&(B.p47&&(!B.d2.z&&z B.d2||B.d2.z&&(!B.d3.z&&z B.d3))||(!B.c9.z&&z B.c9||B.c9.z&&(!B.d1.z&&z B.d1)))))))))))
def g2:Bool:=B.g (fun e=>!e.s) B.u B.n
def g5:Bool:=B.g (fun e=>e.s) false false
def g3:Bool:=B.p11&&(B.a5.z&&(!B.u&&(B.p52&&(B.p72&&(B.p81&&B.t)))))
end BT
namespace BT
variable (B:BT)
end BT
end Go.Vc
namespace Go.Vc
open Go Go.Eng Go.Ar Go.Rd
def kE (E e:Int):Int:=bif E != 0 then E else bif e != 0 then e else E
def kI (E e x:Int):Int:=bif E != 0 then 0 else bif e != 0 then 0 else x
def kV (E e:Int) (v:Ve):Ve:=⟨kI E e v.a,kI E e v.b,kI E e v.c,kI E e v.d,kI E e v.e,kI E e v.f⟩
theorem wP (E e:Int):kE E e=fe E e:=by
 unfold kE fe
 simp only [bne]
 cases hE:E==0 with
 | false=>rfl
 | true=>
  cases he:e==0 with
  | false=>rfl
  | true=>have:=beq_iff_eq.1 hE; have:=beq_iff_eq.1 he; subst_vars; rfl
theorem dO {x y:Int}:fe x y=0 ↔ x=0/\y=0:=by
 unfold fe
 cases h:x==0 with
 | true=>have:=beq_iff_eq.1 h; simp [this]
 | false=>
  have:x≠0:=by simpa using h
  simp [this]
theorem nT {E e e':Int} (h:E=0->e=e'):kE E e=fe E e':=by
 rw [wP]
 unfold fe
 cases hE:E==0 with
 | false=>rfl
 | true=>exact h (beq_iff_eq.1 hE)
theorem iT {E e x:Int} (h:fe E e=0):kI E e x=x:=by
 obtain ⟨rfl,rfl⟩:=dO.1 h
 rfl
theorem X6 {E e:Int} {v:Ve} (h:fe E e=0):kV E e v=v:=by
 unfold kV
 simp only [iT h]
namespace BX
variable (X:BX)
def E1:Int:=kE (X.sl 4) X.n1.e
def E2:Int:=kE X.E1 X.n2.e
def nw':Ve:=⟨kI (X.sl 4) X.n1.e X.n1.lo,kI (X.sl 4) X.n1.e X.n1.hi,kI X.E1 X.n2.e X.n2.lo,kI X.E1 X.n2.e X.n2.hi,4294967296,4294967296⟩
def E3:Int:=kE X.E2 (X.F.uO X.nw')
def u':Ve:=kV X.E2 (X.F.uO X.nw') (X.F.uV X.nw')
def k':Sp:=X.F.dt X.w X.u'
def E4:Int:=kE X.E3 X.k'.e
def kl:Int:=kI X.E3 X.k'.e X.k'.lo
def kh:Int:=kI X.E3 X.k'.e X.k'.hi
def E5:Int:=kE X.E4 X.s1.e
def E6:Int:=kE X.E5 X.s2.e
def t':Ve:=⟨bif !X.mir then kI X.E4 X.s1.e X.s1.lo else X.w.a,bif !X.mir then kI X.E4 X.s1.e X.s1.hi else X.w.b,bif !X.mir then kI X.E5 X.s2.e X.s2.lo else X.w.c,bif !X.mir then kI X.E5 X.s2.e X.s2.hi else X.w.d,bif !X.mir then kI X.E6 X.s3.e X.s3.lo else X.w.e,bif !X.mir then kI X.E6 X.s3.e X.s3.hi else X.w.f⟩
def E7:Int:=bif !X.mir then kE X.E6 X.s3.e else X.E4
def E8:Int:=kE X.E7 X.w1.e
def E9:Int:=kE X.E8 X.q1.e
def E10:Int:=kE X.E9 X.q2.e
def q3':Sp:=X.F.ad (kI X.E8 X.q1.e X.q1.lo) (kI X.E8 X.q1.e X.q1.hi) (kI X.E9 X.q2.e X.q2.lo) (kI X.E9 X.q2.e X.q2.hi)
def E11:Int:=kE X.E10 X.q3'.e
def w2':Sp:=X.F.sc (kI X.E10 X.q3'.e X.q3'.lo) (kI X.E10 X.q3'.e X.q3'.hi) (IntKind.i64.wrap (4*X.S.f1)) 10000000
def E12:Int:=kE X.E11 X.w2'.e
def w3':Sp:=X.F.ad (kI X.E7 X.w1.e X.w1.lo) (kI X.E7 X.w1.e X.w1.hi) (kI X.E11 X.w2'.e X.w2'.lo) (kI X.E11 X.w2'.e X.w2'.hi)
def E13:Int:=kE X.E12 X.w3'.e
def w4':Sp:=X.F.sc (kI X.E12 X.w3'.e X.w3'.lo) (kI X.E12 X.w3'.e X.w3'.hi) (IntKind.i64.wrap (X.S.o*X.l)) 1000000000
def E14:Int:=kE X.E13 X.w4'.e
def w5':Sp:=X.F.sc (kI X.E13 X.w4'.e X.w4'.lo) (kI X.E13 X.w4'.e X.w4'.hi) 10000000 X.b
def E15:Int:=kE X.E14 X.w5'.e
def wl:Int:=kI X.E14 X.w5'.e X.w5'.lo
def wh:Int:=kI X.E14 X.w5'.e X.w5'.hi
def m1':Sp:=X.F.mu X.v.a X.v.b X.wl X.wh
def E16:Int:=kE X.E15 X.m1'.e
def m2':Sp:=X.F.ad X.t'.a X.t'.b (kI X.E15 X.m1'.e X.m1'.lo) (kI X.E15 X.m1'.e X.m1'.hi)
def E17:Int:=kE X.E16 X.m2'.e
def m3':Sp:=X.F.mu X.v.c X.v.d X.wl X.wh
def E18:Int:=kE X.E17 X.m3'.e
def m4':Sp:=X.F.ad X.t'.c X.t'.d (kI X.E17 X.m3'.e X.m3'.lo) (kI X.E17 X.m3'.e X.m3'.hi)
def E19:Int:=bif X.S.o != 0 then kE X.E18 X.m4'.e else X.E7
def av':Ve:=⟨bif X.S.o != 0 then kI X.E16 X.m2'.e X.m2'.lo else X.t'.a,bif X.S.o != 0 then kI X.E16 X.m2'.e X.m2'.hi else X.t'.b,bif X.S.o != 0 then kI X.E18 X.m4'.e X.m4'.lo else X.t'.c,bif X.S.o != 0 then kI X.E18 X.m4'.e X.m4'.hi else X.t'.d,bif X.S.o != 0 then X.t'.e else X.t'.e,bif X.S.o != 0 then X.t'.f else X.t'.f⟩
def d1':Sp:=X.F.dt X.av' X.u'
def E20:Int:=kE X.E19 X.d1'.e
def dl:Int:=kI X.E19 X.d1'.e X.d1'.lo
def dh:Int:=kI X.E19 X.d1'.e X.d1'.hi
def E21:Int:=kE X.E20 (X.F.mO X.u' X.dl X.dh)
def mv1':Ve:=kV X.E20 (X.F.mO X.u' X.dl X.dh) (X.F.mV X.u' X.dl X.dh)
def E22:Int:=kE X.E21 (X.F.bO X.av' X.mv1')
def bv':Ve:=kV X.E21 (X.F.bO X.av' X.mv1') (X.F.bV X.av' X.mv1')
def d2':Sp:=X.F.dt X.bv' X.bv'
def E23:Int:=kE X.E22 X.d2'.e
def h':Sp:=X.F.su 4294967296 4294967296 (kI X.E22 X.d2'.e X.d2'.lo) (kI X.E22 X.d2'.e X.d2'.hi)
def E24:Int:=kE X.E23 X.h'.e
def hl:Int:=kI X.E23 X.h'.e X.h'.lo
def hh:Int:=kI X.E23 X.h'.e X.h'.hi
def r':Sp:=X.F.rt X.hl X.hh
def E25:Int:=kE X.E24 X.r'.e
def fl':Bool:=!(decide (X.kh<0)==X.mir)
def rl1:Int:=kI X.E24 X.r'.e X.r'.lo
def rh1:Int:=kI X.E24 X.r'.e X.r'.hi
def r2':Sp:=X.F.ng X.rl1 X.rh1
def E26:Int:=bif X.fl' then kE X.E25 X.r2'.e else X.E25
def rl':Int:=bif X.fl' then kI X.E25 X.r2'.e X.r2'.lo else X.rl1
def rh':Int:=bif X.fl' then kI X.E25 X.r2'.e X.r2'.hi else X.rh1
def E27:Int:=kE X.E26 (X.F.mO X.u' X.rl' X.rh')
def mv2':Ve:=kV X.E26 (X.F.mO X.u' X.rl' X.rh') (X.F.mV X.u' X.rl' X.rh')
def E28:Int:=kE X.E27 (X.F.aO X.bv' X.mv2')
def F1:Int:=fe (fe (fe (fe (X.sl 4) X.n1.e) X.n2.e) X.uo) X.k.e
def Fm:Int:=bif !X.mir then fe (fe (fe X.F1 X.s1.e) X.s2.e) X.s3.e else X.F1
def Fc:Int:=fe (fe (fe (fe X.Fm X.q1.e) X.q2.e) X.q3.e) X.w1.e
def Fo:Int:=bif !X.o0 then fe (fe (fe (fe (fe (fe (fe (fe X.Fc X.w2.e) X.w3.e) X.w4.e) X.w5.e) X.m1.e) X.m2.e) X.m3.e) X.m4.e else X.Fm
def F2:Int:=fe (fe (fe (fe (fe X.Fo X.d1.e) X.mo1) X.bo) X.d2.e) X.h.e
def Ff:Int:=bif X.fl then fe (fe X.F2 X.r.e) X.r2.e else fe X.F2 X.r.e
def F3:Int:=fe (fe X.Ff X.mo2) X.ao
end BX
structure BX.law (X:BX):Prop where
 q1:X.q1.e=0\/X.q1.e=6
 q2:X.q2.e=0\/X.q2.e=6
 q3:X.q1.e=0->X.q2.e=0->X.q3.e=0\/X.q3.e=6
 w1:X.w1.e=0\/X.w1.e=6
namespace BX
variable {X:BX}
theorem e1:X.E1=fe (X.sl 4) X.n1.e:=wP _ _
theorem e2:X.E2=fe X.E1 X.n2.e:=wP _ _
theorem aeE (h:X.E2=0):X.nw'=X.nw:=by
 have h1:=e1 (X:=X); have h2:=e2 (X:=X)
 rw [h2] at h
 obtain ⟨a,b⟩:=dO.1 h
 have c:=h1 ▸ a
 unfold nw' nw
 simp only [iT c,iT h]
theorem e3:X.E3=fe X.E2 X.uo:=nT fun h=>by rw [aeE h]; rfl
theorem z3 (h:X.E3=0):X.u'=X.u:=by
 rw [e3] at h
 have a:=aeE (dO.1 h).1
 have c:X.F.uO X.nw'=X.uo:=by rw [a]; rfl
 unfold u'
 rw [c,a,X6 h]
 rfl
theorem z_k (h:X.E3=0):X.k'=X.k:=by unfold k' k; rw [z3 h]
theorem e4:X.E4=fe X.E3 X.k.e:=nT fun h=>by rw [z_k h]
theorem z4 (h:X.E4=0):X.kl=X.k.lo/\X.kh=X.k.hi:=by
 rw [e4] at h
 have a:=z_k (dO.1 h).1
 unfold kl kh
 rw [a,iT h,iT h]
 exact ⟨rfl,rfl⟩
theorem f1:X.E4=X.F1:=by rw [e4,e3,e2,e1]; rfl
theorem e5:X.E5=fe X.E4 X.s1.e:=wP _ _
theorem e6:X.E6=fe X.E5 X.s2.e:=wP _ _
theorem e7:X.E7=bif !X.mir then fe X.E6 X.s3.e else X.E4:=by unfold E7; rw [wP]
theorem fm:X.E7=X.Fm:=by rw [e7,e6,e5,f1]; rfl
theorem z7 (h:X.E7=0):X.t'=X.t:=by
 rw [e7] at h
 unfold t' t
 cases hm:X.mir with
 | true=>rfl
 | false=>
  rw [hm] at h
  have h:fe X.E6 X.s3.e=0:=h
  have a:=(dO.1 h).1
  rw [e6] at a
  have b:=(dO.1 a).1
  rw [e5] at b
  simp only [iT h,iT a,iT b]
theorem z74 (h:X.E7=0):X.E4=0:=by
 rw [e7] at h
 cases hm:X.mir with
 | true=>rw [hm] at h; exact h
 | false=>
  rw [hm] at h
  have h:fe X.E6 X.s3.e=0:=h
  have a:=(dO.1 h).1
  rw [e6] at a
  have b:=(dO.1 a).1
  rw [e5] at b
  exact (dO.1 b).1
theorem e8:X.E8=fe X.E7 X.w1.e:=wP _ _
theorem e9:X.E9=fe X.E8 X.q1.e:=wP _ _
theorem e10:X.E10=fe X.E9 X.q2.e:=wP _ _
theorem aeF (h:X.E10=0):X.q3'=X.q3:=by
 rw [e10] at h
 have a:=(dO.1 h).1
 rw [e9] at a
 unfold q3' q3
 simp only [iT h,iT a]
theorem e11:X.E11=fe X.E10 X.q3.e:=nT fun h=>by rw [aeF h]
theorem aeG (h:X.E11=0):X.w2'=X.w2:=by
 rw [e11] at h
 unfold w2' w2
 rw [aeF (dO.1 h).1]
 simp only [iT h]
theorem e12:X.E12=fe X.E11 X.w2.e:=nT fun h=>by rw [aeG h]
theorem z11 (h:X.E11=0):X.E8=0:=by
 rw [e11] at h
 have a:=(dO.1 h).1
 rw [e10] at a
 have b:=(dO.1 a).1
 rw [e9] at b
 exact (dO.1 b).1
theorem aeH (h:X.E12=0):X.w3'=X.w3:=by
 rw [e12] at h
 have a:=(dO.1 h).1
 have b:=z11 a
 rw [e8] at b
 unfold w3' w3
 rw [aeG a]
 simp only [iT h,iT b]
theorem e13:X.E13=fe X.E12 X.w3.e:=nT fun h=>by rw [aeH h]
theorem aeI (h:X.E13=0):X.w4'=X.w4:=by
 rw [e13] at h
 unfold w4' w4
 rw [aeH (dO.1 h).1]
 simp only [iT h]
theorem e14:X.E14=fe X.E13 X.w4.e:=nT fun h=>by rw [aeI h]
theorem aeJ (h:X.E14=0):X.w5'=X.w5:=by
 rw [e14] at h
 unfold w5' w5
 rw [aeI (dO.1 h).1]
 simp only [iT h]
theorem e15:X.E15=fe X.E14 X.w5.e:=nT fun h=>by rw [aeJ h]
theorem z15 (h:X.E15=0):X.wl=X.w5.lo/\X.wh=X.w5.hi:=by
 rw [e15] at h
 unfold wl wh
 rw [aeJ (dO.1 h).1]
 exact ⟨iT h,iT h⟩
theorem aeK (h:X.E15=0):X.m1'=X.m1:=by
 unfold m1' m1
 rw [(z15 h).1,(z15 h).2]
theorem e16:X.E16=fe X.E15 X.m1.e:=nT fun h=>by rw [aeK h]
theorem Uq (h:X.E15=0):X.E7=0:=by
 rw [e15] at h
 have a:=(dO.1 h).1
 rw [e14] at a
 have b:=(dO.1 a).1
 rw [e13] at b
 have c:=(dO.1 b).1
 rw [e12] at c
 have d:=z11 (dO.1 c).1
 rw [e8] at d
 exact (dO.1 d).1
theorem aeL (h:X.E16=0):X.m2'=X.m2:=by
 rw [e16] at h
 have a:=(dO.1 h).1
 unfold m2' m2
 rw [aeK a,z7 (Uq a)]
 simp only [iT h]
theorem e17:X.E17=fe X.E16 X.m2.e:=nT fun h=>by rw [aeL h]
theorem KW (h:X.E17=0):X.E16=0/\X.E15=0:=by
 rw [e17] at h
 have a:=(dO.1 h).1
 refine ⟨a,?_⟩
 rw [e16] at a
 exact (dO.1 a).1
theorem aeM (h:X.E17=0):X.m3'=X.m3:=by
 have a:=z15 (KW h).2
 unfold m3' m3
 rw [a.1,a.2]
theorem e18:X.E18=fe X.E17 X.m3.e:=nT fun h=>by rw [aeM h]
theorem aeN (h:X.E18=0):X.m4'=X.m4:=by
 rw [e18] at h
 have a:=(dO.1 h).1
 unfold m4' m4
 rw [aeM a,z7 (Uq (KW a).2)]
 simp only [iT h]
theorem aeO:(X.S.o != 0)=!X.o0:=rfl
theorem e19:X.E19=bif !X.o0 then fe X.E18 X.m4.e else X.E7:=by
 unfold E19
 rw [aeO,nT (e':=X.m4.e) fun h=>by rw [aeN h]]
theorem fc (L:X.law):fe X.E10 X.q3.e=X.Fc:=by
 unfold Fc
 rw [e10,e9,e8,fm]
 obtain ⟨l1,l2,l3,l4⟩:=L
 have go:∀ x:Int,fe 0 x=x:=fun _=>rfl
 have stop:∀ x y:Int,x≠0->fe x y=x:=fun x y h=>by
  unfold fe
  rw [show (x==0)=false by simpa using h]; rfl
 by_cases hm:X.Fm=0
 .rw [hm]
  simp only [go]
  have six:∀ y:Int,fe 6 y=6:=fun _=>rfl
  rcases l4 with w|w <;> rw [w] <;> rcases l1 with a|a <;> rw [a] <;> simp only [go,six] <;> rcases l2 with b|b <;> rw [b] <;> simp only [go,six] <;> (rcases l3 a b with c|c <;> rw [c]) <;> simp only [go,six]
 .simp only [stop _ _ hm]
theorem fo (L:X.law):X.E19=X.Fo:=by
 rw [e19,e18,e17,e16,e15,e14,e13,e12,e11,fc L,fm]
 rfl
theorem z19 (h:X.E19=0):X.av'=X.av/\X.E7=0:=by
 rw [e19] at h
 unfold av' av
 simp only [aeO]
 cases ho:X.o0 with
 | true=>
  rw [ho] at h
  have h:X.E7=0:=h
  rw [z7 h]
  exact ⟨rfl,h⟩
 | false=>
  rw [ho] at h
  have h:fe X.E18 X.m4.e=0:=h
  have a:=(dO.1 h).1
  have a':=a
  rw [e18] at a
  have b:=(dO.1 a).1
  have c:=KW b
  have d:=Uq c.2
  have b':=b
  rw [e17] at b
  rw [aeN a',aeL c.1,z7 d]
  simp only [iT h,iT b,Bool.not_false,cond_true,cond_false]
  exact ⟨trivial,d⟩
theorem aeP (h:X.E19=0):X.d1'=X.d1:=by
 have a:=z19 h
 have b:=z74 a.2
 rw [e4] at b
 unfold d1' d1
 rw [a.1,z3 (dO.1 b).1]
theorem e20:X.E20=fe X.E19 X.d1.e:=nT fun h=>by rw [aeP h]
theorem z_u (h:X.E19=0):X.u'=X.u:=by
 have b:=z74 (z19 h).2
 rw [e4] at b
 exact z3 (dO.1 b).1
theorem z20 (h:X.E20=0):X.E19=0/\X.dl=X.d1.lo/\X.dh=X.d1.hi:=by
 rw [e20] at h
 have a:=(dO.1 h).1
 unfold dl dh
 rw [aeP a]
 exact ⟨a,iT h,iT h⟩
theorem Y8 (h:X.E20=0):X.F.mO X.u' X.dl X.dh=X.mo1:=by
 obtain ⟨a,b,c⟩:=z20 h
 rw [z_u a,b,c]
 rfl
theorem e21:X.E21=fe X.E20 X.mo1:=nT Y8
theorem z21 (h:X.E21=0):X.E19=0/\X.mv1'=X.mv1:=by
 rw [e21] at h
 have a:=(dO.1 h).1
 obtain ⟨b,c,d⟩:=z20 a
 unfold mv1'
 rw [Y8 a,X6 h,z_u b,c,d]
 exact ⟨b,rfl⟩
theorem aeQ (h:X.E21=0):X.F.bO X.av' X.mv1'=X.bo:=by
 obtain ⟨a,b⟩:=z21 h
 rw [b,(z19 a).1]
 rfl
theorem e22:X.E22=fe X.E21 X.bo:=nT aeQ
theorem z22 (h:X.E22=0):X.E19=0/\X.bv'=X.bv:=by
 rw [e22] at h
 have a:=(dO.1 h).1
 obtain ⟨b,c⟩:=z21 a
 unfold bv'
 rw [aeQ a,X6 h,c,(z19 b).1]
 exact ⟨b,rfl⟩
theorem aeR (h:X.E22=0):X.d2'=X.d2:=by
 unfold d2' d2
 rw [(z22 h).2]
theorem e23:X.E23=fe X.E22 X.d2.e:=nT fun h=>by rw [aeR h]
theorem z_h (h:X.E23=0):X.h'=X.h:=by
 rw [e23] at h
 have a:=(dO.1 h).1
 unfold h'
 rw [aeR a,iT h,iT h]
 rfl
theorem e24:X.E24=fe X.E23 X.h.e:=nT fun h=>by rw [z_h h]
theorem f2 (L:X.law):X.E24=X.F2:=by rw [e24,e23,e22,e21,e20,fo L]; rfl
theorem z24 (h:X.E24=0):X.E22=0/\X.hl=X.h.lo/\X.hh=X.h.hi:=by
 rw [e24] at h
 have a:=(dO.1 h).1
 unfold hl hh
 rw [z_h a]
 rw [e23] at a
 exact ⟨(dO.1 a).1,iT h,iT h⟩
theorem z_r (h:X.E24=0):X.r'=X.r:=by
 obtain ⟨_,b,c⟩:=z24 h
 unfold r'
 rw [b,c]
 rfl
theorem e25:X.E25=fe X.E24 X.r.e:=nT fun h=>by rw [z_r h]
theorem z25 (h:X.E25=0):X.E24=0/\X.rl1=X.r.lo/\X.rh1=X.r.hi:=by
 rw [e25] at h
 have a:=(dO.1 h).1
 unfold rl1 rh1
 rw [z_r a]
 exact ⟨a,iT h,iT h⟩
theorem aeS (h:X.E25=0):X.r2'=X.r2:=by
 obtain ⟨_,b,c⟩:=z25 h
 unfold r2'
 rw [b,c]
 rfl
theorem aeT (h:X.E4=0):X.fl'=X.fl:=by
 unfold fl' fl
 rw [(z4 h).2]
theorem e26 (h:X.E4=0):X.E26=bif X.fl then fe X.E25 X.r2.e else X.E25:=by
 unfold E26
 rw [aeT h,nT (e':=X.r2.e) fun h=>by rw [aeS h]]
theorem z26 (h0:X.E4=0) (h:X.E26=0):X.E24=0/\X.rl'=X.rl/\X.rh'=X.rh:=by
 rw [e26 h0] at h
 unfold rl' rh' rl rh
 rw [aeT h0]
 cases hf:X.fl with
 | true=>
  rw [hf] at h
  have h:fe X.E25 X.r2.e=0:=h
  have a:=(dO.1 h).1
  have b:=z25 a
  rw [aeS a]
  simp only [iT h,cond_true]
  exact ⟨b.1,trivial,trivial⟩
 | false=>
  rw [hf] at h
  exact z25 h
theorem Y9 (h0:X.E4=0) (h:X.E26=0):X.F.mO X.u' X.rl' X.rh'=X.mo2:=by
 obtain ⟨a,b,c⟩:=z26 h0 h
 rw [b,c,z_u (z22 (z24 a).1).1]
 rfl
theorem e27 (h0:X.E4=0):X.E27=fe X.E26 X.mo2:=nT (Y9 h0)
theorem z27 (h0:X.E4=0) (h:X.E27=0):X.E22=0/\X.mv2'=X.mv2:=by
 rw [e27 h0] at h
 have a:=(dO.1 h).1
 obtain ⟨b,c,d⟩:=z26 h0 a
 have e:=(z24 b).1
 unfold mv2'
 rw [Y9 h0 a,X6 h,c,d,z_u (z22 e).1]
 exact ⟨e,rfl⟩
theorem agj (h0:X.E4=0) (h:X.E27=0):X.F.aO X.bv' X.mv2'=X.ao:=by
 obtain ⟨a,b⟩:=z27 h0 h
 rw [b,(z22 a).2]
 rfl
theorem e28 (h0:X.E4=0):X.E28=fe X.E27 X.ao:=nT (agj h0)
theorem f3 (L:X.law) (h0:X.E4=0):X.E28=X.F3:=by
 rw [e28 h0,e27 h0,e26 h0,e25,f2 L]; rfl
end BX
end Go.Vc
namespace Go.Rd
open Go Go.Eng Go.Ar
def cAt (b:ByteArray) (i:Int):Int:=((b.data.toList.getD i.toNat 0).toNat:Int)
def Za (L:Int->Bool) (b:ByteArray):Nat->Int->Bool
 | 0,_=>true
 | n+1,i=>L (cAt b i)&&Za L b n (IntKind.i64.wrap (i+1))
def aeU (c:Int):Bool:=bif c==45 then true else c==95
def aeV (c:Int):Bool:=bif decide (c>=48) then bif decide (c<=57) then true else aeU c else aeU c
def aeW (c:Int):Bool:=bif decide (c>=97) then bif decide (c<=122) then true else aeV c else aeV c
def agk (c:Int):Bool:=bif decide (c>=65) then bif decide (c<=90) then true else aeW c else aeW c
def aeX (n:Int):Bool:=bif decide (n>=1) then decide (n<=16) else false
def aeY (b:ByteArray):Bool:=Za agk b b.size 0&&aeX b.size
def inR (lo hi n:Int):Bool:=decide (lo<=n)&&decide (n<=hi)
def noG (s:Su):Bool:=ic s.g ⟨#[]⟩
def isM (s:Su):Bool:=ic s.g ⟨#[77,73,82,82,79,82]⟩
def aeZ (s:Su):Bool:=
 (inR (-1000000000) 1000000000 s.c&&inR (-1000000000) 1000000000 s.l&&inR (-1000000000) 1000000000 s.th&&inR (-1000000000) 1000000000 s.dx&&inR (-1000000000) 1000000000 s.dy) &&
 (inR (-1000000000) 1000000000 s.a0&&inR (-1000000000) 1000000000 s.a1&&inR (-1000000000) 1000000000 s.a2&&inR (-1000000000) 1000000000 s.a3)&&(inR (-1000000000) 1000000000 s.f0&&inR (-1000000000) 1000000000 s.f1) &&
 ((inR (-100000000) 100000000 s.k&&inR (-100000000) 100000000 s.m)&&(inR (-90000000) 90000000 s.ax&&inR (-90000000) 90000000 s.ay&&inR (-90000000) 90000000 s.az)) &&
 (inR (-3) 3 s.o&&(inR 0 1000000000 s.se&&inR 0 1000000000 s.ho))&&(s.se==0||decide (s.ho<s.se))&&(noG s||aeY s.g)
def noX (s:Su):Bool:=s.l==0&&s.m==0
def noA (s:Su):Bool:=s.a0==0&&s.a1==0&&s.a2==0&&s.a3==0
def noP (s:Su):Bool:=s.f0==0&&s.f1==0
def noT (s:Su):Bool:=s.dx==0&&s.dy==0&&s.ax==0&&s.ay==0&&s.az==0
def ae0 (s:Su) (e:Bool):Bool:=
 (s.kd==1&&(noX s&&noT s&&(!(s.o==0||isM s)||(s.o==0&&noP s)))) ||
 (s.kd==2&&(noA s&&noP s&&s.o==0&&noT s)) ||
 (s.kd==3&&(noX s&&noA s&&noP s&&s.o==0&&noG s&&e&&s.c==0&&s.k==0&&s.se==0&&s.ho==0)) ||
 (s.kd==4&&(noX s&&noA s&&noP s&&s.o==0&&noT s&&noG s&&e&&s.k==0))
def abX (s:Su) (ys:List Int):Bool:=aeZ s&&ae0 s ys.isEmpty&&Uo ys&&decide (ys.length<=24)
section
variable (s:Su)
end
section
variable (s:Su) (ys:List Int)
variable {s} {ys}
end
section
variable (s:Su) (ys:List Int)
end
section
variable (c k a0 a1 a2 a3 a b d e:Int)
def cb (n m:Int):Sp:=aK 4294967296 4294967296 (IntKind.i64.wrap (n*m)) 1000000
def q1:Sp:=pz (u0 c k a b d e) (cb a0 2) (cb a1 3) (cb a2 4) (cb a3 5)
def q2:Sp:=aI (u0 c k a b d e).lo (u0 c k a b d e).hi (q1 c k a0 a1 a2 a3 a b d e).lo (q1 c k a0 a1 a2 a3 a b d e).hi
def fif (a b:Int):Sp:=aK a b 1 50
def q3:Sp:=aI (fif a b).lo (fif a b).hi (q2 c k a0 a1 a2 a3 a b d e).lo (q2 c k a0 a1 a2 a3 a b d e).hi
end
section
variable (c k l m a b d e:Int)
end
def t1 (g:Int):Bool:=bif g != 0 then true else false
section
variable (c k a0 a1 a2 a3 a b d e:Int)
end
structure Vs where
 c:Int
 k:Int
 a0:Int
 a1:Int
 a2:Int
 a3:Int
 a:Int
 b:Int
 x:Int
 y:Int
structure Vx where
 c:Int
 k:Int
 l:Int
 m:Int
 a:Int
 b:Int
 x:Int
 y:Int
abbrev S0 (v:Vs):Sp:=s0 v.c v.k v.a v.b v.x v.y
abbrev S1 (v:Vs):Sp:=s1 v.c v.k v.a v.b v.x v.y
abbrev Q1 (v:Vs):Sp:=q1 v.c v.k v.a0 v.a1 v.a2 v.a3 v.a v.b v.x v.y
abbrev Q2 (v:Vs):Sp:=q2 v.c v.k v.a0 v.a1 v.a2 v.a3 v.a v.b v.x v.y
abbrev O (s:Sp):Prop:=aj s.lo s.hi=true
theorem zJ {n d M:Int} (hn:-M<=n/\n<=M) (h:4503599627370496*M<18446744073709551615*d):Ck n d:=fun _=>by
 have:sg n n<=M:=by
  unfold sg
  cases h:decide (n<0) with
  | true=>show -n<=M; omega
  | false=>show n<=M; omega
 omega
theorem Ur {n d:Int} (h1:-4611686018427387904<=n) (h2:n<=4611686018427387904) (h3:1<=d) (h4:d<=4611686018427387904):okR n d=true:=by
 unfold okR; simp [h1,h2,h3,h4]
theorem zh {c:Int} (h:inL c):Ck c 1000000000:=zJ (M:=1000000000) h (by decide)
theorem agl {c:Int} (h:inL c):Ck c 1000000:=zJ (M:=1000000000) h (by decide)
theorem O5 {c:Int} (h:inL c):okR c 1000000000=true:=by unfold inL at h; exact Ur (by omega) (by omega) (by decide) (by decide)
theorem wkK {k:Int} (h:inK k):IntKind.i64.wrap (1000000+k)=1000000+k:=i64w (by unfold inK at h; omega) (by unfold inK at h; omega)
theorem O6 {k:Int} (h:inK k):Ck (IntKind.i64.wrap (1000000+k)) 1000000:=by
 rw [wkK h]
 exact zJ (M:=101000000) (by unfold inK at h; omega) (by decide)
theorem abY {k:Int} (h:inK k):okR (IntKind.i64.wrap (1000000+k)) 1000000=true:=by
 rw [wkK h]; unfold inK at h; exact Ur (by omega) (by omega) (by decide) (by decide)
theorem ae1:Ck 1 100:=zJ (M:=1) (by decide) (by decide)
theorem z0e {s:Sp} (h:z0 s=true):s.e=0:=by unfold z0 at h; simpa using h
theorem lU:Ri ⟨4294967296,4294967296,0⟩:=⟨by decide,by decide,by decide⟩
section
variable {c k a0 a1 a2 a3 a b x y:Int} (hc:inL c) (hk:inK k) (hx:aj a b=true) (hy:aj x y=true)
include hx in theorem K0:okE (s0 c k a b x y):=Jm (s:=⟨a,b,0⟩) (Ri.of hx)
include hx in theorem R0 (h:z0 (s0 c k a b x y)=true):Ri (s0 c k a b x y):=Jn (s:=⟨a,b,0⟩) (Ri.of hx) (z0e h)
include hy in theorem K1:okE (s1 c k a b x y):=Jm (s:=⟨x,y,0⟩) (Ri.of hy)
include hy in theorem R1 (h:z0 (s1 c k a b x y)=true):Ri (s1 c k a b x y):=Jn (s:=⟨x,y,0⟩) (Ri.of hy) (z0e h)
include hx hy in theorem K2 (h0:z0 (s0 c k a b x y)=true) (h1:z0 (s1 c k a b x y)=true):okE (s2 c k a b x y):=yM (R0 hx h0) (R1 hy h1)
include hx hy in theorem R2 (h0:z0 (s0 c k a b x y)=true) (h1:z0 (s1 c k a b x y)=true) (h2:z0 (s2 c k a b x y)=true):Ri (s2 c k a b x y):=DL (R0 hx h0) (R1 hy h1) (z0e h2)
include hx hy hc in theorem K3 (h0:z0 (s0 c k a b x y)=true) (h1:z0 (s1 c k a b x y)=true) (h2:z0 (s2 c k a b x y)=true):okE (s3 c k a b x y):=Cm (R2 hx hy h0 h1 h2) (zh hc) (O5 hc)
include hx hy hc in theorem R3 (h0:z0 (s0 c k a b x y)=true) (h1:z0 (s1 c k a b x y)=true) (h2:z0 (s2 c k a b x y)=true) (h3:z0 (s3 c k a b x y)=true):Ri (s3 c k a b x y):=BN (R2 hx hy h0 h1 h2) (zh hc) (z0e h3)
include hx hy hc in theorem K4 (h0:z0 (s0 c k a b x y)=true) (h1:z0 (s1 c k a b x y)=true) (h2:z0 (s2 c k a b x y)=true) (h3:z0 (s3 c k a b x y)=true):okE (s4 c k a b x y):=Cm (R3 hc hx hy h0 h1 h2 h3) (zh hc) (O5 hc)
include hx hy hc in theorem R4 (h0:z0 (s0 c k a b x y)=true) (h1:z0 (s1 c k a b x y)=true) (h2:z0 (s2 c k a b x y)=true) (h3:z0 (s3 c k a b x y)=true) (h4:z0 (s4 c k a b x y)=true):Ri (s4 c k a b x y):=BN (R3 hc hx hy h0 h1 h2 h3) (zh hc) (z0e h4)
include hx hy hc hk in theorem K5 (h0:z0 (s0 c k a b x y)=true) (h1:z0 (s1 c k a b x y)=true) (h2:z0 (s2 c k a b x y)=true) (h3:z0 (s3 c k a b x y)=true) (h4:z0 (s4 c k a b x y)=true):okE (s5 c k a b x y):=Cm (R4 hc hx hy h0 h1 h2 h3 h4) (O6 hk) (abY hk)
include hx hy hc hk in theorem R5 (h0:z0 (s0 c k a b x y)=true) (h1:z0 (s1 c k a b x y)=true) (h2:z0 (s2 c k a b x y)=true) (h3:z0 (s3 c k a b x y)=true) (h4:z0 (s4 c k a b x y)=true) (h5:z0 (s5 c k a b x y)=true):Ri (s5 c k a b x y):=BN (R4 hc hx hy h0 h1 h2 h3 h4) (O6 hk) (z0e h5)
include hx hy hc hk in theorem K6 (h0:z0 (s0 c k a b x y)=true) (h1:z0 (s1 c k a b x y)=true) (h2:z0 (s2 c k a b x y)=true) (h3:z0 (s3 c k a b x y)=true) (h4:z0 (s4 c k a b x y)=true) (h5:z0 (s5 c k a b x y)=true):okE (s6 c k a b x y):=YO lU (R5 hc hk hx hy h0 h1 h2 h3 h4 h5)
def H6 (c k a b x y:Int):Prop:=z0 (s0 c k a b x y)=true/\z0 (s1 c k a b x y)=true/\z0 (s2 c k a b x y)=true/\z0 (s3 c k a b x y)=true/\z0 (s4 c k a b x y)=true/\z0 (s5 c k a b x y)=true/\z0 (s6 c k a b x y)=true
include hx hy hc hk in theorem R6 (h:H6 c k a b x y):Ri (s6 c k a b x y):=YR lU (R5 hc hk hx hy h.1 h.2.1 h.2.2.1 h.2.2.2.1 h.2.2.2.2.1 h.2.2.2.2.2.1) (z0e h.2.2.2.2.2.2)
include hx hy hc hk in theorem K7 (h:H6 c k a b x y) (p:0<(s6 c k a b x y).lo):okE (s7 c k a b x y):=adl (R6 hc hk hx hy h) p
include hx hy hc hk in theorem R7 (h:H6 c k a b x y) (h7:z0 (s7 c k a b x y)=true):Ri (s7 c k a b x y):=adm (R6 hc hk hx hy h) (z0e h7)
include hx hy hc hk in theorem P7 (h:H6 c k a b x y) (p:0<(s6 c k a b x y).lo):0<(s7 c k a b x y).lo:=TU (R6 hc hk hx hy h) p
include hx hy hc in theorem K8 (h:H6 c k a b x y):okE (s8 c k a b x y):=yM (R3 hc hx hy h.1 h.2.1 h.2.2.1 h.2.2.2.1) (t:=⟨0,0,0⟩) o8
include hx hy hc in theorem R8 (h:H6 c k a b x y) (h8:z0 (s8 c k a b x y)=true):Ri (s8 c k a b x y):=DL (R3 hc hx hy h.1 h.2.1 h.2.2.1 h.2.2.2.1) (t:=⟨0,0,0⟩) o8 (z0e h8)
include hx hy hc hk in theorem K9 (h:H6 c k a b x y) (h7:z0 (s7 c k a b x y)=true):okE (s9 c k a b x y):=yM lU (R7 hc hk hx hy h h7)
include hx hy hc hk in theorem R9 (h:H6 c k a b x y) (h7:z0 (s7 c k a b x y)=true) (h9:z0 (s9 c k a b x y)=true):Ri (s9 c k a b x y):=DL lU (R7 hc hk hx hy h h7) (z0e h9)
include hx hy hc hk in theorem P9 (h:H6 c k a b x y) (p:0<(s6 c k a b x y).lo) (h7:z0 (s7 c k a b x y)=true) (h9:z0 (s9 c k a b x y)=true):0<(s9 c k a b x y).lo:=M4 lU (R7 hc hk hx hy h h7) (z0e h9) (by decide) (by have:=P7 hc hk hx hy h p; omega)
include hx hy hc hk in theorem K10 (h:H6 c k a b x y) (p:0<(s6 c k a b x y).lo) (h7:z0 (s7 c k a b x y)=true) (h8:z0 (s8 c k a b x y)=true) (h9:z0 (s9 c k a b x y)=true):okE (s10 c k a b x y):=YQ (R8 hc hx hy h h8) (R9 hc hk hx hy h h7 h9) (P9 hc hk hx hy h p h7 h9)
include hx hy hc hk in theorem R10 (h:H6 c k a b x y) (h7:z0 (s7 c k a b x y)=true) (h8:z0 (s8 c k a b x y)=true) (h9:z0 (s9 c k a b x y)=true) (h10:z0 (s10 c k a b x y)=true):Ri (s10 c k a b x y):=YT (R8 hc hx hy h h8) (R9 hc hk hx hy h h7 h9) (z0e h10)
include hx hy in theorem KU0 (h0:z0 (s0 c k a b x y)=true) (h1:z0 (s1 c k a b x y)=true) (h2:z0 (s2 c k a b x y)=true):okE (u0 c k a b x y):=Cm (R2 hx hy h0 h1 h2) ae1 (by decide)
include hx hy in theorem RU0 (h0:z0 (s0 c k a b x y)=true) (h1:z0 (s1 c k a b x y)=true) (h2:z0 (s2 c k a b x y)=true) (u:z0 (u0 c k a b x y)=true):Ri (u0 c k a b x y):=BN (R2 hx hy h0 h1 h2) ae1 (z0e u)
theorem RCA {n:Int} (h:inL n) (u:z0 (ca n)=true):Ri (ca n):=BN (s:=⟨4294967296,4294967296,0⟩) lU (agl h) (z0e u)
variable (i0:inL a0) (i1:inL a1) (i2:inL a2) (i3:inL a3)
def HU (c k a0 a1 a2 a3 a b x y:Int):Prop:=(z0 (s0 c k a b x y)=true/\z0 (s1 c k a b x y)=true/\z0 (s2 c k a b x y)=true/\z0 (u0 c k a b x y)=true)/\z0 (ca a0)=true/\z0 (ca a1)=true/\z0 (ca a2)=true/\z0 (ca a3)=true
include hx hy in theorem HU.r (h:HU c k a0 a1 a2 a3 a b x y):Ri (u0 c k a b x y):=RU0 hx hy h.1.1 h.1.2.1 h.1.2.2.1 h.1.2.2.2
include hx hy i0 i1 i2 i3 in theorem KU1 (h:HU c k a0 a1 a2 a3 a b x y):okE (u1 c k a0 a1 a2 a3 a b x y):=adn (h.r hx hy) (RCA i0 h.2.1) (RCA i1 h.2.2.1) (RCA i2 h.2.2.2.1) (RCA i3 h.2.2.2.2)
include hx hy i0 i1 i2 i3 in theorem RU1 (h:HU c k a0 a1 a2 a3 a b x y) (u:z0 (u1 c k a0 a1 a2 a3 a b x y)=true):Ri (u1 c k a0 a1 a2 a3 a b x y):=ado (h.r hx hy) (RCA i0 h.2.1) (RCA i1 h.2.2.1) (RCA i2 h.2.2.2.1) (RCA i3 h.2.2.2.2) (z0e u)
include hx hy in theorem KU2 (h:HU c k a0 a1 a2 a3 a b x y):okE (u2 c k a b x y):=Jm (h.r hx hy)
include hx hy in theorem RU2 (h:HU c k a0 a1 a2 a3 a b x y) (u:z0 (u2 c k a b x y)=true):Ri (u2 c k a b x y):=Jn (h.r hx hy) (z0e u)
include hx hy i0 i1 i2 i3 in theorem KU3 (h:HU c k a0 a1 a2 a3 a b x y) (v1:z0 (u1 c k a0 a1 a2 a3 a b x y)=true) (v2:z0 (u2 c k a b x y)=true):okE (u3 c k a0 a1 a2 a3 a b x y):=YP (RU2 hx hy h v2) (RU1 hx hy i0 i1 i2 i3 h v1)
include hx hy i0 i1 i2 i3 in theorem RU3 (h:HU c k a0 a1 a2 a3 a b x y) (v1:z0 (u1 c k a0 a1 a2 a3 a b x y)=true) (v2:z0 (u2 c k a b x y)=true) (v3:z0 (u3 c k a0 a1 a2 a3 a b x y)=true):Ri (u3 c k a0 a1 a2 a3 a b x y):=YS (RU2 hx hy h v2) (RU1 hx hy i0 i1 i2 i3 h v1) (z0e v3)
include hx hy hc hk i0 i1 i2 i3 in theorem KU4 (g:H6 c k a b x y) (h7:z0 (s7 c k a b x y)=true) (h8:z0 (s8 c k a b x y)=true) (h9:z0 (s9 c k a b x y)=true) (h10:z0 (s10 c k a b x y)=true) (h:HU c k a0 a1 a2 a3 a b x y) (v1:z0 (u1 c k a0 a1 a2 a3 a b x y)=true) (v2:z0 (u2 c k a b x y)=true) (v3:z0 (u3 c k a0 a1 a2 a3 a b x y)=true):okE (u4 c k a0 a1 a2 a3 a b x y):=yM (R10 hc hk hx hy g h7 h8 h9 h10) (RU3 hx hy i0 i1 i2 i3 h v1 v2 v3)
end
section
variable {c k l m a b x y:Int} (hc:inL c) (hk:inK k) (hl:inL l) (hm:inK m) (hx:aj a b=true) (hy:aj x y=true)
include hc hk hl hm hx hy in theorem BK0 :okE (b0 c k l m a b x y):=Jm (Ri.of (s:=⟨a,b,0⟩) hx)
include hc hk hl hm hx hy in theorem BR0 (e0:z0 (b0 c k l m a b x y)=true):Ri (b0 c k l m a b x y):=Jn (Ri.of (s:=⟨a,b,0⟩) hx) (z0e e0)
include hc hk hl hm hx hy in theorem BK1 (e0:z0 (b0 c k l m a b x y)=true):okE (b1 c k l m a b x y):=Cm (BR0 hc hk hl hm hx hy e0) (zh hl) (O5 hl)
include hc hk hl hm hx hy in theorem BR1 (e0:z0 (b0 c k l m a b x y)=true) (e1:z0 (b1 c k l m a b x y)=true):Ri (b1 c k l m a b x y):=BN (BR0 hc hk hl hm hx hy e0) (zh hl) (z0e e1)
include hc hk hl hm hx hy in theorem BK2 :okE (b2 c k l m a b x y):=Jm (Ri.of (s:=⟨x,y,0⟩) hy)
include hc hk hl hm hx hy in theorem BR2 (e2:z0 (b2 c k l m a b x y)=true):Ri (b2 c k l m a b x y):=Jn (Ri.of (s:=⟨x,y,0⟩) hy) (z0e e2)
include hc hk hl hm hx hy in theorem BK3 (e2:z0 (b2 c k l m a b x y)=true):okE (b3 c k l m a b x y):=Cm (BR2 hc hk hl hm hx hy e2) (zh hc) (O5 hc)
include hc hk hl hm hx hy in theorem BR3 (e2:z0 (b2 c k l m a b x y)=true) (e3:z0 (b3 c k l m a b x y)=true):Ri (b3 c k l m a b x y):=BN (BR2 hc hk hl hm hx hy e2) (zh hc) (z0e e3)
include hc hk hl hm hx hy in theorem BK4 (e0:z0 (b0 c k l m a b x y)=true) (e1:z0 (b1 c k l m a b x y)=true):okE (b4 c k l m a b x y):=Cm (BR1 hc hk hl hm hx hy e0 e1) (zh hl) (O5 hl)
include hc hk hl hm hx hy in theorem BR4 (e0:z0 (b0 c k l m a b x y)=true) (e1:z0 (b1 c k l m a b x y)=true) (e4:z0 (b4 c k l m a b x y)=true):Ri (b4 c k l m a b x y):=BN (BR1 hc hk hl hm hx hy e0 e1) (zh hl) (z0e e4)
include hc hk hl hm hx hy in theorem BK5 (e2:z0 (b2 c k l m a b x y)=true) (e3:z0 (b3 c k l m a b x y)=true):okE (b5 c k l m a b x y):=Cm (BR3 hc hk hl hm hx hy e2 e3) (zh hc) (O5 hc)
include hc hk hl hm hx hy in theorem BR5 (e2:z0 (b2 c k l m a b x y)=true) (e3:z0 (b3 c k l m a b x y)=true) (e5:z0 (b5 c k l m a b x y)=true):Ri (b5 c k l m a b x y):=BN (BR3 hc hk hl hm hx hy e2 e3) (zh hc) (z0e e5)
include hc hk hl hm hx hy in theorem BK6 (e0:z0 (b0 c k l m a b x y)=true) (e1:z0 (b1 c k l m a b x y)=true) (e4:z0 (b4 c k l m a b x y)=true):okE (b6 c k l m a b x y):=Cm (BR4 hc hk hl hm hx hy e0 e1 e4) (O6 hm) (abY hm)
include hc hk hl hm hx hy in theorem BR6 (e0:z0 (b0 c k l m a b x y)=true) (e1:z0 (b1 c k l m a b x y)=true) (e4:z0 (b4 c k l m a b x y)=true) (e6:z0 (b6 c k l m a b x y)=true):Ri (b6 c k l m a b x y):=BN (BR4 hc hk hl hm hx hy e0 e1 e4) (O6 hm) (z0e e6)
include hc hk hl hm hx hy in theorem BK7 (e2:z0 (b2 c k l m a b x y)=true) (e3:z0 (b3 c k l m a b x y)=true) (e5:z0 (b5 c k l m a b x y)=true):okE (b7 c k l m a b x y):=Cm (BR5 hc hk hl hm hx hy e2 e3 e5) (O6 hk) (abY hk)
include hc hk hl hm hx hy in theorem BR7 (e2:z0 (b2 c k l m a b x y)=true) (e3:z0 (b3 c k l m a b x y)=true) (e5:z0 (b5 c k l m a b x y)=true) (e7:z0 (b7 c k l m a b x y)=true):Ri (b7 c k l m a b x y):=BN (BR5 hc hk hl hm hx hy e2 e3 e5) (O6 hk) (z0e e7)
include hc hk hl hm hx hy in theorem BK8 (e0:z0 (b0 c k l m a b x y)=true) (e1:z0 (b1 c k l m a b x y)=true) (e2:z0 (b2 c k l m a b x y)=true) (e3:z0 (b3 c k l m a b x y)=true) (e4:z0 (b4 c k l m a b x y)=true) (e5:z0 (b5 c k l m a b x y)=true) (e6:z0 (b6 c k l m a b x y)=true) (e7:z0 (b7 c k l m a b x y)=true):okE (b8 c k l m a b x y):=yM (BR6 hc hk hl hm hx hy e0 e1 e4 e6) (BR7 hc hk hl hm hx hy e2 e3 e5 e7)
include hc hk hl hm hx hy in theorem BR8 (e0:z0 (b0 c k l m a b x y)=true) (e1:z0 (b1 c k l m a b x y)=true) (e2:z0 (b2 c k l m a b x y)=true) (e3:z0 (b3 c k l m a b x y)=true) (e4:z0 (b4 c k l m a b x y)=true) (e5:z0 (b5 c k l m a b x y)=true) (e6:z0 (b6 c k l m a b x y)=true) (e7:z0 (b7 c k l m a b x y)=true) (e8:z0 (b8 c k l m a b x y)=true):Ri (b8 c k l m a b x y):=DL (BR6 hc hk hl hm hx hy e0 e1 e4 e6) (BR7 hc hk hl hm hx hy e2 e3 e5 e7) (z0e e8)
include hc hk hl hm hx hy in theorem BK9 (e0:z0 (b0 c k l m a b x y)=true) (e1:z0 (b1 c k l m a b x y)=true) (e2:z0 (b2 c k l m a b x y)=true) (e3:z0 (b3 c k l m a b x y)=true) (e4:z0 (b4 c k l m a b x y)=true) (e5:z0 (b5 c k l m a b x y)=true) (e6:z0 (b6 c k l m a b x y)=true) (e7:z0 (b7 c k l m a b x y)=true) (e8:z0 (b8 c k l m a b x y)=true):okE (b9 c k l m a b x y):=YO lU (BR8 hc hk hl hm hx hy e0 e1 e2 e3 e4 e5 e6 e7 e8)
include hc hk hl hm hx hy in theorem BR9 (e0:z0 (b0 c k l m a b x y)=true) (e1:z0 (b1 c k l m a b x y)=true) (e2:z0 (b2 c k l m a b x y)=true) (e3:z0 (b3 c k l m a b x y)=true) (e4:z0 (b4 c k l m a b x y)=true) (e5:z0 (b5 c k l m a b x y)=true) (e6:z0 (b6 c k l m a b x y)=true) (e7:z0 (b7 c k l m a b x y)=true) (e8:z0 (b8 c k l m a b x y)=true) (e9:z0 (b9 c k l m a b x y)=true):Ri (b9 c k l m a b x y):=YR lU (BR8 hc hk hl hm hx hy e0 e1 e2 e3 e4 e5 e6 e7 e8) (z0e e9)
include hc hk hl hm hx hy in theorem BK10 (e0:z0 (b0 c k l m a b x y)=true) (e1:z0 (b1 c k l m a b x y)=true) (e2:z0 (b2 c k l m a b x y)=true) (e3:z0 (b3 c k l m a b x y)=true) (e4:z0 (b4 c k l m a b x y)=true) (e5:z0 (b5 c k l m a b x y)=true) (e6:z0 (b6 c k l m a b x y)=true) (e7:z0 (b7 c k l m a b x y)=true) (e8:z0 (b8 c k l m a b x y)=true) (e9:z0 (b9 c k l m a b x y)=true) (p:0<(b9 c k l m a b x y).lo):okE (b10 c k l m a b x y):=adl (BR9 hc hk hl hm hx hy e0 e1 e2 e3 e4 e5 e6 e7 e8 e9) p
include hc hk hl hm hx hy in theorem BR10 (e0:z0 (b0 c k l m a b x y)=true) (e1:z0 (b1 c k l m a b x y)=true) (e2:z0 (b2 c k l m a b x y)=true) (e3:z0 (b3 c k l m a b x y)=true) (e4:z0 (b4 c k l m a b x y)=true) (e5:z0 (b5 c k l m a b x y)=true) (e6:z0 (b6 c k l m a b x y)=true) (e7:z0 (b7 c k l m a b x y)=true) (e8:z0 (b8 c k l m a b x y)=true) (e9:z0 (b9 c k l m a b x y)=true) (e10:z0 (b10 c k l m a b x y)=true):Ri (b10 c k l m a b x y):=adm (BR9 hc hk hl hm hx hy e0 e1 e2 e3 e4 e5 e6 e7 e8 e9) (z0e e10)
include hc hk hl hm hx hy in theorem BK11 (e0:z0 (b0 c k l m a b x y)=true) (e1:z0 (b1 c k l m a b x y)=true) (e2:z0 (b2 c k l m a b x y)=true) (e3:z0 (b3 c k l m a b x y)=true):okE (b11 c k l m a b x y):=yM (BR1 hc hk hl hm hx hy e0 e1) (BR3 hc hk hl hm hx hy e2 e3)
include hc hk hl hm hx hy in theorem BR11 (e0:z0 (b0 c k l m a b x y)=true) (e1:z0 (b1 c k l m a b x y)=true) (e2:z0 (b2 c k l m a b x y)=true) (e3:z0 (b3 c k l m a b x y)=true) (e11:z0 (b11 c k l m a b x y)=true):Ri (b11 c k l m a b x y):=DL (BR1 hc hk hl hm hx hy e0 e1) (BR3 hc hk hl hm hx hy e2 e3) (z0e e11)
include hc hk hl hm hx hy in theorem BK12 (e0:z0 (b0 c k l m a b x y)=true) (e1:z0 (b1 c k l m a b x y)=true) (e2:z0 (b2 c k l m a b x y)=true) (e3:z0 (b3 c k l m a b x y)=true) (e4:z0 (b4 c k l m a b x y)=true) (e5:z0 (b5 c k l m a b x y)=true) (e6:z0 (b6 c k l m a b x y)=true) (e7:z0 (b7 c k l m a b x y)=true) (e8:z0 (b8 c k l m a b x y)=true) (e9:z0 (b9 c k l m a b x y)=true) (e10:z0 (b10 c k l m a b x y)=true):okE (b12 c k l m a b x y):=yM lU (BR10 hc hk hl hm hx hy e0 e1 e2 e3 e4 e5 e6 e7 e8 e9 e10)
include hc hk hl hm hx hy in theorem BR12 (e0:z0 (b0 c k l m a b x y)=true) (e1:z0 (b1 c k l m a b x y)=true) (e2:z0 (b2 c k l m a b x y)=true) (e3:z0 (b3 c k l m a b x y)=true) (e4:z0 (b4 c k l m a b x y)=true) (e5:z0 (b5 c k l m a b x y)=true) (e6:z0 (b6 c k l m a b x y)=true) (e7:z0 (b7 c k l m a b x y)=true) (e8:z0 (b8 c k l m a b x y)=true) (e9:z0 (b9 c k l m a b x y)=true) (e10:z0 (b10 c k l m a b x y)=true) (e12:z0 (b12 c k l m a b x y)=true):Ri (b12 c k l m a b x y):=DL lU (BR10 hc hk hl hm hx hy e0 e1 e2 e3 e4 e5 e6 e7 e8 e9 e10) (z0e e12)
include hc hk hl hm hx hy in theorem BK13 (e0:z0 (b0 c k l m a b x y)=true) (e1:z0 (b1 c k l m a b x y)=true) (e2:z0 (b2 c k l m a b x y)=true) (e3:z0 (b3 c k l m a b x y)=true) (e4:z0 (b4 c k l m a b x y)=true) (e5:z0 (b5 c k l m a b x y)=true) (e6:z0 (b6 c k l m a b x y)=true) (e7:z0 (b7 c k l m a b x y)=true) (e8:z0 (b8 c k l m a b x y)=true) (e9:z0 (b9 c k l m a b x y)=true) (e10:z0 (b10 c k l m a b x y)=true) (e11:z0 (b11 c k l m a b x y)=true) (e12:z0 (b12 c k l m a b x y)=true) (p:0<(b12 c k l m a b x y).lo):okE (b13 c k l m a b x y):=YQ (BR11 hc hk hl hm hx hy e0 e1 e2 e3 e11) (BR12 hc hk hl hm hx hy e0 e1 e2 e3 e4 e5 e6 e7 e8 e9 e10 e12) p
include hc hk hl hm hx hy in theorem BR13 (e0:z0 (b0 c k l m a b x y)=true) (e1:z0 (b1 c k l m a b x y)=true) (e2:z0 (b2 c k l m a b x y)=true) (e3:z0 (b3 c k l m a b x y)=true) (e4:z0 (b4 c k l m a b x y)=true) (e5:z0 (b5 c k l m a b x y)=true) (e6:z0 (b6 c k l m a b x y)=true) (e7:z0 (b7 c k l m a b x y)=true) (e8:z0 (b8 c k l m a b x y)=true) (e9:z0 (b9 c k l m a b x y)=true) (e10:z0 (b10 c k l m a b x y)=true) (e11:z0 (b11 c k l m a b x y)=true) (e12:z0 (b12 c k l m a b x y)=true) (e13:z0 (b13 c k l m a b x y)=true):Ri (b13 c k l m a b x y):=YT (BR11 hc hk hl hm hx hy e0 e1 e2 e3 e11) (BR12 hc hk hl hm hx hy e0 e1 e2 e3 e4 e5 e6 e7 e8 e9 e10 e12) (z0e e13)
include hc hk hl hm hx hy in theorem BP12 (e0:z0 (b0 c k l m a b x y)=true) (e1:z0 (b1 c k l m a b x y)=true) (e2:z0 (b2 c k l m a b x y)=true) (e3:z0 (b3 c k l m a b x y)=true) (e4:z0 (b4 c k l m a b x y)=true) (e5:z0 (b5 c k l m a b x y)=true) (e6:z0 (b6 c k l m a b x y)=true) (e7:z0 (b7 c k l m a b x y)=true) (e8:z0 (b8 c k l m a b x y)=true) (e9:z0 (b9 c k l m a b x y)=true) (e10:z0 (b10 c k l m a b x y)=true) (e12:z0 (b12 c k l m a b x y)=true) (p:0<(b9 c k l m a b x y).lo):0<(b12 c k l m a b x y).lo:=M4 lU (BR10 hc hk hl hm hx hy e0 e1 e2 e3 e4 e5 e6 e7 e8 e9 e10) (z0e e12) (by decide) (by have:=TU (BR9 hc hk hl hm hx hy e0 e1 e2 e3 e4 e5 e6 e7 e8 e9) p; exact Int.le_of_lt this)
end
structure BaseF (c k a b x y:Int):Prop where
 h:H6 c k a b x y
 p:0<(s6 c k a b x y).lo
 h7:z0 (s7 c k a b x y)=true
 h8:z0 (s8 c k a b x y)=true
 h9:z0 (s9 c k a b x y)=true
 h10:z0 (s10 c k a b x y)=true
section
variable {c k a0 a1 a2 a3 a b x y:Int} (hc:inL c) (hk:inK k) (hx:aj a b=true) (hy:aj x y=true) (f:BaseF c k a b x y)
include hc hk hx hy f
variable (i0:inL a0) (i1:inL a1) (i2:inL a2) (i3:inL a3) (u:z0 (u0 c k a b x y)=true)
include u
include i0 i1 i2 i3
end
structure BaseX (c k l m a b x y:Int):Prop where
 e0:z0 (b0 c k l m a b x y)=true
 e1:z0 (b1 c k l m a b x y)=true
 e2:z0 (b2 c k l m a b x y)=true
 e3:z0 (b3 c k l m a b x y)=true
 e4:z0 (b4 c k l m a b x y)=true
 e5:z0 (b5 c k l m a b x y)=true
 e6:z0 (b6 c k l m a b x y)=true
 e7:z0 (b7 c k l m a b x y)=true
 e8:z0 (b8 c k l m a b x y)=true
 e9:z0 (b9 c k l m a b x y)=true
 p:0<(b9 c k l m a b x y).lo
 e10:z0 (b10 c k l m a b x y)=true
 e11:z0 (b11 c k l m a b x y)=true
 e12:z0 (b12 c k l m a b x y)=true
 e13:z0 (b13 c k l m a b x y)=true
section
variable {c k l m a b x y:Int} (hc:inL c) (hk:inK k) (hl:inL l) (hm:inK m) (hx:aj a b=true) (hy:aj x y=true) (f:BaseX c k l m a b x y)
include hc hk hl hm hx hy f
end
structure Dr (z0 z1 z2 z3 z4 z5 z6 z7 z8 z9 z10 z11 z12 z13 z14 z15 z16 z17 z18 z19 z20:Int):Prop where
 r0:0<=z0/\z0<=255
 r1:-32768<=z1/\z1<=32767
 r2:-32768<=z2/\z2<=32767
 r3:-32768<=z3/\z3<=32767
 r4:-32768<=z4/\z4<=32767
 r5:-128<=z5/\z5<=127
 r6:-128<=z6/\z6<=127
 r7:-128<=z7/\z7<=127
 r8:-128<=z8/\z8<=127
 r9:-128<=z9/\z9<=127
 r10:-128<=z10/\z10<=127
 r11:-128<=z11/\z11<=127
 r12:-32768<=z12/\z12<=32767
 r13:0<=z13/\z13<=255
 r14:0<=z14/\z14<=255
 r15:0<=z15/\z15<=255
 r16:-128<=z16/\z16<=127
 r17:-128<=z17/\z17<=127
 r18:-128<=z18/\z18<=127
 r19:-128<=z19/\z19<=127
 r20:-128<=z20/\z20<=127
structure Xd4 (x0 x1 x2 x3:Int):Prop where
 s0:-32768<=x0/\x0<=32767
 s1:-32768<=x1/\x1<=32767
 s2:-32768<=x2/\x2<=32767
 s3:-32768<=x3/\x3<=32767
section
variable {c k a0 a1 a2 a3 a b x y a' b' x' y':Int} (hc:inL c) (hk:inK k) (wx:Wi ⟨a',b',0⟩ ⟨a,b,0⟩) (wy:Wi ⟨x',y',0⟩ ⟨x,y,0⟩)
include hc hk wx wy
structure BaseW (c k a b x y a' b' x' y':Int):Prop where
 f:BaseF c k a' b' x' y'
 w2:Wi (s2 c k a' b' x' y') (s2 c k a b x y)
 w7:Wi (s7 c k a' b' x' y') (s7 c k a b x y)
 w10:Wi (s10 c k a' b' x' y') (s10 c k a b x y)
variable (i0:inL a0) (i1:inL a1) (i2:inL a2) (i3:inL a3)
include i0 i1 i2 i3
end
section
variable {c k a0 a1 a2 a3 a b x y a' b' x' y':Int} (hc:inL c) (hk:inK k) (hx:aj a b=true) (hy:aj x y=true) (wx:Wi ⟨a',b',0⟩ ⟨a,b,0⟩) (wy:Wi ⟨x',y',0⟩ ⟨x,y,0⟩) (i0:inL a0) (i1:inL a1) (i2:inL a2) (i3:inL a3)
include hc hk hx hy wx wy i0 i1 i2 i3
end
section
variable {c k l m a b x y a' b' x' y':Int} (hc:inL c) (hk:inK k) (hl:inL l) (hm:inK m) (hx:aj a b=true) (hy:aj x y=true) (wx:Wi ⟨a',b',0⟩ ⟨a,b,0⟩) (wy:Wi ⟨x',y',0⟩ ⟨x,y,0⟩)
include hc hk hl hm hx hy wx wy
end
structure Sl where
 s:Sp
 f:Int
 u:Sp
 v:Sp
structure Mn (W P:Sl):Prop where
 s:W.s.e=0->P.s.e=0/\Wi P.s W.s
 f:W.f=0->P.f=0/\Wi P.u W.u/\Wi P.v W.v
section
variable {c k l m a0 a1 a2 a3 a b d e:Int} (hc:inL c) (hk:inK k) (hl:inL l) (hm:inK m)
end
section
end
structure Ev (W P:Sl):Prop where
 s:P.s=W.s
 f:P.f=W.f
 u:P.u=ng W.u
 v:P.v=W.v
section
variable (s:Su) (ys:List Int) (a b x y:Int)
end
end Go.Rd
namespace Go.Vc
open Go Go.Eng Go.Ar Go.Rd
structure BO where
 v:Ve
 c:Int
 e:Int
namespace BX
variable (X:BX)
def ri:Bool:=bif decide (X.a<10000000) then true else bif decide (X.a>40000000) then true else bif decide (X.b<10000000) then true else bif decide (X.b>40000000) then true else bif decide (X.l<300000) then true else decide (X.l>2500000)
def sk3 (v:Ve):Bool:=!bif X.F.sk v.a v.b != 0||!(X.F.sk v.a v.b != 0)&&(X.F.sk v.c v.d != 0||!(X.F.sk v.c v.d != 0)&&X.F.sk v.e v.f != 0) then false else true
def rv:Bool:=bif X.sk3 X.v then true else X.sk3 X.w
def i1:Sp:=X.F.sc X.v.a X.v.b X.S.c 1000000000
def i2:Sp:=X.F.sc X.i1.lo X.i1.hi 10000000 X.b
def i3:Sp:=X.F.sc X.v.c X.v.d X.S.c 1000000000
def i9:Sp:=X.F.di X.w.c X.w.d X.w.e X.w.f
end BX
structure IT where
 a1:Eb
 a2:Eb
 a3:Eb
 a4:Eb
 k:Bool
 b1:Eb
 b2:Eb
 c1:Eb
 c2:Eb
 c3:Eb
 c4:Eb
 c5:Eb
 c6:Eb
namespace IT
variable (B:IT)
def p47:Bool:=B.a1.z&&B.a2.z
def p410:Bool:=B.p47&&(B.a3.z&&B.a4.z)
def p418:Bool:=bif B.k then B.b1.z&&B.b2.z else true
def p423:Bool:=B.c1.z&&B.c2.z
def ok:Bool:=B.p410&&(B.p418&&(B.p423&&(B.c3.z&&B.c4.z)&&(B.c5.z&&bif B.k then B.c6.z else true)))
def g5:Bool:=B.p410&&(B.p418&&(B.p423&&(B.c3.z&&B.c4.z)&&(B.c5.z&&(B.k&&(!B.c6.z&&B.c6.s))||!B.c5.z&&B.c5.s)||(B.p423&&(!B.c3.z&&B.c3.s||B.c3.z&&(!B.c4.z&&B.c4.s))||(!B.c1.z&&B.c1.s||B.c1.z&&(!B.c2.z&&B.c2.s))))||B.k&&(!B.b1.z&&B.b1.s||B.b1.z&&(!B.b2.z&&B.b2.s)))||(B.a1.z&&(!B.a2.z&&B.a2.s)||!B.a1.z&&B.a1.s||B.p47&&(B.a3.z&&(!B.a4.z&&B.a4.s)||!B.a3.z&&B.a3.s))
end IT
namespace BX
variable (X:BX)
def k1:Int:=bif X.i1.e != 0 then X.i1.e else 0
def i2':Sp:=X.F.sc (bif X.i1.e != 0 then 0 else X.i1.lo) (bif X.i1.e != 0 then 0 else X.i1.hi) 10000000 X.b
def k2:Int:=kE X.k1 X.i2'.e
variable {X}
structure vlaw (X:BX):Prop where
 vc:∀ v,X.F.vc v=bif X.sk3 v then 20 else 0
end BX
end Go.Vc
namespace Go.Vc
open Go Go.Eng Go.Ar Go.Rd
namespace BX
variable (X:BX) (n:Int)
def n0:Prop:=agi n X.ys/\X.S.g.size<1000000000/\abX X.S X.ys=true
variable {X n}
theorem wr {x:Int} (h:-9000000000000000000<=x/\x<=9000000000000000000):IntKind.i64.wrap x=x:=i64w (by omega) (by omega)
end BX
end Go.Vc
namespace Go.Iv
open Go Go.Ar Go.Rd Go.Vc
theorem M8 {P:Nat->Prop} (h0:P 0):∀ n,¬ P n->∃ k,P k/\¬ P (k+1)
 | 0,h=>absurd h0 h
 | n+1,h=>by
  classical
  by_cases hn:P n
  .exact ⟨n,hn,h⟩
  .exact M8 h0 n hn
theorem ae2 {u v:Rat} (hv:0<=v) (h:u*u<=v*v):u<=v:=by
 rcases lT u v with k|k
 .exact k
 .rcases Rat.le_iff_lt_or_eq.1 k with k|k
  .exfalso
   have hu:0<u:=by grind
   have:=Rat.mul_lt_mul_of_pos_right k hu
   have:=BQ (Rat.le_of_lt k) hv
   grind
  .rw [k]; exact Rat.le_refl
theorem abZ {a b:Int} (e:(eH a b).e=0):aj a b=true/\0<=a/\eH a b=⟨rtV a false,rtV b true,0⟩:=by
 unfold eH at e ⊢
 cases h:aj a b with
 | false=>rw [h] at e; cases e
 | true=>
  cases k:decide (a<0) with
  | true=>rw [h,k] at e; cases e
  | false=>exact ⟨rfl,by have:=of_decide_eq_false k; omega,rfl⟩
theorem X7 {a b:Int} {x:Rat} (e:(eH a b).e=0) (h:cn a b x) (K:Nat) (hK:0<K):∃ s:Rat,0<=s/\cn (eH a b).lo (eH a b).hi s/\s*s<=x/\(x - s*s)*(K:Rat)<=1:=by
 obtain ⟨ho,h0,e0⟩:=abZ e
 have hb:=bX.1 ho
 have oa:fU a=true:=by unfold fU okF; simp only [Bool.and_eq_true,decide_eq_true_eq]; omega
 have ob:fU b=true:=by unfold fU okF; simp only [Bool.and_eq_true,decide_eq_true_eq]; omega
 obtain ⟨p0,p1,_,_⟩:=fB oa
 obtain ⟨q0,q1,q2,q3⟩:=fB ob
 have H:0<=rtV b true/\b*4294967296<=rtV b true*rtV b true/\rtV b true<=8796093022208:=by
  unfold rtV
  cases k:sqR b*sqR b==b*4294967296 with
  | true=>exact ⟨q0,by have:=beq_iff_eq.1 k; show _<=sqR b*sqR b; omega,by show sqR b<=_; omega⟩
  | false=>exact ⟨by show 0<=sqR b+1; omega,by show _<=(sqR b+1)*(sqR b+1); omega,by show sqR b+1<=_; omega⟩
 rw [e0]
 obtain ⟨h1,h2⟩:=h
 have hL:rtV a false=sqR a:=rfl
 rw [hL]
 generalize rtV b true=hi at H ⊢
 generalize sqR a=lo at p0 p1 ⊢
 obtain ⟨H0,H1,H2⟩:=H
 have p0:(0:Rat)<=(lo:Rat):=by exact_mod_cast p0
 have p1:(lo:Rat)*(lo:Rat)<=(a:Rat)*4294967296:=by have:=jN p1; push_cast at this; exact this
 have H0:(0:Rat)<=(hi:Rat):=by exact_mod_cast H0
 have H1:(b:Rat)*4294967296<=(hi:Rat)*(hi:Rat):=by have:=jN H1; push_cast at this; exact this
 have H2:(hi:Rat)<=8796093022208:=by have:=jN H2; push_cast at this; exact this
 have kq:(0:Rat)<(K:Rat):=by exact_mod_cast hK
 have f0:((0:Nat):Rat)*((0:Nat):Rat)<=x*4294967296*4294967296*((K:Rat)*(K:Rat)):=by
  have:(0:Rat)<=(a:Rat):=by exact_mod_cast h0
  have:=Rat.mul_nonneg (a:=x*4294967296) (b:=4294967296) (by grind) (by decide)
  have:=Rat.mul_nonneg this (Rat.mul_nonneg (Rat.le_of_lt kq) (Rat.le_of_lt kq))
  push_cast
  grind
 obtain ⟨n,hn⟩:∃ n:Nat,(n:Rat)=(hi:Rat)*(K:Rat)+1:=by
  have:0<=hi:=by exact_mod_cast H0
  refine ⟨(hi*K+1).toNat,?_⟩
  have e:(((hi*K+1).toNat:Nat):Int)=hi*K+1:=Int.toNat_of_nonneg (by have:=Int.mul_nonneg this (Int.natCast_nonneg K); omega)
  have:=congrArg (fun z:Int=>(z:Rat)) e
  push_cast at this
  exact this
 have f1:¬ ((n:Rat)*(n:Rat)<=x*4294967296*4294967296*((K:Rat)*(K:Rat))):=by
  intro hc
  have t1:=wF h2 (c:=4294967296) (by decide)
  have t2:=Rat.le_trans t1 H1
  have t3:=wF t2 (Rat.mul_nonneg (Rat.le_of_lt kq) (Rat.le_of_lt kq))
  rw [hn] at hc
  have t4:=Rat.mul_nonneg H0 (Rat.le_of_lt kq)
  grind
 obtain ⟨k,g1,g2⟩:=M8 (P:=fun k=>(k:Rat)*(k:Rat)<=x*4294967296*4294967296*((K:Rat)*(K:Rat))) f0 n f1
 have g2:=Rat.not_le.1 g2
 push_cast at g2
 obtain ⟨S,hS⟩:∃ S:Rat,S*(K:Rat)=(k:Rat):=⟨(k:Rat) / (K:Rat),by grind⟩
 have hk:(0:Rat)<=(k:Rat):=by exact_mod_cast Nat.zero_le k
 have S0:0<=S:=Rat.le_of_mul_le_mul_right (c:=(K:Rat)) (by rw [hS]; grind) kq
 have kk:0<(K:Rat)*(K:Rat):=Rat.mul_pos kq kq
 have S1:S*S<=x*4294967296*4294967296:=Rat.le_of_mul_le_mul_right (c:=(K:Rat)*(K:Rat)) (by rw [<- hS] at g1; grind) kk
 have Shi:S<=(hi:Rat):=ae2 H0 (Rat.le_trans S1 (Rat.le_trans (wF h2 (by decide)) H1))
 have Slo:(lo:Rat)<=S:=by
  rcases lT (lo:Rat) S with h|h
  .exact h
  .-- lo K is a whole number at most k
   have q:(lo:Rat)*(K:Rat)*((lo:Rat)*(K:Rat))<=x*4294967296*4294967296*((K:Rat)*(K:Rat)):=by
    have t1:=Rat.le_trans p1 (wF h1 (c:=4294967296) (by decide))
    have t2:=wF t1 (Rat.le_of_lt kk)
    grind
   have t:(lo:Rat)*(K:Rat)<(k:Rat)+1:=by
    rcases lT ((k:Rat)+1) ((lo:Rat)*(K:Rat)) with h|h
    .exfalso
     have:=Rat.le_trans (BQ h (c:=(k:Rat)+1) (by grind)) (wF h (Rat.mul_nonneg p0 (Rat.le_of_lt kq)))
     grind
    .rcases Rat.le_iff_lt_or_eq.1 h with h|e
     .exact h
     .exfalso
      rw [e] at q
      grind
   have t:lo*(K:Int)<(k:Int)+1:=by exact_mod_cast t
   have t:lo*(K:Int)<=(k:Int):=by omega
   have t:(lo:Rat)*(K:Rat)<=(k:Rat):=by exact_mod_cast t
   rw [<- hS] at t
   exact Rat.le_of_mul_le_mul_right t kq
 have gap:(x*4294967296*4294967296 - S*S)*(K:Rat)<=18446744073709551616:=by
  have kge:(1:Rat)<=(K:Rat):=by exact_mod_cast hK
  have t1:x*4294967296*4294967296*((K:Rat)*(K:Rat)) - S*S*((K:Rat)*(K:Rat))<=2*(k:Rat)+1:=by
   rw [<- hS] at g2 ⊢
   grind
  have t2:2*(k:Rat)+1<=18446744073709551616*(K:Rat):=by
   rw [<- hS]
   have:=wF (Rat.le_trans Shi H2) (Rat.le_of_lt kq)
   grind
  refine Rat.le_of_mul_le_mul_right (c:=(K:Rat)) ?_ kq
  grind
 have es:S / 4294967296*4294967296=S:=by grind
 refine ⟨S / 4294967296,by refine Rat.le_of_mul_le_mul_right (c:=4294967296) ?_ (by decide); rw [es]; grind,⟨by rw [es]; exact Slo,by rw [es]; exact Shi⟩,?_,?_⟩
 .refine Rat.le_of_mul_le_mul_right (c:=4294967296*4294967296) ?_ (by grind)
  grind
 .refine Rat.le_of_mul_le_mul_right (c:=4294967296*4294967296) ?_ (by grind)
  grind
structure V3 where
 x:Rat
 y:Rat
 z:Rat
def cv (v:Ve) (u:V3):Prop:=cn v.a v.b u.x/\cn v.c v.d u.y/\cn v.e v.f u.z
def V3.dot (u v:V3):Rat:=u.x*v.x+u.y*v.y+u.z*v.z
def V3.mul (u:V3) (t:Rat):V3:=⟨u.x*t,u.y*t,u.z*t⟩
theorem agm {e:Int} (h:tO e=0):e=0:=by
 unfold tO at h
 cases k:e != 0 with
 | true=>rw [k] at h; exact h
 | false=>simpa using k
theorem agn {X Y Z:Sp} {k:Int} (h:tE X Y Z k=0):X.e=0/\Y.e=0/\Z.e=0:=by
 unfold tE at h
 obtain ⟨h,hz⟩:=dO.1 h
 obtain ⟨h,hy⟩:=dO.1 h
 exact ⟨(dO.1 h).2,hy,hz⟩
theorem ab0 {v w:Ve} {u t:V3} (e:(aC vf0 v w).e=0) (h:cv v u) (k:cv w t):cn (aC vf0 v w).lo (aC vf0 v w).hi (u.dot t):=by
 have e:=agm e
 obtain ⟨e1,eB⟩:=dO.1 e
 obtain ⟨e2,eA⟩:=dO.1 e1
 obtain ⟨x1,x2,x3⟩:=agn e2
 have m1:=KR x1 h.1 k.1
 have m2:=KR x2 h.2.1 k.2.1
 have m3:=KR x3 h.2.2 k.2.2
 have a1:=F4 eA m1 m2
 have a2:=F4 eB a1 m3
 unfold aC
 rw [e]
 exact a2
end Go.Iv
namespace Go.Vc
open Go Go.Eng Go.Ar Go.Dg Go.Sn Go.Iv
def qv (m d:Int):Rat:=if m=0 then 0 else if m=d then 1 else if 3*m=d then 1 / 2 else tru ((m:Rat) / (d:Rat))
theorem X8:cn 2147483648 2147483648 (1 / 2):=by unfold cn; decide +kernel
theorem ab1 {q:Rat} {k:Int} (h:Tu q k):cn k (k+1) (tru q):=by
 unfold Tu dl at h
 have e:((k+1:Int):Rat)=(k:Rat)+1:=by rw [Rat.intCast_add]; rfl
 unfold cn
 rw [e]
 constructor <;> grind
theorem ae3 {m:Int} (h0:0<=m) (h1:m<=360000000) (h4:m % 4=0):cn (iC m 360000000) (iD m 360000000) (qv m 360000000):=by
 unfold iC iD qv
 by_cases z:m=0
 .rw [if_pos z,if_pos z,if_pos z]; exact xX
 by_cases z1:m=360000000
 .rw [if_neg z,if_neg z,if_neg z,if_pos z1,if_pos z1,if_pos z1]; exact XG
 by_cases z3:3*m=360000000
 .rw [if_neg z,if_neg z,if_neg z,if_neg z1,if_neg z1,if_neg z1,if_pos z3,if_pos z3,if_pos z3]; exact X8
 rw [if_neg z,if_neg z,if_neg z,if_neg z1,if_neg z1,if_neg z1,if_neg z3,if_neg z3,if_neg z3]
 obtain ⟨k,hk⟩:=MV (m:=m) (by omega) (by omega) z3 h4
 have e:=(Tv (m:=m) (d:=360000000) (by omega) (by omega) (by decide) hk).2
 rw [e]
 exact ab1 hk
theorem X9:1 / 2 - ta<=S 64 (hp*(1 / 3))/\S 64 (hp*(1 / 3))<=1 / 2+ta:=by decide +kernel
theorem ab2:S 64 0=0:=by decide +kernel
theorem M9 {m d:Int} (hd:0<d):-ta<=qv m d - tru ((m:Rat) / (d:Rat))/\qv m d - tru ((m:Rat) / (d:Rat))<=ta:=by
 have t:=nS.1
 have hd0:(d:Rat)≠0:=by
  intro h
  have:d=0:=by exact_mod_cast h
  omega
 unfold qv
 by_cases z:m=0
 .rw [if_pos z,z]
  have:hp*(((0:Int):Rat) / (d:Rat))=0:=by
   have:((0:Int):Rat)=0:=rfl
   rw [this,Rat.div_def,Rat.zero_mul,Rat.mul_zero]
  unfold tru
  rw [this,ab2]; constructor <;> grind
 by_cases z1:m=d
 .rw [if_neg z,if_pos z1,z1]
  have:hp*((d:Rat) / (d:Rat))=hp:=by
   rw [Rat.div_def,Rat.mul_inv_cancel _ hd0,Rat.mul_one]
  have s:=aeC
  unfold tru
  rw [this]; constructor <;> grind
 by_cases z3:3*m=d
 .rw [if_neg z,if_neg z1,if_pos z3]
  have:(m:Rat) / (d:Rat)=1 / 3:=by
   have e:(d:Rat)=3*(m:Rat):=by rw [<- z3]; exact_mod_cast rfl
   grind
  have s:=X9
  unfold tru
  rw [this]; constructor <;> grind
 rw [if_neg z,if_neg z1,if_neg z3]
 constructor <;> grind
theorem Na {q:Rat} (h0:0<=q) (h1:q<=1):-2<=tru q/\tru q<=2:=by
 obtain ⟨a0,a1⟩:=FQ h0 h1
 exact (two_of nS.2 (circle' a0 a1).2).2
theorem Us {x y a b t:Rat} (t0:0<=t) (t1:t<=1 / 1000) (h1:-t<=x - a) (h2:x - a<=t) (k1:-t<=y - b) (k2:y - b<=t) (a0:-2<=a) (a1:a<=2) (b0:-2<=b) (b1:b<=2)
  (p1:-(41*t)<=a*a+b*b - 1) (p2:a*a+b*b - 1<=41*t):-(60*t)<=x*x+y*y - 1/\x*x+y*y - 1<=60*t:=by
 have e1:=pb (x:=x - a) (y:=x+a) (X:=t) (Y:=5) h1 h2 (by grind) (by grind)
 have e2:=pb (x:=y - b) (y:=y+b) (X:=t) (Y:=5) k1 k2 (by grind) (by grind)
 constructor <;> grind
theorem Ya {m d:Int} (h0:0<=m) (h1:m<=d) (hd:0<d):-(60*ta)<=qv m d*qv m d+qv (d - m) d*qv (d - m) d - 1/\qv m d*qv m d+qv (d - m) d*qv (d - m) d - 1<=60*ta:=by
 obtain ⟨q0,q1,_⟩:=acS h0 h1 hd
 have hd0:(d:Rat)≠0:=by
  intro h
  have:d=0:=by exact_mod_cast h
  omega
 have e:((d - m:Int):Rat) / (d:Rat)=1 - (m:Rat) / (d:Rat):=by
  rw [Rat.intCast_sub]; grind
 have n1:=M9 (m:=m) hd
 have n2:=M9 (m:=d - m) hd
 rw [e] at n2
 have p:=Un q0 q1
 have b1:=Na q0 q1
 have b2:=Na (q:=1 - (m:Rat) / (d:Rat)) (by grind) (by grind)
 exact Us nS.1 nS.2 n1.1 n1.2 n2.1 n2.2 b1.1 b1.2 b2.1 b2.2 p.1 p.2
def D0:Int:=360000000
def rsn (more n:Int):Rat:=if (snK n D0 more==0||snK n D0 more==1)=true then qv (snA more n D0) D0 else -qv (snA more n D0) D0
theorem Nb (more n:Int):0<=snA more n D0/\snA more n D0<=D0/\snA more n D0 % 4=0:=by
 obtain ⟨_,_,_,_,_,m0,m1⟩:=Jl (n:=n) (d:=D0) (by decide) (by decide)
 have e4:snM n D0 % 4=0:=by
  unfold snM D0
  omega
 have:D0 % 4=0:=by decide
 unfold snA
 cases snK n D0 more==0||snK n D0 more==2 with
 | true=>simp only [cond_true]; omega
 | false=>simp only [cond_false]; omega
theorem Ut {a b:Int} {x:Rat} (h:cn a b x):cn (-b) (-a) (-x):=by
 unfold cn at *
 rw [Rat.intCast_neg,Rat.intCast_neg]
 constructor <;> grind
theorem KX (more n:Int):cn (iF more n 360000000) (iG more n 360000000) (rsn more n):=by
 obtain ⟨a0,a1,a4⟩:=Nb more n
 have h:=ae3 a0 a1 a4
 have hb:sS 360000000=false:=by decide
 unfold iF iG rsn
 rw [hb]
 show cn (bif snK n D0 more==0||snK n D0 more==1 then iC (snA more n D0) D0 else -iD (snA more n D0) D0) (bif snK n D0 more==0||snK n D0 more==1 then iD (snA more n D0) D0 else -iC (snA more n D0) D0) _
 cases snK n D0 more==0||snK n D0 more==1 with
 | true=>exact h
 | false=>exact Ut h
theorem Uu (n:Int):snA 1 n D0=D0 - snA 0 n D0:=by
 obtain ⟨_,_,_,q0,q3,_,_⟩:=Jl (n:=n) (d:=D0) (by decide) (by decide)
 have e0:snK n D0 0=snQ n D0:=by unfold snK; omega
 have e1:snK n D0 1=(snQ n D0+1) % 4:=rfl
 have hq:snQ n D0=0\/snQ n D0=1\/snQ n D0=2\/snQ n D0=3:=by omega
 unfold snA
 rw [e0,e1]
 rcases hq with h|h|h|h <;> rw [h]
 .show D0 - snM n D0=D0 - snM n D0; rfl
 .show snM n D0=D0 - (D0 - snM n D0); omega
 .show D0 - snM n D0=D0 - snM n D0; rfl
 .show snM n D0=D0 - (D0 - snM n D0); omega
theorem Uv (more n:Int):rsn more n*rsn more n=qv (snA more n D0) D0*qv (snA more n D0) D0:=by
 unfold rsn
 split <;> grind
theorem BU (n:Int):-(60*ta)<=rsn 0 n*rsn 0 n+rsn 1 n*rsn 1 n - 1/\rsn 0 n*rsn 0 n+rsn 1 n*rsn 1 n - 1<=60*ta:=by
 obtain ⟨a0,a1,_⟩:=Nb 0 n
 have h:=Ya a0 a1 (by decide)
 rw [Uv,Uv,Uu]
 exact h
theorem Yb (n:Int):(-2<=rsn 0 n/\rsn 0 n<=2)/\(-2<=rsn 1 n/\rsn 1 n<=2):=by
 have h:=(BU n).2
 have:60*ta<=1 / 1000:=by decide +kernel
 exact two_of this h
structure M3 where
 x:V3
 y:V3
 z:V3
def M3.T (R:M3):M3:=⟨⟨R.x.x,R.y.x,R.z.x⟩,⟨R.x.y,R.y.y,R.z.y⟩,⟨R.x.z,R.y.z,R.z.z⟩⟩
def M3.app (R:M3) (u:V3):V3:=⟨R.x.dot u,R.y.dot u,R.z.dot u⟩
def M3.row (B:M3) (u:V3):V3:=⟨u.dot B.T.x,u.dot B.T.y,u.dot B.T.z⟩
def M3.mul (A B:M3):M3:=⟨B.row A.x,B.row A.y,B.row A.z⟩
theorem Nc (A B:M3) (u:V3):(A.mul B).app u=A.app (B.app u):=by
 obtain ⟨⟨a1,a2,a3⟩,⟨a4,a5,a6⟩,a7,a8,a9⟩:=A
 obtain ⟨⟨b1,b2,b3⟩,⟨b4,b5,b6⟩,b7,b8,b9⟩:=B
 obtain ⟨x,y,z⟩:=u
 simp only [M3.mul,M3.app,M3.row,M3.T,V3.dot,V3.mk.injEq]
 refine ⟨?_,?_,?_⟩ <;> grind
def cm (m:Mat) (R:M3):Prop:=cv m.x R.x/\cv m.y R.y/\cv m.z R.z
theorem Gr {m:Mat} {R:M3} (h:cm m R):cm (flip m) R.T:=⟨⟨h.1.1,h.2.1.1,h.2.2.1⟩,⟨h.1.2.1,h.2.1.2.1,h.2.2.2.1⟩,h.1.2.2,h.2.1.2.2,h.2.2.2.2⟩
theorem BdM.flip {B:Int} {b:Mat} (k:BdM B b):BdM B (flip b):=by
 obtain ⟨⟨a1,a2,a3⟩,⟨b1,b2,b3⟩,c1,c2,c3⟩:=k
 exact ⟨⟨a1,b1,c1⟩,⟨a2,b2,c2⟩,a3,b3,c3⟩
theorem x8 {A B M:Int} {v w:Ve} {u t:V3} (h:BdV A v) (k:BdV B w) (hA:A<=4503599627370496) (hB:B<=4503599627370496) (hM:A*B<=M*4294967296) (hM0:0<=M) (hM2:3*M<=4503599627370496)
  (hu:cv v u) (ht:cv w t):cn (aC vf0 v w).lo (aC vf0 v w).hi (u.dot t):=by
 obtain ⟨_,_,_,_,_,_,_,_,_,e,_⟩:=kW h k hA hB hM hM0 hM2
 exact ab0 (by rw [e]) hu ht
theorem Uw {A B M:Int} {a b:Mat} {P Q:M3} (h:BdM A a) (k:BdM B b) (hA:A<=4503599627370496) (hB:B<=4503599627370496) (hM:A*B<=M*4294967296) (hM0:0<=M) (hM2:3*M<=4503599627370496)
  (hp:cm a P) (hq:cm b Q):cm (mulV mf1 a b) (P.mul Q):=by
 obtain ⟨_,_,hB1,hG⟩:=jI h k hA hB hM hM0 hM2
 have hI:∀ x,rmI mf1 a b x=x:=fun x=>by
  unfold rmI
  show (bif rmB ⟨aC vf0,aj⟩ a b then 0 else bif rmG ⟨aC vf0,aj⟩ a b then x else 0)=x
  rw [hB1,hG]; rfl
 have kf:=k.flip
 have qf:=Gr hq
 have row:∀ r u,BdV A r->cv r u->cv (rmV mf1 a b r) (Q.row u):=fun r u hr hu=>by
  unfold rmV
  simp only [hI]
  exact ⟨x8 hr kf.1 hA hB hM hM0 hM2 hu qf.1,x8 hr kf.2.1 hA hB hM hM0 hM2 hu qf.2.1,x8 hr kf.2.2 hA hB hM hM0 hM2 hu qf.2.2⟩
 exact ⟨row _ _ h.1 hp.1,row _ _ h.2.1 hp.2.1,row _ _ h.2.2 hp.2.2⟩
theorem Zb {A B M:Int} {m:Mat} {v:Ve} {R:M3} {u:V3} (h:BdM A m) (k:BdV B v) (hA:A<=4503599627370496) (hB:B<=4503599627370496) (hM:A*B<=M*4294967296) (hM0:0<=M) (hM2:3*M<=4503599627370496):
  tuO mf1 m v=0/\BdV (3*M) (tuV mf1 m v)/\(cm m R->cv v u->cv (tuV mf1 m v) (R.app u)):=by
 have dd:∀ r,BdV A r->(aC vf0 r v).e=0/\Bd (3*M) (aC vf0 r v).lo (aC vf0 r v).hi:=fun r hr=>by
  obtain ⟨_,_,_,_,_,_,_,_,_,e,b⟩:=kW hr k hA hB hM hM0 hM2
  rw [e]; exact ⟨rfl,b⟩
 have hb:zb mf1 m v=false:=by
  unfold zb okM
  show (bif !(bif MF.ok ⟨aC vf0,aj⟩ m.x then bif MF.ok ⟨aC vf0,aj⟩ m.y then MF.ok ⟨aC vf0,aj⟩ m.z else false else false) then true else !MF.ok ⟨aC vf0,aj⟩ v)=false
  rw [(h.1.ok hA).2,(h.2.1.ok hA).2,(h.2.2.ok hA).2,(k.ok hB).2]; rfl
 have hI:∀ x,rtI mf1 m v x=x:=fun x=>by
  unfold rtI
  rw [hb]
  show (bif g3 (aC vf0 m.x v).e (aC vf0 m.y v).e (aC vf0 m.z v).e then x else 0)=x
  rw [(dd _ h.1).1,(dd _ h.2.1).1,(dd _ h.2.2).1]; rfl
 refine ⟨?_,?_,fun hr hu=>?_⟩
 .unfold tuO
  rw [hb]
  show e3 (aC vf0 m.x v).e (aC vf0 m.y v).e (aC vf0 m.z v).e=0
  rw [(dd _ h.1).1,(dd _ h.2.1).1,(dd _ h.2.2).1]; rfl
 .unfold tuV
  simp only [hI]
  exact ⟨(dd _ h.1).2,(dd _ h.2.1).2,(dd _ h.2.2).2⟩
 .unfold tuV
  simp only [hI]
  exact ⟨x8 h.1 k hA hB hM hM0 hM2 hr.1 hu,x8 h.2.1 k hA hB hM hM0 hM2 hr.2.1 hu,x8 h.2.2 k hA hB hM hM0 hM2 hr.2.2 hu⟩
def RA (a n:Int):M3:=bif a==0 then ⟨⟨1,0,0⟩,⟨0,rsn 1 n,-rsn 0 n⟩,⟨0,rsn 0 n,rsn 1 n⟩⟩
 else bif a==1 then ⟨⟨rsn 1 n,0,rsn 0 n⟩,⟨0,1,0⟩,⟨-rsn 0 n,0,rsn 1 n⟩⟩
 else ⟨⟨rsn 1 n,-rsn 0 n,0⟩,⟨rsn 0 n,rsn 1 n,0⟩,⟨0,0,1⟩⟩
theorem Ux (a n:Int):cm (abA af0 a n) (RA a n):=by
 have s:=KX 0 n
 have c:=KX 1 n
 obtain ⟨g1,_⟩:=xZ (TY (wD 0 n)) (by decide)
 have g:=Ut s
 unfold abA RA
 show cm (KP (iF 0 n 360000000) (iG 0 n 360000000) (iF 1 n 360000000) (iG 1 n 360000000) (Ci (iF 0 n 360000000) (iG 0 n 360000000)) a) _
 rw [g1]
 unfold KP
 cases a==0 with
 | true=>exact ⟨⟨XG,xX,xX⟩,⟨xX,c,g⟩,xX,s,c⟩
 | false=>cases a==1 with
  | true=>exact ⟨⟨c,xX,s⟩,⟨xX,XG,xX⟩,g,xX,c⟩
  | false=>exact ⟨⟨c,g,xX⟩,⟨s,c,xX⟩,xX,xX,XG⟩
def RR1 (x y:Int):M3:=(RA 1 y).mul (RA 0 x)
def RR (x y z:Int):M3:=(RA 2 z).mul (RR1 x y)
theorem ab3 (x y z:Int):cm (bG x y z) (RR x y z):=
 Uw (M:=400000000000) (BR (a:=2) (n:=z)) (XJ x y).2 (by decide) (by decide) (by decide) (by decide) (by decide) (Ux 2 z)
  (Uw (M:=40000000000) (BR (a:=1) (n:=y)) (BR (a:=0) (n:=x)) (by decide) (by decide) (by decide) (by decide) (by decide) (Ux 1 y) (Ux 0 x))
def bd3 (U:Rat) (u:V3):Prop:=(-U<=u.x/\u.x<=U)/\(-U<=u.y/\u.y<=U)/\(-U<=u.z/\u.z<=U)
def Iso (t g:Rat) (R:M3):Prop:=∀ u w U W,0<=U->0<=W->bd3 U u->bd3 W w->bd3 (g*U) (R.app u)/\-(t*(U*W))<=(R.app u).dot (R.app w) - u.dot w/\(R.app u).dot (R.app w) - u.dot w<=t*(U*W)
theorem Iso.comp {t g t' g':Rat} {A B:M3} (g0:0<=g') (h:Iso t g A) (k:Iso t' g' B):Iso (t*(g'*g')+t') (g*g') (A.mul B):=by
 intro u w U W hU hW hu hw
 obtain ⟨b1,b2,b3⟩:=k u w U W hU hW hu hw
 obtain ⟨c1,_⟩:=k w u W U hW hU hw hu
 have gU:=Rat.mul_nonneg g0 hU
 have gW:=Rat.mul_nonneg g0 hW
 obtain ⟨d1,d2,d3⟩:=h (B.app u) (B.app w) _ _ gU gW b1 c1
 rw [Nc,Nc]
 have e:g*g'*U=g*(g'*U):=by grind
 have e2:(t*(g'*g')+t')*(U*W)=t*(g'*U*(g'*W))+t'*(U*W):=by grind
 rw [e,e2]
 exact ⟨d1,by grind,by grind⟩
theorem Uy {c s p q P Q U W ε t:Rat} (hε:s*s+c*c - 1=ε) (e1:-t<=ε) (e2:ε<=t) (p1:-U<=p) (p2:p<=U) (q1:-U<=q) (q2:q<=U) (P1:-W<=P) (P2:P<=W) (Q1:-W<=Q) (Q2:Q<=W):
  -(2*t*(U*W))<=ε*(p*P+q*Q)/\ε*(p*P+q*Q)<=2*t*(U*W):=by
 have h1:=pb p1 p2 P1 P2
 have h2:=pb q1 q2 Q1 Q2
 have h3:=pb (x:=ε) (y:=p*P+q*Q) (X:=t) (Y:=2*(U*W)) e1 e2 (by grind) (by grind)
 constructor <;> grind
theorem KY (a n:Int):Iso (120*ta) 4 (RA a n):=by
 intro u w U W hU hW ⟨⟨ux1,ux2⟩,⟨uy1,uy2⟩,uz1,uz2⟩ ⟨⟨wx1,wx2⟩,⟨wy1,wy2⟩,wz1,wz2⟩
 obtain ⟨⟨s1,s2⟩,c1,c2⟩:=Yb n
 obtain ⟨e1,e2⟩:=BU n
 have et:120*ta*(U*W)=2*(60*ta)*(U*W):=by grind
 rw [et]
 unfold RA
 have bx:=pb s1 s2 ux1 ux2
 have by':=pb s1 s2 uy1 uy2
 have bz:=pb s1 s2 uz1 uz2
 have dx:=pb c1 c2 ux1 ux2
 have dy:=pb c1 c2 uy1 uy2
 have dz:=pb c1 c2 uz1 uz2
 cases a==0 with
 | true=>
  have h:=Uy rfl e1 e2 uy1 uy2 uz1 uz2 wy1 wy2 wz1 wz2
  simp only [cond_true,M3.app,V3.dot]
  refine ⟨⟨⟨?_,?_⟩,⟨?_,?_⟩,?_,?_⟩,?_,?_⟩ <;> grind
 | false=>cases a==1 with
  | true=>
   have h:=Uy rfl e1 e2 ux1 ux2 uz1 uz2 wx1 wx2 wz1 wz2
   simp only [cond_true,cond_false,M3.app,V3.dot]
   refine ⟨⟨⟨?_,?_⟩,⟨?_,?_⟩,?_,?_⟩,?_,?_⟩ <;> grind
  | false=>
   have h:=Uy rfl e1 e2 ux1 ux2 uy1 uy2 wx1 wx2 wy1 wy2
   simp only [cond_false,M3.app,V3.dot]
   refine ⟨⟨⟨?_,?_⟩,⟨?_,?_⟩,?_,?_⟩,?_,?_⟩ <;> grind
theorem Nf (x y z:Int):Iso (120*ta*(4*4*(4*4))+(120*ta*(4*4)+120*ta)) (4*(4*4)) (RR x y z):=
 (KY 2 z).comp (by decide +kernel) ((KY 1 y).comp (by decide +kernel) (KY 0 x))
end Go.Vc
namespace Go.Vc
open Go Go.Eng Go.Ar Go.Dg Go.Sn Go.Iv Go.Rd
theorem Yc {m d:Int}:iD m d<=iC m d+1:=by
 unfold iC iD
 repeat' split
 all_goals omega
theorem Yd (more n:Int) (hm:more=0\/more=1):(-(1+60*ta)<=rsn more n/\rsn more n<=1+60*ta):=by
 have h:=BU n
 have t:=nS.1
 have n0:=M7 (rsn 0 n)
 have n1:=M7 (rsn 1 n)
 have key:∀ x:Rat,x*x<=1+60*ta->-(1+60*ta)<=x/\x<=1+60*ta:=fun x hx=>by
  have big:∀ y:Rat,1+60*ta<y->y*y<=1+60*ta->False:=fun y hy h=>by
   have:=Rat.mul_pos (a:=y - (1+60*ta)) (b:=y+1) (by grind) (by grind)
   have:=Rat.mul_nonneg (a:=60*ta) (b:=y) (by grind) (by grind)
   grind
  constructor
  .by_cases g:-(1+60*ta)<=x
   .exact g
   .exact (big (-x) (by grind) (by grind)).elim
  .by_cases g:x<=1+60*ta
   .exact g
   .exact (big x (by grind) (by grind)).elim
 rcases hm with rfl|rfl
 .exact key _ (by grind)
 .exact key _ (by grind)
theorem BV {a b:Int} (h:(a:Rat)<(b:Rat)):a<b:=by exact_mod_cast h
theorem Ye:(1+60*ta)*4294967296<4294967297:=by decide +kernel
theorem Uz (more n:Int) (hm:more=0\/more=1):Bd 4294967297 (iF more n 360000000) (iG more n 360000000):=by
 have c:=KX more n
 have r:=Yd more n hm
 have t:=Ye
 have w:iG more n 360000000<=iF more n 360000000+1:=by
  have e:=Yc (m:=snA more n 360000000) (d:=360000000)
  unfold iF iG
  cases sS 360000000 with
  | true=>show (0:Int)<=0+1; decide
  | false=>cases snK n 360000000 more==0||snK n 360000000 more==1 with
   | true=>exact e
   | false=>show -iC _ _<=-iD _ _+1; omega
 have le:=M6 c
 have a1:((iF more n 360000000:Int):Rat)<((4294967297:Int):Rat):=by
  have:((4294967297:Int):Rat)=4294967297:=rfl
  have:=c.1
  grind
 have a2:((-4294967297:Int):Rat)<((iG more n 360000000:Int):Rat):=by
  have:((-4294967297:Int):Rat)=-4294967297:=rfl
  have:=c.2
  grind
 have b1:iF more n 360000000<4294967297:=BV a1
 have b2:-4294967297<iG more n 360000000:=BV a2
 exact ⟨by omega,le,by omega⟩
theorem KZ {a n:Int}:BdM 4294967297 (abA af0 a n):=by
 have s:=Uz 0 n (Or.inl rfl)
 have c:=Uz 1 n (Or.inr rfl)
 obtain ⟨g1,g2⟩:=xZ s (by decide)
 have z:=bd0 4294967297 (by decide)
 have o:=bd1 4294967297 (by decide)
 unfold abA
 show BdM _ (KP (iF 0 n 360000000) (iG 0 n 360000000) (iF 1 n 360000000) (iG 1 n 360000000) (Ci (iF 0 n 360000000) (iG 0 n 360000000)) a)
 rw [g1]
 unfold KP
 cases a==0 with
 | true=>exact ⟨⟨o,z,z⟩,⟨z,c,g2⟩,z,s,c⟩
 | false=>cases a==1 with
  | true=>exact ⟨⟨c,z,s⟩,⟨z,o,z⟩,g2,z,c⟩
  | false=>exact ⟨⟨c,g2,z⟩,⟨s,c,z⟩,z,z,o⟩
theorem Ng (x y z:Int):BdM 38654705703 (bG x y z):=by
 obtain ⟨_,b,_,_⟩:=jI (M:=4294967299) (KZ (a:=1) (n:=y)) (KZ (a:=0) (n:=x)) (by decide) (by decide) (by decide) (by decide) (by decide)
 obtain ⟨_,c,_,_⟩:=jI (M:=12884901901) (KZ (a:=2) (n:=z)) b (by decide) (by decide) (by decide) (by decide) (by decide)
 exact c
section
variable (F:VF) (v:Ve)
def nmE:Int:=fe (fe (fe (fe (fe (fe (vC0 F v) (F.sq v.a v.b).e) (F.sq v.c v.d).e) (F.sq v.e v.f).e) (nA F v).e) (nB F v).e) (nR F v).e
def nmI (x:Int):Int:=bif nmE F v != 0 then 0 else x
def nmS:Sp:=⟨nmI F v (nR F v).lo,nmI F v (nR F v).hi,bif nmE F v != 0 then nmE F v else 0⟩
end
theorem UA {a b M m:Int} (h:Bd M a b) (hM:M<=4503599627370496) (hm:M*M<=m*4294967296) (h0:0<=m) (h1:m<=4503599627370496):∃ l u,gK a b=⟨l,u,0⟩/\0<=l/\l<=m/\0<=u/\u<=m:=by
 obtain ⟨ha,hab,hb⟩:=h
 have ho:aj a b=true:=Bd.ok ⟨ha,hab,hb⟩ hM
 have L0:0<=abL a b:=(bS (mx a (-b)) 0).2.1
 have L1:abL a b<=M:=by unfold abL; have p:=bS a (-b); have q:=bS (mx a (-b)) 0; omega
 have H0:0<=abH a b:=by unfold abH; have p:=bS b (-a); omega
 have H1:abH a b<=M:=by unfold abH; have p:=bS b (-a); omega
 have LL:abL a b*abL a b<=m*4294967296:=Int.le_trans (Int.mul_le_mul L1 L1 L0 (by omega)) hm
 have HH:abH a b*abH a b<=m*4294967296:=Int.le_trans (Int.mul_le_mul H1 H1 H0 (by omega)) hm
 have l0:0<=rd (abL a b*abL a b) 4294967296 false:=(fD sU).2 (by have:=Int.mul_nonneg L0 L0; omega)
 have l1:rd (abL a b*abL a b) 4294967296 false<=m:=Int.le_trans (vV _ _ sU) ((fE sU).2 LL)
 have h2:0<=rd (abH a b*abH a b) 4294967296 true:=Int.le_trans ((fD sU).2 (by have:=Int.mul_nonneg H0 H0; omega)) (vV _ _ sU)
 have h3:rd (abH a b*abH a b) 4294967296 true<=m:=(fE sU).2 HH
 refine ⟨_,_,?_,l0,l1,h2,h3⟩
 unfold gK
 rw [ho]
 show dV _ _=_
 rw [o7 (by omega) (by omega) (by omega) (by omega)]
theorem Zc {v:Ve} {A m:Int} (h:BdV A v) (hA:A<=4503599627370496) (hm:A*A<=m*4294967296) (h0:0<=m) (h1:3*m<=4503599627370496) {u:V3} (hu:cv v u) (K:Nat) (hK:0<K):
  (nmS vf0 v).e=0/\∃ s:Rat,0<=s/\cn (nmS vf0 v).lo (nmS vf0 v).hi s/\s*s<=u.dot u/\(u.dot u - s*s)*(K:Rat)<=1:=by
 obtain ⟨l1,u1,e1,a1,a2,a3,a4⟩:=UA h.1 hA hm h0 (by omega)
 obtain ⟨l2,u2,e2,b1,b2,b3,b4⟩:=UA h.2.1 hA hm h0 (by omega)
 obtain ⟨l3,u3,e3,c1,c2,c3,c4⟩:=UA h.2.2 hA hm h0 (by omega)
 have i1:=KT (by rw [e1]) hu.1
 have i2:=KT (by rw [e2]) hu.2.1
 have i3:=KT (by rw [e3]) hu.2.2
 rw [e1] at i1; rw [e2] at i2; rw [e3] at i3
 obtain ⟨p1,q1⟩:=rX (A:=m) (B:=m) (a:=l1) (b:=u1) (c:=l2) (d:=u2) ⟨by omega,M6 i1,by omega⟩ ⟨by omega,M6 i2,by omega⟩ (by omega) h0 h0
 have j1:=F4 (by rw [p1]) i1 i2
 rw [p1] at j1
 obtain ⟨p2,q2⟩:=rX (A:=m+m) (B:=m) (a:=l1+l2) (b:=u1+u2) (c:=l3) (d:=u3) q1 ⟨by omega,M6 i3,by omega⟩ (by omega) (by omega) h0
 have j2:=F4 (by rw [p2]) j1 i3
 rw [p2] at j2
 have hA':nA vf0 v=⟨l1+l2,u1+u2,0⟩:=by
  unfold nA
  show fC (gK v.a v.b).lo (gK v.a v.b).hi (gK v.c v.d).lo (gK v.c v.d).hi=_
  rw [e1,e2]; exact p1
 have hB':nB vf0 v=⟨l1+l2+l3,u1+u2+u3,0⟩:=by
  unfold nB
  rw [hA']
  show fC (l1+l2) (u1+u2) (gK v.e v.f).lo (gK v.e v.f).hi=_
  rw [e3]; exact p2
 have eR:(eH (l1+l2+l3) (u1+u2+u3)).e=0:=by
  unfold eH
  rw [q2.ok (by omega),decide_eq_false (by omega)]; rfl
 have hR':nR vf0 v=eH (l1+l2+l3) (u1+u2+u3):=by
  unfold nR
  rw [hB']; rfl
 have hE:nmE vf0 v=0:=by
  unfold nmE
  rw [hA',hB',hR',EZ vW,(h.ok hA).1]
  show fe (fe (fe (fe (fe (fe 0 (gK v.a v.b).e) (gK v.c v.d).e) (gK v.e v.f).e) 0) 0) (eH (l1+l2+l3) (u1+u2+u3)).e=0
  rw [e1,e2,e3,eR]; rfl
 obtain ⟨s,s0,sc,s1,s2⟩:=X7 eR j2 K hK
 have hS:nmS vf0 v=⟨(eH (l1+l2+l3) (u1+u2+u3)).lo,(eH (l1+l2+l3) (u1+u2+u3)).hi,0⟩:=by
  unfold nmS nmI
  rw [hE,hR']; rfl
 rw [hS]
 exact ⟨rfl,s,s0,sc,s1,s2⟩
def kap:Rat:=120*ta*(4*4*(4*4))+(120*ta*(4*4)+120*ta)
theorem DN:0<=kap/\kap*4294967296*4294967296*4294967296<=1 / 1000000:=by decide +kernel
theorem T_x (R:M3) (w:V3):(R.T.app w).x=(R.app ⟨1,0,0⟩).dot w:=by
 simp only [M3.app,M3.T,V3.dot]; grind
theorem T_y (R:M3) (w:V3):(R.T.app w).y=(R.app ⟨0,1,0⟩).dot w:=by
 simp only [M3.app,M3.T,V3.dot]; grind
theorem T_z (R:M3) (w:V3):(R.T.app w).z=(R.app ⟨0,0,1⟩).dot w:=by
 simp only [M3.app,M3.T,V3.dot]; grind
theorem DR {x y z:Int} {u:V3} {W:Rat} (hW:0<=W) (h:bd3 W u):
  (-(kap*W)<=((RR x y z).T.app ((RR x y z).app u)).x - u.x/\((RR x y z).T.app ((RR x y z).app u)).x - u.x<=kap*W) /\
  (-(kap*W)<=((RR x y z).T.app ((RR x y z).app u)).y - u.y/\((RR x y z).T.app ((RR x y z).app u)).y - u.y<=kap*W) /\
  (-(kap*W)<=((RR x y z).T.app ((RR x y z).app u)).z - u.z/\((RR x y z).T.app ((RR x y z).app u)).z - u.z<=kap*W):=by
 have i:=Nf x y z
 have e1:bd3 1 ⟨1,0,0⟩:=by unfold bd3; refine ⟨⟨?_,?_⟩,⟨?_,?_⟩,?_,?_⟩ <;> decide +kernel
 have e2:bd3 1 ⟨0,1,0⟩:=by unfold bd3; refine ⟨⟨?_,?_⟩,⟨?_,?_⟩,?_,?_⟩ <;> decide +kernel
 have e3:bd3 1 ⟨0,0,1⟩:=by unfold bd3; refine ⟨⟨?_,?_⟩,⟨?_,?_⟩,?_,?_⟩ <;> decide +kernel
 have one0:(0:Rat)<=1:=by decide +kernel
 have h1:=(i ⟨1,0,0⟩ u 1 W one0 hW e1 h).2
 have h2:=(i ⟨0,1,0⟩ u 1 W one0 hW e2 h).2
 have h3:=(i ⟨0,0,1⟩ u 1 W one0 hW e3 h).2
 have d1:V3.dot ⟨1,0,0⟩ u=u.x:=by simp only [V3.dot]; grind
 have d2:V3.dot ⟨0,1,0⟩ u=u.y:=by simp only [V3.dot]; grind
 have d3:V3.dot ⟨0,0,1⟩ u=u.z:=by simp only [V3.dot]; grind
 rw [d1,<- T_x,Rat.one_mul] at h1
 rw [d2,<- T_y,Rat.one_mul] at h2
 rw [d3,<- T_z,Rat.one_mul] at h3
 exact ⟨h1,h2,h3⟩
def ptL (v:Ve):V3:=⟨(v.a:Rat) / 4294967296,(v.c:Rat) / 4294967296,(v.e:Rat) / 4294967296⟩
def ptH (v:Ve):V3:=⟨(v.b:Rat) / 4294967296,(v.d:Rat) / 4294967296,(v.f:Rat) / 4294967296⟩
theorem La {A:Int} {v:Ve} (h:BdV A v):cv v (ptL v):=⟨rW (pE v.a) (by omega) h.1.2.1,rW (pE v.c) (by omega) h.2.1.2.1,rW (pE v.e) (by omega) h.2.2.2.1⟩
theorem ab4 {A:Int} {v:Ve} (h:BdV A v):cv v (ptH v):=⟨rW (pE v.b) h.1.2.1 (by omega),rW (pE v.d) h.2.1.2.1 (by omega),rW (pE v.f) h.2.2.2.1 (by omega)⟩
theorem DT {a:Int} (h0:-73014444032<=a) (h1:a<=73014444032):-17<=(a:Rat) / 4294967296/\(a:Rat) / 4294967296<=17:=by
 have a0:=jN h0
 have a1:=jN h1
 have e0:((-73014444032:Int):Rat)=-73014444032:=rfl
 have e1:((73014444032:Int):Rat)=73014444032:=rfl
 constructor <;> grind
theorem Lb {v:Ve} (h:BdV 73014444032 v):bd3 17 (ptL v):=by
 obtain ⟨⟨a1,a2,a3⟩,⟨b1,b2,b3⟩,c1,c2,c3⟩:=h
 exact ⟨DT a1 (by omega),DT b1 (by omega),DT c1 (by omega)⟩
theorem ab5 {v:Ve} (h:BdV 73014444032 v):bd3 17 (ptH v):=by
 obtain ⟨⟨a1,a2,a3⟩,⟨b1,b2,b3⟩,c1,c2,c3⟩:=h
 exact ⟨DT (by omega) a3,DT (by omega) b3,DT (by omega) c3⟩
theorem rY {a b p:Int} {y x:Rat} (h:cn a b y) (hp:cn p p x) (n1:-(kap*17)<=y - x) (n2:y - x<=kap*17):a<=p/\p<=b:=by
 have k:=DN
 exact BP h hp (by grind) (by grind)
theorem Nh {x y z:Int} {v:Ve} (h:BdV 73014444032 v):
  ckM mf1 (bG x y z)=0/\tuO mf1 (bG x y z) v=0/\tuO mf1 (flip (bG x y z)) (tuV mf1 (bG x y z) v)=0/\BdV 1971389990853 (tuV mf1 (bG x y z) v) /\
  (∀ u,cv v u->cv (tuV mf1 (bG x y z) v) ((RR x y z).app u)) /\
  ((tuV mf1 (flip (bG x y z)) (tuV mf1 (bG x y z) v)).a<=v.a/\v.b<=(tuV mf1 (flip (bG x y z)) (tuV mf1 (bG x y z) v)).b) /\
  ((tuV mf1 (flip (bG x y z)) (tuV mf1 (bG x y z) v)).c<=v.c/\v.d<=(tuV mf1 (flip (bG x y z)) (tuV mf1 (bG x y z) v)).d) /\
  ((tuV mf1 (flip (bG x y z)) (tuV mf1 (bG x y z) v)).e<=v.e/\v.f<=(tuV mf1 (flip (bG x y z)) (tuV mf1 (bG x y z) v)).f):=by
 have hr:=Ng x y z
 have hi:=ab3 x y z
 have t1:∀ u,_:=fun u=>Zb (M:=657129996951) (R:=RR x y z) (u:=u) hr h (by decide) (by decide) (by decide) (by decide) (by decide)
 have ht:BdV 1971389990853 (tuV mf1 (bG x y z) v):=(t1 (ptL v)).2.1
 have t2:∀ u,_:=fun u=>Zb (M:=17742509935681) (R:=(RR x y z).T) (u:=u) hr.flip ht (by decide) (by decide) (by decide) (by decide) (by decide)
 have hc:ckM mf1 (bG x y z)=0:=by
  rw [Fb]
  unfold okM
  show (bif (bif MF.ok ⟨aC vf0,aj⟩ (bG x y z).x then bif MF.ok ⟨aC vf0,aj⟩ (bG x y z).y then MF.ok ⟨aC vf0,aj⟩ (bG x y z).z else false else false) then (0:Int) else 20)=0
  rw [(hr.1.ok (by decide)).2,(hr.2.1.ok (by decide)).2,(hr.2.2.ok (by decide)).2]; rfl
 have w0:(0:Rat)<=17:=by decide +kernel
 have lo:=(t2 _).2.2 (Gr hi) ((t1 (ptL v)).2.2 hi (La h))
 have hh:=(t2 _).2.2 (Gr hi) ((t1 (ptH v)).2.2 hi (ab4 h))
 obtain ⟨⟨l1,l1'⟩,⟨l2,l2'⟩,l3,l3'⟩:=DR (x:=x) (y:=y) (z:=z) w0 (Lb h)
 obtain ⟨⟨m1,m1'⟩,⟨m2,m2'⟩,m3,m3'⟩:=DR (x:=x) (y:=y) (z:=z) w0 (ab5 h)
 exact ⟨hc,(t1 (ptL v)).1,(t2 (ptL v)).1,ht,fun u hu=>(t1 u).2.2 hi hu,
  ⟨(rY lo.1 (pE v.a) l1 l1').1,(rY hh.1 (pE v.b) m1 m1').2⟩,
  ⟨(rY lo.2.1 (pE v.c) l2 l2').1,(rY hh.2.1 (pE v.d) m2 m2').2⟩,
  (rY lo.2.2 (pE v.e) l3 l3').1,(rY hh.2.2 (pE v.f) m3 m3').2⟩
theorem DU {s r A B d:Rat} (s0:0<=s) (r0:0<=r) (d0:0<=d) (h:s*s<=r*r+d) (hd:d*4294967296*4294967296<1):(s - r)*4294967296<1:=by
 by_cases g:(s - r)*4294967296<1
 .exact g
 .have h1:1<=(s - r)*4294967296:=by grind
  have h2:r<=s:=by
   by_cases k:r<=s
   .exact k
   .grind
  have h3:=Rat.mul_nonneg (a:=(s - r)*4294967296 - 1) (b:=(s - r)*4294967296+1) (by grind) (by grind)
  have h4:=Rat.mul_nonneg (a:=r) (b:=s - r) r0 (by grind)
  grind
theorem Yf {x y z:Int} {v:Ve} (h:BdV 73014444032 v):
  (nmS vf0 v).e=0/\(nmS vf0 (tuV mf1 (bG x y z) v)).e=0/\(nmS vf0 v).lo<=(nmS vf0 (tuV mf1 (bG x y z) v)).hi/\(nmS vf0 (tuV mf1 (bG x y z) v)).lo<=(nmS vf0 v).hi:=by
 obtain ⟨_,_,_,ht,hu,_⟩:=Nh (x:=x) (y:=y) (z:=z) h
 have K0:0<1180591620717411303424000000:=by decide
 obtain ⟨e1,s,s0,sc,s1,s2⟩:=Zc (m:=1241245548544) h (by decide) (by decide) (by decide) (by decide) (La h) 1180591620717411303424000000 K0
 obtain ⟨e2,r,r0,rc,r1,r2⟩:=Zc (m:=904868006714480) ht (by decide) (by decide) (by decide) (by decide) (hu _ (La h)) 1180591620717411303424000000 K0
 have w0:(0:Rat)<=17:=by decide +kernel
 obtain ⟨_,i1,i2⟩:=Nf x y z (ptL v) (ptL v) 17 17 w0 w0 (Lb h) (Lb h)
 have k:=DN
 have ek:(120*ta*(4*4*(4*4))+(120*ta*(4*4)+120*ta))*(17*17)=kap*289:=by unfold kap; grind
 rw [ek] at i1 i2
 have cK:((1180591620717411303424000000:Nat):Rat)=1180591620717411303424000000:=rfl
 rw [cK] at s2 r2
 have f1:s*s<=r*r+(kap*289+1 / 1180591620717411303424000000):=by grind
 have f2:r*r<=s*s+(kap*289+1 / 1180591620717411303424000000):=by grind
 have d0:0<=kap*289+1 / 1180591620717411303424000000:=by grind
 have d1:(kap*289+1 / 1180591620717411303424000000)*4294967296*4294967296<1:=by grind
 obtain ⟨p,q⟩:=BP sc rc (DU (A:=0) (B:=0) s0 r0 d0 f1 d1) (DU (A:=0) (B:=0) r0 s0 d0 f2 d1)
 exact ⟨e1,e2,p,q⟩
theorem UB:bG 0 0 0=uM:=by
 have e:∀ a,a=0\/a=1\/a=2->abA af0 a 0=uM:=fun a h=>by rcases h with rfl|rfl|rfl <;> rfl
 unfold bG yO
 rw [e 0 (by omega),e 1 (by omega),e 2 (by omega),wG yN (by decide) (by decide),wG yN (by decide) (by decide)]
theorem O7 {A:Int} {v:Ve} (h:BdV A v) (hA:A<=1000000000000000) (hA0:0<=A):tuO mf1 uM v=0/\tuV mf1 uM v=v:=by
 obtain ⟨r1,r2,r3⟩:=qV h hA hA0
 have d1:aC vf0 uM.x v=⟨v.a,v.b,0⟩:=by rw [qG]; exact r1
 have d2:aC vf0 uM.y v=⟨v.c,v.d,0⟩:=by rw [qG]; exact r2
 have d3:aC vf0 uM.z v=⟨v.e,v.f,0⟩:=by rw [qG]; exact r3
 have hb:zb mf1 uM v=false:=by
  unfold zb okM
  show (bif !(bif MF.ok ⟨aC vf0,aj⟩ uM.x then bif MF.ok ⟨aC vf0,aj⟩ uM.y then MF.ok ⟨aC vf0,aj⟩ uM.z else false else false) then true else !MF.ok ⟨aC vf0,aj⟩ v)=false
  rw [(yN.1.ok (by decide)).2,(yN.2.1.ok (by decide)).2,(yN.2.2.ok (by decide)).2,(h.ok (by omega)).2]; rfl
 have hI:∀ x,rtI mf1 uM v x=x:=fun x=>by
  unfold rtI
  rw [hb]
  show (bif g3 (aC vf0 uM.x v).e (aC vf0 uM.y v).e (aC vf0 uM.z v).e then x else 0)=x
  rw [d1,d2,d3]; rfl
 constructor
 .unfold tuO
  rw [hb]
  show e3 (aC vf0 uM.x v).e (aC vf0 uM.y v).e (aC vf0 uM.z v).e=0
  rw [d1,d2,d3]; rfl
 .unfold tuV
  simp only [hI]
  show (⟨(aC vf0 uM.x v).lo,(aC vf0 uM.x v).hi,(aC vf0 uM.y v).lo,(aC vf0 uM.y v).hi,(aC vf0 uM.z v).lo,(aC vf0 uM.z v).hi⟩:Ve)=v
  rw [d1,d2,d3]
theorem UC {A:Int} {m:Mat} (h:BdM A m) (hA:A<=1000000000000000) (hA0:0<=A):ze mf1 uM m=0/\mulV mf1 uM m=m:=by
 obtain ⟨o,_,hB1,hG⟩:=jI (M:=A+1) yN h (by decide) (by omega) (by omega) (by omega) (by omega)
 have hI:∀ x,rmI mf1 uM m x=x:=fun x=>by
  unfold rmI
  show (bif rmB ⟨aC vf0,aj⟩ uM m then 0 else bif rmG ⟨aC vf0,aj⟩ uM m then x else 0)=x
  rw [hB1,hG]; rfl
 obtain ⟨f1,f2,f3⟩:=h.flip
 obtain ⟨a1,a2,a3⟩:=qV f1 hA hA0
 obtain ⟨b1,b2,b3⟩:=qV f2 hA hA0
 obtain ⟨c1,c2,c3⟩:=qV f3 hA hA0
 rw [qG] at a1 a2 a3 b1 b2 b3 c1 c2 c3
 refine ⟨o,?_⟩
 unfold mulV rmV
 simp only [hI]
 show (⟨⟨(aC vf0 uM.x (flip m).x).lo,(aC vf0 uM.x (flip m).x).hi,(aC vf0 uM.x (flip m).y).lo,(aC vf0 uM.x (flip m).y).hi,(aC vf0 uM.x (flip m).z).lo,(aC vf0 uM.x (flip m).z).hi⟩,
  ⟨(aC vf0 uM.y (flip m).x).lo,(aC vf0 uM.y (flip m).x).hi,(aC vf0 uM.y (flip m).y).lo,(aC vf0 uM.y (flip m).y).hi,(aC vf0 uM.y (flip m).z).lo,(aC vf0 uM.y (flip m).z).hi⟩,
  ⟨(aC vf0 uM.z (flip m).x).lo,(aC vf0 uM.z (flip m).x).hi,(aC vf0 uM.z (flip m).y).lo,(aC vf0 uM.z (flip m).y).hi,(aC vf0 uM.z (flip m).z).lo,(aC vf0 uM.z (flip m).z).hi⟩⟩:Mat)=m
 rw [a1,a2,a3,b1,b2,b3,c1,c2,c3]; rfl
end Go.Vc
namespace Go.Proofs.YtmnhhlnbfkfkaaaGreat.K
open Go Go.Eng Go.Dg Go.Ar Go.Vc Go.Sn
noncomputable section
theorem UD (F:VF) (v:Ve):fF ((run (Kh F) 3000).call 24 [.agg v.cells] ⟨[],0,1⟩)=some (.p ((uZ v=true->veQ v)/\((F.sq v.e v.f).lo=(F.sq v.e v.f).lo/\(F.sq v.e v.f).hi=(F.sq v.e v.f).hi)/\((nmE F v != 0)=true->nmE F v=nmE F v)),(Bo (nmS F v)).av true):=by kernel_rfl
def sVN (N:Ve->Sp):aM:=aW [shV] none fun
 | [.n a,.n b,.n c,.n d,.n e,.n f]=>Bo (N ⟨a,b,c,d,e,f⟩)
 | _=>.u []
theorem Yg:PureOk Tryz.prog 24 (sVN (nmS vf0)):=by
 refine fw (fun xs hk _=>?_) ⟨_,Tryz.func24,rfl⟩
 obtain ⟨a,b,c,d,e,f,rfl⟩:=kV hk
 exact ⟨Kh vf0,3000,_,Fa,rfl,fun _=>rfl,rfl,UD vf0 ⟨a,b,c,d,e,f⟩,fun _=>⟨⟨rfl,rfl⟩,⟨rfl,rfl⟩,rfl,rfl⟩,⟨rfl,rfl⟩,fun _=>rfl⟩
def Ni (V:Int->Int->Int->Mat) (O:Int->Int->Int->Int):aM:=fun args=>match Sh.readL adv args with
 | some (false,[.n x,.n y,.n z])=>bif x==0&&(y==0&&z==0) then some (.tt,(yK uM 0).av false) else KV V O args
 | _=>KV V O args
theorem O8:pI 0 0 0=uM:=by
 unfold pI
 rw [UB]; rfl
theorem UE:Ni pI sG=KV pI sG:=by
 funext args
 unfold Ni
 split
 .rename_i x y z h
  cases hb:x==0&&(y==0&&z==0) with
  | false=>rfl
  | true=>
   simp only [Bool.and_eq_true,beq_iff_eq] at hb
   obtain ⟨rfl,rfl,rfl⟩:=hb
   show _=KV pI sG args
   unfold KV aW
   rw [h]
   show some (Nd.tt,(yK uM 0).av false)=some (Nd.tt,(yK (pI 0 0 0) (sG 0 0 0)).av false)
   rw [O8]; rfl
 .rfl
theorem Yh:PureOk Tryz.prog 12 (Ni pI sG):=by
 rw [UE]; exact Ue
structure KpF where
 rv:Int->Int->Int->Mat
 ro:Int->Int->Int->Int
 ck:Mat->Int
 tv:Mat->Ve->Ve
 te:Mat->Ve->Int
 mv:Mat->Mat->Mat
 mo:Mat->Mat->Int
 nm:Ve->Sp
 sl:Int->Int->Int
 sh:Int->Int->Int->Int
def UF (F:KpF):List (FuncId×aM):=[(7,Ui),(15,sMM F.mv F.mo),(17,sMC F.ck),(20,sMV F.tv F.te),(22,sMV (fun m=>F.tv (flip m)) (fun m=>F.te (flip m))),(12,Ni F.rv F.ro),(19,sSv F.sl F.sh),(24,sVN F.nm)]
def kpF:KpF:=⟨pI,sG,ckM mf0,tuV mf0,tuO mf0,mulV mf0,ze mf0,nmS vf0,smL,smH⟩
theorem UG:pq Tryz.prog (UF kpF):=by
 intro x hx
 simp only [UF,List.mem_cons,List.not_mem_nil,or_false] at hx
 rcases hx with rfl|rfl|rfl|rfl|rfl|rfl|rfl|rfl
 .exact Uj
 .exact Mt
 .exact Dn
 .exact Bp
 .exact IG
 .exact Yh
 .exact abR
 .exact Yg
def cKp (F:KpF):Ctx:=fZ (mkC Tryz.prog (UF F) ext) (hZ [(54,.bool false false),(67,.bool false false),(90,.bool false false),(123,.bool false true)])
theorem ab6:CtxOk (cKp kpF):=bU (jd dL UG jF) _
end
end Go.Proofs.YtmnhhlnbfkfkaaaGreat.K
