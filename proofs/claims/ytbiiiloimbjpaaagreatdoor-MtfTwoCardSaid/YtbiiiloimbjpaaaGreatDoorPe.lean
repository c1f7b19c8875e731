/- What is proved: MtfTwo returns true, whatever the input (part 31). No conditions beyond those of the row. -/
import Derived.Test.YtbiiiloimbjpaaaGreatDoorPF
import Derived.Test.YtbiiiloimbjpaaaGreatDoorPd
set_option linter.unusedVariables false
set_option linter.unusedSimpArgs false
set_option linter.unusedSectionVars false
namespace Go.Proofs.YtbiiiloimbjpaaaGreatDoor.K
open Go Go.Eng Go.Dg Go.Ar Go.Vc Go.Iv
noncomputable section
theorem ahZ {a b:Int} (h:fQ a b=true):(ol a b 1 2).e=0:=by
 have p:=dx.1 h;unfold ol;rw [h,show okR 1 2=true by decide];have c:mn (a*1) (b*1)=a:=by unfold mn;rw [kW,kW,aG (show ¬ b<a by omega)];rfl
 have d:mx (a*1) (b*1)=b:=by
  unfold mx;rw [kW,kW]
  cases h:decide (a<b) with
  | true=>rfl
  | false=>have:=dJ h;show a=_;omega
 rw [c,d];refine adc ?_ ?_
 .show -4503599627370496<=a / 2/\a / 2<=4503599627370496;omega
 .show -4503599627370496<=-(-b / 2)/\-(-b / 2)<=4503599627370496;omega
theorem ah0 (more n:Int):XA more n 4294967296=true:=by
 obtain ⟨a0,a1,b⟩:=Jw more n;have h1:snA more n 4294967296<=4294967296:=a1;have a:0<=snA more n 4294967296:=a0;have e:(snA more n 4294967296).tmod 4=0:=by rw [cO a];exact b
 have q:Go.Sn.quR (snA more n 4294967296) 4294967296=true:=by
  generalize snA more n 4294967296=m at *
  unfold Go.Sn.quR;rw [aI a,aI h1,e];rfl
 unfold XA;rw [q];cases qG 4294967296 <;> rfl
theorem aiY {v:Int} (h:-2147483648<=v/\v<=2147483647):fQ v v=true:=dx.2 ⟨by omega,by omega,by omega⟩
def adt:List Sh:=[.a [.i .i32,.i .i32],.i .u16]
theorem adu:∀ xs,xs.map Nu.isN=Sh.kindsL adt->dz (Sh.leavesL adt) xs->Uj Tryz.prog glob hG 5 (Sh.mkL adt xs).1:=by
 intro xs y k;obtain ⟨v,_,rfl,h1⟩:=kn y;obtain ⟨w,_,rfl,h2⟩:=kn h1;obtain ⟨f,_,rfl,h3⟩:=kn h2;obtain rfl:=k0 h3;have k:IntKind.i32.has v/\IntKind.i32.has w/\IntKind.u16.has f/\True:=k;have n:-2147483648<=v/\v<=2147483647:=k.1;have o:-2147483648<=w/\w<=2147483647:=k.2.1;have z:0<=f/\f<=65535:=k.2.2.1;have r:=anY twF v w f;rw [kH (x:=v) (by omega) (by omega),kH (x:=w) (by omega) (by omega)] at r;have t0:=DW 1001 z.1;have t1:=Int.tmod_lt_of_pos f (b:=1001) (by decide);have A:twQ f=2*f.tmod 1001:=by unfold twQ;rw [kH (x:=f) (by omega) (by omega),kH (by omega) (by omega)]
 have D:∀ u:Int,-2147483648<=u/\u<=2147483647->anW u=u:=fun u h=>by
  unfold anW;rw [kH (x:=u+u) (by omega) (by omega)];show (u+u).fdiv 2=u;rw [lT _ (by decide)];omega
 have p:∀ u:Int,-2147483648<=u/\u<=2147483647->nP f u=(twQ f*(u % D32)) % D32:=fun u h=>by
  unfold nP;rw [D u h,ads u];have q:0<=u % D32:=dE _ (by decide);have W:u % D32<4294967296:=d9 _ (by decide);have X:0<=twQ f*(u % D32):=aV (by omega) q;have Y:twQ f*(u % D32)<=2000*4294967296:=bC (by omega) (by omega) q (by decide);rw [kH (by omega) (by omega),ads]
 have E:(twQ f).tdiv 2=f.tmod 1001:=by rw [bV (by omega)];omega
 have F:twK f v w=(f.tmod 1001*(v - w)).tmod D32:=by
  unfold twK;rw [E,kH (x:=f.tmod 1001) (by omega) (by omega),kH (x:=v - w) (by omega) (by omega)];have a:f.tmod 1001*(v - w)<=1001*4294967296:=by
   rcases Int.le_total 0 (v - w) with g|g
   .exact bC (by omega) (by omega) g (by decide)
   .have:=Int.mul_nonpos_of_nonneg_of_nonpos t0 g;omega
  have b:-(1001*4294967296)<=f.tmod 1001*(v - w):=by
   rcases Int.le_total 0 (v - w) with g|g
   .have:=aV t0 g;omega
   .have:f.tmod 1001*(-(v - w))<=1001*4294967296:=bC (by omega) (by omega) (by omega) (by decide);rw [rY] at this;omega
  rw [kH (by omega) (by omega)];rfl
 have m:nP f v % D32=(nP f w+2*twK f v w) % D32:=by rw [p v n,p w o,F];exact arx A
 obtain ⟨H,I,J⟩:=XF m;have l:Go.Rd.okSc 1 2:=by unfold Go.Rd.okSc;decide
 have s:twO twF v w f=mtO (nP f v) (nP f w):=by show p9 _ _ 1 2=ol _ _ 1 2;rw [Go.Rd.sc_eq l];rfl
 have i:=aiY n;have j:=aiY o;have t:qP v v w w=⟨v+w,v+w,0⟩:=Iv.add_small i j (by omega) (by omega);have K:(twC twF v w).e=0:=by show (p9 (qP v v w w).lo (qP v v w w).hi 1 2).e=0;rw [Go.Rd.sc_eq l,t];exact ahZ (dx.2 ⟨by show _<=v+w;omega,dO _,by show v+w<=_;omega⟩)
 obtain ⟨a1,_⟩:=TA 1 (nP f v) (nP f w);obtain ⟨a0,_⟩:=TA 0 (nP f v) (nP f w);obtain ⟨L,_⟩:=Vt 1 (nP f v) (nP f w);obtain ⟨s0,_⟩:=Vt 0 (nP f v) (nP f w);obtain ⟨M,_⟩:=ado (nP f v) (nP f w);obtain ⟨N,_⟩:=adp (nP f v) (nP f w);obtain ⟨_,b1,b2⟩:=GU 1 (twK f v w);have b3:=dx.1 (GU 1 (twK f v w)).1;have O:twH (j6 1 (twK f v w) 4294967296) (kg 1 (twK f v w) 4294967296)=adr (j6 1 (twK f v w) D32) (kg 1 (twK f v w) D32):=by
  show twH (j6 1 (twK f v w) D32) (kg 1 (twK f v w) D32)=_;generalize j6 1 (twK f v w) D32=c at *
  generalize kg 1 (twK f v w) D32=d at *
  unfold twH adr;rw [kH (x:=0 - c) (by omega) (by omega),zD];have:(if d > -c then d else -c)=max (-c) d:=by split <;> omega
  rw [this]
 have P:twL (j6 1 (twK f v w) 4294967296) (kg 1 (twK f v w) 4294967296)=adq (j6 1 (twK f v w) D32) (kg 1 (twK f v w) D32):=by
  show twL (j6 1 (twK f v w) D32) (kg 1 (twK f v w) D32)=_;generalize j6 1 (twK f v w) D32=c at *
  generalize kg 1 (twK f v w) D32=d at *
  unfold twL adq;rw [kH (x:=0 - d) (by omega) (by omega),zD]
 have Q:twV twF v w f=true:=by unfold twV;rw [s];show (bif decide ((mtO (nP f v) (nP f w)).lo<=twH (j6 1 (twK f v w) 4294967296) (kg 1 (twK f v w) 4294967296)) then decide (twL (j6 1 (twK f v w) 4294967296) (kg 1 (twK f v w) 4294967296)<=(mtO (nP f v) (nP f w)).hi) else false)=true;rw [O,P,aI I,aI J];rfl
 rw [Q] at r;refine ⟨cTw twF,3000,_,_,_,anE,rfl,rfl,r,?_,rfl⟩;refine ⟨⟨⟨⟨i,j⟩,⟨⟨⟨rfl,rfl⟩,?_⟩,K⟩,rfl,rfl⟩,⟨fun h=>?_,fun _=>aG (by omega)⟩,⟨⟨⟨i,NU 1 _⟩,j,NU 1 _,a1⟩,⟨i,NU 0 _⟩,j,NU 0 _,a0⟩,⟨L,⟨rfl,rfl⟩,⟨rfl,rfl⟩,s0,M⟩,N,?_⟩,ah0 1 _⟩
 .show (qP v v w w).e=0;rw [t]
 .have:=bK h;omega
 .rw [s];exact H
end
end Go.Proofs.YtbiiiloimbjpaaaGreatDoor.K
