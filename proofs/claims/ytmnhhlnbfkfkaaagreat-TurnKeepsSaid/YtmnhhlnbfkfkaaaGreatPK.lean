/- What is proved: TurnKeeps returns true, whatever the input (part 11). No conditions beyond those of the row. -/
import Derived.Test.YtmnhhlnbfkfkaaaGreatPJ
set_option linter.unusedVariables false
set_option linter.unusedSimpArgs false
set_option linter.unusedSectionVars false
namespace Go.Ln
open Go.Sn
def XB (x:Rat) (k:Int):Prop:=(k:Rat)+dl<=4294967296*S 64 x/\4294967296*S 64 x<=(k:Rat)+1 - dl
def XC (b xb ex:Nat):Nat:=match Nat.beq b xb with|true=>ex|false=>0
def tst (CV SV EE MM KK HH xb ex b s c E:Nat):Bool:=
 gL (s >>> 80) fun sa=>gL (c >>> 80) fun ca=>
 Nat.ble E (2 ^ 80)&&Nat.ble (sa+ca) (2 ^ 82)&&far 164 65536 128 0 (sa*CV+ca*SV+XC b xb ex) EE MM KK HH
def run (CV SV sL cL EL EE MM KK HH xb ex:Nat) (fin:Nat->Nat->Nat->Nat->Bool):Nat->Nat->Nat->Nat->Nat->Bool
 | 0,b,s,c,E=>fin b s c E
 | n+1,b,s,c,E=>
  tst CV SV EE MM KK HH xb ex b s c E&&Nat.ble (s*sL) (c*cL) &&
  gL (b+1) fun b'=>gL ((s*cL+c*sL) >>> 160) fun s'=>gL ((c*cL - s*sL) >>> 160) fun c'=>gL (jh 160 (s+c) E cL sL EL) fun E'=>
  run CV SV sL cL EL EE MM KK HH xb ex fin n b' s' c' E'
structure Cst (N EE MM KK HH:Nat):Prop where
 e:EE=ak 164 (fun _=>2 ^ 94) N
 m:MM=ak 164 (fun _=>2 ^ 128 - 1) N
 k:KK=ak 164 (fun _=>2 ^ 128 - 2*2 ^ 94) N
 h:HH=ak 164 (fun _=>2 ^ 128) N
def bN (η:Rat) (xb xj b:Nat):Prop:=∀ j,j<65536->¬(b=xb/\j=xj)->∃ k:Int,XB (η*((b*65536+j:Nat):Rat)) k
theorem TA {x:Nat} {T:Rat} (h:2*2 ^ 94<=(x+2 ^ 94) % 2 ^ 128) (hn:nr (x:Rat) ((2:Rat) ^ 160*T) ((2 ^ 92:Nat):Rat)):∃ k:Int,(k:Rat)+dl<=4294967296*T/\4294967296*T<=(k:Rat)+1 - dl:=by
 have h1:=Nat.div_add_mod (x+2 ^ 94) (2 ^ 128)
 have h2:=Nat.mod_lt (x+2 ^ 94) (show 2 ^ 128>0 by decide)
 refine ⟨((x+2 ^ 94) / 2 ^ 128:Nat),?_⟩
 generalize (x+2 ^ 94) / 2 ^ 128=k at *
 have a:k*2 ^ 128+2 ^ 94<=x:=by omega
 have b:x+2 ^ 94<=(k+1)*2 ^ 128:=by omega
 have ar:((k*2 ^ 128+2 ^ 94:Nat):Rat)<=(x:Rat):=by exact_mod_cast a
 have br:((x+2 ^ 94:Nat):Rat)<=(((k+1)*2 ^ 128:Nat):Rat):=by exact_mod_cast b
 rw [Rat.natCast_add,Rat.natCast_mul] at ar
 rw [Rat.natCast_add,Rat.natCast_mul,Rat.natCast_add] at br
 have e1:((2 ^ 128:Nat):Rat)=340282366920938463463374607431768211456:=by decide +kernel
 have e2:((2 ^ 94:Nat):Rat)=19807040628566084398385987584:=by decide +kernel
 have e3:((2 ^ 92:Nat):Rat)=4951760157141521099596496896:=by decide +kernel
 have e4:(2:Rat) ^ 160=4294967296*340282366920938463463374607431768211456:=by decide +kernel
 have e5:((1:Nat):Rat)=1:=by decide +kernel
 have e6:(((k:Nat):Int):Rat)=(k:Rat):=Rat.intCast_natCast k
 rw [e1,e2] at ar
 rw [e1,e2,e5] at br
 rw [e3,e4] at hn
 rw [e6]
 unfold nr at hn
 unfold dl
 constructor <;> grind
theorem mix {P x A1 A2 T F t B:Rat} (p:0<P) (a:nr x (P*A1+P*A2) F) (sn:-t<=A1+A2 - T/\A1+A2 - T<=t) (tl:P*t<=1) (hB:F+1<=B):nr x (P*T) B:=by
 have k2:=Rat.mul_le_mul_of_nonneg_left sn.1 (show 0<=P by grind)
 have k3:=Rat.mul_le_mul_of_nonneg_left sn.2 (show 0<=P by grind)
 unfold nr at *
 constructor <;> grind
theorem TB {N:Nat} (hN:2 ^ 16=N) {η:Rat} (hη:0<=η) {EV CV SV EE MM KK HH xb xj ex b s c E:Nat} (hv:Vec η 16 EV CV SV) (hE:EV<=512) (hx:η*65536<=1 / 500) (hc:Cst N EE MM KK HH) (hxj:xj<65536) (hex:ex=2 ^ 127*2 ^ (164*xj))
  (hb:η*((b*65536:Nat):Rat)+η*65536<=8 / 5) (hs:iR (η*((b*65536:Nat):Rat)) s c E) (h:tst CV SV EE MM KK HH xb ex b s c E=true):bN η xb xj b:=by
 unfold tst at h
 simp only [wC,Bool.and_eq_true,Nat.ble_eq] at h
 obtain ⟨⟨h1,h2⟩,h3⟩:=h
 obtain ⟨g1,g2⟩:=MU hs h1
 obtain ⟨fc,fs,eC,eS,hv⟩:=hv
 have n16:N=65536:=by rw [<- hN]
 rw [hN] at eC eS hv
 have hj:∀ j:Nat,j<N->0<=η*(j:Rat)/\η*(j:Rat)<=η*65536:=fun j hj=>by
  refine ⟨Rat.mul_nonneg hη (gT j),Rat.mul_le_mul_of_nonneg_left ?_ hη⟩
  have:(j:Rat)<=((65536:Nat):Rat):=by exact_mod_cast Nat.le_of_lt (n16 ▸ hj)
  have e:((65536:Nat):Rat)=65536:=by decide +kernel
  rw [e] at this; exact this
 have hv2:∀ j,j<N->2 ^ 80 - 2 ^ 74<=fc j/\fc j<=2 ^ 80+2 ^ 76/\fs j<=2 ^ 76:=fun j h=>KN (hj j h).1 (Rat.le_trans (hj j h).2 hx) (Nat.le_trans hE (by decide)) (hv j h).1 (hv j h).2
 generalize s >>> 80=sa at *
 generalize c >>> 80=ca at *
 have hX:sa*CV+ca*SV+XC b xb ex=ak 164 (fun i=>sa*fc i+ca*fs i+(if i=xj then (if b=xb then 2 ^ 127 else 0) else 0)) N:=by
  rw [eC,eS,jG,jG,kU]
  have:XC b xb ex=ak 164 (fun i=>if i=xj then (if b=xb then 2 ^ 127 else 0) else 0) N:=by
   rw [DF,if_pos (show xj<N by omega)]
   unfold XC
   by_cases hb:b=xb
   .rw [if_pos hb,show Nat.beq b xb=true by rw [Nat.beq_eq]; exact hb]; exact hex
   .rw [if_neg hb,show Nat.beq b xb=false from Bool.eq_false_iff.2 (fun h=>hb (Nat.eq_of_beq_eq_true h))]; simp
  rw [this,kU]
 have hlt:∀ i,i<N->sa*fc i+ca*fs i<=2 ^ 163:=fun i hi=>by
  obtain ⟨a1,a2,a3⟩:=hv2 i hi
  have b1:=Nat.mul_le_mul_left sa (show fc i<=2 ^ 81 by omega)
  have b2:=Nat.mul_le_mul_left ca (show fs i<=2 ^ 81 by omega)
  have b3:=Nat.mul_le_mul_right (2 ^ 81) h2
  rw [Nat.add_mul] at b3
  have e:2 ^ 82*2 ^ 81=2 ^ 163:=by rw [<- Nat.pow_add]
  omega
 have key:=aaZ (w:=164) (n:=N) (v:=128) (e:=2 ^ 94) hX hc.e hc.m hc.k hc.h (fun i hi=>by
  have:=hlt i hi
  have e1:(if i=xj then (if b=xb then 2 ^ 127 else 0) else 0)<=2 ^ 127:=by split <;> (try split) <;> decide
  omega) (by decide) (by decide) h3
 intro j hj2 hne
 rw [<- n16] at hj2
 have kj:=key j hj2
 have z:(if j=xj then (if b=xb then 2 ^ 127 else 0) else 0)=0:=by
  by_cases h1:j=xj
  .rw [if_pos h1,if_neg (fun h=>hne ⟨h,h1⟩)]
  .rw [if_neg h1]
 obtain ⟨x,hxx⟩:∃ x,x=sa*fc j+ca*fs j+(if j=xj then (if b=xb then 2 ^ 127 else 0) else 0):=⟨_,rfl⟩
 rw [<- hxx] at kj
 rw [z,Nat.add_zero] at hxx
 have b0:0<=η*((b*65536:Nat):Rat):=Rat.mul_nonneg hη (gT _)
 obtain ⟨j0,j1⟩:=hj j hj2
 have e:η*((b*65536+j:Nat):Rat)=η*((b*65536:Nat):Rat)+η*(j:Rat):=by push_cast; grind
 unfold XB
 rw [e]
 refine TA kj ?_
 rw [hxx]
 have sn:=(FN b0 j0 64)
 have a1:=Tx (xS g1 (hv j hj2).1 (gT _) (gT _)) (xS g2 (hv j hj2).2 (gT _) (gT _))
 have tl:=BK (r:=160) (by decide) (show 0<=η*((b*65536:Nat):Rat)+η*(j:Rat) by grind) (by grind)
 obtain ⟨d1,d2,d3⟩:=hv2 j hj2
 clear e
 generalize η*((b*65536:Nat):Rat)=A at *
 have bnd:(sa*EV+2*(fc j+EV))+(ca*EV+2*(fs j+EV))+1<=2 ^ 92:=by
  have m1:=Nat.mul_le_mul h2 hE
  rw [Nat.add_mul] at m1
  omega
 have bndr:(((sa*EV+2*(fc j+EV))+(ca*EV+2*(fs j+EV))+1:Nat):Rat)<=((2 ^ 92:Nat):Rat):=by exact_mod_cast bnd
 have e1:((2:Nat):Rat)=2:=by decide +kernel
 have e2:((1:Nat):Rat)=1:=by decide +kernel
 simp only [Rat.natCast_add,Rat.natCast_mul] at bndr
 rw [e1] at a1
 simp only [Rat.natCast_add,Rat.natCast_mul]
 rw [e1,e2] at bndr
 have e4:∀ x y:Rat,(2:Rat) ^ 80*x*((2:Rat) ^ 80*y)=(2:Rat) ^ 160*(x*y):=fun x y=>by
  rw [show (2:Rat) ^ 160=(2:Rat) ^ 80*(2:Rat) ^ 80 by decide +kernel]; grind
 rw [e4,e4] at a1
 exact mix (pw_pos 160) a1 sn tl bndr
theorem run_ok {N:Nat} (hN:2 ^ 16=N) {η:Rat} (hη:0<=η) {EV CV SV sL cL EL EE MM KK HH xb xj ex:Nat} (hv:Vec η 16 EV CV SV) (hE:EV<=512) (hx:η*65536<=1 / 500) (hc:Cst N EE MM KK HH) (hxj:xj<65536) (hex:ex=2 ^ 127*2 ^ (164*xj)) (hL:iR (η*((2 ^ 16:Nat):Rat)) sL cL EL) (fin:Nat->Nat->Nat->Nat->Bool):
  ∀ (n b s c E:Nat),η*(((b+n)*65536:Nat):Rat)<=8 / 5->iR (η*((b*65536:Nat):Rat)) s c E->run CV SV sL cL EL EE MM KK HH xb ex fin n b s c E=true ->
  (∀ i,i<n->bN η xb xj (b+i))/\∃ s' c' E',iR (η*(((b+n)*65536:Nat):Rat)) s' c' E'/\fin (b+n) s' c' E'=true:=by
 intro n
 induction n with
 | zero=>
  intro b s c E _ hs h
  exact ⟨fun i hi=>absurd hi (Nat.not_lt_zero i),s,c,E,hs,h⟩
 | succ n ih=>
  intro b s c E hb hs h
  rw [run] at h
  simp only [wC,Bool.and_eq_true,Nat.ble_eq] at h
  obtain ⟨⟨h1,h2⟩,h3⟩:=h
  have e16:((2 ^ 16:Nat):Rat)=65536:=by decide +kernel
  have m:η*(((b+1)*65536:Nat):Rat)<=η*(((b+(n+1))*65536:Nat):Rat):=Rat.mul_le_mul_of_nonneg_left (by exact_mod_cast Nat.mul_le_mul_right 65536 (by omega)) hη
  have e:η*(((b+1)*65536:Nat):Rat)=η*((b*65536:Nat):Rat)+η*65536:=by
   rw [Nat.add_mul,Rat.natCast_add,show ((1*65536:Nat):Rat)=65536 by decide +kernel]; grind
  have b0:0<=η*((b*65536:Nat):Rat):=Rat.mul_nonneg hη (gT _)
  have t:=TB hN hη hv hE hx hc hxj hex (by rw [<- e]; grind) hs h1
  have hL2:=hL
  rw [e16] at hL2
  have s2:=Jj b0 (show 0<=η*65536 by grind) (by rw [<- e]; grind) hs hL2 h2
  rw [<- e] at s2
  have ih:=ih (b+1) _ _ _ (by rw [show b+1+n=b+(n+1) by omega]; exact hb) s2 h3
  rw [show b+1+n=b+(n+1) by omega] at ih
  refine ⟨fun i hi=>?_,ih.2⟩
  cases i with
  | zero=>exact t
  | succ i=>
   have:=ih.1 i (by omega)
   rw [show b+1+i=b+(i+1) by omega] at this
   exact this
def sQ (s0 c0 E0 xb xj n b s c E:Nat) (last:Bool) (s1 c1 E1:Nat):Bool:=
 build 16 0 (2 ^ 80) 0 0 s0 c0 E0 fun CV SV EV sL cL EL=>
  Nat.ble EV 512&&gL (wB 164 16) fun ON=>gL (2 ^ 94*ON) fun EE=>gL ((2 ^ 128 - 1)*ON) fun MM=>gL ((2 ^ 128 - 2*2 ^ 94)*ON) fun KK=>gL (2 ^ 128*ON) fun HH=>gL (2 ^ 127*2 ^ (164*xj)) fun ex=>
  run CV SV sL cL EL EE MM KK HH xb ex (fun b s c E=>match last with|true=>tst CV SV EE MM KK HH xb ex b s c E|false=>Nat.beq s s1&&Nat.beq c c1&&Nat.beq E E1) n b s c E
theorem jY {η:Rat} (hη:0<=η) (hx:η*65536<=1 / 500) {s0 c0 E0 xb xj n b s c E s1 c1 E1:Nat} {last:Bool} (h0:iR η s0 c0 E0) (hxj:xj<65536) (hb:η*(((b+n)*65536:Nat):Rat)+η*65536<=8 / 5)
  (hs:iR (η*((b*65536:Nat):Rat)) s c E) (h:sQ s0 c0 E0 xb xj n b s c E last s1 c1 E1=true):
  (∀ i,i<n->bN η xb xj (b+i))/\(last=true->bN η xb xj (b+n))/\(last=false->iR (η*(((b+n)*65536:Nat):Rat)) s1 c1 E1):=by
 unfold sQ at h
 have e1:η*((2 ^ 0:Nat):Rat)=η:=by
  rw [show ((2 ^ 0:Nat):Rat)=1 by decide +kernel]; grind
 have e2:η*((2 ^ (0+16):Nat):Rat)=η*65536:=by
  rw [show ((2 ^ (0+16):Nat):Rat)=65536 by decide +kernel]
 obtain ⟨CV,SV,EV,sL,cL,EL,hv,hL,h⟩:=build_ok hη 16 0 _ _ _ _ _ _ _ acT (by rw [e1]; exact h0) (by rw [e2]; exact hx) h
 rw [show 0+16=16 from rfl] at hv hL
 simp only [wC,Bool.and_eq_true,Nat.ble_eq] at h
 obtain ⟨hE,h⟩:=h
 obtain ⟨N,hN⟩:∃ N,2 ^ 16=N:=⟨_,rfl⟩
 have hc:Cst N (2 ^ 94*wB 164 16) ((2 ^ 128 - 1)*wB 164 16) ((2 ^ 128 - 2*2 ^ 94)*wB 164 16) (2 ^ 128*wB 164 16):=by
  rw [zF,hN]
  constructor <;> exact (qN _ _ _).symm
 obtain ⟨r1,s',c',E',r2,r3⟩:=run_ok hN hη hv hE hx hc hxj rfl hL _ n b s c E (by grind) hs h
 refine ⟨r1,fun hl=>?_,fun hl=>?_⟩
 .subst hl
  exact TB hN hη hv hE hx hc hxj rfl hb r2 r3
 .subst hl
  simp only [Bool.and_eq_true] at r3
  obtain ⟨⟨a,b⟩,c⟩:=r3
  rw [<- Nat.eq_of_beq_eq_true a,<- Nat.eq_of_beq_eq_true b,<- Nat.eq_of_beq_eq_true c]
  exact r2
def fJ:Rat:=hp / 90000000
def FR:Nat:=25508015594712326045995713164063788870687
def FT:Nat:=1461501637330902695604255943821487705123777369966
theorem Jk:iR fJ FR FT 2:=⟨⟨by decide +kernel,by decide +kernel⟩,⟨by decide +kernel,by decide +kernel⟩⟩
theorem sw:0<=fJ/\fJ*65536<=1 / 500:=by decide +kernel
end Go.Ln
