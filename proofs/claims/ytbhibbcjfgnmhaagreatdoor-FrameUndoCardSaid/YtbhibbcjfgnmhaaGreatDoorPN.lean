/- What is proved: FrameUndo returns true, whatever the input (part 14). No conditions beyond those of the row. -/
import Derived.Test.YtbhibbcjfgnmhaaGreatDoorPF
import Derived.Test.YtbhibbcjfgnmhaaGreatDoorPH
import Derived.Test.YtbhibbcjfgnmhaaGreatDoorPM
import Derived.Test.YtbhibbcjfgnmhaaGreatDoorProg
import Derived.Test.YtbhibbcjfgnmhaaGreatDoorRows
import Derived.Laws.Externs
import Derived.KernelRfl
set_option linter.unusedVariables false
set_option linter.unusedSimpArgs false
set_option linter.unusedSectionVars false
namespace Go.Rd
open Go Go.Eng Go.Ar
def inR (lo hi n:Int):Bool:=decide (lo<=n)&&decide (n<=hi)
def noG (s:Su):Bool:=gI s.g ⟨#[]⟩
def isM (s:Su):Bool:=gI s.g ⟨#[77,73,82,82,79,82]⟩
def abU (s:Su):Bool:=
 (inR (-1000000000) 1000000000 s.c&&inR (-1000000000) 1000000000 s.l&&inR (-1000000000) 1000000000 s.th&&inR (-1000000000) 1000000000 s.dx&&inR (-1000000000) 1000000000 s.dy) &&
 (inR (-1000000000) 1000000000 s.a0&&inR (-1000000000) 1000000000 s.a1&&inR (-1000000000) 1000000000 s.a2&&inR (-1000000000) 1000000000 s.a3)&&(inR (-1000000000) 1000000000 s.f0&&inR (-1000000000) 1000000000 s.f1) &&
 ((inR (-100000000) 100000000 s.k&&inR (-100000000) 100000000 s.m)&&(inR (-90000000) 90000000 s.ax&&inR (-90000000) 90000000 s.ay&&inR (-90000000) 90000000 s.az)) &&
 (inR (-3) 3 s.o&&(inR 0 1000000000 s.se&&inR 0 1000000000 s.ho))&&(s.se==0||decide (s.ho<s.se))&&(noG s||abT s.g)
def noX (s:Su):Bool:=s.l==0&&s.m==0
def noA (s:Su):Bool:=s.a0==0&&s.a1==0&&s.a2==0&&s.a3==0
def noP (s:Su):Bool:=s.f0==0&&s.f1==0
def noT (s:Su):Bool:=s.dx==0&&s.dy==0&&s.ax==0&&s.ay==0&&s.az==0
def abW (s:Su) (e:Bool):Bool:=
 (s.kd==1&&(noX s&&noT s&&(!(s.o==0||isM s)||(s.o==0&&noP s)))) ||
 (s.kd==2&&(noA s&&noP s&&s.o==0&&noT s)) ||
 (s.kd==3&&(noX s&&noA s&&noP s&&s.o==0&&noG s&&e&&s.c==0&&s.k==0&&s.se==0&&s.ho==0)) ||
 (s.kd==4&&(noX s&&noA s&&noP s&&s.o==0&&noT s&&noG s&&e&&s.k==0))
def ZT (s:Su) (ys:List Int):Bool:=abU s&&abW s ys.isEmpty&&Sd ys&&decide (ys.length<=24)
section
variable (s:Su)
end
section
variable (s:Su) (ys:List Int)
variable {s} {ys}
end
section
variable (s:Su) (ys:List Int)
def rP:Bool:=s.f0==0&&(s.f1==0&&true)
def rA:Bool:=bif s.a0==0&&(s.a1==0&&(s.a2==0&&(s.a3==0&&true))) then bif rP s then s.o==0 else false else false
end
section
variable (c k a0 a1 a2 a3 a b d e:Int)
def cb (n m:Int):Sp:=aG 4294967296 4294967296 (IntKind.i64.wrap (n*m)) 1000000
def q1:Sp:=oQ (u0 c k a b d e) (cb a0 2) (cb a1 3) (cb a2 4) (cb a3 5)
def q2:Sp:=aD (u0 c k a b d e).lo (u0 c k a b d e).hi (q1 c k a0 a1 a2 a3 a b d e).lo (q1 c k a0 a1 a2 a3 a b d e).hi
def fif (a b:Int):Sp:=aG a b 1 50
def q3:Sp:=aD (fif a b).lo (fif a b).hi (q2 c k a0 a1 a2 a3 a b d e).lo (q2 c k a0 a1 a2 a3 a b d e).hi
end
section
variable (c k l m a b d e:Int)
end
def t1 (g:Int):Bool:=bif g != 0 then true else false
section
variable (c k a0 a1 a2 a3 a b d e:Int)
end
structure Vs where
 c:Int
 k:Int
 a0:Int
 a1:Int
 a2:Int
 a3:Int
 a:Int
 b:Int
 x:Int
 y:Int
structure Vx where
 c:Int
 k:Int
 l:Int
 m:Int
 a:Int
 b:Int
 x:Int
 y:Int
abbrev O (s:Sp):Prop:=au s.lo s.hi=true
theorem yE {n d M:Int} (hn:-M<=n/\n<=M) (h:4503599627370496*M<18446744073709551615*d):Bg n d:=fun _=>by
 have:sg n n<=M:=by
  unfold sg
  cases h:decide (n<0) with
  | true=>show -n<=M; omega
  | false=>show n<=M; omega
 omega
theorem Sj {n d:Int} (h1:-4611686018427387904<=n) (h2:n<=4611686018427387904) (h3:1<=d) (h4:d<=4611686018427387904):okR n d=true:=by
 unfold okR; simp [h1,h2,h3,h4]
theorem yc {c:Int} (h:inL c):Bg c 1000000000:=yE (M:=1000000000) h (by decide)
theorem acH {c:Int} (h:inL c):Bg c 1000000:=yE (M:=1000000000) h (by decide)
theorem NB {c:Int} (h:inL c):okR c 1000000000=true:=by unfold inL at h; exact Sj (by omega) (by omega) (by decide) (by decide)
theorem wkK {k:Int} (h:inK k):IntKind.i64.wrap (1000000+k)=1000000+k:=i64w (by unfold inK at h; omega) (by unfold inK at h; omega)
theorem NC {k:Int} (h:inK k):Bg (IntKind.i64.wrap (1000000+k)) 1000000:=by
 rw [wkK h]
 exact yE (M:=101000000) (by unfold inK at h; omega) (by decide)
theorem ZU {k:Int} (h:inK k):okR (IntKind.i64.wrap (1000000+k)) 1000000=true:=by
 rw [wkK h]; unfold inK at h; exact Sj (by omega) (by omega) (by decide) (by decide)
theorem abX:Bg 1 100:=yE (M:=1) (by decide) (by decide)
theorem z0e {s:Sp} (h:z0 s=true):s.e=0:=by unfold z0 at h; simpa using h
theorem lh:Ri ⟨4294967296,4294967296,0⟩:=⟨by decide,by decide,by decide⟩
section
variable {c k a0 a1 a2 a3 a b x y:Int} (hc:inL c) (hk:inK k) (hx:au a b=true) (hy:au x y=true)
include hx in theorem K0:okE (s0 c k a b x y):=Ic (s:=⟨a,b,0⟩) (Ri.of hx)
include hx in theorem R0 (h:z0 (s0 c k a b x y)=true):Ri (s0 c k a b x y):=Ie (s:=⟨a,b,0⟩) (Ri.of hx) (z0e h)
include hy in theorem K1:okE (s1 c k a b x y):=Ic (s:=⟨x,y,0⟩) (Ri.of hy)
include hy in theorem R1 (h:z0 (s1 c k a b x y)=true):Ri (s1 c k a b x y):=Ie (s:=⟨x,y,0⟩) (Ri.of hy) (z0e h)
include hx hy in theorem K2 (h0:z0 (s0 c k a b x y)=true) (h1:z0 (s1 c k a b x y)=true):okE (s2 c k a b x y):=xX (R0 hx h0) (R1 hy h1)
include hx hy in theorem R2 (h0:z0 (s0 c k a b x y)=true) (h1:z0 (s1 c k a b x y)=true) (h2:z0 (s2 c k a b x y)=true):Ri (s2 c k a b x y):=CF (R0 hx h0) (R1 hy h1) (z0e h2)
include hx hy hc in theorem K3 (h0:z0 (s0 c k a b x y)=true) (h1:z0 (s1 c k a b x y)=true) (h2:z0 (s2 c k a b x y)=true):okE (s3 c k a b x y):=Bh (R2 hx hy h0 h1 h2) (yc hc) (NB hc)
include hx hy hc in theorem R3 (h0:z0 (s0 c k a b x y)=true) (h1:z0 (s1 c k a b x y)=true) (h2:z0 (s2 c k a b x y)=true) (h3:z0 (s3 c k a b x y)=true):Ri (s3 c k a b x y):=AP (R2 hx hy h0 h1 h2) (yc hc) (z0e h3)
include hx hy hc in theorem K4 (h0:z0 (s0 c k a b x y)=true) (h1:z0 (s1 c k a b x y)=true) (h2:z0 (s2 c k a b x y)=true) (h3:z0 (s3 c k a b x y)=true):okE (s4 c k a b x y):=Bh (R3 hc hx hy h0 h1 h2 h3) (yc hc) (NB hc)
include hx hy hc in theorem R4 (h0:z0 (s0 c k a b x y)=true) (h1:z0 (s1 c k a b x y)=true) (h2:z0 (s2 c k a b x y)=true) (h3:z0 (s3 c k a b x y)=true) (h4:z0 (s4 c k a b x y)=true):Ri (s4 c k a b x y):=AP (R3 hc hx hy h0 h1 h2 h3) (yc hc) (z0e h4)
include hx hy hc hk in theorem K5 (h0:z0 (s0 c k a b x y)=true) (h1:z0 (s1 c k a b x y)=true) (h2:z0 (s2 c k a b x y)=true) (h3:z0 (s3 c k a b x y)=true) (h4:z0 (s4 c k a b x y)=true):okE (s5 c k a b x y):=Bh (R4 hc hx hy h0 h1 h2 h3 h4) (NC hk) (ZU hk)
include hx hy hc hk in theorem R5 (h0:z0 (s0 c k a b x y)=true) (h1:z0 (s1 c k a b x y)=true) (h2:z0 (s2 c k a b x y)=true) (h3:z0 (s3 c k a b x y)=true) (h4:z0 (s4 c k a b x y)=true) (h5:z0 (s5 c k a b x y)=true):Ri (s5 c k a b x y):=AP (R4 hc hx hy h0 h1 h2 h3 h4) (NC hk) (z0e h5)
include hx hy hc hk in theorem K6 (h0:z0 (s0 c k a b x y)=true) (h1:z0 (s1 c k a b x y)=true) (h2:z0 (s2 c k a b x y)=true) (h3:z0 (s3 c k a b x y)=true) (h4:z0 (s4 c k a b x y)=true) (h5:z0 (s5 c k a b x y)=true):okE (s6 c k a b x y):=WU lh (R5 hc hk hx hy h0 h1 h2 h3 h4 h5)
def H6 (c k a b x y:Int):Prop:=z0 (s0 c k a b x y)=true/\z0 (s1 c k a b x y)=true/\z0 (s2 c k a b x y)=true/\z0 (s3 c k a b x y)=true/\z0 (s4 c k a b x y)=true/\z0 (s5 c k a b x y)=true/\z0 (s6 c k a b x y)=true
include hx hy hc hk in theorem R6 (h:H6 c k a b x y):Ri (s6 c k a b x y):=WX lh (R5 hc hk hx hy h.1 h.2.1 h.2.2.1 h.2.2.2.1 h.2.2.2.2.1 h.2.2.2.2.2.1) (z0e h.2.2.2.2.2.2)
include hx hy hc hk in theorem K7 (h:H6 c k a b x y) (p:0<(s6 c k a b x y).lo):okE (s7 c k a b x y):=abd (R6 hc hk hx hy h) p
include hx hy hc hk in theorem R7 (h:H6 c k a b x y) (h7:z0 (s7 c k a b x y)=true):Ri (s7 c k a b x y):=abe (R6 hc hk hx hy h) (z0e h7)
include hx hy hc hk in theorem P7 (h:H6 c k a b x y) (p:0<(s6 c k a b x y).lo):0<(s7 c k a b x y).lo:=RI (R6 hc hk hx hy h) p
include hx hy hc in theorem K8 (h:H6 c k a b x y):okE (s8 c k a b x y):=xX (R3 hc hx hy h.1 h.2.1 h.2.2.1 h.2.2.2.1) (t:=⟨0,0,0⟩) oL
include hx hy hc in theorem R8 (h:H6 c k a b x y) (h8:z0 (s8 c k a b x y)=true):Ri (s8 c k a b x y):=CF (R3 hc hx hy h.1 h.2.1 h.2.2.1 h.2.2.2.1) (t:=⟨0,0,0⟩) oL (z0e h8)
include hx hy hc hk in theorem K9 (h:H6 c k a b x y) (h7:z0 (s7 c k a b x y)=true):okE (s9 c k a b x y):=xX lh (R7 hc hk hx hy h h7)
include hx hy hc hk in theorem R9 (h:H6 c k a b x y) (h7:z0 (s7 c k a b x y)=true) (h9:z0 (s9 c k a b x y)=true):Ri (s9 c k a b x y):=CF lh (R7 hc hk hx hy h h7) (z0e h9)
include hx hy hc hk in theorem P9 (h:H6 c k a b x y) (p:0<(s6 c k a b x y).lo) (h7:z0 (s7 c k a b x y)=true) (h9:z0 (s9 c k a b x y)=true):0<(s9 c k a b x y).lo:=Lv lh (R7 hc hk hx hy h h7) (z0e h9) (by decide) (by have:=P7 hc hk hx hy h p; omega)
include hx hy hc hk in theorem K10 (h:H6 c k a b x y) (p:0<(s6 c k a b x y).lo) (h7:z0 (s7 c k a b x y)=true) (h8:z0 (s8 c k a b x y)=true) (h9:z0 (s9 c k a b x y)=true):okE (s10 c k a b x y):=WW (R8 hc hx hy h h8) (R9 hc hk hx hy h h7 h9) (P9 hc hk hx hy h p h7 h9)
include hx hy hc hk in theorem R10 (h:H6 c k a b x y) (h7:z0 (s7 c k a b x y)=true) (h8:z0 (s8 c k a b x y)=true) (h9:z0 (s9 c k a b x y)=true) (h10:z0 (s10 c k a b x y)=true):Ri (s10 c k a b x y):=WZ (R8 hc hx hy h h8) (R9 hc hk hx hy h h7 h9) (z0e h10)
include hx hy in theorem KU0 (h0:z0 (s0 c k a b x y)=true) (h1:z0 (s1 c k a b x y)=true) (h2:z0 (s2 c k a b x y)=true):okE (u0 c k a b x y):=Bh (R2 hx hy h0 h1 h2) abX (by decide)
include hx hy in theorem RU0 (h0:z0 (s0 c k a b x y)=true) (h1:z0 (s1 c k a b x y)=true) (h2:z0 (s2 c k a b x y)=true) (u:z0 (u0 c k a b x y)=true):Ri (u0 c k a b x y):=AP (R2 hx hy h0 h1 h2) abX (z0e u)
theorem RCA {n:Int} (h:inL n) (u:z0 (ca n)=true):Ri (ca n):=AP (s:=⟨4294967296,4294967296,0⟩) lh (acH h) (z0e u)
variable (i0:inL a0) (i1:inL a1) (i2:inL a2) (i3:inL a3)
def HU (c k a0 a1 a2 a3 a b x y:Int):Prop:=(z0 (s0 c k a b x y)=true/\z0 (s1 c k a b x y)=true/\z0 (s2 c k a b x y)=true/\z0 (u0 c k a b x y)=true)/\z0 (ca a0)=true/\z0 (ca a1)=true/\z0 (ca a2)=true/\z0 (ca a3)=true
include hx hy in theorem HU.r (h:HU c k a0 a1 a2 a3 a b x y):Ri (u0 c k a b x y):=RU0 hx hy h.1.1 h.1.2.1 h.1.2.2.1 h.1.2.2.2
include hx hy i0 i1 i2 i3 in theorem KU1 (h:HU c k a0 a1 a2 a3 a b x y):okE (u1 c k a0 a1 a2 a3 a b x y):=abf (h.r hx hy) (RCA i0 h.2.1) (RCA i1 h.2.2.1) (RCA i2 h.2.2.2.1) (RCA i3 h.2.2.2.2)
include hx hy i0 i1 i2 i3 in theorem RU1 (h:HU c k a0 a1 a2 a3 a b x y) (u:z0 (u1 c k a0 a1 a2 a3 a b x y)=true):Ri (u1 c k a0 a1 a2 a3 a b x y):=abg (h.r hx hy) (RCA i0 h.2.1) (RCA i1 h.2.2.1) (RCA i2 h.2.2.2.1) (RCA i3 h.2.2.2.2) (z0e u)
include hx hy in theorem KU2 (h:HU c k a0 a1 a2 a3 a b x y):okE (u2 c k a b x y):=Ic (h.r hx hy)
include hx hy in theorem RU2 (h:HU c k a0 a1 a2 a3 a b x y) (u:z0 (u2 c k a b x y)=true):Ri (u2 c k a b x y):=Ie (h.r hx hy) (z0e u)
include hx hy i0 i1 i2 i3 in theorem KU3 (h:HU c k a0 a1 a2 a3 a b x y) (v1:z0 (u1 c k a0 a1 a2 a3 a b x y)=true) (v2:z0 (u2 c k a b x y)=true):okE (u3 c k a0 a1 a2 a3 a b x y):=WV (RU2 hx hy h v2) (RU1 hx hy i0 i1 i2 i3 h v1)
include hx hy i0 i1 i2 i3 in theorem RU3 (h:HU c k a0 a1 a2 a3 a b x y) (v1:z0 (u1 c k a0 a1 a2 a3 a b x y)=true) (v2:z0 (u2 c k a b x y)=true) (v3:z0 (u3 c k a0 a1 a2 a3 a b x y)=true):Ri (u3 c k a0 a1 a2 a3 a b x y):=WY (RU2 hx hy h v2) (RU1 hx hy i0 i1 i2 i3 h v1) (z0e v3)
include hx hy hc hk i0 i1 i2 i3 in theorem KU4 (g:H6 c k a b x y) (h7:z0 (s7 c k a b x y)=true) (h8:z0 (s8 c k a b x y)=true) (h9:z0 (s9 c k a b x y)=true) (h10:z0 (s10 c k a b x y)=true) (h:HU c k a0 a1 a2 a3 a b x y) (v1:z0 (u1 c k a0 a1 a2 a3 a b x y)=true) (v2:z0 (u2 c k a b x y)=true) (v3:z0 (u3 c k a0 a1 a2 a3 a b x y)=true):okE (u4 c k a0 a1 a2 a3 a b x y):=xX (R10 hc hk hx hy g h7 h8 h9 h10) (RU3 hx hy i0 i1 i2 i3 h v1 v2 v3)
end
section
variable {c k l m a b x y:Int} (hc:inL c) (hk:inK k) (hl:inL l) (hm:inK m) (hx:au a b=true) (hy:au x y=true)
include hc hk hl hm hx hy in theorem BK0 :okE (b0 c k l m a b x y):=Ic (Ri.of (s:=⟨a,b,0⟩) hx)
include hc hk hl hm hx hy in theorem BR0 (e0:z0 (b0 c k l m a b x y)=true):Ri (b0 c k l m a b x y):=Ie (Ri.of (s:=⟨a,b,0⟩) hx) (z0e e0)
include hc hk hl hm hx hy in theorem BK1 (e0:z0 (b0 c k l m a b x y)=true):okE (b1 c k l m a b x y):=Bh (BR0 hc hk hl hm hx hy e0) (yc hl) (NB hl)
include hc hk hl hm hx hy in theorem BR1 (e0:z0 (b0 c k l m a b x y)=true) (e1:z0 (b1 c k l m a b x y)=true):Ri (b1 c k l m a b x y):=AP (BR0 hc hk hl hm hx hy e0) (yc hl) (z0e e1)
include hc hk hl hm hx hy in theorem BK2 :okE (b2 c k l m a b x y):=Ic (Ri.of (s:=⟨x,y,0⟩) hy)
include hc hk hl hm hx hy in theorem BR2 (e2:z0 (b2 c k l m a b x y)=true):Ri (b2 c k l m a b x y):=Ie (Ri.of (s:=⟨x,y,0⟩) hy) (z0e e2)
include hc hk hl hm hx hy in theorem BK3 (e2:z0 (b2 c k l m a b x y)=true):okE (b3 c k l m a b x y):=Bh (BR2 hc hk hl hm hx hy e2) (yc hc) (NB hc)
include hc hk hl hm hx hy in theorem BR3 (e2:z0 (b2 c k l m a b x y)=true) (e3:z0 (b3 c k l m a b x y)=true):Ri (b3 c k l m a b x y):=AP (BR2 hc hk hl hm hx hy e2) (yc hc) (z0e e3)
include hc hk hl hm hx hy in theorem BK4 (e0:z0 (b0 c k l m a b x y)=true) (e1:z0 (b1 c k l m a b x y)=true):okE (b4 c k l m a b x y):=Bh (BR1 hc hk hl hm hx hy e0 e1) (yc hl) (NB hl)
include hc hk hl hm hx hy in theorem BR4 (e0:z0 (b0 c k l m a b x y)=true) (e1:z0 (b1 c k l m a b x y)=true) (e4:z0 (b4 c k l m a b x y)=true):Ri (b4 c k l m a b x y):=AP (BR1 hc hk hl hm hx hy e0 e1) (yc hl) (z0e e4)
include hc hk hl hm hx hy in theorem BK5 (e2:z0 (b2 c k l m a b x y)=true) (e3:z0 (b3 c k l m a b x y)=true):okE (b5 c k l m a b x y):=Bh (BR3 hc hk hl hm hx hy e2 e3) (yc hc) (NB hc)
include hc hk hl hm hx hy in theorem BR5 (e2:z0 (b2 c k l m a b x y)=true) (e3:z0 (b3 c k l m a b x y)=true) (e5:z0 (b5 c k l m a b x y)=true):Ri (b5 c k l m a b x y):=AP (BR3 hc hk hl hm hx hy e2 e3) (yc hc) (z0e e5)
include hc hk hl hm hx hy in theorem BK6 (e0:z0 (b0 c k l m a b x y)=true) (e1:z0 (b1 c k l m a b x y)=true) (e4:z0 (b4 c k l m a b x y)=true):okE (b6 c k l m a b x y):=Bh (BR4 hc hk hl hm hx hy e0 e1 e4) (NC hm) (ZU hm)
include hc hk hl hm hx hy in theorem BR6 (e0:z0 (b0 c k l m a b x y)=true) (e1:z0 (b1 c k l m a b x y)=true) (e4:z0 (b4 c k l m a b x y)=true) (e6:z0 (b6 c k l m a b x y)=true):Ri (b6 c k l m a b x y):=AP (BR4 hc hk hl hm hx hy e0 e1 e4) (NC hm) (z0e e6)
include hc hk hl hm hx hy in theorem BK7 (e2:z0 (b2 c k l m a b x y)=true) (e3:z0 (b3 c k l m a b x y)=true) (e5:z0 (b5 c k l m a b x y)=true):okE (b7 c k l m a b x y):=Bh (BR5 hc hk hl hm hx hy e2 e3 e5) (NC hk) (ZU hk)
include hc hk hl hm hx hy in theorem BR7 (e2:z0 (b2 c k l m a b x y)=true) (e3:z0 (b3 c k l m a b x y)=true) (e5:z0 (b5 c k l m a b x y)=true) (e7:z0 (b7 c k l m a b x y)=true):Ri (b7 c k l m a b x y):=AP (BR5 hc hk hl hm hx hy e2 e3 e5) (NC hk) (z0e e7)
include hc hk hl hm hx hy in theorem BK8 (e0:z0 (b0 c k l m a b x y)=true) (e1:z0 (b1 c k l m a b x y)=true) (e2:z0 (b2 c k l m a b x y)=true) (e3:z0 (b3 c k l m a b x y)=true) (e4:z0 (b4 c k l m a b x y)=true) (e5:z0 (b5 c k l m a b x y)=true) (e6:z0 (b6 c k l m a b x y)=true) (e7:z0 (b7 c k l m a b x y)=true):okE (b8 c k l m a b x y):=xX (BR6 hc hk hl hm hx hy e0 e1 e4 e6) (BR7 hc hk hl hm hx hy e2 e3 e5 e7)
include hc hk hl hm hx hy in theorem BR8 (e0:z0 (b0 c k l m a b x y)=true) (e1:z0 (b1 c k l m a b x y)=true) (e2:z0 (b2 c k l m a b x y)=true) (e3:z0 (b3 c k l m a b x y)=true) (e4:z0 (b4 c k l m a b x y)=true) (e5:z0 (b5 c k l m a b x y)=true) (e6:z0 (b6 c k l m a b x y)=true) (e7:z0 (b7 c k l m a b x y)=true) (e8:z0 (b8 c k l m a b x y)=true):Ri (b8 c k l m a b x y):=CF (BR6 hc hk hl hm hx hy e0 e1 e4 e6) (BR7 hc hk hl hm hx hy e2 e3 e5 e7) (z0e e8)
include hc hk hl hm hx hy in theorem BK9 (e0:z0 (b0 c k l m a b x y)=true) (e1:z0 (b1 c k l m a b x y)=true) (e2:z0 (b2 c k l m a b x y)=true) (e3:z0 (b3 c k l m a b x y)=true) (e4:z0 (b4 c k l m a b x y)=true) (e5:z0 (b5 c k l m a b x y)=true) (e6:z0 (b6 c k l m a b x y)=true) (e7:z0 (b7 c k l m a b x y)=true) (e8:z0 (b8 c k l m a b x y)=true):okE (b9 c k l m a b x y):=WU lh (BR8 hc hk hl hm hx hy e0 e1 e2 e3 e4 e5 e6 e7 e8)
include hc hk hl hm hx hy in theorem BR9 (e0:z0 (b0 c k l m a b x y)=true) (e1:z0 (b1 c k l m a b x y)=true) (e2:z0 (b2 c k l m a b x y)=true) (e3:z0 (b3 c k l m a b x y)=true) (e4:z0 (b4 c k l m a b x y)=true) (e5:z0 (b5 c k l m a b x y)=true) (e6:z0 (b6 c k l m a b x y)=true) (e7:z0 (b7 c k l m a b x y)=true) (e8:z0 (b8 c k l m a b x y)=true) (e9:z0 (b9 c k l m a b x y)=true):Ri (b9 c k l m a b x y):=WX lh (BR8 hc hk hl hm hx hy e0 e1 e2 e3 e4 e5 e6 e7 e8) (z0e e9)
include hc hk hl hm hx hy in theorem BK10 (e0:z0 (b0 c k l m a b x y)=true) (e1:z0 (b1 c k l m a b x y)=true) (e2:z0 (b2 c k l m a b x y)=true) (e3:z0 (b3 c k l m a b x y)=true) (e4:z0 (b4 c k l m a b x y)=true) (e5:z0 (b5 c k l m a b x y)=true) (e6:z0 (b6 c k l m a b x y)=true) (e7:z0 (b7 c k l m a b x y)=true) (e8:z0 (b8 c k l m a b x y)=true) (e9:z0 (b9 c k l m a b x y)=true) (p:0<(b9 c k l m a b x y).lo):okE (b10 c k l m a b x y):=abd (BR9 hc hk hl hm hx hy e0 e1 e2 e3 e4 e5 e6 e7 e8 e9) p
include hc hk hl hm hx hy in theorem BR10 (e0:z0 (b0 c k l m a b x y)=true) (e1:z0 (b1 c k l m a b x y)=true) (e2:z0 (b2 c k l m a b x y)=true) (e3:z0 (b3 c k l m a b x y)=true) (e4:z0 (b4 c k l m a b x y)=true) (e5:z0 (b5 c k l m a b x y)=true) (e6:z0 (b6 c k l m a b x y)=true) (e7:z0 (b7 c k l m a b x y)=true) (e8:z0 (b8 c k l m a b x y)=true) (e9:z0 (b9 c k l m a b x y)=true) (e10:z0 (b10 c k l m a b x y)=true):Ri (b10 c k l m a b x y):=abe (BR9 hc hk hl hm hx hy e0 e1 e2 e3 e4 e5 e6 e7 e8 e9) (z0e e10)
include hc hk hl hm hx hy in theorem BK11 (e0:z0 (b0 c k l m a b x y)=true) (e1:z0 (b1 c k l m a b x y)=true) (e2:z0 (b2 c k l m a b x y)=true) (e3:z0 (b3 c k l m a b x y)=true):okE (b11 c k l m a b x y):=xX (BR1 hc hk hl hm hx hy e0 e1) (BR3 hc hk hl hm hx hy e2 e3)
include hc hk hl hm hx hy in theorem BR11 (e0:z0 (b0 c k l m a b x y)=true) (e1:z0 (b1 c k l m a b x y)=true) (e2:z0 (b2 c k l m a b x y)=true) (e3:z0 (b3 c k l m a b x y)=true) (e11:z0 (b11 c k l m a b x y)=true):Ri (b11 c k l m a b x y):=CF (BR1 hc hk hl hm hx hy e0 e1) (BR3 hc hk hl hm hx hy e2 e3) (z0e e11)
include hc hk hl hm hx hy in theorem BK12 (e0:z0 (b0 c k l m a b x y)=true) (e1:z0 (b1 c k l m a b x y)=true) (e2:z0 (b2 c k l m a b x y)=true) (e3:z0 (b3 c k l m a b x y)=true) (e4:z0 (b4 c k l m a b x y)=true) (e5:z0 (b5 c k l m a b x y)=true) (e6:z0 (b6 c k l m a b x y)=true) (e7:z0 (b7 c k l m a b x y)=true) (e8:z0 (b8 c k l m a b x y)=true) (e9:z0 (b9 c k l m a b x y)=true) (e10:z0 (b10 c k l m a b x y)=true):okE (b12 c k l m a b x y):=xX lh (BR10 hc hk hl hm hx hy e0 e1 e2 e3 e4 e5 e6 e7 e8 e9 e10)
include hc hk hl hm hx hy in theorem BR12 (e0:z0 (b0 c k l m a b x y)=true) (e1:z0 (b1 c k l m a b x y)=true) (e2:z0 (b2 c k l m a b x y)=true) (e3:z0 (b3 c k l m a b x y)=true) (e4:z0 (b4 c k l m a b x y)=true) (e5:z0 (b5 c k l m a b x y)=true) (e6:z0 (b6 c k l m a b x y)=true) (e7:z0 (b7 c k l m a b x y)=true) (e8:z0 (b8 c k l m a b x y)=true) (e9:z0 (b9 c k l m a b x y)=true) (e10:z0 (b10 c k l m a b x y)=true) (e12:z0 (b12 c k l m a b x y)=true):Ri (b12 c k l m a b x y):=CF lh (BR10 hc hk hl hm hx hy e0 e1 e2 e3 e4 e5 e6 e7 e8 e9 e10) (z0e e12)
include hc hk hl hm hx hy in theorem BK13 (e0:z0 (b0 c k l m a b x y)=true) (e1:z0 (b1 c k l m a b x y)=true) (e2:z0 (b2 c k l m a b x y)=true) (e3:z0 (b3 c k l m a b x y)=true) (e4:z0 (b4 c k l m a b x y)=true) (e5:z0 (b5 c k l m a b x y)=true) (e6:z0 (b6 c k l m a b x y)=true) (e7:z0 (b7 c k l m a b x y)=true) (e8:z0 (b8 c k l m a b x y)=true) (e9:z0 (b9 c k l m a b x y)=true) (e10:z0 (b10 c k l m a b x y)=true) (e11:z0 (b11 c k l m a b x y)=true) (e12:z0 (b12 c k l m a b x y)=true) (p:0<(b12 c k l m a b x y).lo):okE (b13 c k l m a b x y):=WW (BR11 hc hk hl hm hx hy e0 e1 e2 e3 e11) (BR12 hc hk hl hm hx hy e0 e1 e2 e3 e4 e5 e6 e7 e8 e9 e10 e12) p
include hc hk hl hm hx hy in theorem BR13 (e0:z0 (b0 c k l m a b x y)=true) (e1:z0 (b1 c k l m a b x y)=true) (e2:z0 (b2 c k l m a b x y)=true) (e3:z0 (b3 c k l m a b x y)=true) (e4:z0 (b4 c k l m a b x y)=true) (e5:z0 (b5 c k l m a b x y)=true) (e6:z0 (b6 c k l m a b x y)=true) (e7:z0 (b7 c k l m a b x y)=true) (e8:z0 (b8 c k l m a b x y)=true) (e9:z0 (b9 c k l m a b x y)=true) (e10:z0 (b10 c k l m a b x y)=true) (e11:z0 (b11 c k l m a b x y)=true) (e12:z0 (b12 c k l m a b x y)=true) (e13:z0 (b13 c k l m a b x y)=true):Ri (b13 c k l m a b x y):=WZ (BR11 hc hk hl hm hx hy e0 e1 e2 e3 e11) (BR12 hc hk hl hm hx hy e0 e1 e2 e3 e4 e5 e6 e7 e8 e9 e10 e12) (z0e e13)
include hc hk hl hm hx hy in theorem BP12 (e0:z0 (b0 c k l m a b x y)=true) (e1:z0 (b1 c k l m a b x y)=true) (e2:z0 (b2 c k l m a b x y)=true) (e3:z0 (b3 c k l m a b x y)=true) (e4:z0 (b4 c k l m a b x y)=true) (e5:z0 (b5 c k l m a b x y)=true) (e6:z0 (b6 c k l m a b x y)=true) (e7:z0 (b7 c k l m a b x y)=true) (e8:z0 (b8 c k l m a b x y)=true) (e9:z0 (b9 c k l m a b x y)=true) (e10:z0 (b10 c k l m a b x y)=true) (e12:z0 (b12 c k l m a b x y)=true) (p:0<(b9 c k l m a b x y).lo):0<(b12 c k l m a b x y).lo:=Lv lh (BR10 hc hk hl hm hx hy e0 e1 e2 e3 e4 e5 e6 e7 e8 e9 e10) (z0e e12) (by decide) (by have:=RI (BR9 hc hk hl hm hx hy e0 e1 e2 e3 e4 e5 e6 e7 e8 e9) p; exact Int.le_of_lt this)
end
structure BaseF (c k a b x y:Int):Prop where
 h:H6 c k a b x y
 p:0<(s6 c k a b x y).lo
 h7:z0 (s7 c k a b x y)=true
 h8:z0 (s8 c k a b x y)=true
 h9:z0 (s9 c k a b x y)=true
 h10:z0 (s10 c k a b x y)=true
section
variable {c k a0 a1 a2 a3 a b x y:Int} (hc:inL c) (hk:inK k) (hx:au a b=true) (hy:au x y=true) (f:BaseF c k a b x y)
include hc hk hx hy f
variable (i0:inL a0) (i1:inL a1) (i2:inL a2) (i3:inL a3) (u:z0 (u0 c k a b x y)=true)
include u
include i0 i1 i2 i3
end
structure BaseX (c k l m a b x y:Int):Prop where
 e0:z0 (b0 c k l m a b x y)=true
 e1:z0 (b1 c k l m a b x y)=true
 e2:z0 (b2 c k l m a b x y)=true
 e3:z0 (b3 c k l m a b x y)=true
 e4:z0 (b4 c k l m a b x y)=true
 e5:z0 (b5 c k l m a b x y)=true
 e6:z0 (b6 c k l m a b x y)=true
 e7:z0 (b7 c k l m a b x y)=true
 e8:z0 (b8 c k l m a b x y)=true
 e9:z0 (b9 c k l m a b x y)=true
 p:0<(b9 c k l m a b x y).lo
 e10:z0 (b10 c k l m a b x y)=true
 e11:z0 (b11 c k l m a b x y)=true
 e12:z0 (b12 c k l m a b x y)=true
 e13:z0 (b13 c k l m a b x y)=true
section
variable {c k l m a b x y:Int} (hc:inL c) (hk:inK k) (hl:inL l) (hm:inK m) (hx:au a b=true) (hy:au x y=true) (f:BaseX c k l m a b x y)
include hc hk hl hm hx hy f
end
structure Dr (z0 z1 z2 z3 z4 z5 z6 z7 z8 z9 z10 z11 z12 z13 z14 z15 z16 z17 z18 z19 z20:Int):Prop where
 r0:0<=z0/\z0<=255
 r1:-32768<=z1/\z1<=32767
 r2:-32768<=z2/\z2<=32767
 r3:-32768<=z3/\z3<=32767
 r4:-32768<=z4/\z4<=32767
 r5:-128<=z5/\z5<=127
 r6:-128<=z6/\z6<=127
 r7:-128<=z7/\z7<=127
 r8:-128<=z8/\z8<=127
 r9:-128<=z9/\z9<=127
 r10:-128<=z10/\z10<=127
 r11:-128<=z11/\z11<=127
 r12:-32768<=z12/\z12<=32767
 r13:0<=z13/\z13<=255
 r14:0<=z14/\z14<=255
 r15:0<=z15/\z15<=255
 r16:-128<=z16/\z16<=127
 r17:-128<=z17/\z17<=127
 r18:-128<=z18/\z18<=127
 r19:-128<=z19/\z19<=127
 r20:-128<=z20/\z20<=127
structure Xd4 (x0 x1 x2 x3:Int):Prop where
 s0:-32768<=x0/\x0<=32767
 s1:-32768<=x1/\x1<=32767
 s2:-32768<=x2/\x2<=32767
 s3:-32768<=x3/\x3<=32767
section
variable {c k a0 a1 a2 a3 a b x y a' b' x' y':Int} (hc:inL c) (hk:inK k) (wx:Wi ⟨a',b',0⟩ ⟨a,b,0⟩) (wy:Wi ⟨x',y',0⟩ ⟨x,y,0⟩)
include hc hk wx wy
structure BaseW (c k a b x y a' b' x' y':Int):Prop where
 f:BaseF c k a' b' x' y'
 w2:Wi (s2 c k a' b' x' y') (s2 c k a b x y)
 w7:Wi (s7 c k a' b' x' y') (s7 c k a b x y)
 w10:Wi (s10 c k a' b' x' y') (s10 c k a b x y)
variable (i0:inL a0) (i1:inL a1) (i2:inL a2) (i3:inL a3)
include i0 i1 i2 i3
end
section
variable {c k a0 a1 a2 a3 a b x y a' b' x' y':Int} (hc:inL c) (hk:inK k) (hx:au a b=true) (hy:au x y=true) (wx:Wi ⟨a',b',0⟩ ⟨a,b,0⟩) (wy:Wi ⟨x',y',0⟩ ⟨x,y,0⟩) (i0:inL a0) (i1:inL a1) (i2:inL a2) (i3:inL a3)
include hc hk hx hy wx wy i0 i1 i2 i3
end
section
variable {c k l m a b x y a' b' x' y':Int} (hc:inL c) (hk:inK k) (hl:inL l) (hm:inK m) (hx:au a b=true) (hy:au x y=true) (wx:Wi ⟨a',b',0⟩ ⟨a,b,0⟩) (wy:Wi ⟨x',y',0⟩ ⟨x,y,0⟩)
include hc hk hl hm hx hy wx wy
end
structure Sl where
 s:Sp
 f:Int
 u:Sp
 v:Sp
structure Mn (W P:Sl):Prop where
 s:W.s.e=0->P.s.e=0/\Wi P.s W.s
 f:W.f=0->P.f=0/\Wi P.u W.u/\Wi P.v W.v
section
variable {c k l m a0 a1 a2 a3 a b d e:Int} (hc:inL c) (hk:inK k) (hl:inL l) (hm:inK m)
end
section
end
structure Ev (W P:Sl):Prop where
 s:P.s=W.s
 f:P.f=W.f
 u:P.u=ng W.u
 v:P.v=W.v
section
variable (s:Su) (ys:List Int) (a b x y:Int)
end
end Go.Rd
namespace Go.Vc
open Go Go.Eng Go.Ar Go.Rd
structure BO where
 v:Ve
 c:Int
 e:Int
namespace BX
variable (X:BX)
def bi:Bool:=bif decide ((if X.b<X.a then X.b else X.a)<10000000) then true else bif decide ((if X.b>X.a then X.b else X.a)>40000000) then true else bif decide (X.l<300000) then true else decide (X.l>2500000)
def vz:Bool:=!(X.F.vc X.v != 0)&&!(X.F.vc X.w != 0)
def fr (x y z:Int):Int:=bif X.bi then x else bif X.vz then z else y
def sk3 (v:Ve):Bool:=!bif X.F.sk v.a v.b != 0||!(X.F.sk v.a v.b != 0)&&(X.F.sk v.c v.d != 0||!(X.F.sk v.c v.d != 0)&&X.F.sk v.e v.f != 0) then false else true
def rv:Bool:=bif X.sk3 X.v then true else X.sk3 X.w
def i1:Sp:=X.F.sc X.v.a X.v.b X.S.c 1000000000
end BX
structure IT where
 a1:Eb
 a2:Eb
 a3:Eb
 a4:Eb
 k:Bool
 b1:Eb
 b2:Eb
 c1:Eb
 c2:Eb
 c3:Eb
 c4:Eb
 c5:Eb
 c6:Eb
namespace IT
variable (B:IT)
def p47:Bool:=B.a1.z&&B.a2.z
def p410:Bool:=B.p47&&(B.a3.z&&B.a4.z)
def p418:Bool:=bif B.k then B.b1.z&&B.b2.z else true
def p423:Bool:=B.c1.z&&B.c2.z
def ok:Bool:=B.p410&&(B.p418&&(B.p423&&(B.c3.z&&B.c4.z)&&(B.c5.z&&bif B.k then B.c6.z else true)))
end IT
namespace BX
variable (X:BX)
def k1:Int:=bif X.i1.e != 0 then X.i1.e else 0
def i2':Sp:=X.F.sc (bif X.i1.e != 0 then 0 else X.i1.lo) (bif X.i1.e != 0 then 0 else X.i1.hi) 10000000 X.b
def k2:Int:=kE X.k1 X.i2'.e
variable {X}
structure vlaw (X:BX):Prop where
 vc:∀ v,X.F.vc v=bif X.sk3 v then 20 else 0
end BX
end Go.Vc
namespace Go.Vc
open Go Go.Eng Go.Ar Go.Rd
namespace BX
variable (X:BX) (n:Int)
def n0:Prop:=acE n X.ys/\X.S.g.size<1000000000/\ZT X.S X.ys=true
variable {X n}
theorem wr {x:Int} (h:-9000000000000000000<=x/\x<=9000000000000000000):IntKind.i64.wrap x=x:=i64w (by omega) (by omega)
end BX
end Go.Vc
namespace Go.Iv
open Go Go.Ar Go.Rd Go.Vc
structure V3 where
 x:Rat
 y:Rat
 z:Rat
def cv (v:Ve) (u:V3):Prop:=cn v.a v.b u.x/\cn v.c v.d u.y/\cn v.e v.f u.z
def V3.dot (u v:V3):Rat:=u.x*v.x+u.y*v.y+u.z*v.z
def V3.mul (u:V3) (t:Rat):V3:=⟨u.x*t,u.y*t,u.z*t⟩
theorem acI {e:Int} (h:tO e=0):e=0:=by
 unfold tO at h
 cases k:e != 0 with
 | true=>rw [k] at h; exact h
 | false=>simpa using k
theorem acJ {X Y Z:Sp} {k:Int} (h:tE X Y Z k=0):X.e=0/\Y.e=0/\Z.e=0:=by
 unfold tE at h
 obtain ⟨h,hz⟩:=dn.1 h
 obtain ⟨h,hy⟩:=dn.1 h
 exact ⟨(dn.1 h).2,hy,hz⟩
theorem ZV {v w:Ve} {u t:V3} (e:(bA vf0 v w).e=0) (h:cv v u) (k:cv w t):cn (bA vf0 v w).lo (bA vf0 v w).hi (u.dot t):=by
 have e:=acI e
 obtain ⟨e1,eB⟩:=dn.1 e
 obtain ⟨e2,eA⟩:=dn.1 e1
 obtain ⟨x1,x2,x3⟩:=acJ e2
 have m1:=JQ x1 h.1 k.1
 have m2:=JQ x2 h.2.1 k.2.1
 have m3:=JQ x3 h.2.2 k.2.2
 have a1:=RJ eA m1 m2
 have a2:=RJ eB a1 m3
 unfold bA
 rw [e]
 exact a2
end Go.Iv
namespace Go.Vc
open Go Go.Eng Go.Ar Go.Dg Go.Sn Go.Iv
def qv (m d:Int):Rat:=if m=0 then 0 else if m=d then 1 else if 3*m=d then 1 / 2 else tru ((m:Rat) / (d:Rat))
theorem VX:cn 2147483648 2147483648 (1 / 2):=by unfold cn; decide +kernel
theorem ZW {q:Rat} {k:Int} (h:Ra q k):cn k (k+1) (tru q):=by
 unfold Ra dl at h
 have e:((k+1:Int):Rat)=(k:Rat)+1:=by rw [Rat.intCast_add]; rfl
 unfold cn
 rw [e]
 constructor <;> grind
theorem abY {m:Int} (h0:0<=m) (h1:m<=360000000) (h4:m % 4=0):cn (gQ m 360000000) (gT m 360000000) (qv m 360000000):=by
 unfold gQ gT qv
 by_cases z:m=0
 .rw [if_pos z,if_pos z,if_pos z]; exact gV
 by_cases z1:m=360000000
 .rw [if_neg z,if_neg z,if_neg z,if_pos z1,if_pos z1,if_pos z1]; exact xg
 by_cases z3:3*m=360000000
 .rw [if_neg z,if_neg z,if_neg z,if_neg z1,if_neg z1,if_neg z1,if_pos z3,if_pos z3,if_pos z3]; exact VX
 rw [if_neg z,if_neg z,if_neg z,if_neg z1,if_neg z1,if_neg z1,if_neg z3,if_neg z3,if_neg z3]
 obtain ⟨k,hk⟩:=Ls (m:=m) (by omega) (by omega) z3 h4
 have e:=(Rb (m:=m) (d:=360000000) (by omega) (by omega) (by decide) hk).2
 rw [e]
 exact ZW hk
theorem VY:1 / 2 - ta<=S 64 (hp*(1 / 3))/\S 64 (hp*(1 / 3))<=1 / 2+ta:=by decide +kernel
theorem ZX:S 64 0=0:=by decide +kernel
theorem LG {m d:Int} (hd:0<d):-ta<=qv m d - tru ((m:Rat) / (d:Rat))/\qv m d - tru ((m:Rat) / (d:Rat))<=ta:=by
 have t:=kZ.1
 have hd0:(d:Rat)≠0:=by
  intro h
  have:d=0:=by exact_mod_cast h
  omega
 unfold qv
 by_cases z:m=0
 .rw [if_pos z,z]
  have:hp*(((0:Int):Rat) / (d:Rat))=0:=by
   have:((0:Int):Rat)=0:=rfl
   rw [this,Rat.div_def,Rat.zero_mul,Rat.mul_zero]
  unfold tru
  rw [this,ZX]; constructor <;> grind
 by_cases z1:m=d
 .rw [if_neg z,if_pos z1,z1]
  have:hp*((d:Rat) / (d:Rat))=hp:=by
   rw [Rat.div_def,Rat.mul_inv_cancel _ hd0,Rat.mul_one]
  have s:=abt
  unfold tru
  rw [this]; constructor <;> grind
 by_cases z3:3*m=d
 .rw [if_neg z,if_neg z1,if_pos z3]
  have:(m:Rat) / (d:Rat)=1 / 3:=by
   have e:(d:Rat)=3*(m:Rat):=by rw [<- z3]; exact_mod_cast rfl
   grind
  have s:=VY
  unfold tru
  rw [this]; constructor <;> grind
 rw [if_neg z,if_neg z1,if_neg z3]
 constructor <;> grind
theorem LH {q:Rat} (h0:0<=q) (h1:q<=1):-2<=tru q/\tru q<=2:=by
 obtain ⟨a0,a1⟩:=ED h0 h1
 exact (two_of kZ.2 (circle' a0 a1).2).2
theorem Sk {x y a b t:Rat} (t0:0<=t) (t1:t<=1 / 1000) (h1:-t<=x - a) (h2:x - a<=t) (k1:-t<=y - b) (k2:y - b<=t) (a0:-2<=a) (a1:a<=2) (b0:-2<=b) (b1:b<=2)
  (p1:-(41*t)<=a*a+b*b - 1) (p2:a*a+b*b - 1<=41*t):-(60*t)<=x*x+y*y - 1/\x*x+y*y - 1<=60*t:=by
 have e1:=pb (x:=x - a) (y:=x+a) (X:=t) (Y:=5) h1 h2 (by grind) (by grind)
 have e2:=pb (x:=y - b) (y:=y+b) (X:=t) (Y:=5) k1 k2 (by grind) (by grind)
 constructor <;> grind
theorem VZ {m d:Int} (h0:0<=m) (h1:m<=d) (hd:0<d):-(60*ta)<=qv m d*qv m d+qv (d - m) d*qv (d - m) d - 1/\qv m d*qv m d+qv (d - m) d*qv (d - m) d - 1<=60*ta:=by
 obtain ⟨q0,q1,_⟩:=aaK h0 h1 hd
 have hd0:(d:Rat)≠0:=by
  intro h
  have:d=0:=by exact_mod_cast h
  omega
 have e:((d - m:Int):Rat) / (d:Rat)=1 - (m:Rat) / (d:Rat):=by
  rw [Rat.intCast_sub]; grind
 have n1:=LG (m:=m) hd
 have n2:=LG (m:=d - m) hd
 rw [e] at n2
 have p:=Sc q0 q1
 have b1:=LH q0 q1
 have b2:=LH (q:=1 - (m:Rat) / (d:Rat)) (by grind) (by grind)
 exact Sk kZ.1 kZ.2 n1.1 n1.2 n2.1 n2.2 b1.1 b1.2 b2.1 b2.2 p.1 p.2
def D0:Int:=360000000
def rsn (more n:Int):Rat:=if (snK n D0 more==0||snK n D0 more==1)=true then qv (snA more n D0) D0 else -qv (snA more n D0) D0
theorem LJ (more n:Int):0<=snA more n D0/\snA more n D0<=D0/\snA more n D0 % 4=0:=by
 obtain ⟨_,_,_,_,_,m0,m1⟩:=AL (n:=n) (d:=D0) (by decide) (by decide)
 have e4:snM n D0 % 4=0:=by
  unfold snM D0
  omega
 have:D0 % 4=0:=by decide
 unfold snA
 cases snK n D0 more==0||snK n D0 more==2 with
 | true=>simp only [cond_true]; omega
 | false=>simp only [cond_false]; omega
theorem Sq {a b:Int} {x:Rat} (h:cn a b x):cn (-b) (-a) (-x):=by
 unfold cn at *
 rw [Rat.intCast_neg,Rat.intCast_neg]
 constructor <;> grind
theorem JV (more n:Int):cn (iQ more n 360000000) (iR more n 360000000) (rsn more n):=by
 obtain ⟨a0,a1,a4⟩:=LJ more n
 have h:=abY a0 a1 a4
 have hb:rR 360000000=false:=by decide
 unfold iQ iR rsn
 rw [hb]
 show cn (bif snK n D0 more==0||snK n D0 more==1 then gQ (snA more n D0) D0 else -gT (snA more n D0) D0) (bif snK n D0 more==0||snK n D0 more==1 then gT (snA more n D0) D0 else -gQ (snA more n D0) D0) _
 cases snK n D0 more==0||snK n D0 more==1 with
 | true=>exact h
 | false=>exact Sq h
theorem Sr (n:Int):snA 1 n D0=D0 - snA 0 n D0:=by
 obtain ⟨_,_,_,q0,q3,_,_⟩:=AL (n:=n) (d:=D0) (by decide) (by decide)
 have e0:snK n D0 0=snQ n D0:=by unfold snK; omega
 have e1:snK n D0 1=(snQ n D0+1) % 4:=rfl
 have hq:snQ n D0=0\/snQ n D0=1\/snQ n D0=2\/snQ n D0=3:=by omega
 unfold snA
 rw [e0,e1]
 rcases hq with h|h|h|h <;> rw [h]
 .show D0 - snM n D0=D0 - snM n D0; rfl
 .show snM n D0=D0 - (D0 - snM n D0); omega
 .show D0 - snM n D0=D0 - snM n D0; rfl
 .show snM n D0=D0 - (D0 - snM n D0); omega
theorem Sv (more n:Int):rsn more n*rsn more n=qv (snA more n D0) D0*qv (snA more n D0) D0:=by
 unfold rsn
 split <;> grind
theorem Ig (n:Int):-(60*ta)<=rsn 0 n*rsn 0 n+rsn 1 n*rsn 1 n - 1/\rsn 0 n*rsn 0 n+rsn 1 n*rsn 1 n - 1<=60*ta:=by
 obtain ⟨a0,a1,_⟩:=LJ 0 n
 have h:=VZ a0 a1 (by decide)
 rw [Sv,Sv,Sr]
 exact h
structure M3 where
 x:V3
 y:V3
 z:V3
def M3.T (R:M3):M3:=⟨⟨R.x.x,R.y.x,R.z.x⟩,⟨R.x.y,R.y.y,R.z.y⟩,⟨R.x.z,R.y.z,R.z.z⟩⟩
def M3.row (B:M3) (u:V3):V3:=⟨u.dot B.T.x,u.dot B.T.y,u.dot B.T.z⟩
def M3.mul (A B:M3):M3:=⟨B.row A.x,B.row A.y,B.row A.z⟩
def cm (m:Mat) (R:M3):Prop:=cv m.x R.x/\cv m.y R.y/\cv m.z R.z
theorem V4 {m:Mat} {R:M3} (h:cm m R):cm (flip m) R.T:=⟨⟨h.1.1,h.2.1.1,h.2.2.1⟩,⟨h.1.2.1,h.2.1.2.1,h.2.2.2.1⟩,h.1.2.2,h.2.1.2.2,h.2.2.2.2⟩
theorem BdM.flip {B:Int} {b:Mat} (k:BdM B b):BdM B (flip b):=by
 obtain ⟨⟨a1,a2,a3⟩,⟨b1,b2,b3⟩,c1,c2,c3⟩:=k
 exact ⟨⟨a1,b1,c1⟩,⟨a2,b2,c2⟩,a3,b3,c3⟩
theorem JW {A B M:Int} {v w:Ve} {u t:V3} (h:BdV A v) (k:BdV B w) (hA:A<=4503599627370496) (hB:B<=4503599627370496) (hM:A*B<=M*4294967296) (hM0:0<=M) (hM2:3*M<=4503599627370496)
  (hu:cv v u) (ht:cv w t):cn (bA vf0 v w).lo (bA vf0 v w).hi (u.dot t):=by
 obtain ⟨_,_,_,_,_,_,_,_,_,e,_⟩:=mY h k hA hB hM hM0 hM2
 exact ZV (by rw [e]) hu ht
theorem ZY {A B M:Int} {a b:Mat} {P Q:M3} (h:BdM A a) (k:BdM B b) (hA:A<=4503599627370496) (hB:B<=4503599627370496) (hM:A*B<=M*4294967296) (hM0:0<=M) (hM2:3*M<=4503599627370496)
  (hp:cm a P) (hq:cm b Q):cm (mulV mf1 a b) (P.mul Q):=by
 obtain ⟨_,_,hB1,hG⟩:=oM h k hA hB hM hM0 hM2
 have hI:∀ x,rmI mf1 a b x=x:=fun x=>by
  unfold rmI
  show (bif rmB ⟨bA vf0,au⟩ a b then 0 else bif rmG ⟨bA vf0,au⟩ a b then x else 0)=x
  rw [hB1,hG]; rfl
 have kf:=k.flip
 have qf:=V4 hq
 have row:∀ r u,BdV A r->cv r u->cv (rmV mf1 a b r) (Q.row u):=fun r u hr hu=>by
  unfold rmV
  simp only [hI]
  exact ⟨JW hr kf.1 hA hB hM hM0 hM2 hu qf.1,JW hr kf.2.1 hA hB hM hM0 hM2 hu qf.2.1,JW hr kf.2.2 hA hB hM hM0 hM2 hu qf.2.2⟩
 exact ⟨row _ _ h.1 hp.1,row _ _ h.2.1 hp.2.1,row _ _ h.2.2 hp.2.2⟩
def RA (a n:Int):M3:=bif a==0 then ⟨⟨1,0,0⟩,⟨0,rsn 1 n,-rsn 0 n⟩,⟨0,rsn 0 n,rsn 1 n⟩⟩
 else bif a==1 then ⟨⟨rsn 1 n,0,rsn 0 n⟩,⟨0,1,0⟩,⟨-rsn 0 n,0,rsn 1 n⟩⟩
 else ⟨⟨rsn 1 n,-rsn 0 n,0⟩,⟨rsn 0 n,rsn 1 n,0⟩,⟨0,0,1⟩⟩
theorem Xf (a n:Int):cm (abA af0 a n) (RA a n):=by
 have s:=JV 0 n
 have c:=JV 1 n
 obtain ⟨g1,_⟩:=xm (RP (vL 0 n)) (by decide)
 have g:=Sq s
 unfold abA RA
 show cm (JN (iQ 0 n 360000000) (iR 0 n 360000000) (iQ 1 n 360000000) (iR 1 n 360000000) (Be (iQ 0 n 360000000) (iR 0 n 360000000)) a) _
 rw [g1]
 unfold JN
 cases a==0 with
 | true=>exact ⟨⟨xg,gV,gV⟩,⟨gV,c,g⟩,gV,s,c⟩
 | false=>cases a==1 with
  | true=>exact ⟨⟨c,gV,s⟩,⟨gV,xg,gV⟩,g,gV,c⟩
  | false=>exact ⟨⟨c,g,gV⟩,⟨s,c,gV⟩,gV,gV,xg⟩
end Go.Vc
namespace Go.Vc
open Go Go.Eng Go.Ar Go.Dg Go.Sn Go.Iv Go.Rd
theorem V5 {m d:Int}:gT m d<=gQ m d+1:=by
 unfold gQ gT
 repeat' split
 all_goals omega
theorem V6 (more n:Int) (hm:more=0\/more=1):(-(1+60*ta)<=rsn more n/\rsn more n<=1+60*ta):=by
 have h:=Ig n
 have t:=kZ.1
 have n0:=LF (rsn 0 n)
 have n1:=LF (rsn 1 n)
 have key:∀ x:Rat,x*x<=1+60*ta->-(1+60*ta)<=x/\x<=1+60*ta:=fun x hx=>by
  have big:∀ y:Rat,1+60*ta<y->y*y<=1+60*ta->False:=fun y hy h=>by
   have:=Rat.mul_pos (a:=y - (1+60*ta)) (b:=y+1) (by grind) (by grind)
   have:=Rat.mul_nonneg (a:=60*ta) (b:=y) (by grind) (by grind)
   grind
  constructor
  .by_cases g:-(1+60*ta)<=x
   .exact g
   .exact (big (-x) (by grind) (by grind)).elim
  .by_cases g:x<=1+60*ta
   .exact g
   .exact (big x (by grind) (by grind)).elim
 rcases hm with rfl|rfl
 .exact key _ (by grind)
 .exact key _ (by grind)
theorem AR {a b:Int} (h:(a:Rat)<(b:Rat)):a<b:=by exact_mod_cast h
theorem V7:(1+60*ta)*4294967296<4294967297:=by decide +kernel
theorem Sw (more n:Int) (hm:more=0\/more=1):Bd 4294967297 (iQ more n 360000000) (iR more n 360000000):=by
 have c:=JV more n
 have r:=V6 more n hm
 have t:=V7
 have w:iR more n 360000000<=iQ more n 360000000+1:=by
  have e:=V5 (m:=snA more n 360000000) (d:=360000000)
  unfold iQ iR
  cases rR 360000000 with
  | true=>show (0:Int)<=0+1; decide
  | false=>cases snK n 360000000 more==0||snK n 360000000 more==1 with
   | true=>exact e
   | false=>show -gQ _ _<=-gT _ _+1; omega
 have le:=abh c
 have a1:((iQ more n 360000000:Int):Rat)<((4294967297:Int):Rat):=by
  have:((4294967297:Int):Rat)=4294967297:=rfl
  have:=c.1
  grind
 have a2:((-4294967297:Int):Rat)<((iR more n 360000000:Int):Rat):=by
  have:((-4294967297:Int):Rat)=-4294967297:=rfl
  have:=c.2
  grind
 have b1:iQ more n 360000000<4294967297:=AR a1
 have b2:-4294967297<iR more n 360000000:=AR a2
 exact ⟨by omega,le,by omega⟩
theorem tF {a n:Int}:BdM 4294967297 (abA af0 a n):=by
 have s:=Sw 0 n (Or.inl rfl)
 have c:=Sw 1 n (Or.inr rfl)
 obtain ⟨g1,g2⟩:=xm s (by decide)
 have z:=bd0 4294967297 (by decide)
 have o:=bd1 4294967297 (by decide)
 unfold abA
 show BdM _ (JN (iQ 0 n 360000000) (iR 0 n 360000000) (iQ 1 n 360000000) (iR 1 n 360000000) (Be (iQ 0 n 360000000) (iR 0 n 360000000)) a)
 rw [g1]
 unfold JN
 cases a==0 with
 | true=>exact ⟨⟨o,z,z⟩,⟨z,c,g2⟩,z,s,c⟩
 | false=>cases a==1 with
  | true=>exact ⟨⟨c,z,s⟩,⟨z,o,z⟩,g2,z,c⟩
  | false=>exact ⟨⟨c,g2,z⟩,⟨s,c,z⟩,z,z,o⟩
section
variable (F:VF) (v:Ve)
end
theorem Ih {A:Int} {m:Mat} (h:BdM A m) (hA:A<=1000000000000000) (hA0:0<=A):qa mf1 uM m=0/\mulV mf1 uM m=m:=by
 obtain ⟨o,_,hB1,hG⟩:=oM (M:=A+1) LD h (by decide) (by omega) (by omega) (by omega) (by omega)
 have hI:∀ x,rmI mf1 uM m x=x:=fun x=>by
  unfold rmI
  show (bif rmB ⟨bA vf0,au⟩ uM m then 0 else bif rmG ⟨bA vf0,au⟩ uM m then x else 0)=x
  rw [hB1,hG]; rfl
 obtain ⟨f1,f2,f3⟩:=h.flip
 obtain ⟨a1,a2,a3⟩:=vN f1 hA hA0
 obtain ⟨b1,b2,b3⟩:=vN f2 hA hA0
 obtain ⟨c1,c2,c3⟩:=vN f3 hA hA0
 rw [GU] at a1 a2 a3 b1 b2 b3 c1 c2 c3
 refine ⟨o,?_⟩
 unfold mulV rmV
 simp only [hI]
 show (⟨⟨(bA vf0 uM.x (flip m).x).lo,(bA vf0 uM.x (flip m).x).hi,(bA vf0 uM.x (flip m).y).lo,(bA vf0 uM.x (flip m).y).hi,(bA vf0 uM.x (flip m).z).lo,(bA vf0 uM.x (flip m).z).hi⟩,
  ⟨(bA vf0 uM.y (flip m).x).lo,(bA vf0 uM.y (flip m).x).hi,(bA vf0 uM.y (flip m).y).lo,(bA vf0 uM.y (flip m).y).hi,(bA vf0 uM.y (flip m).z).lo,(bA vf0 uM.y (flip m).z).hi⟩,
  ⟨(bA vf0 uM.z (flip m).x).lo,(bA vf0 uM.z (flip m).x).hi,(bA vf0 uM.z (flip m).y).lo,(bA vf0 uM.z (flip m).y).hi,(bA vf0 uM.z (flip m).z).lo,(bA vf0 uM.z (flip m).z).hi⟩⟩:Mat)=m
 rw [a1,a2,a3,b1,b2,b3,c1,c2,c3]; rfl
theorem Sy (n:Int):(snM n D0=0/\snM (-n) D0=0/\snQ (-n) D0=(4 - snQ n D0) % 4)\/(snM n D0≠0/\snM (-n) D0=D0 - snM n D0/\snQ (-n) D0=3 - snQ n D0):=by
 unfold snM snQ snR D0
 omega
theorem V8 (n:Int):rsn 0 (-n)=-rsn 0 n/\rsn 1 (-n)=rsn 1 n:=by
 obtain ⟨_,_,_,q0,q3,_,_⟩:=AL (n:=n) (d:=D0) (by decide) (by decide)
 obtain ⟨_,_,_,p0,p3,_,_⟩:=AL (n:=-n) (d:=D0) (by decide) (by decide)
 have k0:∀ m,snK m D0 0=(snQ m D0+0) % 4:=fun _=>rfl
 have k1:∀ m,snK m D0 1=(snQ m D0+1) % 4:=fun _=>rfl
 have hq:snQ n D0=0\/snQ n D0=1\/snQ n D0=2\/snQ n D0=3:=by omega
 have z:qv 0 D0=0:=by unfold qv; rw [if_pos rfl]
 have zz:(-0:Rat)=0:=by grind
 have dd:D0 - 0=D0:=by omega
 rcases Sy n with ⟨m0,m1,q⟩|⟨_,m1,q⟩
 .unfold rsn snA
  rw [k0,k0,k1,k1,q,m0,m1]
  rcases hq with h|h|h|h <;> rw [h] <;> simp [z,dd]
 .have e:D0 - (D0 - snM n D0)=snM n D0:=by omega
  unfold rsn snA
  rw [k0,k0,k1,k1,q,m1]
  rcases hq with h|h|h|h <;> rw [h] <;> simp [e]
theorem bI {a b p:Int} {y x:Rat} (h:cn a b y) (hp:cn p p x) (n1:-(60*ta)<=y - x) (n2:y - x<=60*ta):a<=p/\p<=b:=by
 have k:60*ta*4294967296<1:=by decide +kernel
 exact JP h hp (by grind) (by grind)
def unH (m:Mat):Prop:=((m.x.a<=4294967296/\4294967296<=m.x.b)/\(m.x.c<=0/\0<=m.x.d)/\(m.x.e<=0/\0<=m.x.f))/\((m.y.a<=0/\0<=m.y.b)/\(m.y.c<=4294967296/\4294967296<=m.y.d)/\(m.y.e<=0/\0<=m.y.f))/\((m.z.a<=0/\0<=m.z.b)/\(m.z.c<=0/\0<=m.z.d)/\(m.z.e<=4294967296/\4294967296<=m.z.f))
theorem V9 (a n:Int):unH (mulV mf1 (abA af0 a n) (abA af0 a (-n))):=by
 have h:=ZY (M:=4294967299) (tF (a:=a) (n:=n)) (tF (a:=a) (n:=-n)) (by decide) (by decide) (by decide) (by decide) (by decide) (Xf a n) (Xf a (-n))
 obtain ⟨s,c⟩:=V8 n
 obtain ⟨p1,p2⟩:=Ig n
 have t:=kZ.1
 unfold RA at h
 rw [s,c] at h
 unfold unH
 obtain ⟨⟨h1,h2,h3⟩,⟨h4,h5,h6⟩,h7,h8,h9⟩:=h
 cases ha:a==0 with
 | true=>
  rw [ha] at h1 h2 h3 h4 h5 h6 h7 h8 h9
  simp only [cond_true,M3.mul,M3.row,M3.T,V3.dot] at h1 h2 h3 h4 h5 h6 h7 h8 h9
  exact ⟨⟨bI h1 xg (by grind) (by grind),bI h2 gV (by grind) (by grind),bI h3 gV (by grind) (by grind)⟩,⟨bI h4 gV (by grind) (by grind),bI h5 xg (by grind) (by grind),bI h6 gV (by grind) (by grind)⟩,bI h7 gV (by grind) (by grind),bI h8 gV (by grind) (by grind),bI h9 xg (by grind) (by grind)⟩
 | false=>cases hb:a==1 with
  | true=>
   rw [ha,hb] at h1 h2 h3 h4 h5 h6 h7 h8 h9
   simp only [cond_true,cond_false,M3.mul,M3.row,M3.T,V3.dot] at h1 h2 h3 h4 h5 h6 h7 h8 h9
   exact ⟨⟨bI h1 xg (by grind) (by grind),bI h2 gV (by grind) (by grind),bI h3 gV (by grind) (by grind)⟩,⟨bI h4 gV (by grind) (by grind),bI h5 xg (by grind) (by grind),bI h6 gV (by grind) (by grind)⟩,bI h7 gV (by grind) (by grind),bI h8 gV (by grind) (by grind),bI h9 xg (by grind) (by grind)⟩
  | false=>
   rw [ha,hb] at h1 h2 h3 h4 h5 h6 h7 h8 h9
   simp only [cond_false,M3.mul,M3.row,M3.T,V3.dot] at h1 h2 h3 h4 h5 h6 h7 h8 h9
   exact ⟨⟨bI h1 xg (by grind) (by grind),bI h2 gV (by grind) (by grind),bI h3 gV (by grind) (by grind)⟩,⟨bI h4 gV (by grind) (by grind),bI h5 xg (by grind) (by grind),bI h6 gV (by grind) (by grind)⟩,bI h7 gV (by grind) (by grind),bI h8 gV (by grind) (by grind),bI h9 xg (by grind) (by grind)⟩
theorem ni (n:Int):JR n 0 0=abA af0 0 n/\JR 0 n 0=abA af0 1 n/\JR 0 0 n=abA af0 2 n:=by
 have e:∀ a,a=0\/a=1\/a=2->abA af0 a 0=uM:=fun a h=>by rcases h with rfl|rfl|rfl <;> rfl
 have u:∀ a,mulV mf1 uM (abA af0 a n)=abA af0 a n:=fun a=>(Ih (tF (a:=a) (n:=n)) (by decide) (by decide)).2
 have v:∀ a,mulV mf1 (abA af0 a n) uM=abA af0 a n:=fun a=>vO (tF (a:=a) (n:=n)) (by decide) (by decide)
 unfold JR AQ
 rw [e 0 (by omega),e 1 (by omega),e 2 (by omega)]
 refine ⟨?_,?_,?_⟩
 .rw [u,u]
 .rw [v,u]
 .rw [vO LD (by decide) (by decide),v]
end Go.Vc
namespace Go.Eng
open Go
theorem Sz {f:Int->Value} {m:Nat}:∀ (rs:List (List Int)) (cs:List Value),cs.length=rs.length*m->(∀ i x,rs[i]?=some x->(cs.drop (i*m)).take m=x.map f)->cs=rs.flatten.map f
 | [],cs,hl,_=>by
  simp at hl
  rw [hl]; rfl
 | r :: rs,cs,hl,h=>by
  have h0:=h 0 r rfl
  simp only [Nat.zero_mul,List.drop_zero] at h0
  have ih:=Sz (f:=f) (m:=m) rs (cs.drop m) (by simp only [List.length_drop,hl,List.length_cons,Nat.add_mul]; omega) (fun i x hx=>by
   have:=h (i+1) x hx
   rw [Nat.add_mul,Nat.one_mul] at this
   rw [List.drop_drop,Nat.add_comm]; exact this)
  rw [List.flatten_cons,List.map_append,<- h0,<- ih,List.take_append_drop]
theorem vQ {P:Program} {w:World} {t e n m:Nat} {k:IntKind} (rs:List (DataW Unit×List Int)) (ht:P.underlying t=some (.array n e)) (ce:P.cellsOf e=m) (cn:P.cellsOf t=n*m) (hn:rs.length=n)
  (hr:∀ x∈rs,∀ fuel cs p,DataW.trod (fun _=>()) P w 0 (fun _=>true) false fuel e cs=some (x.1,p)->cs=x.2.map (Value.int k)) {fuel:Nat} {cs:List Value} {p:List MemPlace}
  (h:DataW.trod (fun _=>()) P w 0 (fun _=>true) false fuel t cs=some (.agg (rs.map (·.1)),p)):cs=(rs.map (·.2)).flatten.map (Value.int k):=by
 obtain ⟨xs,_,_,hx,hl,hxl,hf⟩:=DataW.trod_array ht h
 obtain ⟨hx1,_⟩:=Prod.mk.inj hx
 injection hx1 with hx1
 rw [cn] at hl
 refine Sz (m:=m) _ _ (by rw [hl,List.length_map,hn]) fun i x hx=>?_
 rw [List.getElem?_map] at hx
 cases hz:rs[i]? with
 | none=>rw [hz] at hx; cases hx
 | some y=>
  rw [hz] at hx
  cases hx
  have hi:i<n:=by rw [<- hn]; exact (List.getElem?_eq_some_iff.1 hz).1
  have h1:=hf i hi
  rw [ce,List.getElem?_eq_getElem (by omega)] at h1
  have h3:=congrArg (fun l=>l[i]?) hx1
  simp only [List.getElem?_map,List.getElem?_eq_getElem (show i<xs.length by omega),hz,Option.map_some,Option.some.injEq] at h3
  refine hr y (List.mem_of_getElem? hz) _ _ xs[i].2 (h1.trans ?_)
  exact congrArg some (Prod.ext h3.symm rfl)
end Go.Eng
namespace Go.Proofs.YtbhibbcjfgnmhaaGreatDoor
open Go Go.Eng
theorem all_names:(Tryz.prog.funcs.toList.all fun fn=>!(fn.name=="runtime.NumGoroutine"))=true:=by kernel_rfl
theorem prog_ok:ProgOk Tryz.prog:=by
 refine ⟨fun f fn h _=>?_,by kernel_rfl⟩
 have h1:fn∈Tryz.prog.funcs.toList:=by
  rw [Array.mem_toList_iff]
  exact Array.mem_of_getElem? h
 have:=List.all_eq_true.1 all_names fn h1
 simpa using this
def ext (_:FuncId) (_:List AV):Option (Nd×AV):=none
theorem ext_ok:BP Tryz.prog ext:=fun _ _ _ _ e=>by cases e
def gl:List (Nat×IntKind×List Int):=[(1,.u64,[1,10,100,1000,10000,100000,1000000,10000000,100000000,1000000000,10000000000,100000000000,1000000000000]),(0,.i64,[4294967296,4294967296,0,0,0,0,0,0,4294967296,4294967296,0,0,0,0,0,0,4294967296,4294967296])]
def glob (g:Nat):Option Nat:=
 match Nat.beq g 0 with
 | true=>some 0
 | false=>match Nat.beq g 1 with
  | true=>some 1
  | false=>none
def hG:Hp:=⟨[⟨0,.cells [.int false .u64 1,.int false .u64 10,.int false .u64 100,.int false .u64 1000,.int false .u64 10000,.int false .u64 100000,.int false .u64 1000000,.int false .u64 10000000,.int false .u64 100000000,.int false .u64 1000000000,.int false .u64 10000000000,.int false .u64 100000000000,.int false .u64 1000000000000]⟩,⟨0,.cells [.int false .i64 4294967296,.int false .i64 4294967296,.int false .i64 0,.int false .i64 0,.int false .i64 0,.int false .i64 0,.int false .i64 0,.int false .i64 0,.int false .i64 4294967296,.int false .i64 4294967296,.int false .i64 0,.int false .i64 0,.int false .i64 0,.int false .i64 0,.int false .i64 0,.int false .i64 0,.int false .i64 4294967296,.int false .i64 4294967296]⟩],2,1⟩
theorem abZ:hG=⟨lL gl,gl.length,1⟩:=rfl
theorem ER:∀ g i,glob g=some i->i<hG.size:=by
 intro g i h
 unfold glob at h
 repeat' (split at h; · cases h; decide)
 cases h
def AU:List (String×DataW Unit):=[("monocle/fix.powers",Rows.laid_monocle_fix_powers),("monocle/surface.places",Rows.laid_monocle_surface_places),("monocle/frame.identity",Rows.laid_monocle_frame_identity)]
theorem Wd {W:World} (h:laidMetH Tryz.prog AU W):∃ σ:Sg,(∀ gl i,glob gl=some i->∃ N,σ i=some (gl,N))/\HRel σ hG W:=by
 have hl:(AU.all fun x=>x.2.handleName?.isNone)=true:=by kernel_rfl
 obtain ⟨cs0,e0,n0,p0,h0,d0⟩:=zU h hl (n:="monocle/frame.identity") (.tail _ (.tail _ (.head _))) (g:=0) (t:=49) (by kernel_rfl) (by kernel_rfl) (of_decide_eq_true (by kernel_rfl)) (uX Tryz.underlying49)
 have q0:=vQ (k:=.i64) [(.agg [.agg [.lit (.int .i64 4294967296),.lit (.int .i64 4294967296)],.agg [.lit (.int .i64 0),.lit (.int .i64 0)],.agg [.lit (.int .i64 0),.lit (.int .i64 0)]],[4294967296,4294967296,0,0,0,0]),(.agg [.agg [.lit (.int .i64 0),.lit (.int .i64 0)],.agg [.lit (.int .i64 4294967296),.lit (.int .i64 4294967296)],.agg [.lit (.int .i64 0),.lit (.int .i64 0)]],[0,0,4294967296,4294967296,0,0]),(.agg [.agg [.lit (.int .i64 0),.lit (.int .i64 0)],.agg [.lit (.int .i64 0),.lit (.int .i64 0)],.agg [.lit (.int .i64 4294967296),.lit (.int .i64 4294967296)]],[0,0,0,0,4294967296,4294967296])] Tryz.underlying49 (m:=6) (by kernel_rfl) (by kernel_rfl) rfl (fun x hx=>by
   simp only [List.mem_cons,List.not_mem_nil,or_false] at hx
   rcases hx with rfl|rfl|rfl
   .exact fun _ _ _ z=>vQ (k:=.i64) [(.agg [.lit (.int .i64 4294967296),.lit (.int .i64 4294967296)],[4294967296,4294967296]),(.agg [.lit (.int .i64 0),.lit (.int .i64 0)],[0,0]),(.agg [.lit (.int .i64 0),.lit (.int .i64 0)],[0,0])] Tryz.underlying46 (m:=2) (by kernel_rfl) (by kernel_rfl) rfl (fun x hx=>by
      simp only [List.mem_cons,List.not_mem_nil,or_false] at hx
      rcases hx with rfl|rfl|rfl
      .exact fun _ _ _ z=>iM (k:=.i64) Tryz.underlying45 rfl rfl rfl rfl Tryz.underlying3 (by kernel_rfl) (by kernel_rfl) z
      .exact fun _ _ _ z=>iM (k:=.i64) Tryz.underlying45 rfl rfl rfl rfl Tryz.underlying3 (by kernel_rfl) (by kernel_rfl) z
      .exact fun _ _ _ z=>iM (k:=.i64) Tryz.underlying45 rfl rfl rfl rfl Tryz.underlying3 (by kernel_rfl) (by kernel_rfl) z
      ) z
   .exact fun _ _ _ z=>vQ (k:=.i64) [(.agg [.lit (.int .i64 0),.lit (.int .i64 0)],[0,0]),(.agg [.lit (.int .i64 4294967296),.lit (.int .i64 4294967296)],[4294967296,4294967296]),(.agg [.lit (.int .i64 0),.lit (.int .i64 0)],[0,0])] Tryz.underlying46 (m:=2) (by kernel_rfl) (by kernel_rfl) rfl (fun x hx=>by
      simp only [List.mem_cons,List.not_mem_nil,or_false] at hx
      rcases hx with rfl|rfl|rfl
      .exact fun _ _ _ z=>iM (k:=.i64) Tryz.underlying45 rfl rfl rfl rfl Tryz.underlying3 (by kernel_rfl) (by kernel_rfl) z
      .exact fun _ _ _ z=>iM (k:=.i64) Tryz.underlying45 rfl rfl rfl rfl Tryz.underlying3 (by kernel_rfl) (by kernel_rfl) z
      .exact fun _ _ _ z=>iM (k:=.i64) Tryz.underlying45 rfl rfl rfl rfl Tryz.underlying3 (by kernel_rfl) (by kernel_rfl) z
      ) z
   .exact fun _ _ _ z=>vQ (k:=.i64) [(.agg [.lit (.int .i64 0),.lit (.int .i64 0)],[0,0]),(.agg [.lit (.int .i64 0),.lit (.int .i64 0)],[0,0]),(.agg [.lit (.int .i64 4294967296),.lit (.int .i64 4294967296)],[4294967296,4294967296])] Tryz.underlying46 (m:=2) (by kernel_rfl) (by kernel_rfl) rfl (fun x hx=>by
      simp only [List.mem_cons,List.not_mem_nil,or_false] at hx
      rcases hx with rfl|rfl|rfl
      .exact fun _ _ _ z=>iM (k:=.i64) Tryz.underlying45 rfl rfl rfl rfl Tryz.underlying3 (by kernel_rfl) (by kernel_rfl) z
      .exact fun _ _ _ z=>iM (k:=.i64) Tryz.underlying45 rfl rfl rfl rfl Tryz.underlying3 (by kernel_rfl) (by kernel_rfl) z
      .exact fun _ _ _ z=>iM (k:=.i64) Tryz.underlying45 rfl rfl rfl rfl Tryz.underlying3 (by kernel_rfl) (by kernel_rfl) z
      ) z
   ) d0
 obtain ⟨cs1,e1,n1,p1,h1,d1⟩:=zU h hl (n:="monocle/fix.powers") (.head _) (g:=1) (t:=157) (by kernel_rfl) (by kernel_rfl) (of_decide_eq_true (by kernel_rfl)) (uX Tryz.underlying157)
 have q1:=OW (k:=.u64) (ns:=[1,10,100,1000,10000,100000,1000000,10000000,100000000,1000000000,10000000000,100000000000,1000000000000]) Tryz.underlying157 Tryz.underlying146 (by kernel_rfl) (by kernel_rfl) rfl d1
 refine ⟨Gm gl,fun g i hg=>?_,abZ ▸ TD (by decide) fun x hx=>?_⟩
 .unfold glob at hg
  split at hg
  .rename_i hb; cases hg; rw [Nat.eq_of_beq_eq_true hb]; exact ⟨_,rfl⟩
  .split at hg
   .rename_i hb; cases hg; rw [Nat.eq_of_beq_eq_true hb]; exact ⟨_,rfl⟩
   .cases hg
 .simp only [gl,List.mem_cons,List.not_mem_nil,or_false] at hx
  rcases hx with rfl|rfl
  .exact ⟨cs1,e1,h1,q1⟩
  .exact ⟨cs0,e0,h0,q0⟩
end Go.Proofs.YtbhibbcjfgnmhaaGreatDoor
namespace Go.Proofs.YtbhibbcjfgnmhaaGreatDoor.K
open Go Go.Eng Go.Dg Go.Ar Go.Vc Go.Sn
noncomputable section
theorem AX:dW hG.size hG.blks=true:=by kernel_rfl
theorem SA:hG.ok:=rfl
def z64:Sh:=.c (.int false .i64 0)
def e64:Sh:=.c (.str false ⟨#[]⟩)
def stT:Sh:=.a [.c (.int false .i64 1),z64,z64,z64,z64,z64,z64,z64,z64,z64,z64,z64,.i .i64,e64,z64,z64,z64,z64,z64,z64,z64,.c .nilslice]
def brT:Sh:=.a [.c (.int false .i64 3),z64,z64,z64,z64,z64,z64,z64,z64,z64,z64,z64,.i .i64,e64,z64,z64,.i .i64,.i .i64,.i .i64,.i .i64,.i .i64,.c .nilslice]
def cSf:Ctx:=mkG Tryz.prog glob hG [] ext
theorem SB:CtxOk cSf:=Xq prog_ok ext_ok (fun _ h=>by cases h)
def r9 (c:Int):Bool:=bif decide (c < -1000000000) then true else decide (c>1000000000)
def r90 (c:Int):Bool:=bif decide (c < -90000000) then true else decide (c>90000000)
def Ii (t:Int):Int:=bif !bif t==t&&true then true else false then 110 else bif !bif !decide ((bif r9 t then 2 else -1:Int)>=0) then true else false then 110 else 0
def Ij (t x y a b c:Int):Int:=bif !bif t==t&&(x==x&&(y==y&&(a==a&&(b==b&&(c==c&&true))))) then true else false then 110 else
 bif !bif !decide ((bif r9 t||(!r9 t)&&(r9 x||(!r9 x)&&r9 y) then bif r9 t then 2 else bif r9 x then 3 else 4 else -1:Int)>=0) then true else false then 110 else
 bif !!decide ((bif r90 a||(!r90 a)&&(r90 b||(!r90 b)&&r90 c) then bif r90 a then 0 else bif r90 b then 1 else 2 else -1:Int)>=0) then 110 else 0
theorem SC (t:Int):uW hG.size hG.clock ((run cSf 1000).call 74 (Sh.mkL [stT] [.n t]).1 hG)=some (.p (t=t/\t=t),.int true .i64 (Ii t)):=by kernel_rfl
theorem SE (t x y a b c:Int):uW hG.size hG.clock ((run cSf 1000).call 74 (Sh.mkL [brT] [.n t,.n x,.n y,.n a,.n b,.n c]).1 hG)=some (.p (((c=c/\b=b/\a=a/\y=y)/\(c=c/\b=b/\a=a)/\(c=c/\b=b)/\c=c)/\(t=t/\x=x/\y=y/\a=a/\b=b/\c=c)/\t=t/\x=x/\y=y/\a=a/\b=b/\c=c),.int true .i64 (Ij t x y a b c)):=by kernel_rfl
theorem We {t:Int} (h:r9 t=false):Ii t=0:=by
 unfold Ii; rw [h,beq_self_eq_true]; rfl
def brG (t x y a b c:Int):Bool:=r9 t||(r9 x||(r9 y||(r90 a||(r90 b||r90 c))))
theorem Wh {t x y a b c:Int} (h:brG t x y a b c=false):Ij t x y a b c=0:=by
 unfold brG at h
 simp only [Bool.or_eq_false_iff] at h
 obtain ⟨h1,h2,h3,h4,h5,h6⟩:=h
 unfold Ij; rw [h1,h2,h3,h4,h5,h6,beq_self_eq_true,beq_self_eq_true,beq_self_eq_true,beq_self_eq_true,beq_self_eq_true,beq_self_eq_true]; rfl
def ab0:aF:=aJ [stT] none fun
 | [.n t]=>.n .i64 (Ii t)
 | _=>.u []
def ab1:aF:=aJ [brT] none fun
 | [.n t,.n x,.n y,.n a,.n b,.n c]=>.n .i64 (Ij t x y a b c)
 | _=>.u []
theorem Wj:GOk Tryz.prog glob hG 74 ab0:=by
 refine KC SA AX ER (fun xs hk _=>?_) ⟨_,Tryz.func74,rfl⟩
 obtain ⟨c,_,rfl,h1⟩:=kn hk; obtain rfl:=k0 h1
 exact ⟨cSf,1000,_,SB,rfl,rfl,rfl,SC c,rfl,rfl⟩
theorem Wl:GOk Tryz.prog glob hG 74 ab1:=by
 refine KC SA AX ER (fun xs hk _=>?_) ⟨_,Tryz.func74,rfl⟩
 obtain ⟨t,_,rfl,h1⟩:=kn hk; obtain ⟨x,_,rfl,h2⟩:=kn h1; obtain ⟨y,_,rfl,h3⟩:=kn h2; obtain ⟨a,_,rfl,h4⟩:=kn h3; obtain ⟨b,_,rfl,h5⟩:=kn h4; obtain ⟨c,_,rfl,h6⟩:=kn h5; obtain rfl:=k0 h6
 exact ⟨cSf,1000,_,SB,rfl,rfl,rfl,SE t x y a b c,⟨⟨rfl,rfl,rfl,rfl⟩,⟨rfl,rfl,rfl⟩,⟨rfl,rfl⟩,rfl⟩,⟨rfl,rfl,rfl,rfl,rfl,rfl⟩,rfl,rfl,rfl,rfl,rfl,rfl⟩
def ZZ (s b:Bool) (v:AV):Option (Nd×AV):=match s with
 | true=>some (.p (b=false),v)
 | false=>match b with
  | false=>some (.tt,v)
  | true=>none
theorem CJ {s b:Bool} {v v':AV} {nd:Nd} (h:ZZ s b v=some (nd,v')):v'=v/\(nd.val->b=false):=by
 cases s <;> cases b <;> cases h <;> first|exact ⟨rfl,fun h=>h⟩|exact ⟨rfl,fun _=>rfl⟩
def Z0:aF:=fun args=>match Sh.readL [stT] args with
 | some (s,[.n t])=>ZZ s (r9 t) (.int false .i64 0)
 | _=>none
def Z4:aF:=fun args=>match Sh.readL [brT] args with
 | some (s,[.n t,.n x,.n y,.n a,.n b,.n c])=>ZZ s (brG t x y a b c) (.int false .i64 0)
 | _=>none
theorem Wm:GOk Tryz.prog glob hG 74 Z0:=by
 refine Wj.weaken fun args nd v h=>?_
 unfold Z0 at h
 split at h
 .rename_i s t hr
  obtain ⟨rfl,hn⟩:=CJ h
  refine ⟨.tt,bK s .i64 (Ii t),?_,fun hv=>⟨trivial,fun σ W hW=>?_⟩⟩
  .unfold ab0 aJ
   rw [hr]; rfl
  .have:=(Go.Eng.mkInt_rel _ _ _ _).1 hW
   rw [We (hn hv)] at this
   exact this
 .cases h
theorem Wn:GOk Tryz.prog glob hG 74 Z4:=by
 refine Wl.weaken fun args nd v h=>?_
 unfold Z4 at h
 split at h
 .rename_i s t x y a b c hr
  obtain ⟨rfl,hn⟩:=CJ h
  refine ⟨.tt,bK s .i64 (Ij t x y a b c),?_,fun hv=>⟨trivial,fun σ W hW=>?_⟩⟩
  .unfold ab1 aJ
   rw [hr]; rfl
  .have:=(Go.Eng.mkInt_rel _ _ _ _).1 hW
   rw [Wh (hn hv)] at this
   exact this
 .cases h
end
end Go.Proofs.YtbhibbcjfgnmhaaGreatDoor.K
