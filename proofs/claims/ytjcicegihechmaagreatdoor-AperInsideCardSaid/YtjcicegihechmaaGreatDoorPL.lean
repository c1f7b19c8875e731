/- What is proved: AperInside returns true, whatever the input (part 12). No conditions beyond those of the row. -/
import Derived.Test.YtjcicegihechmaaGreatDoorPF
import Derived.Test.YtjcicegihechmaaGreatDoorPG
import Derived.Test.YtjcicegihechmaaGreatDoorPI
import Derived.Test.YtjcicegihechmaaGreatDoorPJ
import Derived.Test.YtjcicegihechmaaGreatDoorPK
import Derived.KernelRfl
import Derived.Test.YtjcicegihechmaaGreatDoorProg
import Derived.Test.YtjcicegihechmaaGreatDoorRows
import Derived.Laws.Externs
set_option linter.unusedVariables false
set_option linter.unusedSimpArgs false
set_option linter.unusedSectionVars false
namespace Go.Rd
open Go Go.Eng Go.Ar
section
variable {c k l m a b x y:Int} (hc:inL c) (hk:inK k) (hl:inL l) (hm:inK m) (hx:okSp a b=true) (hy:okSp x y=true)
include hc hk hl hm hx hy in theorem BK0 :okE (b0 c k l m a b x y):=e_sqr (Ri.of (s:=⟨a,b,0⟩) hx)
include hc hk hl hm hx hy in theorem BR0 (e0:z0 (b0 c k l m a b x y)=true):Ri (b0 c k l m a b x y):=r_sqr (Ri.of (s:=⟨a,b,0⟩) hx) (z0e e0)
include hc hk hl hm hx hy in theorem BK1 (e0:z0 (b0 c k l m a b x y)=true):okE (b1 c k l m a b x y):=e_sc (BR0 hc hk hl hm hx hy e0) (sc_c hl) (ok_c hl)
include hc hk hl hm hx hy in theorem BR1 (e0:z0 (b0 c k l m a b x y)=true) (e1:z0 (b1 c k l m a b x y)=true):Ri (b1 c k l m a b x y):=r_sc (BR0 hc hk hl hm hx hy e0) (sc_c hl) (z0e e1)
include hc hk hl hm hx hy in theorem BK2 :okE (b2 c k l m a b x y):=e_sqr (Ri.of (s:=⟨x,y,0⟩) hy)
include hc hk hl hm hx hy in theorem BR2 (e2:z0 (b2 c k l m a b x y)=true):Ri (b2 c k l m a b x y):=r_sqr (Ri.of (s:=⟨x,y,0⟩) hy) (z0e e2)
include hc hk hl hm hx hy in theorem BK3 (e2:z0 (b2 c k l m a b x y)=true):okE (b3 c k l m a b x y):=e_sc (BR2 hc hk hl hm hx hy e2) (sc_c hc) (ok_c hc)
include hc hk hl hm hx hy in theorem BR3 (e2:z0 (b2 c k l m a b x y)=true) (e3:z0 (b3 c k l m a b x y)=true):Ri (b3 c k l m a b x y):=r_sc (BR2 hc hk hl hm hx hy e2) (sc_c hc) (z0e e3)
include hc hk hl hm hx hy in theorem BK4 (e0:z0 (b0 c k l m a b x y)=true) (e1:z0 (b1 c k l m a b x y)=true):okE (b4 c k l m a b x y):=e_sc (BR1 hc hk hl hm hx hy e0 e1) (sc_c hl) (ok_c hl)
include hc hk hl hm hx hy in theorem BR4 (e0:z0 (b0 c k l m a b x y)=true) (e1:z0 (b1 c k l m a b x y)=true) (e4:z0 (b4 c k l m a b x y)=true):Ri (b4 c k l m a b x y):=r_sc (BR1 hc hk hl hm hx hy e0 e1) (sc_c hl) (z0e e4)
include hc hk hl hm hx hy in theorem BK5 (e2:z0 (b2 c k l m a b x y)=true) (e3:z0 (b3 c k l m a b x y)=true):okE (b5 c k l m a b x y):=e_sc (BR3 hc hk hl hm hx hy e2 e3) (sc_c hc) (ok_c hc)
include hc hk hl hm hx hy in theorem BR5 (e2:z0 (b2 c k l m a b x y)=true) (e3:z0 (b3 c k l m a b x y)=true) (e5:z0 (b5 c k l m a b x y)=true):Ri (b5 c k l m a b x y):=r_sc (BR3 hc hk hl hm hx hy e2 e3) (sc_c hc) (z0e e5)
include hc hk hl hm hx hy in theorem BK6 (e0:z0 (b0 c k l m a b x y)=true) (e1:z0 (b1 c k l m a b x y)=true) (e4:z0 (b4 c k l m a b x y)=true):okE (b6 c k l m a b x y):=e_sc (BR4 hc hk hl hm hx hy e0 e1 e4) (sc_k hm) (ok_k hm)
include hc hk hl hm hx hy in theorem BR6 (e0:z0 (b0 c k l m a b x y)=true) (e1:z0 (b1 c k l m a b x y)=true) (e4:z0 (b4 c k l m a b x y)=true) (e6:z0 (b6 c k l m a b x y)=true):Ri (b6 c k l m a b x y):=r_sc (BR4 hc hk hl hm hx hy e0 e1 e4) (sc_k hm) (z0e e6)
include hc hk hl hm hx hy in theorem BK7 (e2:z0 (b2 c k l m a b x y)=true) (e3:z0 (b3 c k l m a b x y)=true) (e5:z0 (b5 c k l m a b x y)=true):okE (b7 c k l m a b x y):=e_sc (BR5 hc hk hl hm hx hy e2 e3 e5) (sc_k hk) (ok_k hk)
include hc hk hl hm hx hy in theorem BR7 (e2:z0 (b2 c k l m a b x y)=true) (e3:z0 (b3 c k l m a b x y)=true) (e5:z0 (b5 c k l m a b x y)=true) (e7:z0 (b7 c k l m a b x y)=true):Ri (b7 c k l m a b x y):=r_sc (BR5 hc hk hl hm hx hy e2 e3 e5) (sc_k hk) (z0e e7)
include hc hk hl hm hx hy in theorem BK8 (e0:z0 (b0 c k l m a b x y)=true) (e1:z0 (b1 c k l m a b x y)=true) (e2:z0 (b2 c k l m a b x y)=true) (e3:z0 (b3 c k l m a b x y)=true) (e4:z0 (b4 c k l m a b x y)=true) (e5:z0 (b5 c k l m a b x y)=true) (e6:z0 (b6 c k l m a b x y)=true) (e7:z0 (b7 c k l m a b x y)=true):okE (b8 c k l m a b x y):=e_add (BR6 hc hk hl hm hx hy e0 e1 e4 e6) (BR7 hc hk hl hm hx hy e2 e3 e5 e7)
include hc hk hl hm hx hy in theorem BR8 (e0:z0 (b0 c k l m a b x y)=true) (e1:z0 (b1 c k l m a b x y)=true) (e2:z0 (b2 c k l m a b x y)=true) (e3:z0 (b3 c k l m a b x y)=true) (e4:z0 (b4 c k l m a b x y)=true) (e5:z0 (b5 c k l m a b x y)=true) (e6:z0 (b6 c k l m a b x y)=true) (e7:z0 (b7 c k l m a b x y)=true) (e8:z0 (b8 c k l m a b x y)=true):Ri (b8 c k l m a b x y):=r_add (BR6 hc hk hl hm hx hy e0 e1 e4 e6) (BR7 hc hk hl hm hx hy e2 e3 e5 e7) (z0e e8)
include hc hk hl hm hx hy in theorem BK9 (e0:z0 (b0 c k l m a b x y)=true) (e1:z0 (b1 c k l m a b x y)=true) (e2:z0 (b2 c k l m a b x y)=true) (e3:z0 (b3 c k l m a b x y)=true) (e4:z0 (b4 c k l m a b x y)=true) (e5:z0 (b5 c k l m a b x y)=true) (e6:z0 (b6 c k l m a b x y)=true) (e7:z0 (b7 c k l m a b x y)=true) (e8:z0 (b8 c k l m a b x y)=true):okE (b9 c k l m a b x y):=e_sub one_ri (BR8 hc hk hl hm hx hy e0 e1 e2 e3 e4 e5 e6 e7 e8)
include hc hk hl hm hx hy in theorem BR9 (e0:z0 (b0 c k l m a b x y)=true) (e1:z0 (b1 c k l m a b x y)=true) (e2:z0 (b2 c k l m a b x y)=true) (e3:z0 (b3 c k l m a b x y)=true) (e4:z0 (b4 c k l m a b x y)=true) (e5:z0 (b5 c k l m a b x y)=true) (e6:z0 (b6 c k l m a b x y)=true) (e7:z0 (b7 c k l m a b x y)=true) (e8:z0 (b8 c k l m a b x y)=true) (e9:z0 (b9 c k l m a b x y)=true):Ri (b9 c k l m a b x y):=r_sub one_ri (BR8 hc hk hl hm hx hy e0 e1 e2 e3 e4 e5 e6 e7 e8) (z0e e9)
include hc hk hl hm hx hy in theorem BK10 (e0:z0 (b0 c k l m a b x y)=true) (e1:z0 (b1 c k l m a b x y)=true) (e2:z0 (b2 c k l m a b x y)=true) (e3:z0 (b3 c k l m a b x y)=true) (e4:z0 (b4 c k l m a b x y)=true) (e5:z0 (b5 c k l m a b x y)=true) (e6:z0 (b6 c k l m a b x y)=true) (e7:z0 (b7 c k l m a b x y)=true) (e8:z0 (b8 c k l m a b x y)=true) (e9:z0 (b9 c k l m a b x y)=true) (p:0<(b9 c k l m a b x y).lo):okE (b10 c k l m a b x y):=e_rt (BR9 hc hk hl hm hx hy e0 e1 e2 e3 e4 e5 e6 e7 e8 e9) p
include hc hk hl hm hx hy in theorem BR10 (e0:z0 (b0 c k l m a b x y)=true) (e1:z0 (b1 c k l m a b x y)=true) (e2:z0 (b2 c k l m a b x y)=true) (e3:z0 (b3 c k l m a b x y)=true) (e4:z0 (b4 c k l m a b x y)=true) (e5:z0 (b5 c k l m a b x y)=true) (e6:z0 (b6 c k l m a b x y)=true) (e7:z0 (b7 c k l m a b x y)=true) (e8:z0 (b8 c k l m a b x y)=true) (e9:z0 (b9 c k l m a b x y)=true) (e10:z0 (b10 c k l m a b x y)=true):Ri (b10 c k l m a b x y):=r_rt (BR9 hc hk hl hm hx hy e0 e1 e2 e3 e4 e5 e6 e7 e8 e9) (z0e e10)
include hc hk hl hm hx hy in theorem BK11 (e0:z0 (b0 c k l m a b x y)=true) (e1:z0 (b1 c k l m a b x y)=true) (e2:z0 (b2 c k l m a b x y)=true) (e3:z0 (b3 c k l m a b x y)=true):okE (b11 c k l m a b x y):=e_add (BR1 hc hk hl hm hx hy e0 e1) (BR3 hc hk hl hm hx hy e2 e3)
include hc hk hl hm hx hy in theorem BR11 (e0:z0 (b0 c k l m a b x y)=true) (e1:z0 (b1 c k l m a b x y)=true) (e2:z0 (b2 c k l m a b x y)=true) (e3:z0 (b3 c k l m a b x y)=true) (e11:z0 (b11 c k l m a b x y)=true):Ri (b11 c k l m a b x y):=r_add (BR1 hc hk hl hm hx hy e0 e1) (BR3 hc hk hl hm hx hy e2 e3) (z0e e11)
include hc hk hl hm hx hy in theorem BK12 (e0:z0 (b0 c k l m a b x y)=true) (e1:z0 (b1 c k l m a b x y)=true) (e2:z0 (b2 c k l m a b x y)=true) (e3:z0 (b3 c k l m a b x y)=true) (e4:z0 (b4 c k l m a b x y)=true) (e5:z0 (b5 c k l m a b x y)=true) (e6:z0 (b6 c k l m a b x y)=true) (e7:z0 (b7 c k l m a b x y)=true) (e8:z0 (b8 c k l m a b x y)=true) (e9:z0 (b9 c k l m a b x y)=true) (e10:z0 (b10 c k l m a b x y)=true):okE (b12 c k l m a b x y):=e_add one_ri (BR10 hc hk hl hm hx hy e0 e1 e2 e3 e4 e5 e6 e7 e8 e9 e10)
include hc hk hl hm hx hy in theorem BR12 (e0:z0 (b0 c k l m a b x y)=true) (e1:z0 (b1 c k l m a b x y)=true) (e2:z0 (b2 c k l m a b x y)=true) (e3:z0 (b3 c k l m a b x y)=true) (e4:z0 (b4 c k l m a b x y)=true) (e5:z0 (b5 c k l m a b x y)=true) (e6:z0 (b6 c k l m a b x y)=true) (e7:z0 (b7 c k l m a b x y)=true) (e8:z0 (b8 c k l m a b x y)=true) (e9:z0 (b9 c k l m a b x y)=true) (e10:z0 (b10 c k l m a b x y)=true) (e12:z0 (b12 c k l m a b x y)=true):Ri (b12 c k l m a b x y):=r_add one_ri (BR10 hc hk hl hm hx hy e0 e1 e2 e3 e4 e5 e6 e7 e8 e9 e10) (z0e e12)
include hc hk hl hm hx hy in theorem BK13 (e0:z0 (b0 c k l m a b x y)=true) (e1:z0 (b1 c k l m a b x y)=true) (e2:z0 (b2 c k l m a b x y)=true) (e3:z0 (b3 c k l m a b x y)=true) (e4:z0 (b4 c k l m a b x y)=true) (e5:z0 (b5 c k l m a b x y)=true) (e6:z0 (b6 c k l m a b x y)=true) (e7:z0 (b7 c k l m a b x y)=true) (e8:z0 (b8 c k l m a b x y)=true) (e9:z0 (b9 c k l m a b x y)=true) (e10:z0 (b10 c k l m a b x y)=true) (e11:z0 (b11 c k l m a b x y)=true) (e12:z0 (b12 c k l m a b x y)=true) (p:0<(b12 c k l m a b x y).lo):okE (b13 c k l m a b x y):=e_div (BR11 hc hk hl hm hx hy e0 e1 e2 e3 e11) (BR12 hc hk hl hm hx hy e0 e1 e2 e3 e4 e5 e6 e7 e8 e9 e10 e12) p
include hc hk hl hm hx hy in theorem BR13 (e0:z0 (b0 c k l m a b x y)=true) (e1:z0 (b1 c k l m a b x y)=true) (e2:z0 (b2 c k l m a b x y)=true) (e3:z0 (b3 c k l m a b x y)=true) (e4:z0 (b4 c k l m a b x y)=true) (e5:z0 (b5 c k l m a b x y)=true) (e6:z0 (b6 c k l m a b x y)=true) (e7:z0 (b7 c k l m a b x y)=true) (e8:z0 (b8 c k l m a b x y)=true) (e9:z0 (b9 c k l m a b x y)=true) (e10:z0 (b10 c k l m a b x y)=true) (e11:z0 (b11 c k l m a b x y)=true) (e12:z0 (b12 c k l m a b x y)=true) (e13:z0 (b13 c k l m a b x y)=true):Ri (b13 c k l m a b x y):=r_div (BR11 hc hk hl hm hx hy e0 e1 e2 e3 e11) (BR12 hc hk hl hm hx hy e0 e1 e2 e3 e4 e5 e6 e7 e8 e9 e10 e12) (z0e e13)
include hc hk hl hm hx hy in theorem BP12 (e0:z0 (b0 c k l m a b x y)=true) (e1:z0 (b1 c k l m a b x y)=true) (e2:z0 (b2 c k l m a b x y)=true) (e3:z0 (b3 c k l m a b x y)=true) (e4:z0 (b4 c k l m a b x y)=true) (e5:z0 (b5 c k l m a b x y)=true) (e6:z0 (b6 c k l m a b x y)=true) (e7:z0 (b7 c k l m a b x y)=true) (e8:z0 (b8 c k l m a b x y)=true) (e9:z0 (b9 c k l m a b x y)=true) (e10:z0 (b10 c k l m a b x y)=true) (e12:z0 (b12 c k l m a b x y)=true) (p:0<(b9 c k l m a b x y).lo):0<(b12 c k l m a b x y).lo:=add_pos one_ri (BR10 hc hk hl hm hx hy e0 e1 e2 e3 e4 e5 e6 e7 e8 e9 e10) (z0e e12) (by decide) (by have:=rt_pos (BR9 hc hk hl hm hx hy e0 e1 e2 e3 e4 e5 e6 e7 e8 e9) p; exact Int.le_of_lt this)
end
end Go.Rd
namespace Go.Rd
open Go Go.Eng Go.Ar
structure BaseF (c k a b x y:Int):Prop where
 h:H6 c k a b x y
 p:0<(s6 c k a b x y).lo
 h7:z0 (s7 c k a b x y)=true
 h8:z0 (s8 c k a b x y)=true
 h9:z0 (s9 c k a b x y)=true
 h10:z0 (s10 c k a b x y)=true
section
variable {c k a0 a1 a2 a3 a b x y:Int} (hc:inL c) (hk:inK k) (hx:okSp a b=true) (hy:okSp x y=true) (f:BaseF c k a b x y)
include hc hk hx hy f
variable (i0:inL a0) (i1:inL a1) (i2:inL a2) (i3:inL a3) (u:z0 (u0 c k a b x y)=true)
include u
include i0 i1 i2 i3
end
end Go.Rd
namespace Go.Rd
open Go Go.Eng Go.Ar
structure BaseX (c k l m a b x y:Int):Prop where
 e0:z0 (b0 c k l m a b x y)=true
 e1:z0 (b1 c k l m a b x y)=true
 e2:z0 (b2 c k l m a b x y)=true
 e3:z0 (b3 c k l m a b x y)=true
 e4:z0 (b4 c k l m a b x y)=true
 e5:z0 (b5 c k l m a b x y)=true
 e6:z0 (b6 c k l m a b x y)=true
 e7:z0 (b7 c k l m a b x y)=true
 e8:z0 (b8 c k l m a b x y)=true
 e9:z0 (b9 c k l m a b x y)=true
 p:0<(b9 c k l m a b x y).lo
 e10:z0 (b10 c k l m a b x y)=true
 e11:z0 (b11 c k l m a b x y)=true
 e12:z0 (b12 c k l m a b x y)=true
 e13:z0 (b13 c k l m a b x y)=true
section
variable {c k l m a b x y:Int} (hc:inL c) (hk:inK k) (hl:inL l) (hm:inK m) (hx:okSp a b=true) (hy:okSp x y=true) (f:BaseX c k l m a b x y)
include hc hk hl hm hx hy f
end
end Go.Rd
namespace Go.Rd
open Go Go.Eng Go.Ar
end Go.Rd
namespace Go.Rd
open Go Go.Eng Go.Ar
structure Dr (z0 z1 z2 z3 z4 z5 z6 z7 z8 z9 z10 z11 z12 z13 z14 z15 z16 z17 z18 z19 z20:Int):Prop where
 r0:0<=z0/\z0<=255
 r1:-32768<=z1/\z1<=32767
 r2:-32768<=z2/\z2<=32767
 r3:-32768<=z3/\z3<=32767
 r4:-32768<=z4/\z4<=32767
 r5:-128<=z5/\z5<=127
 r6:-128<=z6/\z6<=127
 r7:-128<=z7/\z7<=127
 r8:-128<=z8/\z8<=127
 r9:-128<=z9/\z9<=127
 r10:-128<=z10/\z10<=127
 r11:-128<=z11/\z11<=127
 r12:-32768<=z12/\z12<=32767
 r13:0<=z13/\z13<=255
 r14:0<=z14/\z14<=255
 r15:0<=z15/\z15<=255
 r16:-128<=z16/\z16<=127
 r17:-128<=z17/\z17<=127
 r18:-128<=z18/\z18<=127
 r19:-128<=z19/\z19<=127
 r20:-128<=z20/\z20<=127
structure Xd4 (x0 x1 x2 x3:Int):Prop where
 s0:-32768<=x0/\x0<=32767
 s1:-32768<=x1/\x1<=32767
 s2:-32768<=x2/\x2<=32767
 s3:-32768<=x3/\x3<=32767
end Go.Rd
namespace Go.Rd
open Go Go.Eng Go.Ar
section
variable {c k a0 a1 a2 a3 a b x y a' b' x' y':Int} (hc:inL c) (hk:inK k) (wx:Wi ⟨a',b',0⟩ ⟨a,b,0⟩) (wy:Wi ⟨x',y',0⟩ ⟨x,y,0⟩)
include hc hk wx wy
structure BaseW (c k a b x y a' b' x' y':Int):Prop where
 f:BaseF c k a' b' x' y'
 w2:Wi (s2 c k a' b' x' y') (s2 c k a b x y)
 w7:Wi (s7 c k a' b' x' y') (s7 c k a b x y)
 w10:Wi (s10 c k a' b' x' y') (s10 c k a b x y)
variable (i0:inL a0) (i1:inL a1) (i2:inL a2) (i3:inL a3)
include i0 i1 i2 i3
end
section
variable {c k a0 a1 a2 a3 a b x y a' b' x' y':Int} (hc:inL c) (hk:inK k) (hx:okSp a b=true) (hy:okSp x y=true) (wx:Wi ⟨a',b',0⟩ ⟨a,b,0⟩) (wy:Wi ⟨x',y',0⟩ ⟨x,y,0⟩) (i0:inL a0) (i1:inL a1) (i2:inL a2) (i3:inL a3)
include hc hk hx hy wx wy i0 i1 i2 i3
end
section
variable {c k l m a b x y a' b' x' y':Int} (hc:inL c) (hk:inK k) (hl:inL l) (hm:inK m) (hx:okSp a b=true) (hy:okSp x y=true) (wx:Wi ⟨a',b',0⟩ ⟨a,b,0⟩) (wy:Wi ⟨x',y',0⟩ ⟨x,y,0⟩)
include hc hk hl hm hx hy wx wy
end
end Go.Rd
namespace Go.Rd
open Go Go.Eng Go.Ar
structure Sl where
 s:Sp
 f:Int
 u:Sp
 v:Sp
structure Mn (W P:Sl):Prop where
 s:W.s.e=0->P.s.e=0/\Wi P.s W.s
 f:W.f=0->P.f=0/\Wi P.u W.u/\Wi P.v W.v
end Go.Rd
namespace Go.Rd
open Go Go.Eng Go.Ar
section
variable {c k l m a0 a1 a2 a3 a b d e:Int} (hc:inL c) (hk:inK k) (hl:inL l) (hm:inK m)
end
section
end
structure Ev (W P:Sl):Prop where
 s:P.s=W.s
 f:P.f=W.f
 u:P.u=ng W.u
 v:P.v=W.v
end Go.Rd
namespace Go.Rd
open Go Go.Eng Go.Ar
section
variable (s:Su) (ys:List Int) (a b x y:Int)
def okXY (a b x y:Int):Bool:=okSp a b&&okSp x y
end
theorem right_nums {s:Su} {ys:List Int} (h:rightS s ys=true):numsB s=true:=by
 unfold rightS at h
 simp only [Bool.and_eq_true] at h
 exact h.1.1.1
theorem inR_iff {lo hi n:Int}:inR lo hi n=true ↔ lo<=n/\n<=hi:=by
 unfold inR
 simp only [Bool.and_eq_true,decide_eq_true_eq]
theorem su_kd {s:Su} {k:Int} (h:s.kd=k):{ s with kd:=k }=s:=by subst h; rfl
end Go.Rd
namespace Go.Rd
open Go Go.Eng Go.Ar
def errQ (a b x y:Int):Int:=bif (sqrS a b).e==0 then (bif (sqrS x y).e==0 then (addS (sqrS a b).lo (sqrS a b).hi (sqrS x y).lo (sqrS x y).hi).e else (sqrS x y).e) else (sqrS a b).e
def insE (s:Su) (ys:List Int) (a b x y:Int):Int:=bif rightS s ys then (bif okXY a b x y then errQ a b x y else 20) else 110
def insN (s:Su) (ys:List Int) (a b x y:Int):Int:=bif insE s ys a b x y==0 then insV s.se s.ho (qL a b x y) (qH a b x y) else 0
theorem errQ_0 {a b x y:Int} (h:errQ a b x y=0):(sqrS a b).e=0/\(sqrS x y).e=0/\(addS (sqrS a b).lo (sqrS a b).hi (sqrS x y).lo (sqrS x y).hi).e=0:=by
 unfold errQ at h
 cases h1:(sqrS a b).e==0 with
 | false=>rw [h1] at h; simp only [cond_false] at h; rw [h] at h1; cases h1
 | true=>
  cases h2:(sqrS x y).e==0 with
  | false=>rw [h1,h2] at h; simp only [cond_false,cond_true] at h; rw [h] at h2; cases h2
  | true=>
   rw [h1,h2] at h
   exact ⟨eq_of_beq h1,eq_of_beq h2,h⟩
theorem sqr_facts {a b:Int} (h:(sqrS a b).e=0):0<=(sqrS a b).lo/\(sqrS a b).lo<=(sqrS a b).hi/\(sqrS a b).hi<=4503599627370496:=by
 unfold sqrS at h ⊢
 cases ho:okSp a b with
 | false=>rw [ho] at h; cases h
 | true=>
  rw [ho] at h
  simp only [cond_true] at h ⊢
  obtain ⟨e,t1,t2,t3,t4⟩:=told_ok h
  rw [e]
  have h1:=okSp_iff.1 ho
  have l0:0<=abL a b:=by unfold abL; exact (le_mx _ _).2.1
  have l1:abL a b<=abH a b:=by
   unfold abL abH
   have k1:=le_mx b (-a)
   have k2:=le_mx a (-b)
   have k3:=le_mx (mx a (-b)) 0
   omega
  refine ⟨?_,?_,t4⟩
  .show 0<=rd (abL a b*abL a b) 4294967296 false
   have p:=Int.mul_nonneg l0 l0
   have:=rd_f (n:=abL a b*abL a b) (d:=4294967296) (by decide)
   omega
  .show rd (abL a b*abL a b) 4294967296 false<=rd (abH a b*abH a b) 4294967296 true
   have p:=Int.mul_le_mul l1 l1 l0 (by omega)
   have q1:=rd_f (n:=abL a b*abL a b) (d:=4294967296) (by decide)
   have q2:=rd_t (n:=abH a b*abH a b) (d:=4294967296) (by decide)
   omega
theorem q_facts {a b x y:Int} (h:errQ a b x y=0):0<=qL a b x y/\qL a b x y<=qH a b x y/\qH a b x y<=4503599627370496:=by
 obtain ⟨h1,h2,h3⟩:=errQ_0 h
 have f1:=sqr_facts h1
 have f2:=sqr_facts h2
 unfold qL qH
 unfold addS at h3 ⊢
 obtain ⟨_,_,e⟩:=both_ok h3
 rw [e] at h3 ⊢
 obtain ⟨e2,t1,t2,t3,t4⟩:=told_ok h3
 rw [e2]
 simp only
 omega
end Go.Rd
namespace Go.Rd
open Go Go.Eng Go.Ar Go.Dg
def oZ (x y:Int):Int:=if x=y then 0 else if x<y then -1 else 1
theorem oZ_scale {x y k:Int} (hk:0<k):oZ (x*k) (y*k)=oZ x y:=by
 unfold oZ
 by_cases h1:x=y
 .subst h1; simp
 .rw [if_neg h1,if_neg (fun e=>h1 (Int.eq_of_mul_eq_mul_right (by omega) e))]
  by_cases h2:x<y
  .rw [if_pos h2,if_pos (Int.mul_lt_mul_of_pos_right h2 hk)]
  .rw [if_neg h2,if_neg]
   intro h3
   exact h2 (Int.lt_of_mul_lt_mul_right h3 (by omega))
theorem num_den {a b:Int} (hb:0<b):(Rat.divInt a b).num*b=a*(Rat.divInt a b).den:=by
 have h:=Rat.num_divInt_den (Rat.divInt a b)
 have hd:=(Rat.divInt a b).den_nz
 exact (Rat.divInt_eq_divInt_iff (by omega) (by omega)).1 h
theorem cross {a b c d:Int} (hb:0<b) (hd:0<d):oZ ((Rat.divInt a b).num*(Rat.divInt c d).den) ((Rat.divInt c d).num*(Rat.divInt a b).den)=oZ (a*d) (c*b):=by
 have h1:=num_den (a:=a) hb
 have h2:=num_den (a:=c) hd
 have p1:=(Rat.divInt a b).den_nz
 have p2:=(Rat.divInt c d).den_nz
 have hp:0<b*d:=Int.mul_pos hb hd
 have hq:0<((Rat.divInt a b).den:Int)*(Rat.divInt c d).den:=Int.mul_pos (by omega) (by omega)
 rw [<- oZ_scale hp,<- oZ_scale (x:=a*d) hq]
 generalize (Rat.divInt a b).num=n1 at *
 generalize ((Rat.divInt a b).den:Int)=m1 at *
 generalize (Rat.divInt c d).num=n2 at *
 generalize ((Rat.divInt c d).den:Int)=m2 at *
 have e1:n1*m2*(b*d)=a*d*(m1*m2):=by grind
 have e2:n2*m1*(b*d)=c*b*(m1*m2):=by grind
 rw [e1,e2]
def abv (q l:Int):Int:=oZ (q*1000000000000) (l*l*4294967296)
theorem abv_le {q l:Int}:decide (abv q l<=0)=!decide (l*l*4294967296<q*1000000000000):=by
 unfold abv oZ
 split
 .rename_i h; rw [h]; simp
 .split
  .rename_i h; rw [decide_eq_false (by omega:¬ l*l*4294967296<q*1000000000000)]; rfl
  .rename_i h1 h2; rw [decide_eq_true (by omega:l*l*4294967296<q*1000000000000)]; rfl
theorem abv_ge {q l:Int}:decide (abv q l>=0)=!decide (q*1000000000000<l*l*4294967296):=by
 unfold abv oZ
 split
 .rename_i h; rw [h]; simp
 .split
  .rename_i h; rw [decide_eq_true h]; rfl
  .rename_i h1 h2; rw [decide_eq_false h2]; rfl
theorem abv_gt {q l:Int}:decide (abv q l>0)=decide (l*l*4294967296<q*1000000000000):=by
 unfold abv oZ
 split
 .rename_i h; rw [h]; simp
 .split
  .rename_i h; rw [decide_eq_false (by omega:¬ l*l*4294967296<q*1000000000000)]; rfl
  .rename_i h1 h2; rw [decide_eq_true (by omega:l*l*4294967296<q*1000000000000)]; rfl
theorem abv_lt {q l:Int}:decide (abv q l<0)=decide (q*1000000000000<l*l*4294967296):=by
 unfold abv oZ
 split
 .rename_i h; rw [h]; simp
 .split
  .rename_i h; rw [decide_eq_true h]; rfl
  .rename_i h1 h2; rw [decide_eq_false h2]; rfl
end Go.Rd
namespace Go.Proofs.YtjcicegihechmaaGreatDoor.K
open Go Go.Eng Go.Dg
noncomputable section
def qc_t_nd (p q r s:Bool) (n d m e:List Int):Prop:=(((((↑n.length:Int)=(↑n.length:Int)/\(↑d.length:Int)=(↑d.length:Int))/\OkQ p q n d)/\((↑m.length:Int)=(↑m.length:Int)/\(↑e.length:Int)=(↑e.length:Int))/\OkQ r s m e)/\(((↑n.length:Int)=(↑n.length:Int)/\(↑e.length:Int)=(↑e.length:Int))/\okL p n/\okL s e/\n.length+e.length<=(500000:Nat))/\((q=q/\(↑d.length:Int)=(↑d.length:Int))/\r=r/\(↑m.length:Int)=(↑m.length:Int))/\(((↑m.length:Int)=(↑m.length:Int)/\(↑d.length:Int)=(↑d.length:Int))/\okL r m/\okL q d/\m.length+d.length<=(500000:Nat))/\((↑(digs (zv p n*zv s e).natAbs).length:Int)=(↑(digs (zv p n*zv s e).natAbs).length:Int)/\(↑(digs (zv r m*zv q d).natAbs).length:Int)=(↑(digs (zv r m*zv q d).natAbs).length:Int))/\okL (decide (zv p n*zv s e<(0:Int))) (digs (zv p n*zv s e).natAbs)/\okL (decide (zv r m*zv q d<(0:Int))) (digs (zv r m*zv q d).natAbs))
def qc_t_v (p q r s:Bool) (n d m e:List Int):AV:=(AV.tuple [AV.int true IntKind.i64 (ordZ (zv (decide (zv p n*zv s e<(0:Int))) (digs (zv p n*zv s e).natAbs)) (zv (decide (zv r m*zv q d<(0:Int))) (digs (zv r m*zv q d).natAbs))),AV.int false IntKind.i64 (Int.ofNat (0:Nat))])
def qc_t_h (p q r s:Bool) (n d m e:List Int):Hp:=⟨[{ wr:=(0:Nat),body:=ABody.rows IntKind.i64 e },{ wr:=(0:Nat),body:=ABody.rows IntKind.i64 m },{ wr:=(0:Nat),body:=ABody.rows IntKind.i64 d },{ wr:=(0:Nat),body:=ABody.rows IntKind.i64 n }],4,35⟩
theorem qc_t (p q r s:Bool) (n d m e:List Int):(run (cQ4 []) 300).call 61 (sqArgs p q r s n d m e) (sqH n d m e)=some ⟨.p (qc_t_nd p q r s n d m e),[⟨.tt,qc_t_v p q r s n d m e,qc_t_h p q r s n d m e⟩]⟩:=by kernel_rfl
end
end Go.Proofs.YtjcicegihechmaaGreatDoor.K
namespace Go.Proofs.YtjcicegihechmaaGreatDoor.K
open Go Go.Eng Go.Dg
noncomputable section
def qo_t_nd (x y:Int):Prop:=(x.natAbs<=(9223372036854775808:Nat)/\y.natAbs<=(9223372036854775808:Nat)/\(((↑(digs x.natAbs).length:Int)=(↑(digs x.natAbs).length:Int)/\okL (decide (x<(0:Int))) (digs x.natAbs)/\(digs x.natAbs).length<=(600:Nat))/\(↑(digs y.natAbs).length:Int)=(↑(digs y.natAbs).length:Int)/\okL (decide (y<(0:Int))) (digs y.natAbs)/\(digs y.natAbs).length<=(600:Nat))/\((↑(digs y.natAbs).length:Int)==(0:Int))=false/\((↑(digs x.natAbs).length:Int)=(↑(digs x.natAbs).length:Int)/\(↑(digs y.natAbs).length:Int)=(↑(digs y.natAbs).length:Int))/\okL (decide (x<(0:Int))) (digs x.natAbs)/\okL (decide (y<(0:Int))) (digs y.natAbs)/\digs y.natAbs≠[]/\(digs x.natAbs).length<=(150000:Nat)/\(digs y.natAbs).length<=(150000:Nat))
def qo_t_v (x y:Int):AV:=(AV.tuple [AV.agg [AV.bool true (decide ((Rat.divInt (zv (decide (x<(0:Int))) (digs x.natAbs)) (zv (decide (y<(0:Int))) (digs y.natAbs))).num<(0:Int))),AV.lslice (0:Nat) (↑(digs (Rat.divInt (zv (decide (x<(0:Int))) (digs x.natAbs)) (zv (decide (y<(0:Int))) (digs y.natAbs))).num.natAbs).length:Int),AV.bool true (decide ((↑(Rat.divInt (zv (decide (x<(0:Int))) (digs x.natAbs)) (zv (decide (y<(0:Int))) (digs y.natAbs))).den:Int)<(0:Int))),AV.lslice 1 (↑(digs (↑(Rat.divInt (zv (decide (x<(0:Int))) (digs x.natAbs)) (zv (decide (y<(0:Int))) (digs y.natAbs))).den:Int).natAbs).length:Int)],AV.int false IntKind.i64 (Int.ofNat (0:Nat))])
def qo_t_h (x y:Int):Hp:=⟨[{ wr:=29,body:=ABody.rows IntKind.i64 (digs (↑(Rat.divInt (zv (decide (x<(0:Int))) (digs x.natAbs)) (zv (decide (y<(0:Int))) (digs y.natAbs))).den:Int).natAbs) },{ wr:=29,body:=ABody.rows IntKind.i64 (digs (Rat.divInt (zv (decide (x<(0:Int))) (digs x.natAbs)) (zv (decide (y<(0:Int))) (digs y.natAbs))).num.natAbs) }],2,35⟩
theorem qo_t (x y:Int):(run (cQ4 [(18,.bool false false)]) 300).call 60 [.int true .i64 x,.int true .i64 y] hG0=some ⟨.p (qo_t_nd x y),[⟨.tt,qo_t_v x y,qo_t_h x y⟩]⟩:=by kernel_rfl
end
end Go.Proofs.YtjcicegihechmaaGreatDoor.K
namespace Go.Proofs.YtjcicegihechmaaGreatDoor.K
open Go Go.Eng Go.Dg
noncomputable section
def foV:List Nu->List (List Int)->Option (Prop×To)
 | [.n x,.n y],[]=>some (x.natAbs<=9223372036854775808/\y.natAbs<=9223372036854775808/\y≠0,.tu [qT (Rat.divInt x y),.pn .i64 0])
 | _,_=>none
theorem ofq_ok:NOk Tryz.prog (fun _=>none) hG0 60 (mSpec hG0 .i64 [.nu (.i .i64),.nu (.i .i64)] foV):=by
 refine msp_runs (fun xs ys p t e h=>?_) ⟨_,Tryz.func60,rfl⟩
 unfold foV at e
 split at e
 .rename_i x y
  cases e
  obtain ⟨h1,h2,h3⟩:=h
  have b:∀ z:Int,z.natAbs<=9223372036854775808->okL (decide (z<0)) (digs z.natAbs)/\(digs z.natAbs).length<=3:=by
   intro z hz
   have e3:pw 3=1000000000000000000000000000:=by decide
   have h5:=pw_mono (show 3<=500000 by decide)
   refine ⟨okL_digs ?_,len_digs (by omega)⟩
   generalize pw 500000=W at *; omega
  obtain ⟨o1,l1⟩:=b x h1
  obtain ⟨o2,l2⟩:=b y h2
  have ny:digs y.natAbs≠[]:=fun e=>h3 (by have:=digs_nil.1 e; omega)
  have z2:((↑(digs y.natAbs).length:Int)==(0:Int))=false:=neb.2 (by have:=List.length_pos_iff.2 ny; omega)
  refine ⟨cQ4 [(18,.bool false false)],300,[.int true .i64 x,.int true .i64 y],_,_,_,_,_,cQ4_ok _,rfl,rfl,⟨⟨rfl,rfl⟩,⟨rfl,rfl⟩,trivial⟩,qo_t x y,rfl,⟨h1,h2,⟨⟨rfl,o1,by omega⟩,rfl,o2,by omega⟩,z2,⟨rfl,rfl⟩,o1,o2,ny,by omega,by omega⟩,rfl,rfl,⟨⟨?_,⟨?_,?_⟩,?_,?_,?_⟩,rfl⟩⟩
  .show decide ((Rat.divInt (zv _ _) (zv _ _)).num<0)=_
   rw [zv_digs,zv_digs]
  .rfl
  .show digs (Rat.divInt (zv _ _) (zv _ _)).num.natAbs=_
   rw [zv_digs,zv_digs]
  .show decide (((Rat.divInt (zv _ _) (zv _ _)).den:Int)<0)=_
   rw [zv_digs,zv_digs]
  .rfl
  .show digs ((Rat.divInt (zv _ _) (zv _ _)).den:Int).natAbs=_
   rw [zv_digs,zv_digs]
 .cases e
end
end Go.Proofs.YtjcicegihechmaaGreatDoor.K
namespace Go.Proofs.YtjcicegihechmaaGreatDoor.K
open Go Go.Eng Go.Dg
noncomputable section
def cpV:List Nu->List (List Int)->Option (Prop×To)
 | [.t p,.t q,.t r,.t s],[n,d,m,e]=>some (OkQ p q n d/\OkQ r s m e,.tu [.nu .i64 (ordZ ((qIn p q n d).num*(qIn r s m e).den) ((qIn r s m e).num*(qIn p q n d).den)),.pn .i64 0])
 | _,_=>none
theorem ok_prod {p q:Bool} {a b:List Int} (ha:okL p a) (hb:okL q b) (la:a.length<=600) (lb:b.length<=600):okL (decide (zv p a*zv q b<0)) (digs (zv p a*zv q b).natAbs):=by
 have h:=mul_len (len_abs ha) (len_abs hb)
 have h5:=pw_mono (show a.length+b.length<=500000 by omega)
 refine okL_digs ?_
 generalize pw 500000=W at *; omega
theorem cmpq_ok:NOk Tryz.prog (fun _=>none) hG0 61 (mSpec hG0 .i64 psQ2 cpV):=by
 refine msp_runs (fun xs ys p t e h=>?_) ⟨_,Tryz.func61,rfl⟩
 unfold cpV at e
 split at e
 .rename_i p q r s n d m e
  cases e
  obtain ⟨h1,h2⟩:=h
  obtain ⟨e1,e2⟩:=h1.parts
  obtain ⟨e3,e4⟩:=h2.parts
  have l1:=h1.ln
  have l2:=h1.ld
  have l3:=h2.ln
  have l4:=h2.ld
  refine ⟨cQ4 [],300,sqArgs p q r s n d m e,_,_,_,_,_,cQ4_ok _,rfl,rfl,⟨⟨rfl,rfl,rfl,rfl,trivial⟩,⟨rfl,rfl,rfl,rfl,trivial⟩,trivial⟩,qc_t p q r s n d m e,rfl,⟨⟨⟨⟨rfl,rfl⟩,h1⟩,⟨rfl,rfl⟩,h2⟩,⟨⟨rfl,rfl⟩,h1.hn,h2.hd,by omega⟩,⟨⟨rfl,rfl⟩,rfl,rfl⟩,⟨⟨rfl,rfl⟩,h2.hn,h1.hd,by omega⟩,⟨rfl,rfl⟩,ok_prod h1.hn h2.hd l1 l4,ok_prod h2.hn h1.hd l3 l2⟩,rfl,rfl,⟨?_,rfl⟩⟩
  show ordZ (zv _ _) (zv _ _)=ordZ ((qIn p q n d).num*(qIn r s m e).den) ((qIn r s m e).num*(qIn p q n d).den)
  rw [zv_digs,zv_digs,e1,e2,e3,e4]
 .cases e
def tAb:List (FuncId×NSpec):=[(61,mSpec hG0 .i64 psQ2 cpV),(60,mSpec hG0 .i64 [.nu (.i .i64),.nu (.i .i64)] foV)]
theorem tAb_ok:∀ x∈tAb,NOk Tryz.prog (fun _=>none) hG0 x.1 x.2:=by
 intro x hx
 simp only [tAb,List.mem_cons,List.not_mem_nil,or_false] at hx
 rcases hx with rfl|rfl
 .exact cmpq_ok
 .exact ofq_ok
def cAb:Ctx:=mkN Tryz.prog (fun _=>none) hG0 tAb [] noExt
theorem cAb_ok:CtxOk cAb:=mkN_ok prog_ok (noExt_ok _) tAb_ok (fun x h=>by cases h)
end
end Go.Proofs.YtjcicegihechmaaGreatDoor.K
namespace Go.Proofs.YtjcicegihechmaaGreatDoor.K
open Go Go.Eng Go.Dg
noncomputable section
def ab_t_x0 (q l:Int):Rat:=Rat.divInt q (4294967296:Int)
def ab_t_x1 (q l:Int):Rat:=Rat.divInt (IntKind.i64.wrap (l*l)) (1000000000000:Int)
def ab_t_x2 (q l:Int):Rat:=qIn (decide ((ab_t_x0 q l).num<(0:Int))) (decide ((↑(ab_t_x0 q l).den:Int)<(0:Int))) (digs (ab_t_x0 q l).num.natAbs) (digs (↑(ab_t_x0 q l).den:Int).natAbs)
def ab_t_x3 (q l:Int):Rat:=qIn (decide ((ab_t_x1 q l).num<(0:Int))) (decide ((↑(ab_t_x1 q l).den:Int)<(0:Int))) (digs (ab_t_x1 q l).num.natAbs) (digs (↑(ab_t_x1 q l).den:Int).natAbs)
def ab_t_nd (q l:Int):Prop:=((q.natAbs<=(9223372036854775808:Nat)/\Int.natAbs (4294967296:Int)<=(9223372036854775808:Nat)/\(4294967296:Int)≠(0:Int))/\((IntKind.i64.wrap (l*l)).natAbs<=(9223372036854775808:Nat)/\Int.natAbs (1000000000000:Int)<=(9223372036854775808:Nat)/\(1000000000000:Int)≠(0:Int))/\(((↑(digs (ab_t_x0 q l).num.natAbs).length:Int)=(↑(digs (ab_t_x0 q l).num.natAbs).length:Int)/\(↑(digs (↑(ab_t_x0 q l).den:Int).natAbs).length:Int)=(↑(digs (↑(ab_t_x0 q l).den:Int).natAbs).length:Int))/\(↑(digs (ab_t_x1 q l).num.natAbs).length:Int)=(↑(digs (ab_t_x1 q l).num.natAbs).length:Int)/\(↑(digs (↑(ab_t_x1 q l).den:Int).natAbs).length:Int)=(↑(digs (↑(ab_t_x1 q l).den:Int).natAbs).length:Int))/\OkQ (decide ((ab_t_x0 q l).num<(0:Int))) (decide ((↑(ab_t_x0 q l).den:Int)<(0:Int))) (digs (ab_t_x0 q l).num.natAbs) (digs (↑(ab_t_x0 q l).den:Int).natAbs)/\OkQ (decide ((ab_t_x1 q l).num<(0:Int))) (decide ((↑(ab_t_x1 q l).den:Int)<(0:Int))) (digs (ab_t_x1 q l).num.natAbs) (digs (↑(ab_t_x1 q l).den:Int).natAbs))
def ab_t_v (q l:Int):AV:=(AV.int true IntKind.i64 (ordZ ((ab_t_x2 q l).num*(↑(ab_t_x3 q l).den:Int)) ((ab_t_x3 q l).num*(↑(ab_t_x2 q l).den:Int))))
def ab_t_h (q l:Int):Hp:=⟨[],(0:Nat),31⟩
theorem ab_t (q l:Int):(run cAb 300).call 30 [.int true .i64 q,.int true .i64 l] hG0=some ⟨.p (ab_t_nd q l),[⟨.tt,ab_t_v q l,ab_t_h q l⟩]⟩:=by kernel_rfl
end
end Go.Proofs.YtjcicegihechmaaGreatDoor.K
namespace Go.Proofs.YtjcicegihechmaaGreatDoor.K
open Go Go.Eng Go.Ar
noncomputable def tbl1:List (FuncId×PSpec):=[(105,mulSpec),(127,divSpec)]
theorem tbl1_ok:TblOk Tryz.prog tbl1:=by
 intro x hx
 simp only [tbl1,List.mem_cons,List.not_mem_nil,or_false] at hx
 rcases hx with rfl|rfl
 .exact mul_ok
 .exact div_ok
noncomputable def c1:Ctx:=mkC Tryz.prog tbl1 ext
theorem c1_ok:CtxOk c1:=mkC_ok prog_ok tbl1_ok ext_ok
theorem mulDown_run (a b:Int):oneV ((run c1 300).call 135 [.int true .i64 a,.int true .i64 b] ⟨[],0,1⟩)=some (.p (xMulN a b),.tuple [.int true .i64 (xMulV a b false),.int true .i64 (xMulE a b false)]):=by kernel_rfl
theorem mulUp_run (a b:Int):oneV ((run c1 300).call 136 [.int true .i64 a,.int true .i64 b] ⟨[],0,1⟩)=some (.p (xMulN a b),.tuple [.int true .i64 (xMulV a b true),.int true .i64 (xMulE a b true)]):=by kernel_rfl
theorem divDown_run (a b:Int):oneV ((run c1 300).call 154 [.int true .i64 a,.int true .i64 b] ⟨[],0,1⟩)=some (.p (xDivN a b),.tuple [.int true .i64 (xDivV a b false),.int true .i64 (xDivE a b false)]):=by kernel_rfl
theorem divUp_run (a b:Int):oneV ((run c1 300).call 155 [.int true .i64 a,.int true .i64 b] ⟨[],0,1⟩)=some (.p (xDivN a b),.tuple [.int true .i64 (xDivV a b true),.int true .i64 (xDivE a b true)]):=by kernel_rfl
theorem scaleDown_run (a n d:Int):oneV ((run c1 300).call 174 [.int true .i64 a,.int true .i64 n,.int true .i64 d] ⟨[],0,1⟩)=some (.p (xScN a n d),.tuple [.int true .i64 (xScV a n d false),.int true .i64 (xScE a n d false)]):=by kernel_rfl
theorem scaleUp_run (a n d:Int):oneV ((run c1 300).call 175 [.int true .i64 a,.int true .i64 n,.int true .i64 d] ⟨[],0,1⟩)=some (.p (xScN a n d),.tuple [.int true .i64 (xScV a n d true),.int true .i64 (xScE a n d true)]):=by kernel_rfl
end Go.Proofs.YtjcicegihechmaaGreatDoor.K
namespace Go.Proofs.YtjcicegihechmaaGreatDoor.K
open Go Go.Eng Go.Ar
noncomputable section
def sqS (up:Bool) (H L:Int):St:=⟨[⟨0,.bool false up⟩,⟨0,.ptr 0 0⟩,⟨0,.tuple []⟩,⟨61,.int false .u64 0⟩,⟨62,.bool false false⟩,⟨63,.int false .u64 0⟩,⟨0,.tuple []⟩,⟨0,.tuple []⟩,⟨64,.int false .i64 0⟩,
 ⟨0,.tuple []⟩,⟨0,.tuple []⟩,⟨0,.tuple []⟩,⟨0,.tuple []⟩,⟨0,.tuple []⟩,⟨0,.tuple []⟩,⟨0,.tuple []⟩,⟨0,.tuple []⟩,⟨0,.tuple []⟩,⟨0,.tuple []⟩,⟨0,.tuple []⟩,⟨0,.tuple []⟩,⟨0,.tuple []⟩,⟨0,.tuple []⟩,⟨0,.tuple []⟩,⟨0,.tuple []⟩,⟨0,.tuple []⟩,⟨0,.tuple []⟩,⟨0,.tuple []⟩,⟨0,.tuple []⟩,⟨0,.tuple []⟩,⟨0,.tuple []⟩,⟨0,.tuple []⟩,⟨0,.tuple []⟩,⟨0,.tuple []⟩],[],
 ⟨[⟨48,.cells [.int true .u64 H,.int true .u64 L]⟩],1,65⟩⟩
def sqP (i r:Int):Patch:=⟨[(5,.int true .u64 r),(8,.int true .i64 i),(6,.any false),(7,.any false),(9,.any false),(10,.any false),(11,.any false),(12,.any false),(13,.any false),(14,.any false),(15,.any false),(16,.any false),(17,.any false),(18,.any false),(19,.any false),(20,.any false),(21,.any false),(22,.any false)],[],[]⟩
def sqO (r:Int):Patch:=⟨[(5,.int true .u64 r),(8,.any false),(6,.any false),(7,.any false),(9,.any false),(10,.any false),(11,.any false),(12,.any false),(13,.any false),(14,.any false),(15,.any false),(16,.any false),(17,.any false),(18,.any false),(19,.any false),(20,.any false),(21,.any false),(22,.any false)],[],[]⟩
def sqFr:AFr:=⟨190,none⟩
noncomputable def sqA:Code:=loopOf Tryz.prog 190 0
def sqU (H L:Int):Sum (Int×Int):=
 {
  S:=fun y=>sqP y.1 y.2
  I:=fun y=>0<=y.1/\y.1<=43
  μ:=fun y=>(43 - y.1).toNat
  F:=fun y=>(.exit 0,sqO (sqFin H L (43 - y.1).toNat y.1 y.2))
  next:=fun y=>(IntKind.i64.wrap (y.1+1),sqStep H L y.1 y.2)
  ids:=[]
  X:=fun y _=>some (sqO y.2,[]) }
def sqNd (H L i r:Int):Prop:=
 (decide (i<43)=true->0<=IntKind.i64.wrap (42 - i)/\xIn (sqQ i r) (sqQ i r)/\H=H/\L=L) /\
 ((!decide (i<43))=true->r=r/\(sqU H L).F (i,r)=(.exit 0,sqO r)) /\
 (decide (i<43)=true->(sqStep H L i r=sqStep H L i r/\IntKind.i64.wrap (i+1)=IntKind.i64.wrap (i+1)) /\
  (sqU H L).I ((sqU H L).next (i,r))/\(sqU H L).μ ((sqU H L).next (i,r))<(sqU H L).μ (i,r)/\(sqU H L).F ((sqU H L).next (i,r))=(sqU H L).F (i,r))
theorem sq_run (up:Bool) (H L i r:Int):chkR (sqS up H L) ((sqU H L).way (i,r)) ((run c1 300).code sqFr sqA (patch (sqS up H L) ((sqU H L).S (i,r))))=some (.p (sqNd H L i r)):=by kernel_rfl
end
end Go.Proofs.YtjcicegihechmaaGreatDoor.K
namespace Go.Proofs.YtjcicegihechmaaGreatDoor.K
open Go Go.Eng Go.Ar
noncomputable section
theorem sq_start (up:Bool) (H L:Int):fit (sqS up H L) (sqS up H L) (patch (sqS up H L) ((sqU H L).S (0,0))) []=some (.p ((0:Int)=0/\(0:Int)=0)):=by kernel_rfl
theorem sq_nd (H L i r:Int) (h:0<=i/\i<=43):sqNd H L i r:=by
 refine ⟨fun hi=>?_,fun hi=>⟨rfl,?_⟩,fun hi=>⟨⟨rfl,rfl⟩,?_⟩⟩
 .have hi:=of_decide_eq_true hi
  refine ⟨by rw [i64w (by omega) (by omega)]; omega,?_,rfl,rfl⟩
  have:=u64_range (↑(BitVec.ofInt IntKind.u64.bits r ||| BitVec.ofInt IntKind.u64.bits (IntKind.u64.wrap (1*2 ^ min (IntKind.i64.wrap (42 - i)).toNat IntKind.u64.bits))).toNat)
  exact xIn_of this.1 this.2 this.1 this.2
 .have:i=43:=by simp at hi; omega
  subst this
  rfl
 .have hi:=of_decide_eq_true hi
  have e:IntKind.i64.wrap (i+1)=i+1:=i64w (by omega) (by omega)
  have e2:(43 - i).toNat=(43 - (i+1)).toNat+1:=by omega
  refine ⟨?_,?_,?_⟩
  .show 0<=IntKind.i64.wrap (i+1)/\IntKind.i64.wrap (i+1)<=43
   rw [e]; omega
  .show (43 - IntKind.i64.wrap (i+1)).toNat<(43 - i).toNat
   rw [e]; omega
  .show (Ex.exit 0,sqO (sqFin H L (43 - IntKind.i64.wrap (i+1)).toNat (IntKind.i64.wrap (i+1)) (sqStep H L i r)))=(Ex.exit 0,sqO (sqFin H L (43 - i).toNat i r))
   rw [e2,sqFin,e]
theorem sq_loop (up:Bool) (H L:Int):CodeOk c1 sqFr (.loop sqA) (sqS up H L) ⟨.tt,[⟨.tt,.exit 0,patch (sqS up H L) (sqO (sqFin H L 43 0 0))⟩]⟩:=by
 have hF:(sqU H L).F (0,0)=(.exit 0,sqO (sqFin H L 43 0 0)):=by
  show (Ex.exit 0,sqO (sqFin H L (43 - (0:Int)).toNat 0 0))=_
  rw [show (43 - (0:Int)).toNat=43 from by decide]
 have h0:oldsOk (sqS up H L).hp ((sqU H L).S (0,0)).old=true:=by kernel_rfl
 have h1:(sqU H L).I (0,0):=⟨by decide,by decide⟩
 exact sum_one (run_sound c1_ok 300) (sqU H L) h1 ⟨_,sq_start up H L,rfl,rfl⟩ h0 (fun y hy=>⟨_,sq_run up H L y.1 y.2,sq_nd H L y.1 y.2 hy⟩) hF
noncomputable def c1s (up:Bool) (a:Int):Ctx:=withLoops c1 [oneLoop 190 65 sqFr sqA (sqS up (xHi (sqP2 a)) (xLo (sqP2 a))) (.exit 0) (sqO (sqFin (xHi (sqP2 a)) (xLo (sqP2 a)) 43 0 0))]
theorem c1s_ok (up:Bool) (a:Int):CtxOk (c1s up a):=withLoop_ok c1_ok (sq_loop up _ _) (withNone_ok c1_ok)
def sqAt (up:Bool) (a:Int):Prop:=At sqFr sqFr sqA sqA (sqS up (xHi (sqP2 a)) (xLo (sqP2 a))) (sqS up (xHi (sqP2 a)) (xLo (sqP2 a)))
def sqNd2 (a:Int):Prop:=(!sqBad a)=true->xIn (IntKind.u64.wrap a) 4294967296/\sqAt false a
def sqNd3 (a:Int):Prop:=(!sqBad a)=true->xIn (IntKind.u64.wrap a) 4294967296/\sqAt true a/\xIn (sqR a) (sqR a)/\xHi (sqP2 a)=xHi (sqP2 a)/\xLo (sqP2 a)=xLo (sqP2 a)
theorem sqDown_run (a:Int):oneV ((run (c1s false a) 300).call 152 [.int true .i64 a] ⟨[],0,1⟩)=some (.p (sqNd2 a),.tuple [.int true .i64 (xSqV a false),.int true .i64 (xSqE a false)]):=by kernel_rfl
theorem sqUp_run (a:Int):oneV ((run (c1s true a) 300).call 153 [.int true .i64 a] ⟨[],0,1⟩)=some (.p (sqNd3 a),.tuple [.int true .i64 (xSqV a true),.int true .i64 (xSqE a true)]):=by kernel_rfl
theorem sqNd3_all (a:Int):sqNd3 a:=by
 intro h
 rw [sqBad_eq,Bool.not_not] at h
 obtain ⟨r0,r1,r2,r3⟩:=sqR_spec h
 simp only [sqOk,Bool.and_eq_true,decide_eq_true_eq] at h
 have h1:=okF_iff.1 h.1
 rw [u64w (n:=a) (by omega) (by omega)]
 exact ⟨xIn_of (by omega) (by omega) (by decide) (by decide),⟨rfl,rfl,rfl⟩,xIn_of (by omega) (by omega) (by omega) (by omega),rfl,rfl⟩
theorem sqNd2_all (a:Int):sqNd2 a:=fun h=>⟨(sqNd3_all a h).1,rfl,rfl,rfl⟩
theorem mulDown_ok:PureOk Tryz.prog 135 (sMul false):=by
 refine num_ok (fun xs hk _=>?_) ⟨_,Tryz.func135,rfl⟩
 obtain ⟨a,_,rfl,h1⟩:=kn hk; obtain ⟨b,_,rfl,h2⟩:=kn h1; obtain rfl:=k0 h2
 exact ⟨c1,300,_,c1_ok,rfl,fun _=>rfl,rfl,mulDown_run a b,xMul_need a b⟩
theorem mulUp_ok:PureOk Tryz.prog 136 (sMul true):=by
 refine num_ok (fun xs hk _=>?_) ⟨_,Tryz.func136,rfl⟩
 obtain ⟨a,_,rfl,h1⟩:=kn hk; obtain ⟨b,_,rfl,h2⟩:=kn h1; obtain rfl:=k0 h2
 exact ⟨c1,300,_,c1_ok,rfl,fun _=>rfl,rfl,mulUp_run a b,xMul_need a b⟩
theorem divDown_ok:PureOk Tryz.prog 154 (sDiv false):=by
 refine num_ok (fun xs hk _=>?_) ⟨_,Tryz.func154,rfl⟩
 obtain ⟨a,_,rfl,h1⟩:=kn hk; obtain ⟨b,_,rfl,h2⟩:=kn h1; obtain rfl:=k0 h2
 exact ⟨c1,300,_,c1_ok,rfl,fun _=>rfl,rfl,divDown_run a b,xDiv_need a b⟩
theorem divUp_ok:PureOk Tryz.prog 155 (sDiv true):=by
 refine num_ok (fun xs hk _=>?_) ⟨_,Tryz.func155,rfl⟩
 obtain ⟨a,_,rfl,h1⟩:=kn hk; obtain ⟨b,_,rfl,h2⟩:=kn h1; obtain rfl:=k0 h2
 exact ⟨c1,300,_,c1_ok,rfl,fun _=>rfl,rfl,divUp_run a b,xDiv_need a b⟩
theorem scaleDown_ok:PureOk Tryz.prog 174 (sScale false):=by
 refine num_ok (fun xs hk _=>?_) ⟨_,Tryz.func174,rfl⟩
 obtain ⟨a,_,rfl,h1⟩:=kn hk; obtain ⟨n,_,rfl,h2⟩:=kn h1; obtain ⟨d,_,rfl,h3⟩:=kn h2; obtain rfl:=k0 h3
 exact ⟨c1,300,_,c1_ok,rfl,fun _=>rfl,rfl,scaleDown_run a n d,xSc_need a n d⟩
theorem scaleUp_ok:PureOk Tryz.prog 175 (sScale true):=by
 refine num_ok (fun xs hk _=>?_) ⟨_,Tryz.func175,rfl⟩
 obtain ⟨a,_,rfl,h1⟩:=kn hk; obtain ⟨n,_,rfl,h2⟩:=kn h1; obtain ⟨d,_,rfl,h3⟩:=kn h2; obtain rfl:=k0 h3
 exact ⟨c1,300,_,c1_ok,rfl,fun _=>rfl,rfl,scaleUp_run a n d,xSc_need a n d⟩
theorem sqrtDown_ok:PureOk Tryz.prog 152 (sSqrt false):=by
 refine num_ok (fun xs hk _=>?_) ⟨_,Tryz.func152,rfl⟩
 obtain ⟨a,_,rfl,h1⟩:=kn hk; obtain rfl:=k0 h1
 exact ⟨c1s false a,300,_,c1s_ok false a,rfl,fun _=>rfl,rfl,sqDown_run a,sqNd2_all a⟩
theorem sqrtUp_ok:PureOk Tryz.prog 153 (sSqrt true):=by
 refine num_ok (fun xs hk _=>?_) ⟨_,Tryz.func153,rfl⟩
 obtain ⟨a,_,rfl,h1⟩:=kn hk; obtain rfl:=k0 h1
 exact ⟨c1s true a,300,_,c1s_ok true a,rfl,fun _=>rfl,rfl,sqUp_run a,sqNd3_all a⟩
end
end Go.Proofs.YtjcicegihechmaaGreatDoor.K
namespace Go.Proofs.YtjcicegihechmaaGreatDoor.K
open Go Go.Eng Go.Ar
noncomputable section
noncomputable def tbl2:List (FuncId×PSpec):=[(135,sMul false),(136,sMul true),(154,sDiv false),(155,sDiv true),(174,sScale false),(175,sScale true),(152,sSqrt false),(153,sSqrt true),(105,mulSpec)]
theorem tbl2_ok:TblOk Tryz.prog tbl2:=by
 intro x hx
 simp only [tbl2,List.mem_cons,List.not_mem_nil,or_false] at hx
 rcases hx with rfl|rfl|rfl|rfl|rfl|rfl|rfl|rfl|rfl
 .exact mulDown_ok
 .exact mulUp_ok
 .exact divDown_ok
 .exact divUp_ok
 .exact scaleDown_ok
 .exact scaleUp_ok
 .exact sqrtDown_ok
 .exact sqrtUp_ok
 .exact mul_ok
noncomputable def c2:Ctx:=mkC Tryz.prog tbl2 ext
theorem c2_ok:CtxOk c2:=mkC_ok prog_ok tbl2_ok ext_ok
end
end Go.Proofs.YtjcicegihechmaaGreatDoor.K
namespace Go.Proofs.YtjcicegihechmaaGreatDoor.K
open Go Go.Eng Go.Ar
noncomputable section
theorem chk_run (a b:Int):oneV ((run c2 300).call 18 [.agg [.int true .i64 a,.int true .i64 b]] ⟨[],0,1⟩)=some (.tt,.int true .i64 (xCS a b)):=by kernel_rfl
theorem add_run (a b c d:Int):oneV ((run c2 300).call 36 [.agg [.int true .i64 a,.int true .i64 b],.agg [.int true .i64 c,.int true .i64 d]] ⟨[],0,1⟩)=some (.tt,(outS (xAddS a b c d)).av true):=by kernel_rfl
theorem pow_run (v:Int):oneV ((run c2 300).call 104 [.int true .i64 v,.int false .i64 2] ⟨[],0,1⟩)=some (.p (pwN v),.tuple [.int true .i64 (pwD v),.int true .i64 (pwU v),.int true .i64 (pwE v)]):=by kernel_rfl
theorem pow_ok:PureOk Tryz.prog 104 sPow:=by
 refine num_ok (fun xs hk hN=>?_) ⟨_,Tryz.func104,rfl⟩
 obtain ⟨v,_,rfl,h1⟩:=kn hk; obtain rfl:=k0 h1
 obtain ⟨e1,e2,e3,hn⟩:=pw_law hN
 have:=pow_run v
 rw [e1,e2,e3] at this
 exact ⟨c2,300,_,c2_ok,rfl,fun _=>rfl,rfl,this,hn⟩
noncomputable def tbl3:List (FuncId×PSpec):=(104,sPow) :: tbl2
theorem tbl3_ok:TblOk Tryz.prog tbl3:=fun x hx=>by
 rcases List.mem_cons.1 hx with rfl|hx
 .exact pow_ok
 .exact tbl2_ok x hx
noncomputable def c3:Ctx:=mkC Tryz.prog tbl3 ext
theorem c3_ok:CtxOk c3:=mkC_ok prog_ok tbl3_ok ext_ok
theorem sqr_run (a b:Int):oneV ((run c3 300).call 52 [.agg [.int true .i64 a,.int true .i64 b]] ⟨[],0,1⟩)=some (.p (xSqrN a b),(outS (xSqrS a b)).av true):=by kernel_rfl
theorem schk_ok:PureOk Tryz.prog 18 sChk:=by
 refine num_ok (fun xs hk _=>?_) ⟨_,Tryz.func18,rfl⟩
 obtain ⟨a,_,rfl,h1⟩:=kn hk; obtain ⟨b,_,rfl,h2⟩:=kn h1; obtain rfl:=k0 h2
 have:=chk_run a b
 rw [xCS_eq] at this
 exact ⟨c2,300,_,c2_ok,rfl,fun _=>rfl,rfl,this,trivial⟩
theorem sadd_ok:PureOk Tryz.prog 36 (sBin addS):=by
 refine num_ok (fun xs hk _=>?_) ⟨_,Tryz.func36,rfl⟩
 obtain ⟨a,_,rfl,h1⟩:=kn hk; obtain ⟨b,_,rfl,h2⟩:=kn h1; obtain ⟨c,_,rfl,h3⟩:=kn h2; obtain ⟨d,_,rfl,h4⟩:=kn h3; obtain rfl:=k0 h4
 exact ⟨c2,300,_,c2_ok,rfl,fun _=>rfl,rfl,(add_run a b c d).trans (by rw [xAddS_eq]),trivial⟩
theorem ssqr_ok:PureOk Tryz.prog 52 (sUn sqrS):=by
 refine num_ok (fun xs hk _=>?_) ⟨_,Tryz.func52,rfl⟩
 obtain ⟨a,_,rfl,h1⟩:=kn hk; obtain ⟨b,_,rfl,h2⟩:=kn h1; obtain rfl:=k0 h2
 exact ⟨c3,300,_,c3_ok,rfl,fun _=>rfl,rfl,(sqr_run a b).trans (by rw [xSqrS_eq]),xSqrN_all a b⟩
end
end Go.Proofs.YtjcicegihechmaaGreatDoor.K
namespace Go.Eng
open Go
end Go.Eng
namespace Go.Proofs.YtjcicegihechmaaGreatDoor
open Go Go.Eng
theorem all_names:(Tryz.prog.funcs.toList.all fun fn=>!(fn.name=="runtime.NumGoroutine"))=true:=by kernel_rfl
theorem prog_ok:ProgOk Tryz.prog:=by
 refine ⟨fun f fn h _=>?_,by kernel_rfl⟩
 have h1:fn∈Tryz.prog.funcs.toList:=by
  rw [Array.mem_toList_iff]
  exact Array.mem_of_getElem? h
 have:=List.all_eq_true.1 all_names fn h1
 simpa using this
def ext (f:FuncId) (args:List AV):Option (Nd×AV):=
 match Nat.beq f 162 with
 | true=>match args with
  | [.int false .u64 x,.int false .u64 y,.int false .u64 c]=>match decide (0<=x/\0<=y/\0<=c/\c<=1) with
   | true=>some (.tt,.tuple [mkInt false .u64 ((x+y+c) % 18446744073709551616),mkInt false .u64 ((x+y+c) / 18446744073709551616)])
   | false=>none
  | _=>none
 | false=>none
theorem add64_run (x y c:Int) (hx:0<=x) (hy:0<=y) (hc0:0<=c) (hc:c<=1) (w:World):
  (callFunc 162 #[.int .u64 x,.int .u64 y,.int .u64 c]).run Tryz.prog w=.ok (.value (.tuple #[.int .u64 ((x+y+c) % 18446744073709551616),.int .u64 ((x+y+c) / 18446744073709551616)])) w:=by
 rw [run_callFunc_extern Tryz.func162 (by kernel_rfl) (by kernel_rfl) (by kernel_rfl) (e:=add64Entry) (by kernel_rfl),run_add64 x y c hx hy hc0 hc]
 rfl
theorem ext_ok:ExtOk Tryz.prog ext:=by
 intro f args nd v e hn σ A W ha
 unfold ext at e
 split at e
 .rename_i hf
  have:=Nat.eq_of_beq_eq_true hf
  subst this
  split at e
  .rename_i x y c
   split at e
   .rename_i hd
    have hd:=of_decide_eq_true hd
    cases e
    obtain ⟨V,L,hL,rfl,V2,L2,hL2,rfl,V3,L3,hL3,rfl,hL4⟩:=ha
    rw [hL2,hL3,show L3=[] from hL4] at hL
    have hA:A=#[.int .u64 x,.int .u64 y,.int .u64 c]:=by
     apply Array.toList_inj.1; simpa using hL
    subst hA
    exact ⟨_,⟨_,rfl,_,_,rfl,(mkInt_rel _ _ _ _).2 rfl,_,_,rfl,(mkInt_rel _ _ _ _).2 rfl,rfl⟩,add64_run x y c hd.1 hd.2.1 hd.2.2.1 hd.2.2.2 W⟩
   .cases e
  .cases e
 .cases e
def gl:List (Nat×IntKind×List Int):=[(0,.i64,[1000000000000,4294967296]),(3,.i64,[4294967296,4294967296]),(1,.i64,[1,0]),(2,.u64,[1,10,100,1000,10000,100000,1000000,10000000,100000000,1000000000,10000000000,100000000000,1000000000000])]
def glob (g:Nat):Option Nat:=
 match Nat.beq g 2 with
 | true=>some 0
 | false=>match Nat.beq g 1 with
  | true=>some 1
  | false=>match Nat.beq g 3 with
   | true=>some 2
   | false=>match Nat.beq g 0 with
    | true=>some 3
    | false=>none
def hG:Hp:=⟨[⟨0,.cells [.int false .i64 1000000000000,.int false .i64 4294967296]⟩,⟨0,.cells [.int false .i64 4294967296,.int false .i64 4294967296]⟩,⟨0,.cells [.int false .i64 1,.int false .i64 0]⟩,⟨0,.cells [.int false .u64 1,.int false .u64 10,.int false .u64 100,.int false .u64 1000,.int false .u64 10000,.int false .u64 100000,.int false .u64 1000000,.int false .u64 10000000,.int false .u64 100000000,.int false .u64 1000000000,.int false .u64 10000000000,.int false .u64 100000000000,.int false .u64 1000000000000]⟩],4,1⟩
theorem hG_eq:hG=⟨intBlks gl,gl.length,1⟩:=rfl
theorem glob_lt:∀ g i,glob g=some i->i<hG.size:=by
 intro g i h
 unfold glob at h
 repeat' (split at h; · cases h; decide)
 cases h
theorem known {tbl:List (FuncId×List AV×AV)} (ht:∀ x∈tbl,MemoOk Tryz.prog glob hG x) {f:FuncId} {args:List AV} {v:AV} (ha:AV.underL 4 args=true) (hv:v.under 4=true)
  (e:memoV 4 1 ((run (mkM Tryz.prog glob hG tbl ext) 3000).call f args hG)=some v):MemoOk Tryz.prog glob hG (f,args,v):=
 memo_ok prog_ok ext_ok ht rfl (by kernel_rfl) glob_lt ha hv e
theorem none_known:∀ x∈([]:List (FuncId×List AV×AV)),MemoOk Tryz.prog glob hG x:=fun _ h=>by cases h
theorem more {x:FuncId×List AV×AV} {l:List (FuncId×List AV×AV)} (h:MemoOk Tryz.prog glob hG x) (k:∀ y∈l,MemoOk Tryz.prog glob hG y):∀ y∈x :: l,MemoOk Tryz.prog glob hG y:=fun y hy=>by
 rcases List.mem_cons.1 hy with rfl|hy
 .exact h
 .exact k y hy
def laidL:List (String×DataW Unit):=[("monocle/fix.powers",Rows.laid_monocle_fix_powers),("monocle/monocleref11.bad",Rows.laid_monocle_monocleref11_bad),("monocle/surface.one",Rows.laid_monocle_surface_one),("monocle/surface.places",Rows.laid_monocle_surface_places),("monocle/aper.units",Rows.laid_monocle_aper_units)]
theorem of_laid {W:World} (h:laidMetH Tryz.prog laidL W):∃ σ:Sg,(∀ gl i,glob gl=some i->∃ N,σ i=some (gl,N))/\HRel σ hG W:=by
 have hl:(laidL.all fun x=>x.2.handleName?.isNone)=true:=by kernel_rfl
 obtain ⟨cs0,e0,n0,p0,h0,d0⟩:=laid_cells h hl (n:="monocle/fix.powers") (.head _) (g:=2) (t:=162) (by kernel_rfl) (by kernel_rfl) (of_decide_eq_true (by kernel_rfl)) (trod_len_arr Tryz.underlying162)
 have q0:=arr_ints (k:=.u64) (ns:=[1,10,100,1000,10000,100000,1000000,10000000,100000000,1000000000,10000000000,100000000000,1000000000000]) Tryz.underlying162 Tryz.underlying141 (by kernel_rfl) (by kernel_rfl) rfl d0
 obtain ⟨cs1,e1,n1,p1,h1,d1⟩:=laid_cells h hl (n:="monocle/monocleref11.bad") (.tail _ (.head _)) (g:=1) (t:=32) (by kernel_rfl) (by kernel_rfl) (of_decide_eq_true (by kernel_rfl)) (trod_len_struct Tryz.underlying32)
 have q1:=two_ints (k:=.i64) Tryz.underlying32 rfl rfl rfl rfl Tryz.underlying3 (by kernel_rfl) (by kernel_rfl) d1
 obtain ⟨cs2,e2,n2,p2,h2,d2⟩:=laid_cells h hl (n:="monocle/surface.one") (.tail _ (.tail _ (.head _))) (g:=3) (t:=32) (by kernel_rfl) (by kernel_rfl) (of_decide_eq_true (by kernel_rfl)) (trod_len_struct Tryz.underlying32)
 have q2:=two_ints (k:=.i64) Tryz.underlying32 rfl rfl rfl rfl Tryz.underlying3 (by kernel_rfl) (by kernel_rfl) d2
 obtain ⟨cs3,e3,n3,p3,h3,d3⟩:=laid_cells h hl (n:="monocle/aper.units") (.tail _ (.tail _ (.tail _ (.tail _ (.head _))))) (g:=0) (t:=36) (by kernel_rfl) (by kernel_rfl) (of_decide_eq_true (by kernel_rfl)) (trod_len_arr Tryz.underlying36)
 have q3:=arr_ints (k:=.i64) (ns:=[1000000000000,4294967296]) Tryz.underlying36 Tryz.underlying3 (by kernel_rfl) (by kernel_rfl) rfl d3
 refine ⟨intSg gl,fun g i hg=>?_,hG_eq ▸ int_rel (by decide) fun x hx=>?_⟩
 .unfold glob at hg
  split at hg
  .rename_i hb; cases hg; rw [Nat.eq_of_beq_eq_true hb]; exact ⟨_,rfl⟩
  .split at hg
   .rename_i hb; cases hg; rw [Nat.eq_of_beq_eq_true hb]; exact ⟨_,rfl⟩
   .split at hg
    .rename_i hb; cases hg; rw [Nat.eq_of_beq_eq_true hb]; exact ⟨_,rfl⟩
    .split at hg
     .rename_i hb; cases hg; rw [Nat.eq_of_beq_eq_true hb]; exact ⟨_,rfl⟩
     .cases hg
 .simp only [gl,List.mem_cons,List.not_mem_nil,or_false] at hx
  rcases hx with rfl|rfl|rfl|rfl
  .exact ⟨cs3,e3,h3,q3⟩
  .exact ⟨cs2,e2,h2,q2⟩
  .exact ⟨cs1,e1,h1,q1⟩
  .exact ⟨cs0,e0,h0,q0⟩
end Go.Proofs.YtjcicegihechmaaGreatDoor
namespace Go.Proofs.YtjcicegihechmaaGreatDoor.K
open Go Go.Eng Go.Ar
noncomputable section
theorem hG_plain:blksPlain hG.size hG.blks=true:=by kernel_rfl
end
end Go.Proofs.YtjcicegihechmaaGreatDoor.K
namespace Go.Proofs.YtjcicegihechmaaGreatDoor.K
open Go Go.Eng Go.Ar
noncomputable section
def goodV (s:Sp):AV:=.tuple [.agg [.int true .i64 s.lo,.int true .i64 s.hi],.int false .i64 0]
def good4 (ss:List Sh) (F:Int->Int->Int->Int->Sp):PSpec:=fun args=>match Sh.readL ss args with
 | some (_,[.n a,.n b,.n c,.n d])=>some (.p ((F a b c d).e=0),goodV (F a b c d))
 | _=>none
def good2 (ss:List Sh) (F:Int->Int->Sp):PSpec:=fun args=>match Sh.readL ss args with
 | some (_,[.n a,.n b])=>some (.p ((F a b).e=0),goodV (F a b))
 | _=>none
theorem outS_good {σ:Sg} {s:Bool} {x:Sp} {W:Value} (h:VRel σ ((outS x).av s) W) (he:x.e=0):VRel σ (goodV x) W:=by
 obtain ⟨K,rfl,h1⟩:=h
 obtain ⟨V1,L1,e1,h2,h3⟩:=h1
 obtain ⟨V2,L2,e2,h4,h5⟩:=h3
 obtain ⟨K1,rfl,h6⟩:=h2
 obtain ⟨V3,L3,e3,h7,h8⟩:=h6
 obtain ⟨V4,L4,e4,h9,h10⟩:=h8
 have h4:=(Go.Eng.mkInt_rel _ _ _ _).1 h4
 have h7:=(Go.Eng.mkInt_rel _ _ _ _).1 h7
 have h9:=(Go.Eng.mkInt_rel _ _ _ _).1 h9
 rw [he] at h4
 exact ⟨K,rfl,_,L1,e1,⟨K1,rfl,V3,L3,e3,h7,V4,L4,e4,h9,h10⟩,V2,L2,e2,h4,h5⟩
theorem good_bin {f:FuncId} {F:Int->Int->Int->Int->Sp} (g:PureOk Tryz.prog f (sBin F)):GOk Tryz.prog glob hG f (good4 [shS,shS] F):=by
 refine (g.g glob hG).weaken fun args nd v e=>?_
 unfold good4 at e
 split at e
 .rename_i s a b c d hr
  cases e
  refine ⟨.tt,(outS (F a b c d)).av s,?_,fun hn=>⟨trivial,fun σ W hW=>outS_good hW hn⟩⟩
  unfold sBin numSpec
  rw [hr]
 .cases e
theorem good_un {f:FuncId} {F:Int->Int->Sp} (g:PureOk Tryz.prog f (sUn F)):GOk Tryz.prog glob hG f (good2 [shS] F):=by
 refine (g.g glob hG).weaken fun args nd v e=>?_
 unfold good2 at e
 split at e
 .rename_i s a b hr
  cases e
  refine ⟨.tt,(outS (F a b)).av s,?_,fun hn=>⟨trivial,fun σ W hW=>outS_good hW hn⟩⟩
  unfold sUn numSpec
  rw [hr]
 .cases e
def nOkSp:List Nu->Bool
 | [.n a,.n b]=>okSp a b
 | _=>false
def chkSpec:PSpec:=fun args=>match Sh.readL [shS] args with
 | some (_,[.n a,.n b])=>some (.p (okSp a b=true),.int false .i64 0)
 | _=>none
theorem chk_of {f:FuncId} (g:GOk Tryz.prog glob hG f (constSpec [shS] nOkSp (.int false .i64 0))):GOk Tryz.prog glob hG f chkSpec:=by
 refine g.weaken fun args nd v e=>?_
 unfold chkSpec at e
 split at e
 .rename_i s a b hr
  cases e
  refine ⟨.p (nOkSp [.n a,.n b]=true),.int false .i64 0,?_,fun hn=>⟨hn,fun σ W hW=>hW⟩⟩
  unfold constSpec
  rw [hr]
 .cases e
theorem chk0:GOk Tryz.prog glob hG 18 chkSpec:=chk_of <|
 const_of (schk_ok.g glob hG) fun xs hk hn=>by
  obtain ⟨a,_,rfl,h1⟩:=kn hk; obtain ⟨b,_,rfl,h2⟩:=kn h1; obtain rfl:=k0 h2
  show Tm.n IntKind.i64 (chkS a b)=_
  unfold chkS
  rw [show okSp a b=true from hn]; rfl
end
end Go.Proofs.YtjcicegihechmaaGreatDoor.K
namespace Go.Proofs.YtjcicegihechmaaGreatDoor.K
open Go Go.Eng Go.Ar Go.Rd
noncomputable section
theorem hG_ok:hG.ok:=rfl
def nI:Sh:=.i .i64
def kd (n:Int):Sh:=.c (.int false .i64 n)
end
end Go.Proofs.YtjcicegihechmaaGreatDoor.K
namespace Go.Proofs.YtjcicegihechmaaGreatDoor.K
open Go Go.Eng Go.Ar Go.Rd
noncomputable section
noncomputable def cE:Ctx:=mkC Tryz.prog [] ext
theorem cE_ok:CtxOk cE:=mkC_ok prog_ok (fun _ h=>by cases h) ext_ok
def nmFr:AFr:=⟨49,none⟩
noncomputable def nmA:Code:=loopOf Tryz.prog 49 0
def nmS (b:ByteArray):St:=⟨[⟨0,.str true b⟩,⟨0,.tuple []⟩,⟨3,.bool false false⟩,⟨0,.tuple []⟩,⟨4,.str true b⟩,⟨5,.int true .i64 b.size⟩,⟨6,.int false .i64 0⟩]++blankT 16,[],⟨[],0,7⟩⟩
def nmD:List (Nat×AV):=(3,.any false) :: deadT 7 8
def nmP (i:Int):Patch:=⟨nmD++[(6,.int true .i64 i)],[],[]⟩
def nmO:Patch:=⟨nmD++[(6,.any false)],[],[]⟩
def nmT:Patch:=⟨nmD++[(6,.any false),(2,.bool false false)],[],[]⟩
def nmU (b:ByteArray):Sum Int:=
 {
  S:=nmP
  I:=fun y=>0<=y/\y<=b.size
  μ:=fun y=>(b.size - y).toNat
  F:=fun y=>bif nmAll letP b (b.size - y).toNat y then (.exit 0,nmO) else (.ret,nmT)
  next:=fun y=>IntKind.i64.wrap (y+1)
  ids:=[]
  X:=fun _ x=>match x with
   | .ret=>some (nmT,[])
   | _=>some (nmO,[]) }
def rmFr:AFr:=⟨108,none⟩
noncomputable def rmA:Code:=loopOf Tryz.prog 108 0
def rmS (b:ByteArray):St:=⟨[⟨0,.str true b⟩,⟨0,.tuple []⟩,⟨3,.bool false false⟩,⟨4,.int false .i64 0⟩]++blankT 49,[],⟨[],0,5⟩⟩
def rmD:List (Nat×AV):=deadT 4 41
def rmP (i:Int):Patch:=⟨rmD++[(3,.int true .i64 i)],[],[]⟩
def rmO:Patch:=⟨rmD++[(3,.any false)],[],[]⟩
def rmT:Patch:=⟨rmD++[(3,.any false),(2,.bool false false)],[],[]⟩
def rmU (b:ByteArray):Sum Int:=
 {
  S:=rmP
  I:=fun y=>0<=y/\y<=b.size
  μ:=fun y=>(b.size - y).toNat
  F:=fun y=>bif nmAll letP b (b.size - y).toNat y then (.exit 0,rmO) else (.ret,rmT)
  next:=fun y=>IntKind.i64.wrap (y+1)
  ids:=[]
  X:=fun _ x=>match x with
   | .ret=>some (rmT,[])
   | _=>some (rmO,[]) }
end
end Go.Proofs.YtjcicegihechmaaGreatDoor.K
namespace Go.Proofs.YtjcicegihechmaaGreatDoor.K
open Go Go.Eng Go.Ar Go.Rd
noncomputable section
def nmL (b:ByteArray) (i:Int):Bool:=letP (cAt b i)
def nmI (b:ByteArray) (i:Int):Bool:=decide (i<(b.size:Int))
def nmNd (U:Sum Int) (x y:Ex×Patch) (go stop:Bool) (b:ByteArray) (i:Int):Prop:=
 (nmI b i=true->0<=i/\i<(b.size:Int)) /\
 ((!nmI b i)=true->U.F i=x) /\
 ((nmI b i&&go)=true->IntKind.i64.wrap (i+1)=IntKind.i64.wrap (i+1)/\U.I (U.next i)/\U.μ (U.next i)<U.μ i/\U.F (U.next i)=U.F i) /\
 ((nmI b i&&stop)=true->U.F i=y)
theorem nm_run (b:ByteArray) (i:Int):chkR (nmS b) ((nmU b).way i) ((run cE 300).code nmFr nmA (patch (nmS b) ((nmU b).S i)))=some (.p (nmNd (nmU b) (.exit 0,nmO) (.ret,nmT) (!!nmL b i) (!nmL b i) b i)):=by kernel_rfl
theorem rm_run (b:ByteArray) (i:Int):chkR (rmS b) ((rmU b).way i) ((run cE 300).code rmFr rmA (patch (rmS b) ((rmU b).S i)))=some (.p (nmNd (rmU b) (.exit 0,rmO) (.ret,rmT) (!letN (cAt b i)) (letN (cAt b i)) b i)):=by kernel_rfl
theorem nm_start (b:ByteArray):fit (nmS b) (nmS b) (patch (nmS b) ((nmU b).S 0)) []=some (.p ((0:Int)=0)):=by kernel_rfl
theorem rm_start (b:ByteArray):fit (rmS b) (rmS b) (patch (rmS b) ((rmU b).S 0)) []=some (.p ((0:Int)=0)):=by kernel_rfl
theorem nm_step {b:ByteArray} (hb:b.size<1000000000) {i:Int} (h0:0<=i) (h1:i<=b.size) {x y:Ex×Patch} {U:Sum Int} (hI:U.I=fun y:Int=>0<=y/\y<=(b.size:Int)) (hm:U.μ=fun y:Int=>((b.size:Int) - y).toNat) (hF:U.F=fun y':Int=>bif nmAll letP b ((b.size:Int) - y').toNat y' then x else y) (hn:U.next=fun y:Int=>IntKind.i64.wrap (y+1)) {go stop:Bool} (hg:go=nmL b i) (hs:stop=!nmL b i):nmNd U x y go stop b i:=by
 have w:IntKind.i64.wrap (i+1)=i+1:=i64w (by omega) (by omega)
 subst hg hs
 unfold nmNd nmI
 rw [hI,hm,hF,hn]
 simp only [w,decide_eq_true_eq,Bool.and_eq_true,Bool.not_eq_true',decide_eq_false_iff_not,Bool.not_not]
 have step:i<b.size->((b.size:Int) - i).toNat=((b.size:Int) - (i+1)).toNat+1:=fun h=>by omega
 refine ⟨fun h=>⟨h0,h⟩,fun h=>?_,fun h=>⟨trivial,⟨by omega,by omega⟩,by omega,?_⟩,fun h=>?_⟩
 .rw [show ((b.size:Int) - i).toNat=0 by omega]; rfl
 .rw [step h.1,nmAll,show letP (cAt b i)=true from h.2,w,Bool.true_and]
 .rw [step h.1,nmAll,show letP (cAt b i)=false from h.2,Bool.false_and]; rfl
theorem nm_loop {b:ByteArray} (hb:b.size<1000000000):CodeOk cE nmFr (.loop nmA) (nmS b) ⟨.tt,[⟨.b (nmAll letP b b.size 0),.exit 0,patch (nmS b) nmO⟩,⟨.b (!nmAll letP b b.size 0),.ret,patch (nmS b) nmT⟩]⟩:=
 sum_two (run_sound cE_ok 300) (nmU b) (y0:=0) (show (0:Int)<=0/\(0:Int)<=b.size by omega) ⟨_,nm_start b,rfl⟩ (by kernel_rfl) (fun y hy=>⟨_,nm_run b y,nm_step hb hy.1 hy.2 rfl rfl rfl rfl (Bool.not_not _) rfl⟩) (show (bif nmAll letP b ((b.size:Int) - 0).toNat 0 then _ else _)=_ by rw [show ((b.size:Int) - 0).toNat=b.size by omega])
theorem rm_loop {b:ByteArray} (hb:b.size<1000000000):CodeOk cE rmFr (.loop rmA) (rmS b) ⟨.tt,[⟨.b (nmAll letP b b.size 0),.exit 0,patch (rmS b) rmO⟩,⟨.b (!nmAll letP b b.size 0),.ret,patch (rmS b) rmT⟩]⟩:=
 sum_two (run_sound cE_ok 300) (rmU b) (y0:=0) (show (0:Int)<=0/\(0:Int)<=b.size by omega) ⟨_,rm_start b,rfl⟩ (by kernel_rfl) (fun y hy=>⟨_,rm_run b y,nm_step hb hy.1 hy.2 rfl rfl rfl rfl (by rw [letN_eq,Bool.not_not]; rfl) (letN_eq _)⟩) (show (bif nmAll letP b ((b.size:Int) - 0).toNat 0 then _ else _)=_ by rw [show ((b.size:Int) - 0).toNat=b.size by omega])
noncomputable def cNa (b:ByteArray):Ctx:=withLoops cE [twoLoop 49 7 nmFr nmA (nmS b) (nmAll letP b b.size 0) (.exit 0) nmO .ret nmT]
theorem cNa_ok {b:ByteArray} (hb:b.size<1000000000):CtxOk (cNa b):=withTwo_ok cE_ok (nm_loop hb) (withNone_ok cE_ok)
noncomputable def cRa (b:ByteArray):Ctx:=withLoops cE [twoLoop 108 5 rmFr rmA (rmS b) (nmAll letP b b.size 0) (.exit 0) rmO .ret rmT]
theorem cRa_ok {b:ByteArray} (hb:b.size<1000000000):CtxOk (cRa b):=withTwo_ok cE_ok (rm_loop hb) (withNone_ok cE_ok)
def nmV2 (b:ByteArray):Bool:=bif !nmAll letP b b.size 0 then false else nmLen b.size
theorem name_run (b:ByteArray):oneV ((run (cNa b) 300).call 49 [.str true b] ⟨[],0,1⟩)=some (.p (At nmFr nmFr nmA nmA (nmS b) (nmS b)),.bool true (nmV2 b)):=by kernel_rfl
theorem rname_run (b:ByteArray):oneV ((run (cRa b) 300).call 108 [.str true b] ⟨[],0,1⟩)=some (.p (At rmFr rmFr rmA rmA (rmS b) (rmS b)),.bool true (nmV2 b)):=by kernel_rfl
end
end Go.Proofs.YtjcicegihechmaaGreatDoor.K
namespace Go.Proofs.YtjcicegihechmaaGreatDoor.K
open Go Go.Eng Go.Ar Go.Rd
noncomputable section
theorem nmV2_eq (b:ByteArray):nmV2 b=nameB b:=by
 unfold nmV2 nameB
 cases nmAll letP b b.size 0 <;> rfl
def nameS:PSpec:=fun args=>match args with
 | [.str _ b]=>some (.p (b.size<1000000000),.bool true (nameB b))
 | _=>none
theorem gname_ok:PureOk Tryz.prog 49 nameS:=by
 refine pure_runs (fun args nd v e hn=>?_) ⟨_,Tryz.func49,rfl⟩
 unfold nameS at e
 split at e
 .rename_i s b
  cases e
  have:=name_run b
  rw [nmV2_eq] at this
  exact ⟨cNa b,300,[.str true b],_,_,cNa_ok hn,rfl,fun _=>rfl,fun σ L h=>h,this,⟨rfl,rfl,rfl⟩,fun τ V h σ=>h⟩
 .cases e
theorem rname_ok:PureOk Tryz.prog 108 nameS:=by
 refine pure_runs (fun args nd v e hn=>?_) ⟨_,Tryz.func108,rfl⟩
 unfold nameS at e
 split at e
 .rename_i s b
  cases e
  have:=rname_run b
  rw [nmV2_eq] at this
  exact ⟨cRa b,300,[.str true b],_,_,cRa_ok hn,rfl,fun _=>rfl,fun σ L h=>h,this,⟨rfl,rfl,rfl⟩,fun τ V h σ=>h⟩
 .cases e
def tblNm:List (FuncId×PSpec):=[(49,nameS),(108,nameS)]
theorem tblNm_g:∀ x∈tblNm,GOk Tryz.prog glob hG x.1 x.2:=by
 intro x hx
 simp only [tblNm,List.mem_cons,List.not_mem_nil,or_false] at hx
 rcases hx with rfl|rfl
 .exact gname_ok.g glob hG
 .exact rname_ok.g glob hG
def cNm:Ctx:=mkG Tryz.prog glob hG tblNm ext
theorem cNm_ok:CtxOk cNm:=mkG_ok prog_ok ext_ok tblNm_g
def suA (s:Su) (kd:AV) (n:Nat):AV:=.agg (s.cells kd++[.pslice hG.size n false n])
def suH (n:Nat) (x:Nat->Int):Hp:=viewsH false hG [(.i64,spinF (3*n) 0 x)]
end
end Go.Proofs.YtjcicegihechmaaGreatDoor.K
namespace Go.Proofs.YtjcicegihechmaaGreatDoor.K
open Go Go.Eng Go.Ar Go.Rd
noncomputable section
def cNk:Ctx:={ cNm with hintT:=fun c=>match Nat.beq c 79 with|true=>some (5,.bool false false)|false=>none }
theorem cNk_ok:CtxOk cNk:=⟨cNm_ok.prog,cNm_ok.con,cNm_ok.ext,cNm_ok.loop,cNm_ok.two⟩
def rn (C:Ctx) (f:FuncId) (s:Su) (kd:AV) (n:Nat) (x:Nat->Int):Option (Nd×AV):=oneG (hG.size+1) hG.clock ((run C 1000).call f [suA s kd n] (suH n x))
def fz (n:Nat) (x:Nat->Int):List Int:=spinF (3*n) 0 x
end
end Go.Proofs.YtjcicegihechmaaGreatDoor.K
