/- What is proved: SurfaceSets returns true, whatever the input (part 19 of 31). No conditions beyond those of the row. -/
import Derived.Test.YtiigkjnhmipnfaaGreatDoorPH
import Derived.Test.YtiigkjnhmipnfaaGreatDoorPI
import Derived.Test.YtiigkjnhmipnfaaGreatDoorPJ
import Derived.Test.YtiigkjnhmipnfaaGreatDoorPK
import Derived.Test.YtiigkjnhmipnfaaGreatDoorPP
import Derived.Test.YtiigkjnhmipnfaaGreatDoorPR
set_option linter.unusedVariables false
set_option linter.unusedSimpArgs false
set_option linter.unusedSectionVars false
namespace Go.Proofs.YtiigkjnhmipnfaaGreatDoor.K
open Go Go.Eng Go.Ar Go.Rd
noncomputable section
end
end Go.Proofs.YtiigkjnhmipnfaaGreatDoor.K
namespace Go.Proofs.YtiigkjnhmipnfaaGreatDoor.K
open Go Go.Eng Go.Ar
noncomputable section
def sS : Sh := .a [.i .i64, .i .i64]
end
end Go.Proofs.YtiigkjnhmipnfaaGreatDoor.K
namespace Go.Proofs.YtiigkjnhmipnfaaGreatDoor.K
open Go Go.Eng Go.Ar Go.Rd
noncomputable section
end
end Go.Proofs.YtiigkjnhmipnfaaGreatDoor.K
namespace Go.Proofs.YtiigkjnhmipnfaaGreatDoor.K
open Go Go.Eng Go.Ar Go.Rd
noncomputable section
end
end Go.Proofs.YtiigkjnhmipnfaaGreatDoor.K
namespace Go.Rd
open Go Go.Eng Go.Ar
section
variable (c k a0 a1 a2 a3 a b d e : Int)
end
section
variable (c k l m a b d e : Int)
end
end Go.Rd
namespace Go.Rd
open Go Go.Eng Go.Ar
section
variable (c k a0 a1 a2 a3 a b d e : Int)
end
end Go.Rd
namespace Go.Rd
open Go Go.Eng Go.Ar
structure Vs where
 c : Int
 k : Int
 a0 : Int
 a1 : Int
 a2 : Int
 a3 : Int
 a : Int
 b : Int
 x : Int
 y : Int
structure Vx where
 c : Int
 k : Int
 l : Int
 m : Int
 a : Int
 b : Int
 x : Int
 y : Int
abbrev U0 (v : Vs) : Sp := u0 v.c v.k v.a v.b v.x v.y
end Go.Rd
namespace Go.Rd
open Go Go.Eng Go.Ar
theorem okSc_of {n d M : Int} (hn : -M ≤ n ∧ n ≤ M) (h : 4503599627370496 * M < 18446744073709551615 * d) : okSc n d := fun _ => by
 have : sg n n ≤ M := by
  unfold sg
  cases h : decide (n < 0) with
  | true => show -n ≤ M; omega
  | false => show n ≤ M; omega
 omega
theorem okR_of {n d : Int} (h1 : -4611686018427387904 ≤ n) (h2 : n ≤ 4611686018427387904) (h3 : 1 ≤ d) (h4 : d ≤ 4611686018427387904) : okR n d = true := by
 unfold okR; simp [h1, h2, h3, h4]
theorem sc_c {c : Int} (h : inL c) : okSc c 1000000000 := okSc_of (M := 1000000000) h (by decide)
theorem sc_a {c : Int} (h : inL c) : okSc c 1000000 := okSc_of (M := 1000000000) h (by decide)
theorem ok_c {c : Int} (h : inL c) : okR c 1000000000 = true := by unfold inL at h; exact okR_of (by omega) (by omega) (by decide) (by decide)
theorem wkK {k : Int} (h : inK k) : IntKind.i64.wrap (1000000 + k) = 1000000 + k := i64w (by unfold inK at h; omega) (by unfold inK at h; omega)
theorem sc_k {k : Int} (h : inK k) : okSc (IntKind.i64.wrap (1000000 + k)) 1000000 := by
 rw [wkK h]
 exact okSc_of (M := 101000000) (by unfold inK at h; omega) (by decide)
theorem ok_k {k : Int} (h : inK k) : okR (IntKind.i64.wrap (1000000 + k)) 1000000 = true := by
 rw [wkK h]; unfold inK at h; exact okR_of (by omega) (by omega) (by decide) (by decide)
theorem sc_h : okSc 1 100 := okSc_of (M := 1) (by decide) (by decide)
theorem z0e {s : Sp} (h : z0 s = true) : s.e = 0 := by unfold z0 at h; simpa using h
theorem one_ri : Ri ⟨4294967296, 4294967296, 0⟩ := ⟨by decide, by decide, by decide⟩
section
variable {c k a0 a1 a2 a3 a b x y : Int} (hc : inL c) (hk : inK k) (hx : okSp a b = true) (hy : okSp x y = true)
include hx in theorem K0 : okE (s0 c k a b x y) := e_sqr (s := ⟨a, b, 0⟩) (Ri.of hx)
include hx in theorem R0 (h : z0 (s0 c k a b x y) = true) : Ri (s0 c k a b x y) := r_sqr (s := ⟨a, b, 0⟩) (Ri.of hx) (z0e h)
include hy in theorem K1 : okE (s1 c k a b x y) := e_sqr (s := ⟨x, y, 0⟩) (Ri.of hy)
include hy in theorem R1 (h : z0 (s1 c k a b x y) = true) : Ri (s1 c k a b x y) := r_sqr (s := ⟨x, y, 0⟩) (Ri.of hy) (z0e h)
include hx hy in theorem K2 (h0 : z0 (s0 c k a b x y) = true) (h1 : z0 (s1 c k a b x y) = true) : okE (s2 c k a b x y) := e_add (R0 hx h0) (R1 hy h1)
include hx hy in theorem R2 (h0 : z0 (s0 c k a b x y) = true) (h1 : z0 (s1 c k a b x y) = true) (h2 : z0 (s2 c k a b x y) = true) : Ri (s2 c k a b x y) := r_add (R0 hx h0) (R1 hy h1) (z0e h2)
include hx hy hc in theorem K3 (h0 : z0 (s0 c k a b x y) = true) (h1 : z0 (s1 c k a b x y) = true) (h2 : z0 (s2 c k a b x y) = true) : okE (s3 c k a b x y) := e_sc (R2 hx hy h0 h1 h2) (sc_c hc) (ok_c hc)
include hx hy hc in theorem R3 (h0 : z0 (s0 c k a b x y) = true) (h1 : z0 (s1 c k a b x y) = true) (h2 : z0 (s2 c k a b x y) = true) (h3 : z0 (s3 c k a b x y) = true) : Ri (s3 c k a b x y) := r_sc (R2 hx hy h0 h1 h2) (sc_c hc) (z0e h3)
include hx hy hc in theorem K4 (h0 : z0 (s0 c k a b x y) = true) (h1 : z0 (s1 c k a b x y) = true) (h2 : z0 (s2 c k a b x y) = true) (h3 : z0 (s3 c k a b x y) = true) : okE (s4 c k a b x y) := e_sc (R3 hc hx hy h0 h1 h2 h3) (sc_c hc) (ok_c hc)
include hx hy hc in theorem R4 (h0 : z0 (s0 c k a b x y) = true) (h1 : z0 (s1 c k a b x y) = true) (h2 : z0 (s2 c k a b x y) = true) (h3 : z0 (s3 c k a b x y) = true) (h4 : z0 (s4 c k a b x y) = true) : Ri (s4 c k a b x y) := r_sc (R3 hc hx hy h0 h1 h2 h3) (sc_c hc) (z0e h4)
include hx hy hc hk in theorem K5 (h0 : z0 (s0 c k a b x y) = true) (h1 : z0 (s1 c k a b x y) = true) (h2 : z0 (s2 c k a b x y) = true) (h3 : z0 (s3 c k a b x y) = true) (h4 : z0 (s4 c k a b x y) = true) : okE (s5 c k a b x y) := e_sc (R4 hc hx hy h0 h1 h2 h3 h4) (sc_k hk) (ok_k hk)
include hx hy hc hk in theorem R5 (h0 : z0 (s0 c k a b x y) = true) (h1 : z0 (s1 c k a b x y) = true) (h2 : z0 (s2 c k a b x y) = true) (h3 : z0 (s3 c k a b x y) = true) (h4 : z0 (s4 c k a b x y) = true) (h5 : z0 (s5 c k a b x y) = true) : Ri (s5 c k a b x y) := r_sc (R4 hc hx hy h0 h1 h2 h3 h4) (sc_k hk) (z0e h5)
include hx hy hc hk in theorem K6 (h0 : z0 (s0 c k a b x y) = true) (h1 : z0 (s1 c k a b x y) = true) (h2 : z0 (s2 c k a b x y) = true) (h3 : z0 (s3 c k a b x y) = true) (h4 : z0 (s4 c k a b x y) = true) (h5 : z0 (s5 c k a b x y) = true) : okE (s6 c k a b x y) := e_sub one_ri (R5 hc hk hx hy h0 h1 h2 h3 h4 h5)
def H6 (c k a b x y : Int) : Prop := z0 (s0 c k a b x y) = true ∧ z0 (s1 c k a b x y) = true ∧ z0 (s2 c k a b x y) = true ∧ z0 (s3 c k a b x y) = true ∧ z0 (s4 c k a b x y) = true ∧ z0 (s5 c k a b x y) = true ∧ z0 (s6 c k a b x y) = true
include hx hy hc hk in theorem R6 (h : H6 c k a b x y) : Ri (s6 c k a b x y) := r_sub one_ri (R5 hc hk hx hy h.1 h.2.1 h.2.2.1 h.2.2.2.1 h.2.2.2.2.1 h.2.2.2.2.2.1) (z0e h.2.2.2.2.2.2)
include hx hy hc hk in theorem K7 (h : H6 c k a b x y) (p : 0 < (s6 c k a b x y).lo) : okE (s7 c k a b x y) := e_rt (R6 hc hk hx hy h) p
include hx hy hc hk in theorem R7 (h : H6 c k a b x y) (h7 : z0 (s7 c k a b x y) = true) : Ri (s7 c k a b x y) := r_rt (R6 hc hk hx hy h) (z0e h7)
include hx hy hc hk in theorem P7 (h : H6 c k a b x y) (p : 0 < (s6 c k a b x y).lo) : 0 < (s7 c k a b x y).lo := rt_pos (R6 hc hk hx hy h) p
include hx hy hc in theorem K8 (h : H6 c k a b x y) : okE (s8 c k a b x y) := e_add (R3 hc hx hy h.1 h.2.1 h.2.2.1 h.2.2.2.1) (t := ⟨0, 0, 0⟩) zero_ri
include hx hy hc in theorem R8 (h : H6 c k a b x y) (h8 : z0 (s8 c k a b x y) = true) : Ri (s8 c k a b x y) := r_add (R3 hc hx hy h.1 h.2.1 h.2.2.1 h.2.2.2.1) (t := ⟨0, 0, 0⟩) zero_ri (z0e h8)
include hx hy hc hk in theorem K9 (h : H6 c k a b x y) (h7 : z0 (s7 c k a b x y) = true) : okE (s9 c k a b x y) := e_add one_ri (R7 hc hk hx hy h h7)
include hx hy hc hk in theorem R9 (h : H6 c k a b x y) (h7 : z0 (s7 c k a b x y) = true) (h9 : z0 (s9 c k a b x y) = true) : Ri (s9 c k a b x y) := r_add one_ri (R7 hc hk hx hy h h7) (z0e h9)
include hx hy hc hk in theorem P9 (h : H6 c k a b x y) (p : 0 < (s6 c k a b x y).lo) (h7 : z0 (s7 c k a b x y) = true) (h9 : z0 (s9 c k a b x y) = true) : 0 < (s9 c k a b x y).lo := add_pos one_ri (R7 hc hk hx hy h h7) (z0e h9) (by decide) (by have := P7 hc hk hx hy h p; omega)
include hx hy hc hk in theorem K10 (h : H6 c k a b x y) (p : 0 < (s6 c k a b x y).lo) (h7 : z0 (s7 c k a b x y) = true) (h8 : z0 (s8 c k a b x y) = true) (h9 : z0 (s9 c k a b x y) = true) : okE (s10 c k a b x y) := e_div (R8 hc hx hy h h8) (R9 hc hk hx hy h h7 h9) (P9 hc hk hx hy h p h7 h9)
include hx hy hc hk in theorem R10 (h : H6 c k a b x y) (h7 : z0 (s7 c k a b x y) = true) (h8 : z0 (s8 c k a b x y) = true) (h9 : z0 (s9 c k a b x y) = true) (h10 : z0 (s10 c k a b x y) = true) : Ri (s10 c k a b x y) := r_div (R8 hc hx hy h h8) (R9 hc hk hx hy h h7 h9) (z0e h10)
include hx hy in theorem KU0 (h0 : z0 (s0 c k a b x y) = true) (h1 : z0 (s1 c k a b x y) = true) (h2 : z0 (s2 c k a b x y) = true) : okE (u0 c k a b x y) := e_sc (R2 hx hy h0 h1 h2) sc_h (by decide)
include hx hy in theorem RU0 (h0 : z0 (s0 c k a b x y) = true) (h1 : z0 (s1 c k a b x y) = true) (h2 : z0 (s2 c k a b x y) = true) (u : z0 (u0 c k a b x y) = true) : Ri (u0 c k a b x y) := r_sc (R2 hx hy h0 h1 h2) sc_h (z0e u)
theorem RCA {n : Int} (h : inL n) (u : z0 (ca n) = true) : Ri (ca n) := r_sc (s := ⟨4294967296, 4294967296, 0⟩) one_ri (sc_a h) (z0e u)
variable (i0 : inL a0) (i1 : inL a1) (i2 : inL a2) (i3 : inL a3)
def HU (c k a0 a1 a2 a3 a b x y : Int) : Prop := (z0 (s0 c k a b x y) = true ∧ z0 (s1 c k a b x y) = true ∧ z0 (s2 c k a b x y) = true ∧ z0 (u0 c k a b x y) = true) ∧ z0 (ca a0) = true ∧ z0 (ca a1) = true ∧ z0 (ca a2) = true ∧ z0 (ca a3) = true
include hx hy in theorem HU.r (h : HU c k a0 a1 a2 a3 a b x y) : Ri (u0 c k a b x y) := RU0 hx hy h.1.1 h.1.2.1 h.1.2.2.1 h.1.2.2.2
include hx hy i0 i1 i2 i3 in theorem KU1 (h : HU c k a0 a1 a2 a3 a b x y) : okE (u1 c k a0 a1 a2 a3 a b x y) := evl_e (h.r hx hy) (RCA i0 h.2.1) (RCA i1 h.2.2.1) (RCA i2 h.2.2.2.1) (RCA i3 h.2.2.2.2)
include hx hy i0 i1 i2 i3 in theorem RU1 (h : HU c k a0 a1 a2 a3 a b x y) (u : z0 (u1 c k a0 a1 a2 a3 a b x y) = true) : Ri (u1 c k a0 a1 a2 a3 a b x y) := evl_r (h.r hx hy) (RCA i0 h.2.1) (RCA i1 h.2.2.1) (RCA i2 h.2.2.2.1) (RCA i3 h.2.2.2.2) (z0e u)
include hx hy in theorem KU2 (h : HU c k a0 a1 a2 a3 a b x y) : okE (u2 c k a b x y) := e_sqr (h.r hx hy)
include hx hy in theorem RU2 (h : HU c k a0 a1 a2 a3 a b x y) (u : z0 (u2 c k a b x y) = true) : Ri (u2 c k a b x y) := r_sqr (h.r hx hy) (z0e u)
include hx hy i0 i1 i2 i3 in theorem KU3 (h : HU c k a0 a1 a2 a3 a b x y) (v1 : z0 (u1 c k a0 a1 a2 a3 a b x y) = true) (v2 : z0 (u2 c k a b x y) = true) : okE (u3 c k a0 a1 a2 a3 a b x y) := e_mul (RU2 hx hy h v2) (RU1 hx hy i0 i1 i2 i3 h v1)
include hx hy i0 i1 i2 i3 in theorem RU3 (h : HU c k a0 a1 a2 a3 a b x y) (v1 : z0 (u1 c k a0 a1 a2 a3 a b x y) = true) (v2 : z0 (u2 c k a b x y) = true) (v3 : z0 (u3 c k a0 a1 a2 a3 a b x y) = true) : Ri (u3 c k a0 a1 a2 a3 a b x y) := r_mul (RU2 hx hy h v2) (RU1 hx hy i0 i1 i2 i3 h v1) (z0e v3)
include hx hy hc hk i0 i1 i2 i3 in theorem KU4 (g : H6 c k a b x y) (h7 : z0 (s7 c k a b x y) = true) (h8 : z0 (s8 c k a b x y) = true) (h9 : z0 (s9 c k a b x y) = true) (h10 : z0 (s10 c k a b x y) = true) (h : HU c k a0 a1 a2 a3 a b x y) (v1 : z0 (u1 c k a0 a1 a2 a3 a b x y) = true) (v2 : z0 (u2 c k a b x y) = true) (v3 : z0 (u3 c k a0 a1 a2 a3 a b x y) = true) : okE (u4 c k a0 a1 a2 a3 a b x y) := e_add (R10 hc hk hx hy g h7 h8 h9 h10) (RU3 hx hy i0 i1 i2 i3 h v1 v2 v3)
end
end Go.Rd
namespace Go.Rd
open Go Go.Eng Go.Ar
section
variable {c k l m a b x y : Int} (hc : inL c) (hk : inK k) (hl : inL l) (hm : inK m) (hx : okSp a b = true) (hy : okSp x y = true)
include hc hk hl hm hx hy in theorem BK0  : okE (b0 c k l m a b x y) := e_sqr (Ri.of (s := ⟨a, b, 0⟩) hx)
include hc hk hl hm hx hy in theorem BR0 (e0 : z0 (b0 c k l m a b x y) = true) : Ri (b0 c k l m a b x y) := r_sqr (Ri.of (s := ⟨a, b, 0⟩) hx) (z0e e0)
include hc hk hl hm hx hy in theorem BK1 (e0 : z0 (b0 c k l m a b x y) = true) : okE (b1 c k l m a b x y) := e_sc (BR0 hc hk hl hm hx hy e0) (sc_c hl) (ok_c hl)
include hc hk hl hm hx hy in theorem BR1 (e0 : z0 (b0 c k l m a b x y) = true) (e1 : z0 (b1 c k l m a b x y) = true) : Ri (b1 c k l m a b x y) := r_sc (BR0 hc hk hl hm hx hy e0) (sc_c hl) (z0e e1)
include hc hk hl hm hx hy in theorem BK2  : okE (b2 c k l m a b x y) := e_sqr (Ri.of (s := ⟨x, y, 0⟩) hy)
include hc hk hl hm hx hy in theorem BR2 (e2 : z0 (b2 c k l m a b x y) = true) : Ri (b2 c k l m a b x y) := r_sqr (Ri.of (s := ⟨x, y, 0⟩) hy) (z0e e2)
include hc hk hl hm hx hy in theorem BK3 (e2 : z0 (b2 c k l m a b x y) = true) : okE (b3 c k l m a b x y) := e_sc (BR2 hc hk hl hm hx hy e2) (sc_c hc) (ok_c hc)
include hc hk hl hm hx hy in theorem BR3 (e2 : z0 (b2 c k l m a b x y) = true) (e3 : z0 (b3 c k l m a b x y) = true) : Ri (b3 c k l m a b x y) := r_sc (BR2 hc hk hl hm hx hy e2) (sc_c hc) (z0e e3)
include hc hk hl hm hx hy in theorem BK4 (e0 : z0 (b0 c k l m a b x y) = true) (e1 : z0 (b1 c k l m a b x y) = true) : okE (b4 c k l m a b x y) := e_sc (BR1 hc hk hl hm hx hy e0 e1) (sc_c hl) (ok_c hl)
include hc hk hl hm hx hy in theorem BR4 (e0 : z0 (b0 c k l m a b x y) = true) (e1 : z0 (b1 c k l m a b x y) = true) (e4 : z0 (b4 c k l m a b x y) = true) : Ri (b4 c k l m a b x y) := r_sc (BR1 hc hk hl hm hx hy e0 e1) (sc_c hl) (z0e e4)
include hc hk hl hm hx hy in theorem BK5 (e2 : z0 (b2 c k l m a b x y) = true) (e3 : z0 (b3 c k l m a b x y) = true) : okE (b5 c k l m a b x y) := e_sc (BR3 hc hk hl hm hx hy e2 e3) (sc_c hc) (ok_c hc)
include hc hk hl hm hx hy in theorem BR5 (e2 : z0 (b2 c k l m a b x y) = true) (e3 : z0 (b3 c k l m a b x y) = true) (e5 : z0 (b5 c k l m a b x y) = true) : Ri (b5 c k l m a b x y) := r_sc (BR3 hc hk hl hm hx hy e2 e3) (sc_c hc) (z0e e5)
include hc hk hl hm hx hy in theorem BK6 (e0 : z0 (b0 c k l m a b x y) = true) (e1 : z0 (b1 c k l m a b x y) = true) (e4 : z0 (b4 c k l m a b x y) = true) : okE (b6 c k l m a b x y) := e_sc (BR4 hc hk hl hm hx hy e0 e1 e4) (sc_k hm) (ok_k hm)
include hc hk hl hm hx hy in theorem BR6 (e0 : z0 (b0 c k l m a b x y) = true) (e1 : z0 (b1 c k l m a b x y) = true) (e4 : z0 (b4 c k l m a b x y) = true) (e6 : z0 (b6 c k l m a b x y) = true) : Ri (b6 c k l m a b x y) := r_sc (BR4 hc hk hl hm hx hy e0 e1 e4) (sc_k hm) (z0e e6)
include hc hk hl hm hx hy in theorem BK7 (e2 : z0 (b2 c k l m a b x y) = true) (e3 : z0 (b3 c k l m a b x y) = true) (e5 : z0 (b5 c k l m a b x y) = true) : okE (b7 c k l m a b x y) := e_sc (BR5 hc hk hl hm hx hy e2 e3 e5) (sc_k hk) (ok_k hk)
include hc hk hl hm hx hy in theorem BR7 (e2 : z0 (b2 c k l m a b x y) = true) (e3 : z0 (b3 c k l m a b x y) = true) (e5 : z0 (b5 c k l m a b x y) = true) (e7 : z0 (b7 c k l m a b x y) = true) : Ri (b7 c k l m a b x y) := r_sc (BR5 hc hk hl hm hx hy e2 e3 e5) (sc_k hk) (z0e e7)
include hc hk hl hm hx hy in theorem BK8 (e0 : z0 (b0 c k l m a b x y) = true) (e1 : z0 (b1 c k l m a b x y) = true) (e2 : z0 (b2 c k l m a b x y) = true) (e3 : z0 (b3 c k l m a b x y) = true) (e4 : z0 (b4 c k l m a b x y) = true) (e5 : z0 (b5 c k l m a b x y) = true) (e6 : z0 (b6 c k l m a b x y) = true) (e7 : z0 (b7 c k l m a b x y) = true) : okE (b8 c k l m a b x y) := e_add (BR6 hc hk hl hm hx hy e0 e1 e4 e6) (BR7 hc hk hl hm hx hy e2 e3 e5 e7)
include hc hk hl hm hx hy in theorem BR8 (e0 : z0 (b0 c k l m a b x y) = true) (e1 : z0 (b1 c k l m a b x y) = true) (e2 : z0 (b2 c k l m a b x y) = true) (e3 : z0 (b3 c k l m a b x y) = true) (e4 : z0 (b4 c k l m a b x y) = true) (e5 : z0 (b5 c k l m a b x y) = true) (e6 : z0 (b6 c k l m a b x y) = true) (e7 : z0 (b7 c k l m a b x y) = true) (e8 : z0 (b8 c k l m a b x y) = true) : Ri (b8 c k l m a b x y) := r_add (BR6 hc hk hl hm hx hy e0 e1 e4 e6) (BR7 hc hk hl hm hx hy e2 e3 e5 e7) (z0e e8)
include hc hk hl hm hx hy in theorem BK9 (e0 : z0 (b0 c k l m a b x y) = true) (e1 : z0 (b1 c k l m a b x y) = true) (e2 : z0 (b2 c k l m a b x y) = true) (e3 : z0 (b3 c k l m a b x y) = true) (e4 : z0 (b4 c k l m a b x y) = true) (e5 : z0 (b5 c k l m a b x y) = true) (e6 : z0 (b6 c k l m a b x y) = true) (e7 : z0 (b7 c k l m a b x y) = true) (e8 : z0 (b8 c k l m a b x y) = true) : okE (b9 c k l m a b x y) := e_sub one_ri (BR8 hc hk hl hm hx hy e0 e1 e2 e3 e4 e5 e6 e7 e8)
include hc hk hl hm hx hy in theorem BR9 (e0 : z0 (b0 c k l m a b x y) = true) (e1 : z0 (b1 c k l m a b x y) = true) (e2 : z0 (b2 c k l m a b x y) = true) (e3 : z0 (b3 c k l m a b x y) = true) (e4 : z0 (b4 c k l m a b x y) = true) (e5 : z0 (b5 c k l m a b x y) = true) (e6 : z0 (b6 c k l m a b x y) = true) (e7 : z0 (b7 c k l m a b x y) = true) (e8 : z0 (b8 c k l m a b x y) = true) (e9 : z0 (b9 c k l m a b x y) = true) : Ri (b9 c k l m a b x y) := r_sub one_ri (BR8 hc hk hl hm hx hy e0 e1 e2 e3 e4 e5 e6 e7 e8) (z0e e9)
include hc hk hl hm hx hy in theorem BK10 (e0 : z0 (b0 c k l m a b x y) = true) (e1 : z0 (b1 c k l m a b x y) = true) (e2 : z0 (b2 c k l m a b x y) = true) (e3 : z0 (b3 c k l m a b x y) = true) (e4 : z0 (b4 c k l m a b x y) = true) (e5 : z0 (b5 c k l m a b x y) = true) (e6 : z0 (b6 c k l m a b x y) = true) (e7 : z0 (b7 c k l m a b x y) = true) (e8 : z0 (b8 c k l m a b x y) = true) (e9 : z0 (b9 c k l m a b x y) = true) (p : 0 < (b9 c k l m a b x y).lo) : okE (b10 c k l m a b x y) := e_rt (BR9 hc hk hl hm hx hy e0 e1 e2 e3 e4 e5 e6 e7 e8 e9) p
include hc hk hl hm hx hy in theorem BR10 (e0 : z0 (b0 c k l m a b x y) = true) (e1 : z0 (b1 c k l m a b x y) = true) (e2 : z0 (b2 c k l m a b x y) = true) (e3 : z0 (b3 c k l m a b x y) = true) (e4 : z0 (b4 c k l m a b x y) = true) (e5 : z0 (b5 c k l m a b x y) = true) (e6 : z0 (b6 c k l m a b x y) = true) (e7 : z0 (b7 c k l m a b x y) = true) (e8 : z0 (b8 c k l m a b x y) = true) (e9 : z0 (b9 c k l m a b x y) = true) (e10 : z0 (b10 c k l m a b x y) = true) : Ri (b10 c k l m a b x y) := r_rt (BR9 hc hk hl hm hx hy e0 e1 e2 e3 e4 e5 e6 e7 e8 e9) (z0e e10)
include hc hk hl hm hx hy in theorem BK11 (e0 : z0 (b0 c k l m a b x y) = true) (e1 : z0 (b1 c k l m a b x y) = true) (e2 : z0 (b2 c k l m a b x y) = true) (e3 : z0 (b3 c k l m a b x y) = true) : okE (b11 c k l m a b x y) := e_add (BR1 hc hk hl hm hx hy e0 e1) (BR3 hc hk hl hm hx hy e2 e3)
include hc hk hl hm hx hy in theorem BR11 (e0 : z0 (b0 c k l m a b x y) = true) (e1 : z0 (b1 c k l m a b x y) = true) (e2 : z0 (b2 c k l m a b x y) = true) (e3 : z0 (b3 c k l m a b x y) = true) (e11 : z0 (b11 c k l m a b x y) = true) : Ri (b11 c k l m a b x y) := r_add (BR1 hc hk hl hm hx hy e0 e1) (BR3 hc hk hl hm hx hy e2 e3) (z0e e11)
include hc hk hl hm hx hy in theorem BK12 (e0 : z0 (b0 c k l m a b x y) = true) (e1 : z0 (b1 c k l m a b x y) = true) (e2 : z0 (b2 c k l m a b x y) = true) (e3 : z0 (b3 c k l m a b x y) = true) (e4 : z0 (b4 c k l m a b x y) = true) (e5 : z0 (b5 c k l m a b x y) = true) (e6 : z0 (b6 c k l m a b x y) = true) (e7 : z0 (b7 c k l m a b x y) = true) (e8 : z0 (b8 c k l m a b x y) = true) (e9 : z0 (b9 c k l m a b x y) = true) (e10 : z0 (b10 c k l m a b x y) = true) : okE (b12 c k l m a b x y) := e_add one_ri (BR10 hc hk hl hm hx hy e0 e1 e2 e3 e4 e5 e6 e7 e8 e9 e10)
include hc hk hl hm hx hy in theorem BR12 (e0 : z0 (b0 c k l m a b x y) = true) (e1 : z0 (b1 c k l m a b x y) = true) (e2 : z0 (b2 c k l m a b x y) = true) (e3 : z0 (b3 c k l m a b x y) = true) (e4 : z0 (b4 c k l m a b x y) = true) (e5 : z0 (b5 c k l m a b x y) = true) (e6 : z0 (b6 c k l m a b x y) = true) (e7 : z0 (b7 c k l m a b x y) = true) (e8 : z0 (b8 c k l m a b x y) = true) (e9 : z0 (b9 c k l m a b x y) = true) (e10 : z0 (b10 c k l m a b x y) = true) (e12 : z0 (b12 c k l m a b x y) = true) : Ri (b12 c k l m a b x y) := r_add one_ri (BR10 hc hk hl hm hx hy e0 e1 e2 e3 e4 e5 e6 e7 e8 e9 e10) (z0e e12)
include hc hk hl hm hx hy in theorem BK13 (e0 : z0 (b0 c k l m a b x y) = true) (e1 : z0 (b1 c k l m a b x y) = true) (e2 : z0 (b2 c k l m a b x y) = true) (e3 : z0 (b3 c k l m a b x y) = true) (e4 : z0 (b4 c k l m a b x y) = true) (e5 : z0 (b5 c k l m a b x y) = true) (e6 : z0 (b6 c k l m a b x y) = true) (e7 : z0 (b7 c k l m a b x y) = true) (e8 : z0 (b8 c k l m a b x y) = true) (e9 : z0 (b9 c k l m a b x y) = true) (e10 : z0 (b10 c k l m a b x y) = true) (e11 : z0 (b11 c k l m a b x y) = true) (e12 : z0 (b12 c k l m a b x y) = true) (p : 0 < (b12 c k l m a b x y).lo) : okE (b13 c k l m a b x y) := e_div (BR11 hc hk hl hm hx hy e0 e1 e2 e3 e11) (BR12 hc hk hl hm hx hy e0 e1 e2 e3 e4 e5 e6 e7 e8 e9 e10 e12) p
include hc hk hl hm hx hy in theorem BR13 (e0 : z0 (b0 c k l m a b x y) = true) (e1 : z0 (b1 c k l m a b x y) = true) (e2 : z0 (b2 c k l m a b x y) = true) (e3 : z0 (b3 c k l m a b x y) = true) (e4 : z0 (b4 c k l m a b x y) = true) (e5 : z0 (b5 c k l m a b x y) = true) (e6 : z0 (b6 c k l m a b x y) = true) (e7 : z0 (b7 c k l m a b x y) = true) (e8 : z0 (b8 c k l m a b x y) = true) (e9 : z0 (b9 c k l m a b x y) = true) (e10 : z0 (b10 c k l m a b x y) = true) (e11 : z0 (b11 c k l m a b x y) = true) (e12 : z0 (b12 c k l m a b x y) = true) (e13 : z0 (b13 c k l m a b x y) = true) : Ri (b13 c k l m a b x y) := r_div (BR11 hc hk hl hm hx hy e0 e1 e2 e3 e11) (BR12 hc hk hl hm hx hy e0 e1 e2 e3 e4 e5 e6 e7 e8 e9 e10 e12) (z0e e13)
include hc hk hl hm hx hy in theorem BP12 (e0 : z0 (b0 c k l m a b x y) = true) (e1 : z0 (b1 c k l m a b x y) = true) (e2 : z0 (b2 c k l m a b x y) = true) (e3 : z0 (b3 c k l m a b x y) = true) (e4 : z0 (b4 c k l m a b x y) = true) (e5 : z0 (b5 c k l m a b x y) = true) (e6 : z0 (b6 c k l m a b x y) = true) (e7 : z0 (b7 c k l m a b x y) = true) (e8 : z0 (b8 c k l m a b x y) = true) (e9 : z0 (b9 c k l m a b x y) = true) (e10 : z0 (b10 c k l m a b x y) = true) (e12 : z0 (b12 c k l m a b x y) = true) (p : 0 < (b9 c k l m a b x y).lo) : 0 < (b12 c k l m a b x y).lo := add_pos one_ri (BR10 hc hk hl hm hx hy e0 e1 e2 e3 e4 e5 e6 e7 e8 e9 e10) (z0e e12) (by decide) (by have := rt_pos (BR9 hc hk hl hm hx hy e0 e1 e2 e3 e4 e5 e6 e7 e8 e9) p; exact Int.le_of_lt this)
end
end Go.Rd
namespace Go.Rd
open Go Go.Eng Go.Ar
structure BaseF (c k a b x y : Int) : Prop where
 h : H6 c k a b x y
 p : 0 < (s6 c k a b x y).lo
 h7 : z0 (s7 c k a b x y) = true
 h8 : z0 (s8 c k a b x y) = true
 h9 : z0 (s9 c k a b x y) = true
 h10 : z0 (s10 c k a b x y) = true
section
variable {c k a0 a1 a2 a3 a b x y : Int} (hc : inL c) (hk : inK k) (hx : okSp a b = true) (hy : okSp x y = true) (f : BaseF c k a b x y)
include hc hk hx hy f
variable (i0 : inL a0) (i1 : inL a1) (i2 : inL a2) (i3 : inL a3) (u : z0 (u0 c k a b x y) = true)
include u
include i0 i1 i2 i3
end
end Go.Rd
namespace Go.Rd
open Go Go.Eng Go.Ar
structure BaseX (c k l m a b x y : Int) : Prop where
 e0 : z0 (b0 c k l m a b x y) = true
 e1 : z0 (b1 c k l m a b x y) = true
 e2 : z0 (b2 c k l m a b x y) = true
 e3 : z0 (b3 c k l m a b x y) = true
 e4 : z0 (b4 c k l m a b x y) = true
 e5 : z0 (b5 c k l m a b x y) = true
 e6 : z0 (b6 c k l m a b x y) = true
 e7 : z0 (b7 c k l m a b x y) = true
 e8 : z0 (b8 c k l m a b x y) = true
 e9 : z0 (b9 c k l m a b x y) = true
 p : 0 < (b9 c k l m a b x y).lo
 e10 : z0 (b10 c k l m a b x y) = true
 e11 : z0 (b11 c k l m a b x y) = true
 e12 : z0 (b12 c k l m a b x y) = true
 e13 : z0 (b13 c k l m a b x y) = true
section
variable {c k l m a b x y : Int} (hc : inL c) (hk : inK k) (hl : inL l) (hm : inK m) (hx : okSp a b = true) (hy : okSp x y = true) (f : BaseX c k l m a b x y)
include hc hk hl hm hx hy f
end
end Go.Rd
namespace Go.Rd
open Go Go.Eng Go.Ar
end Go.Rd
namespace Go.Rd
open Go Go.Eng Go.Ar
structure Dr (z0 z1 z2 z3 z4 z5 z6 z7 z8 z9 z10 z11 z12 z13 z14 z15 z16 z17 z18 z19 z20 : Int) : Prop where
 r0 : 0 ≤ z0 ∧ z0 ≤ 255
 r1 : -32768 ≤ z1 ∧ z1 ≤ 32767
 r2 : -32768 ≤ z2 ∧ z2 ≤ 32767
 r3 : -32768 ≤ z3 ∧ z3 ≤ 32767
 r4 : -32768 ≤ z4 ∧ z4 ≤ 32767
 r5 : -128 ≤ z5 ∧ z5 ≤ 127
 r6 : -128 ≤ z6 ∧ z6 ≤ 127
 r7 : -128 ≤ z7 ∧ z7 ≤ 127
 r8 : -128 ≤ z8 ∧ z8 ≤ 127
 r9 : -128 ≤ z9 ∧ z9 ≤ 127
 r10 : -128 ≤ z10 ∧ z10 ≤ 127
 r11 : -128 ≤ z11 ∧ z11 ≤ 127
 r12 : -32768 ≤ z12 ∧ z12 ≤ 32767
 r13 : 0 ≤ z13 ∧ z13 ≤ 255
 r14 : 0 ≤ z14 ∧ z14 ≤ 255
 r15 : 0 ≤ z15 ∧ z15 ≤ 255
 r16 : -128 ≤ z16 ∧ z16 ≤ 127
 r17 : -128 ≤ z17 ∧ z17 ≤ 127
 r18 : -128 ≤ z18 ∧ z18 ≤ 127
 r19 : -128 ≤ z19 ∧ z19 ≤ 127
 r20 : -128 ≤ z20 ∧ z20 ≤ 127
structure Xd4 (x0 x1 x2 x3 : Int) : Prop where
 s0 : -32768 ≤ x0 ∧ x0 ≤ 32767
 s1 : -32768 ≤ x1 ∧ x1 ≤ 32767
 s2 : -32768 ≤ x2 ∧ x2 ≤ 32767
 s3 : -32768 ≤ x3 ∧ x3 ≤ 32767
end Go.Rd
namespace Go.Rd
open Go Go.Eng Go.Ar
section
variable {c k a0 a1 a2 a3 a b x y a' b' x' y' : Int} (hc : inL c) (hk : inK k) (wx : Wi ⟨a', b', 0⟩ ⟨a, b, 0⟩) (wy : Wi ⟨x', y', 0⟩ ⟨x, y, 0⟩)
include hc hk wx wy
structure BaseW (c k a b x y a' b' x' y' : Int) : Prop where
 f : BaseF c k a' b' x' y'
 w2 : Wi (s2 c k a' b' x' y') (s2 c k a b x y)
 w7 : Wi (s7 c k a' b' x' y') (s7 c k a b x y)
 w10 : Wi (s10 c k a' b' x' y') (s10 c k a b x y)
variable (i0 : inL a0) (i1 : inL a1) (i2 : inL a2) (i3 : inL a3)
include i0 i1 i2 i3
end
section
variable {c k a0 a1 a2 a3 a b x y a' b' x' y' : Int} (hc : inL c) (hk : inK k) (hx : okSp a b = true) (hy : okSp x y = true) (wx : Wi ⟨a', b', 0⟩ ⟨a, b, 0⟩) (wy : Wi ⟨x', y', 0⟩ ⟨x, y, 0⟩) (i0 : inL a0) (i1 : inL a1) (i2 : inL a2) (i3 : inL a3)
include hc hk hx hy wx wy i0 i1 i2 i3
end
section
variable {c k l m a b x y a' b' x' y' : Int} (hc : inL c) (hk : inK k) (hl : inL l) (hm : inK m) (hx : okSp a b = true) (hy : okSp x y = true) (wx : Wi ⟨a', b', 0⟩ ⟨a, b, 0⟩) (wy : Wi ⟨x', y', 0⟩ ⟨x, y, 0⟩)
include hc hk hl hm hx hy wx wy
end
end Go.Rd
namespace Go.Rd
open Go Go.Eng Go.Ar
structure Sl where
 s : Sp
 f : Int
 u : Sp
 v : Sp
structure Mn (W P : Sl) : Prop where
 s : W.s.e = 0 → P.s.e = 0 ∧ Wi P.s W.s
 f : W.f = 0 → P.f = 0 ∧ Wi P.u W.u ∧ Wi P.v W.v
end Go.Rd
namespace Go.Rd
open Go Go.Eng Go.Ar
section
variable {c k l m a0 a1 a2 a3 a b d e : Int} (hc : inL c) (hk : inK k) (hl : inL l) (hm : inK m)
end
section
end
structure Ev (W P : Sl) : Prop where
 s : P.s = W.s
 f : P.f = W.f
 u : P.u = ng W.u
 v : P.v = W.v
end Go.Rd
namespace Go.Rd
open Go Go.Eng Go.Ar
section
variable (s : Su) (ys : List Int) (a b x y : Int)
end
end Go.Rd
namespace Go.Proofs.YtiigkjnhmipnfaaGreatDoor.K
open Go Go.Eng Go.Ar Go.Rd
noncomputable section
theorem tell_kd {s : Su} {kd : AV} (h : tell (.int true .i64 s.kd) kd) : tellL s.ini (s.cells kd) := by
 refine ⟨h, ?_⟩
 repeat' first
  | exact trivial
  | refine ⟨⟨rfl, rfl⟩, ?_⟩
  | refine ⟨rfl, ?_⟩
end
end Go.Proofs.YtiigkjnhmipnfaaGreatDoor.K
namespace Go.Proofs.YtiigkjnhmipnfaaGreatDoor.K
open Go Go.Eng Go.Ar Go.Rd
noncomputable section
def bA (b : Bool) : AV := match b with | true => .bool false true | false => .bool false false
def dHint (k : Nat) (od fl : Bool) (_ t : Nat) : Option AV := match Nat.beq t 50 with
 | true => some (bA (Nat.beq k 4))
 | false => match Nat.beq t 68 with
  | true => some (bA (Nat.beq k 5))
  | false => match Nat.beq t 84 with
   | true => some (bA (Nat.beq k 6))
   | false => match Nat.beq t 114 with
    | true => some (bA (Nat.beq k 7))
    | false => match Nat.beq t 118 with
     | true => some (bA od)
     | false => match Nat.beq t 10 && fl with
      | true => some (.bool false true)
      | false => none
noncomputable def cDr (k : Nat) (od fl : Bool) (g : Int) : Ctx := { mkG Tryz.prog glob hG [] ext with hint := dHint k od fl, hintT := fun c => match Nat.beq c 25 with | true => some (25, .int false .i64 g) | false => none }
theorem cDr_ok (k : Nat) (od fl : Bool) (g : Int) : CtxOk (cDr k od fl g) := by
 have co : CtxOk (mkG Tryz.prog glob hG [] ext) := mkG_ok prog_ok ext_ok fun _ h => by cases h
 exact ⟨co.prog, co.con, co.ext, co.loop, co.two⟩
def rd1 (C : Ctx) (d : Df) (coat : AV) (zs : List Int) : Option (Nd × List AV × Nat × List Int) := outL (hG.size + 1) hG.clock 2 .i64 ((run C 1000).call 15 [.agg (d.cells ++ [coat])] (viewsH false hG [(.u8, zs)]))
def co (n : Int) : AV := .pslice hG.size n.toNat false n
def dN (d : Df) (g : Int) : Prop := (W64 d.gl).tmod 5 = g ∧ d.se = d.se ∧ d.gl = d.gl ∧ d.th = d.th ∧ d.k0 = d.k0 ∧ d.c0 = d.c0
def nA (d : Df) (g : Int) : Prop := dN d g ∧ (d.kd.tmod 8 == 4) = false ∧ (d.kd.tmod 8 == 5) = false ∧ (d.kd.tmod 8 == 6) = false ∧ (d.kd.tmod 8 == 7) = false
def nC (d : Df) (g : Int) : Prop := dN d g ∧ (d.kd.tmod 8 == 4) = false ∧ (d.kd.tmod 8 == 5) = true
def nD (d : Df) (g : Int) : Prop := dN d g ∧ (d.kd.tmod 8 == 4) = false ∧ (d.kd.tmod 8 == 5) = false ∧ (d.kd.tmod 8 == 6) = true
def nE (d : Df) (g : Int) (b : Bool) : Prop := dN d g ∧ (d.kd.tmod 8 == 4) = false ∧ (d.kd.tmod 8 == 5) = false ∧ (d.kd.tmod 8 == 6) = false ∧ (d.kd.tmod 8 == 7) = true ∧ (d.o.tmod 2 == 0) = b
def nB (d : Df) (g : Int) : Prop := dN d g ∧ (d.kd.tmod 8 == 4) = true
def nB3 (d : Df) (g n : Int) : Prop := dN d g ∧ (d.kd.tmod 8 == 4) = true ∧ decide (0 < n) = true ∧ decide (1 < n) = true ∧ decide (2 < n) = true ∧ decide (3 < n) = true
end
end Go.Proofs.YtiigkjnhmipnfaaGreatDoor.K
namespace Go.Proofs.YtiigkjnhmipnfaaGreatDoor.K
open Go Go.Eng Go.Ar Go.Rd
noncomputable section
theorem okF3_emp {n : Int} {ys : List Int} (h : okF3 n ys) : ys = [] → n = 0 := by
 intro he
 have := h.2.2
 rw [he] at this
 have := h.1
 simp only [List.length_nil] at *
 omega
theorem hs_1 (s : Su) (n p : Int) (ys : List Int) : rg1v cHas 64 (s.cells (.int false .i64 1)) n ys [.int true .i64 p] = some (.tt, .bool true (hasR s p (decide (ix7 (p == 1) (p == 2) (p == 5) (p == 6) (p == 7) (p == 8) (p == 10) ≥ 0)))) := by kernel_rfl
theorem hs_2 (s : Su) (n p : Int) (ys : List Int) : rg1v cHas 64 (s.cells (.int false .i64 2)) n ys [.int true .i64 p] = some (.tt, .bool true (hasR s p (decide (ix5 (p == 1) (p == 2) (p == 3) (p == 4) (p == 10) ≥ 0)))) := by kernel_rfl
theorem hs_3 (s : Su) (n p : Int) (ys : List Int) : rg1v cHas 64 (s.cells (.int false .i64 3)) n ys [.int true .i64 p] = some (.tt, .bool true (hasR s p (decide (ix5 (p == 11) (p == 12) (p == 13) (p == 14) (p == 15) ≥ 0)))) := by kernel_rfl
theorem hs_4 (s : Su) (n p : Int) (ys : List Int) : rg1v cHas 64 (s.cells (.int false .i64 4)) n ys [.int true .i64 p] = some (.tt, .bool true (hasR s p (decide (ix2 (p == 1) (p == 10) ≥ 0)))) := by kernel_rfl
def suV1 (q : Su → Prop) (V : Su → List Int → Int → AV) : Nat → List Itm → Option (Prop × AV × List ABody) := fun _ its => match its with
 | [.s xs n ys, .n [.n p]] => match suOf xs with
  | some s => some (okF3 n ys ∧ s.g.size < 1000000000 ∧ q s, V s ys p, [])
  | none => none
 | _ => none
abbrev gP : List Pa := [.s suI .i64, .n (.i .i64)]
theorem mk_g (s : Su) (n : Int) (ys : List Int) (p : Int) : mkA true hG.size gP [.s s.nus n ys, .n [.n p]] = [.agg (s.ini ++ [.lslice hG.size n]), .int true .i64 p] := rfl
theorem su1_ok {f : FuncId} {q : Su → Prop} {V : Su → List Int → Int → AV} (fn : ∃ fn : Func, Tryz.prog.funcs[f]? = some fn ∧ fn.body.isSome = true)
  (h : ∀ (s : Su) (n : Int) (ys : List Int) (p : Int), okF3 n ys → s.g.size < 1000000000 → q s → ∃ (C : Ctx) (cs : List AV) (p' : AV) (nd : Nd) (v0 : AV), CtxOk C ∧ C.P = Tryz.prog ∧ C.glob = glob ∧ tellL s.ini cs ∧ tell (.int true .i64 p) p' ∧ rg1v C f cs n ys [p'] = some (nd, v0) ∧ v0.num = true ∧ nd.val ∧ tell v0 (V s ys p)) :
  NOk Tryz.prog glob hG f (lSpec hG gP (suV1 q V)) := by
 refine lsp_ok true hG_ok hG_plain glob_lt (fun sz its p v bs e hp => ?_) fn
 unfold suV1 at e
 split at e
 ·rename_i xs n ys p'
  split at e
  ·rename_i s hs
   cases e
   obtain ⟨ho, hg, hq⟩ := hp
   obtain rfl := suOf_eq hs
   refine ⟨⟨okF3_emp ho, trivial⟩, rfl, ?_⟩
   obtain ⟨C, cs, q', nd, v0, co, hP, hG', ht, htp, hr, hnum, hnd, hv⟩ := h s n ys p' ho hg hq
   unfold rg1v rg1 at hr
   obtain ⟨k, h1, h2, h3, h4⟩ := oneG_tells hr hnum
   refine ⟨C, 1000, [AV.agg (cs ++ [AV.lslice hG.size n]), q'], nd, v0, k, co, hP, hG', ?_, h1, h2, hnd, h3, h4 sz _ hv⟩
   rw [mk_g]
   exact ⟨tellL_app ht ⟨rfl, trivial⟩, htp, trivial⟩
  ·cases e
 ·cases e
theorem has_ok : NOk Tryz.prog glob hG 64 (lSpec hG gP (suV1 (fun s => 1 ≤ s.kd ∧ s.kd ≤ 4) fun s _ p => .bool true (hasS s p))) := by
 refine su1_ok ⟨_, Tryz.func64, rfl⟩ fun s n ys p ho hg hq => ?_
 have hk : s.kd = 1 ∨ s.kd = 2 ∨ s.kd = 3 ∨ s.kd = 4 := by omega
 rcases hk with hk | hk | hk | hk
 ·exact ⟨cHas, s.cells (.int false .i64 1), .int true .i64 p, _, _, cHas_ok, rfl, rfl, tell_kd ⟨rfl, hk⟩, ⟨rfl, rfl⟩, hs_1 s n p ys, rfl, trivial, has1 s p hk⟩
 ·exact ⟨cHas, s.cells (.int false .i64 2), .int true .i64 p, _, _, cHas_ok, rfl, rfl, tell_kd ⟨rfl, hk⟩, ⟨rfl, rfl⟩, hs_2 s n p ys, rfl, trivial, has2 s p hk⟩
 ·exact ⟨cHas, s.cells (.int false .i64 3), .int true .i64 p, _, _, cHas_ok, rfl, rfl, tell_kd ⟨rfl, hk⟩, ⟨rfl, rfl⟩, hs_3 s n p ys, rfl, trivial, has3 s p hk⟩
 ·exact ⟨cHas, s.cells (.int false .i64 4), .int true .i64 p, _, _, cHas_ok, rfl, rfl, tell_kd ⟨rfl, hk⟩, ⟨rfl, rfl⟩, hs_4 s n p ys, rfl, trivial, has4 s p hk⟩
def hasSp : NSpec := lSpec hG gP (suV1 (fun s => 1 ≤ s.kd ∧ s.kd ≤ 4) fun s _ p => .bool true (hasS s p))
def tblGet : List (FuncId × NSpec) := [(18, lSpec hG [.s suI .i64] (suV chkA)), (64, hasSp)]
theorem tblGet_g : ∀ x ∈ tblGet, NOk Tryz.prog glob hG x.1 x.2 := by
 intro x hx
 simp only [tblGet, List.mem_cons, List.not_mem_nil, or_false] at hx
 rcases hx with rfl | rfl
 ·exact chkA_ok
 ·exact has_ok
def cGet : Ctx := mkN Tryz.prog glob hG tblGet [] ext
theorem cGet_ok : CtxOk cGet := mkN_ok prog_ok ext_ok tblGet_g fun _ h => by cases h
def hT (l : List (Nat × Nat × Bool)) (c t : Nat) : Option AV := match l with
 | [] => none
 | (k, u, b) :: r => match Nat.beq t u && (Nat.beq k 0 || Nat.beq k c) with
  | true => some (bA b)
  | false => hT r c t
def cGetH (l : List (Nat × Nat × Bool)) : Ctx := hinting cGet (hT l)
theorem cGetH_ok (l : List (Nat × Nat × Bool)) : CtxOk (cGetH l) := hinting_ok cGet_ok _
end
end Go.Proofs.YtiigkjnhmipnfaaGreatDoor.K
namespace Go.Proofs.YtiigkjnhmipnfaaGreatDoor.K
open Go Go.Eng Go.Ar Go.Rd
noncomputable section
def rcl (v : AV) (ys : List Int) : Option (Nd × Nat × List Int) := out1 (viewsH false hG [(.i64, ys)]).size hG.clock 2 .i64 ((run cHas 1000).call 65 [v] (viewsH false hG [(.i64, ys)]))
theorem cl_0 : ∀ e : Bool, rcl (.eslice e) [] = some (.tt, 0, [])
 | true => by kernel_rfl
 | false => by kernel_rfl
def ClN (x : Nat → Int) (n : Nat) : Prop := rcl (.pslice hG.size n false n) (spinF (3 * n) 0 x) = some (.tt, n, spinF (3 * n) 0 x)
theorem cl_n (x : Nat → Int) : ∀ n : Nat, 0 < n → n ≤ 12 → ClN x n := fun n h0 hn => match n, h0, hn with
 | 1, _, _ => by unfold ClN; kernel_rfl
 | 2, _, _ => by unfold ClN; kernel_rfl
 | 3, _, _ => by unfold ClN; kernel_rfl
 | 4, _, _ => by unfold ClN; kernel_rfl
 | 5, _, _ => by unfold ClN; kernel_rfl
 | 6, _, _ => by unfold ClN; kernel_rfl
 | 7, _, _ => by unfold ClN; kernel_rfl
 | 8, _, _ => by unfold ClN; kernel_rfl
 | 9, _, _ => by unfold ClN; kernel_rfl
 | 10, _, _ => by unfold ClN; kernel_rfl
 | 11, _, _ => by unfold ClN; kernel_rfl
 | 12, _, _ => by unfold ClN; kernel_rfl
def cloneV : Nat → Int → List Int → Option (Prop × AV × List ABody) := fun sz n ys => some (okF3 n ys, .lslice sz n, [.rows .i64 ys])
theorem clone_ok : NOk Tryz.prog glob hG 65 (l1Spec hG .i64 cloneV) := by
 refine l1_ok hG_ok hG_plain glob_lt (fun sz n ys p v bs e hp => ?_) ⟨_, Tryz.func65, rfl⟩
 cases e
 refine ⟨okF3_emp hp, fun e => ?_⟩
 obtain ⟨k, x, hk, rfl, rfl⟩ := okF3_of hp
 rcases Nat.eq_zero_or_pos k with rfl | h0
 ·have r := cl_0 e
  unfold rcl at r
  obtain ⟨v0, q, h1, h2, h3, h4⟩ := out1_tells r
  exact ⟨cHas, 1000, [.eslice e], _, v0, q, cHas_ok, rfl, rfl, ⟨rfl, trivial⟩, h1, h2, trivial, h3, h4 sz _ _ rfl rfl⟩
 ·have r := cl_n x k h0 hk
  unfold ClN rcl at r
  obtain ⟨v0, q, h1, h2, h3, h4⟩ := out1_tells r
  refine ⟨cHas, 1000, [.pslice hG.size k false k], _, v0, q, cHas_ok, rfl, rfl, ⟨?_, trivial⟩, h1, h2, trivial, h3, h4 sz _ _ rfl rfl⟩
  unfold listE
  rw [decide_eq_false (by omega)]
  exact ⟨rfl, Nat.le_refl _, rfl⟩
def tblSet : List (FuncId × NSpec) := (65, l1Spec hG .i64 cloneV) :: tblGet
theorem tblSet_g : ∀ x ∈ tblSet, NOk Tryz.prog glob hG x.1 x.2 := by
 intro x hx
 rcases List.mem_cons.1 hx with rfl | hx
 ·exact clone_ok
 ·exact tblGet_g x hx
def cSet (l : List (Nat × Nat × Bool)) : Ctx := hinting (mkN Tryz.prog glob hG tblSet [] ext) (hT l)
theorem cSet_ok (l : List (Nat × Nat × Bool)) : CtxOk (cSet l) := hinting_ok (mkN_ok prog_ok ext_ok tblSet_g fun _ h => by cases h) _
end
end Go.Proofs.YtiigkjnhmipnfaaGreatDoor.K
