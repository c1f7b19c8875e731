/- What is proved: SurfaceWithin returns true, whatever the input (part 6 of 22). No conditions beyond those of the row. -/
import Derived.Test.YtiigkjnhmipnfaaGreatDoorPE
set_option linter.unusedVariables false
set_option linter.unusedSimpArgs false
set_option linter.unusedSectionVars false
/- Printed by swlaw.py. The plain law of SurfaceWithin. No program. -/
namespace Go.Rd
open Go Go.Eng Go.Ar
theorem gl_in {g : Nat} : inG (glassB g) := by
  unfold inG isG glassB
  split
  · exact .inr (.inl rfl)
  · exact .inr (.inr (.inl rfl))
  · exact .inr (.inr (.inr (.inl rfl)))
  · exact .inr (.inr (.inr (.inr rfl)))
  · exact .inl rfl
theorem wa_ok {z0 z1 z2 z3 z4 z5 z6 z7 z8 z9 z10 z11 z12 z13 z14 z15 z16 z17 z18 z19 z20 : Int} {gl : ByteArray} {g : Nat} {n  x0 x1 x2 x3 : Int} (d : Dr z0 z1 z2 z3 z4 z5 z6 z7 z8 z9 z10 z11 z12 z13 z14 z15 z16 z17 z18 z19 z20) (p : Xd4 x0 x1 x2 x3) (hg : inG gl) (eg : z13.tmod 5 = (g : Int)) (k4 : (z0.tmod (8 : Int) == 4) = false) (k5 : (z0.tmod (8 : Int) == 5) = false) (k6 : (z0.tmod (8 : Int) == 6) = false) (k7 : (z0.tmod (8 : Int) == 7) = false) : waN z0 z1 z2 z3 z4 z5 z6 z7 z8 z9 z10 z11 z12 z13 z14 z15 z16 z17 z18 z19 z20 gl g n  x0 x1 x2 x3 ∧ waV z0 z1 z2 z3 z4 z5 z6 z7 z8 z9 z10 z11 z12 z13 z14 z15 z16 z17 z18 z19 z20 gl g n  x0 x1 x2 x3 = true := by
  obtain ⟨r0, r1, r2, r3, r4, r5, r6, r7, r8, r9, r10, r11, r12, r13, r14, r15, r16, r17, r18, r19, r20⟩ := d
  obtain ⟨s0, s1, s2, s3⟩ := p
  have t3 := tm_bd z3 (k := 3000) (by decide)
  have t4 := tm_bd z4 (k := 3000) (by decide)
  have t12 := tm_bd z12 (k := 20000) (by decide)
  have t11 := tm_bd z11 (k := 4) (by decide)
  have q13 := wz (z := z13) (by omega) (by omega)
  have w1 := wk (k := 1000) (z := z1) (by decide) (by decide) (by omega) (by omega)
  have w2 := wk (k := 1000) (z := z2) (by decide) (by decide) (by omega) (by omega)
  have w3 := wk (k := 1000) (z := z3.tmod 3000) (by decide) (by decide) (by omega) (by omega)
  have w4 := wk (k := 1000) (z := z4.tmod 3000) (by decide) (by decide) (by omega) (by omega)
  have w5 := wk (k := 1000) (z := z5) (by decide) (by decide) (by omega) (by omega)
  have w6 := wk (k := 1000) (z := z6) (by decide) (by decide) (by omega) (by omega)
  have w7 := wk (k := 1000) (z := z7) (by decide) (by decide) (by omega) (by omega)
  have w8 := wk (k := 1000) (z := z8) (by decide) (by decide) (by omega) (by omega)
  have w9 := wk (k := 1000) (z := z9) (by decide) (by decide) (by omega) (by omega)
  have w10 := wk (k := 1000) (z := z10) (by decide) (by decide) (by omega) (by omega)
  have w11 := wz (z := z11.tmod 4) (by omega) (by omega)
  have w12 := wk (k := 1000) (z := z12.tmod 20000) (by decide) (by decide) (by omega) (by omega)
  have w14 := wk (k := 100000) (z := z14) (by decide) (by decide) (by omega) (by omega)
  have w16 := wk (k := 10000) (z := z16) (by decide) (by decide) (by omega) (by omega)
  have w17 := wk (k := 10000) (z := z17) (by decide) (by decide) (by omega) (by omega)
  have w18 := wk (k := 100000) (z := z18) (by decide) (by decide) (by omega) (by omega)
  have w19 := wk (k := 100000) (z := z19) (by decide) (by decide) (by omega) (by omega)
  have w20 := wk (k := 100000) (z := z20) (by decide) (by decide) (by omega) (by omega)
  have p1 := pl_mn s2 s0
  have p2 := pl_mx s2 s0
  have p3 := pl_mn s3 s1
  have p4 := pl_mx s3 s1
  obtain ⟨HO, eh, sh⟩ := hole_ex r14 z15
  have m1 := mn_ok x2 x0
  have m2 := mx_ok x2 x0
  have m3 := mn_ok x3 x1
  have m4 := mx_ok x3 x1
  have hv : vStd (1000 * z1) (1000 * z3.tmod 3000) 0 0 0 0 0 0 0 (1000 * z12.tmod 20000) gl (100000 * z14) HO := ⟨(by unfold inL; omega), (by unfold inK; omega), (by unfold inL; omega), (by unfold inL; omega), (by unfold inL; omega), (by unfold inL; omega), (by unfold inL; omega), (by unfold inL; omega), by omega, (by unfold inL; omega), hg, sh, .inl ⟨rfl, rfl, rfl⟩⟩
  have u0 := wpt s0
  have u1 := wpt s1
  have u2 := wpt s2
  have u3 := wpt s3
  have o0 := ar_ok s2 s0
  have o1 := ar_ok s3 s1
  have o2 := pt_ok s0
  have o3 := pt_ok s1
  have o4 := pt_ok s2
  have o5 := pt_ok s3
  simp only [wa0, wa1, wa2, wa3, wa4, wa5, wa6, wa7, wa8, wa9, wa10, wa11, wa12, wa13, wa14, wa15, wa16, wa17, wa18, wa19, wa20, wa21, wa22, wa23, wa24, wa25, wa26, wa27, wa28, wa29, wa30, wa31, wa32, waN, waV, Bool.cond_self, q13, w1, w2, w3, w4, w5, w6, w7, w8, w9, w10, w11, w12, w14, w16, w17, w18, w19, w20, p1, p2, p3, p4, u0, u1, u2, u3, eh, eg, k4, k5, k6, k7, and_true, true_and]
  exact ⟨by repeat' (first | assumption | apply And.intro | intro _), wV_t (mn_st hv.hc hv.hk hv.h0 hv.h1 hv.h2 hv.h3 (ar_ok s2 s0) (ar_ok s3 s1) (pt_in ⟨by omega, by omega⟩) (pt_in ⟨by omega, by omega⟩)) (mn_st hv.hc hv.hk hv.h0 hv.h1 hv.h2 hv.h3 (ar_ok s2 s0) (ar_ok s3 s1) (pt_in ⟨by omega, by omega⟩) (pt_in ⟨by omega, by omega⟩))⟩
theorem wb_ok {z0 z1 z2 z3 z4 z5 z6 z7 z8 z9 z10 z11 z12 z13 z14 z15 z16 z17 z18 z19 z20 : Int} {gl : ByteArray} {g : Nat} {n  x0 x1 x2 x3 : Int} (d : Dr z0 z1 z2 z3 z4 z5 z6 z7 z8 z9 z10 z11 z12 z13 z14 z15 z16 z17 z18 z19 z20) (p : Xd4 x0 x1 x2 x3) (hg : inG gl) (eg : z13.tmod 5 = (g : Int)) (k4 : (z0.tmod (8 : Int) == 4) = true) (n0 : decide (0 < n) = false) : wbN z0 z1 z2 z3 z4 z5 z6 z7 z8 z9 z10 z11 z12 z13 z14 z15 z16 z17 z18 z19 z20 gl g n  x0 x1 x2 x3 ∧ wbV z0 z1 z2 z3 z4 z5 z6 z7 z8 z9 z10 z11 z12 z13 z14 z15 z16 z17 z18 z19 z20 gl g n  x0 x1 x2 x3 = true := by
  obtain ⟨r0, r1, r2, r3, r4, r5, r6, r7, r8, r9, r10, r11, r12, r13, r14, r15, r16, r17, r18, r19, r20⟩ := d
  obtain ⟨s0, s1, s2, s3⟩ := p
  have t3 := tm_bd z3 (k := 3000) (by decide)
  have t4 := tm_bd z4 (k := 3000) (by decide)
  have t12 := tm_bd z12 (k := 20000) (by decide)
  have t11 := tm_bd z11 (k := 4) (by decide)
  have q13 := wz (z := z13) (by omega) (by omega)
  have w1 := wk (k := 1000) (z := z1) (by decide) (by decide) (by omega) (by omega)
  have w2 := wk (k := 1000) (z := z2) (by decide) (by decide) (by omega) (by omega)
  have w3 := wk (k := 1000) (z := z3.tmod 3000) (by decide) (by decide) (by omega) (by omega)
  have w4 := wk (k := 1000) (z := z4.tmod 3000) (by decide) (by decide) (by omega) (by omega)
  have w5 := wk (k := 1000) (z := z5) (by decide) (by decide) (by omega) (by omega)
  have w6 := wk (k := 1000) (z := z6) (by decide) (by decide) (by omega) (by omega)
  have w7 := wk (k := 1000) (z := z7) (by decide) (by decide) (by omega) (by omega)
  have w8 := wk (k := 1000) (z := z8) (by decide) (by decide) (by omega) (by omega)
  have w9 := wk (k := 1000) (z := z9) (by decide) (by decide) (by omega) (by omega)
  have w10 := wk (k := 1000) (z := z10) (by decide) (by decide) (by omega) (by omega)
  have w11 := wz (z := z11.tmod 4) (by omega) (by omega)
  have w12 := wk (k := 1000) (z := z12.tmod 20000) (by decide) (by decide) (by omega) (by omega)
  have w14 := wk (k := 100000) (z := z14) (by decide) (by decide) (by omega) (by omega)
  have w16 := wk (k := 10000) (z := z16) (by decide) (by decide) (by omega) (by omega)
  have w17 := wk (k := 10000) (z := z17) (by decide) (by decide) (by omega) (by omega)
  have w18 := wk (k := 100000) (z := z18) (by decide) (by decide) (by omega) (by omega)
  have w19 := wk (k := 100000) (z := z19) (by decide) (by decide) (by omega) (by omega)
  have w20 := wk (k := 100000) (z := z20) (by decide) (by decide) (by omega) (by omega)
  have p1 := pl_mn s2 s0
  have p2 := pl_mx s2 s0
  have p3 := pl_mn s3 s1
  have p4 := pl_mx s3 s1
  obtain ⟨HO, eh, sh⟩ := hole_ex r14 z15
  have m1 := mn_ok x2 x0
  have m2 := mx_ok x2 x0
  have m3 := mn_ok x3 x1
  have m4 := mx_ok x3 x1
  have hv : vStd (1000 * z1) (1000 * z3.tmod 3000) (1000 * z5) (1000 * z6) (1000 * z7) (1000 * z8) 0 0 0 (1000 * z12.tmod 20000) gl (100000 * z14) HO := ⟨(by unfold inL; omega), (by unfold inK; omega), (by unfold inL; omega), (by unfold inL; omega), (by unfold inL; omega), (by unfold inL; omega), (by unfold inL; omega), (by unfold inL; omega), by omega, (by unfold inL; omega), hg, sh, .inl ⟨rfl, rfl, rfl⟩⟩
  have u0 := wpt s0
  have u1 := wpt s1
  have u2 := wpt s2
  have u3 := wpt s3
  have o0 := ar_ok s2 s0
  have o1 := ar_ok s3 s1
  have o2 := pt_ok s0
  have o3 := pt_ok s1
  have o4 := pt_ok s2
  have o5 := pt_ok s3
  simp only [wb0, wb1, wb2, wb3, wb4, wb5, wb6, wb7, wb8, wb9, wb10, wb11, wb12, wb13, wb14, wb15, wb16, wb17, wb18, wb19, wb20, wb21, wb22, wb23, wb24, wb25, wb26, wb27, wb28, wb29, wb30, wb31, wb32, wb33, wb34, wb35, wb36, wbN, wbV, Bool.cond_self, q13, w1, w2, w3, w4, w5, w6, w7, w8, w9, w10, w11, w12, w14, w16, w17, w18, w19, w20, p1, p2, p3, p4, u0, u1, u2, u3, eh, eg, k4, n0, and_true, true_and]
  exact ⟨by repeat' (first | assumption | apply And.intro | intro _), wV_t (mn_st hv.hc hv.hk hv.h0 hv.h1 hv.h2 hv.h3 (ar_ok s2 s0) (ar_ok s3 s1) (pt_in ⟨by omega, by omega⟩) (pt_in ⟨by omega, by omega⟩)) (mn_st hv.hc hv.hk hv.h0 hv.h1 hv.h2 hv.h3 (ar_ok s2 s0) (ar_ok s3 s1) (pt_in ⟨by omega, by omega⟩) (pt_in ⟨by omega, by omega⟩))⟩
theorem wc_ok {z0 z1 z2 z3 z4 z5 z6 z7 z8 z9 z10 z11 z12 z13 z14 z15 z16 z17 z18 z19 z20 : Int} {gl : ByteArray} {g : Nat} {n e0 x0 x1 x2 x3 : Int} (d : Dr z0 z1 z2 z3 z4 z5 z6 z7 z8 z9 z10 z11 z12 z13 z14 z15 z16 z17 z18 z19 z20) (p : Xd4 x0 x1 x2 x3) (f0 : 0 ≤ e0 ∧ e0 ≤ 255) (hg : inG gl) (eg : z13.tmod 5 = (g : Int)) (k4 : (z0.tmod (8 : Int) == 4) = true) (n0 : decide (0 < n) = true) (n1 : decide ((1 : Int) < n) = false) : wcN z0 z1 z2 z3 z4 z5 z6 z7 z8 z9 z10 z11 z12 z13 z14 z15 z16 z17 z18 z19 z20 gl g n e0 x0 x1 x2 x3 ∧ wcV z0 z1 z2 z3 z4 z5 z6 z7 z8 z9 z10 z11 z12 z13 z14 z15 z16 z17 z18 z19 z20 gl g n e0 x0 x1 x2 x3 = true := by
  obtain ⟨r0, r1, r2, r3, r4, r5, r6, r7, r8, r9, r10, r11, r12, r13, r14, r15, r16, r17, r18, r19, r20⟩ := d
  obtain ⟨s0, s1, s2, s3⟩ := p
  have t3 := tm_bd z3 (k := 3000) (by decide)
  have t4 := tm_bd z4 (k := 3000) (by decide)
  have t12 := tm_bd z12 (k := 20000) (by decide)
  have t11 := tm_bd z11 (k := 4) (by decide)
  have q13 := wz (z := z13) (by omega) (by omega)
  have w1 := wk (k := 1000) (z := z1) (by decide) (by decide) (by omega) (by omega)
  have w2 := wk (k := 1000) (z := z2) (by decide) (by decide) (by omega) (by omega)
  have w3 := wk (k := 1000) (z := z3.tmod 3000) (by decide) (by decide) (by omega) (by omega)
  have w4 := wk (k := 1000) (z := z4.tmod 3000) (by decide) (by decide) (by omega) (by omega)
  have w5 := wk (k := 1000) (z := z5) (by decide) (by decide) (by omega) (by omega)
  have w6 := wk (k := 1000) (z := z6) (by decide) (by decide) (by omega) (by omega)
  have w7 := wk (k := 1000) (z := z7) (by decide) (by decide) (by omega) (by omega)
  have w8 := wk (k := 1000) (z := z8) (by decide) (by decide) (by omega) (by omega)
  have w9 := wk (k := 1000) (z := z9) (by decide) (by decide) (by omega) (by omega)
  have w10 := wk (k := 1000) (z := z10) (by decide) (by decide) (by omega) (by omega)
  have w11 := wz (z := z11.tmod 4) (by omega) (by omega)
  have w12 := wk (k := 1000) (z := z12.tmod 20000) (by decide) (by decide) (by omega) (by omega)
  have w14 := wk (k := 100000) (z := z14) (by decide) (by decide) (by omega) (by omega)
  have w16 := wk (k := 10000) (z := z16) (by decide) (by decide) (by omega) (by omega)
  have w17 := wk (k := 10000) (z := z17) (by decide) (by decide) (by omega) (by omega)
  have w18 := wk (k := 100000) (z := z18) (by decide) (by decide) (by omega) (by omega)
  have w19 := wk (k := 100000) (z := z19) (by decide) (by decide) (by omega) (by omega)
  have w20 := wk (k := 100000) (z := z20) (by decide) (by decide) (by omega) (by omega)
  have p1 := pl_mn s2 s0
  have p2 := pl_mx s2 s0
  have p3 := pl_mn s3 s1
  have p4 := pl_mx s3 s1
  obtain ⟨HO, eh, sh⟩ := hole_ex r14 z15
  have m1 := mn_ok x2 x0
  have m2 := mx_ok x2 x0
  have m3 := mn_ok x3 x1
  have m4 := mx_ok x3 x1
  have hv : vStd (1000 * z1) (1000 * z3.tmod 3000) (1000 * z5) (1000 * z6) (1000 * z7) (1000 * z8) 0 0 0 (1000 * z12.tmod 20000) gl (100000 * z14) HO := ⟨(by unfold inL; omega), (by unfold inK; omega), (by unfold inL; omega), (by unfold inL; omega), (by unfold inL; omega), (by unfold inL; omega), (by unfold inL; omega), (by unfold inL; omega), by omega, (by unfold inL; omega), hg, sh, .inl ⟨rfl, rfl, rfl⟩⟩
  have u0 := wpt s0
  have u1 := wpt s1
  have u2 := wpt s2
  have u3 := wpt s3
  have o0 := ar_ok s2 s0
  have o1 := ar_ok s3 s1
  have o2 := pt_ok s0
  have o3 := pt_ok s1
  have o4 := pt_ok s2
  have o5 := pt_ok s3
  have g0 := film_in f0
  simp only [wc1, wc2, wc3, wc4, wc5, wc6, wc7, wc8, wc9, wc10, wc11, wc12, wc13, wc14, wc15, wc16, wc17, wc18, wc19, wc20, wc21, wc22, wc23, wc24, wc25, wc26, wc27, wc28, wc29, wc30, wc31, wc32, wc33, wc34, wc35, wc36, wc37, wcN, wcV, Bool.cond_self, q13, w1, w2, w3, w4, w5, w6, w7, w8, w9, w10, w11, w12, w14, w16, w17, w18, w19, w20, p1, p2, p3, p4, u0, u1, u2, u3, eh, eg, k4, n0, n1, and_true, true_and]
  exact ⟨by repeat' (first | assumption | apply And.intro | intro _), wV_t (mn_st hv.hc hv.hk hv.h0 hv.h1 hv.h2 hv.h3 (ar_ok s2 s0) (ar_ok s3 s1) (pt_in ⟨by omega, by omega⟩) (pt_in ⟨by omega, by omega⟩)) (mn_st hv.hc hv.hk hv.h0 hv.h1 hv.h2 hv.h3 (ar_ok s2 s0) (ar_ok s3 s1) (pt_in ⟨by omega, by omega⟩) (pt_in ⟨by omega, by omega⟩))⟩
theorem wd_ok {z0 z1 z2 z3 z4 z5 z6 z7 z8 z9 z10 z11 z12 z13 z14 z15 z16 z17 z18 z19 z20 : Int} {gl : ByteArray} {g : Nat} {n e0 e1 x0 x1 x2 x3 : Int} (d : Dr z0 z1 z2 z3 z4 z5 z6 z7 z8 z9 z10 z11 z12 z13 z14 z15 z16 z17 z18 z19 z20) (p : Xd4 x0 x1 x2 x3) (f0 : 0 ≤ e0 ∧ e0 ≤ 255) (f1 : 0 ≤ e1 ∧ e1 ≤ 255) (hg : inG gl) (eg : z13.tmod 5 = (g : Int)) (k4 : (z0.tmod (8 : Int) == 4) = true) (n0 : decide (0 < n) = true) (n1 : decide ((1 : Int) < n) = true) (n2 : decide ((2 : Int) < n) = false) : wdN z0 z1 z2 z3 z4 z5 z6 z7 z8 z9 z10 z11 z12 z13 z14 z15 z16 z17 z18 z19 z20 gl g n e0 e1 x0 x1 x2 x3 ∧ wdV z0 z1 z2 z3 z4 z5 z6 z7 z8 z9 z10 z11 z12 z13 z14 z15 z16 z17 z18 z19 z20 gl g n e0 e1 x0 x1 x2 x3 = true := by
  obtain ⟨r0, r1, r2, r3, r4, r5, r6, r7, r8, r9, r10, r11, r12, r13, r14, r15, r16, r17, r18, r19, r20⟩ := d
  obtain ⟨s0, s1, s2, s3⟩ := p
  have t3 := tm_bd z3 (k := 3000) (by decide)
  have t4 := tm_bd z4 (k := 3000) (by decide)
  have t12 := tm_bd z12 (k := 20000) (by decide)
  have t11 := tm_bd z11 (k := 4) (by decide)
  have q13 := wz (z := z13) (by omega) (by omega)
  have w1 := wk (k := 1000) (z := z1) (by decide) (by decide) (by omega) (by omega)
  have w2 := wk (k := 1000) (z := z2) (by decide) (by decide) (by omega) (by omega)
  have w3 := wk (k := 1000) (z := z3.tmod 3000) (by decide) (by decide) (by omega) (by omega)
  have w4 := wk (k := 1000) (z := z4.tmod 3000) (by decide) (by decide) (by omega) (by omega)
  have w5 := wk (k := 1000) (z := z5) (by decide) (by decide) (by omega) (by omega)
  have w6 := wk (k := 1000) (z := z6) (by decide) (by decide) (by omega) (by omega)
  have w7 := wk (k := 1000) (z := z7) (by decide) (by decide) (by omega) (by omega)
  have w8 := wk (k := 1000) (z := z8) (by decide) (by decide) (by omega) (by omega)
  have w9 := wk (k := 1000) (z := z9) (by decide) (by decide) (by omega) (by omega)
  have w10 := wk (k := 1000) (z := z10) (by decide) (by decide) (by omega) (by omega)
  have w11 := wz (z := z11.tmod 4) (by omega) (by omega)
  have w12 := wk (k := 1000) (z := z12.tmod 20000) (by decide) (by decide) (by omega) (by omega)
  have w14 := wk (k := 100000) (z := z14) (by decide) (by decide) (by omega) (by omega)
  have w16 := wk (k := 10000) (z := z16) (by decide) (by decide) (by omega) (by omega)
  have w17 := wk (k := 10000) (z := z17) (by decide) (by decide) (by omega) (by omega)
  have w18 := wk (k := 100000) (z := z18) (by decide) (by decide) (by omega) (by omega)
  have w19 := wk (k := 100000) (z := z19) (by decide) (by decide) (by omega) (by omega)
  have w20 := wk (k := 100000) (z := z20) (by decide) (by decide) (by omega) (by omega)
  have p1 := pl_mn s2 s0
  have p2 := pl_mx s2 s0
  have p3 := pl_mn s3 s1
  have p4 := pl_mx s3 s1
  obtain ⟨HO, eh, sh⟩ := hole_ex r14 z15
  have m1 := mn_ok x2 x0
  have m2 := mx_ok x2 x0
  have m3 := mn_ok x3 x1
  have m4 := mx_ok x3 x1
  have hv : vStd (1000 * z1) (1000 * z3.tmod 3000) (1000 * z5) (1000 * z6) (1000 * z7) (1000 * z8) 0 0 0 (1000 * z12.tmod 20000) gl (100000 * z14) HO := ⟨(by unfold inL; omega), (by unfold inK; omega), (by unfold inL; omega), (by unfold inL; omega), (by unfold inL; omega), (by unfold inL; omega), (by unfold inL; omega), (by unfold inL; omega), by omega, (by unfold inL; omega), hg, sh, .inl ⟨rfl, rfl, rfl⟩⟩
  have u0 := wpt s0
  have u1 := wpt s1
  have u2 := wpt s2
  have u3 := wpt s3
  have o0 := ar_ok s2 s0
  have o1 := ar_ok s3 s1
  have o2 := pt_ok s0
  have o3 := pt_ok s1
  have o4 := pt_ok s2
  have o5 := pt_ok s3
  have g0 := film_in f0
  have g1 := film_in f1
  simp only [wd2, wd3, wd4, wd5, wd6, wd7, wd8, wd9, wd10, wd11, wd12, wd13, wd14, wd15, wd16, wd17, wd18, wd19, wd20, wd21, wd22, wd23, wd24, wd25, wd26, wd27, wd28, wd29, wd30, wd31, wd32, wd33, wd34, wd35, wd36, wd37, wd38, wdN, wdV, Bool.cond_self, q13, w1, w2, w3, w4, w5, w6, w7, w8, w9, w10, w11, w12, w14, w16, w17, w18, w19, w20, p1, p2, p3, p4, u0, u1, u2, u3, eh, eg, k4, n0, n1, n2, and_true, true_and]
  exact ⟨by repeat' (first | assumption | apply And.intro | intro _), wV_t (mn_st hv.hc hv.hk hv.h0 hv.h1 hv.h2 hv.h3 (ar_ok s2 s0) (ar_ok s3 s1) (pt_in ⟨by omega, by omega⟩) (pt_in ⟨by omega, by omega⟩)) (mn_st hv.hc hv.hk hv.h0 hv.h1 hv.h2 hv.h3 (ar_ok s2 s0) (ar_ok s3 s1) (pt_in ⟨by omega, by omega⟩) (pt_in ⟨by omega, by omega⟩))⟩
theorem we_ok {z0 z1 z2 z3 z4 z5 z6 z7 z8 z9 z10 z11 z12 z13 z14 z15 z16 z17 z18 z19 z20 : Int} {gl : ByteArray} {g : Nat} {n e0 e1 e2 x0 x1 x2 x3 : Int} (d : Dr z0 z1 z2 z3 z4 z5 z6 z7 z8 z9 z10 z11 z12 z13 z14 z15 z16 z17 z18 z19 z20) (p : Xd4 x0 x1 x2 x3) (f0 : 0 ≤ e0 ∧ e0 ≤ 255) (f1 : 0 ≤ e1 ∧ e1 ≤ 255) (f2 : 0 ≤ e2 ∧ e2 ≤ 255) (hg : inG gl) (eg : z13.tmod 5 = (g : Int)) (k4 : (z0.tmod (8 : Int) == 4) = true) (n0 : decide (0 < n) = true) (n1 : decide ((1 : Int) < n) = true) (n2 : decide ((2 : Int) < n) = true) : weN z0 z1 z2 z3 z4 z5 z6 z7 z8 z9 z10 z11 z12 z13 z14 z15 z16 z17 z18 z19 z20 gl g n e0 e1 e2 x0 x1 x2 x3 ∧ weV z0 z1 z2 z3 z4 z5 z6 z7 z8 z9 z10 z11 z12 z13 z14 z15 z16 z17 z18 z19 z20 gl g n e0 e1 e2 x0 x1 x2 x3 = true := by
  obtain ⟨r0, r1, r2, r3, r4, r5, r6, r7, r8, r9, r10, r11, r12, r13, r14, r15, r16, r17, r18, r19, r20⟩ := d
  obtain ⟨s0, s1, s2, s3⟩ := p
  have t3 := tm_bd z3 (k := 3000) (by decide)
  have t4 := tm_bd z4 (k := 3000) (by decide)
  have t12 := tm_bd z12 (k := 20000) (by decide)
  have t11 := tm_bd z11 (k := 4) (by decide)
  have q13 := wz (z := z13) (by omega) (by omega)
  have w1 := wk (k := 1000) (z := z1) (by decide) (by decide) (by omega) (by omega)
  have w2 := wk (k := 1000) (z := z2) (by decide) (by decide) (by omega) (by omega)
  have w3 := wk (k := 1000) (z := z3.tmod 3000) (by decide) (by decide) (by omega) (by omega)
  have w4 := wk (k := 1000) (z := z4.tmod 3000) (by decide) (by decide) (by omega) (by omega)
  have w5 := wk (k := 1000) (z := z5) (by decide) (by decide) (by omega) (by omega)
  have w6 := wk (k := 1000) (z := z6) (by decide) (by decide) (by omega) (by omega)
  have w7 := wk (k := 1000) (z := z7) (by decide) (by decide) (by omega) (by omega)
  have w8 := wk (k := 1000) (z := z8) (by decide) (by decide) (by omega) (by omega)
  have w9 := wk (k := 1000) (z := z9) (by decide) (by decide) (by omega) (by omega)
  have w10 := wk (k := 1000) (z := z10) (by decide) (by decide) (by omega) (by omega)
  have w11 := wz (z := z11.tmod 4) (by omega) (by omega)
  have w12 := wk (k := 1000) (z := z12.tmod 20000) (by decide) (by decide) (by omega) (by omega)
  have w14 := wk (k := 100000) (z := z14) (by decide) (by decide) (by omega) (by omega)
  have w16 := wk (k := 10000) (z := z16) (by decide) (by decide) (by omega) (by omega)
  have w17 := wk (k := 10000) (z := z17) (by decide) (by decide) (by omega) (by omega)
  have w18 := wk (k := 100000) (z := z18) (by decide) (by decide) (by omega) (by omega)
  have w19 := wk (k := 100000) (z := z19) (by decide) (by decide) (by omega) (by omega)
  have w20 := wk (k := 100000) (z := z20) (by decide) (by decide) (by omega) (by omega)
  have p1 := pl_mn s2 s0
  have p2 := pl_mx s2 s0
  have p3 := pl_mn s3 s1
  have p4 := pl_mx s3 s1
  obtain ⟨HO, eh, sh⟩ := hole_ex r14 z15
  have m1 := mn_ok x2 x0
  have m2 := mx_ok x2 x0
  have m3 := mn_ok x3 x1
  have m4 := mx_ok x3 x1
  have hv : vStd (1000 * z1) (1000 * z3.tmod 3000) (1000 * z5) (1000 * z6) (1000 * z7) (1000 * z8) 0 0 0 (1000 * z12.tmod 20000) gl (100000 * z14) HO := ⟨(by unfold inL; omega), (by unfold inK; omega), (by unfold inL; omega), (by unfold inL; omega), (by unfold inL; omega), (by unfold inL; omega), (by unfold inL; omega), (by unfold inL; omega), by omega, (by unfold inL; omega), hg, sh, .inl ⟨rfl, rfl, rfl⟩⟩
  have u0 := wpt s0
  have u1 := wpt s1
  have u2 := wpt s2
  have u3 := wpt s3
  have o0 := ar_ok s2 s0
  have o1 := ar_ok s3 s1
  have o2 := pt_ok s0
  have o3 := pt_ok s1
  have o4 := pt_ok s2
  have o5 := pt_ok s3
  have g0 := film_in f0
  have g1 := film_in f1
  have g2 := film_in f2
  simp only [we2, we3, we4, we5, we6, we7, we8, we9, we10, we11, we12, we13, we14, we15, we16, we17, we18, we19, we20, we21, we22, we23, we24, we25, we26, we27, we28, we29, we30, we31, we32, we33, we34, we35, we36, we37, we38, weN, weV, Bool.cond_self, q13, w1, w2, w3, w4, w5, w6, w7, w8, w9, w10, w11, w12, w14, w16, w17, w18, w19, w20, p1, p2, p3, p4, u0, u1, u2, u3, eh, eg, k4, n0, n1, n2, and_true, true_and]
  exact ⟨by repeat' (first | assumption | apply And.intro | intro _), wV_t (mn_st hv.hc hv.hk hv.h0 hv.h1 hv.h2 hv.h3 (ar_ok s2 s0) (ar_ok s3 s1) (pt_in ⟨by omega, by omega⟩) (pt_in ⟨by omega, by omega⟩)) (mn_st hv.hc hv.hk hv.h0 hv.h1 hv.h2 hv.h3 (ar_ok s2 s0) (ar_ok s3 s1) (pt_in ⟨by omega, by omega⟩) (pt_in ⟨by omega, by omega⟩))⟩
theorem wf_ok {z0 z1 z2 z3 z4 z5 z6 z7 z8 z9 z10 z11 z12 z13 z14 z15 z16 z17 z18 z19 z20 : Int} {gl : ByteArray} {g : Nat} {n  x0 x1 x2 x3 : Int} (d : Dr z0 z1 z2 z3 z4 z5 z6 z7 z8 z9 z10 z11 z12 z13 z14 z15 z16 z17 z18 z19 z20) (p : Xd4 x0 x1 x2 x3) (hg : inG gl) (eg : z13.tmod 5 = (g : Int)) (k4 : (z0.tmod (8 : Int) == 4) = false) (k5 : (z0.tmod (8 : Int) == 5) = true) : wfN z0 z1 z2 z3 z4 z5 z6 z7 z8 z9 z10 z11 z12 z13 z14 z15 z16 z17 z18 z19 z20 gl g n  x0 x1 x2 x3 ∧ wfV z0 z1 z2 z3 z4 z5 z6 z7 z8 z9 z10 z11 z12 z13 z14 z15 z16 z17 z18 z19 z20 gl g n  x0 x1 x2 x3 = true := by
  obtain ⟨r0, r1, r2, r3, r4, r5, r6, r7, r8, r9, r10, r11, r12, r13, r14, r15, r16, r17, r18, r19, r20⟩ := d
  obtain ⟨s0, s1, s2, s3⟩ := p
  have t3 := tm_bd z3 (k := 3000) (by decide)
  have t4 := tm_bd z4 (k := 3000) (by decide)
  have t12 := tm_bd z12 (k := 20000) (by decide)
  have t11 := tm_bd z11 (k := 4) (by decide)
  have q13 := wz (z := z13) (by omega) (by omega)
  have w1 := wk (k := 1000) (z := z1) (by decide) (by decide) (by omega) (by omega)
  have w2 := wk (k := 1000) (z := z2) (by decide) (by decide) (by omega) (by omega)
  have w3 := wk (k := 1000) (z := z3.tmod 3000) (by decide) (by decide) (by omega) (by omega)
  have w4 := wk (k := 1000) (z := z4.tmod 3000) (by decide) (by decide) (by omega) (by omega)
  have w5 := wk (k := 1000) (z := z5) (by decide) (by decide) (by omega) (by omega)
  have w6 := wk (k := 1000) (z := z6) (by decide) (by decide) (by omega) (by omega)
  have w7 := wk (k := 1000) (z := z7) (by decide) (by decide) (by omega) (by omega)
  have w8 := wk (k := 1000) (z := z8) (by decide) (by decide) (by omega) (by omega)
  have w9 := wk (k := 1000) (z := z9) (by decide) (by decide) (by omega) (by omega)
  have w10 := wk (k := 1000) (z := z10) (by decide) (by decide) (by omega) (by omega)
  have w11 := wz (z := z11.tmod 4) (by omega) (by omega)
  have w12 := wk (k := 1000) (z := z12.tmod 20000) (by decide) (by decide) (by omega) (by omega)
  have w14 := wk (k := 100000) (z := z14) (by decide) (by decide) (by omega) (by omega)
  have w16 := wk (k := 10000) (z := z16) (by decide) (by decide) (by omega) (by omega)
  have w17 := wk (k := 10000) (z := z17) (by decide) (by decide) (by omega) (by omega)
  have w18 := wk (k := 100000) (z := z18) (by decide) (by decide) (by omega) (by omega)
  have w19 := wk (k := 100000) (z := z19) (by decide) (by decide) (by omega) (by omega)
  have w20 := wk (k := 100000) (z := z20) (by decide) (by decide) (by omega) (by omega)
  have p1 := pl_mn s2 s0
  have p2 := pl_mx s2 s0
  have p3 := pl_mn s3 s1
  have p4 := pl_mx s3 s1
  obtain ⟨HO, eh, sh⟩ := hole_ex r14 z15
  have m1 := mn_ok x2 x0
  have m2 := mx_ok x2 x0
  have m3 := mn_ok x3 x1
  have m4 := mx_ok x3 x1
  have hv : vBic (1000 * z1) (1000 * z3.tmod 3000) (1000 * z2) (1000 * z4.tmod 3000) (1000 * z12.tmod 20000) gl (100000 * z14) HO := ⟨(by unfold inL; omega), (by unfold inK; omega), (by unfold inL; omega), (by unfold inK; omega), (by unfold inL; omega), hg, sh⟩
  have u0 := wpt s0
  have u1 := wpt s1
  have u2 := wpt s2
  have u3 := wpt s3
  have o0 := ar_ok s2 s0
  have o1 := ar_ok s3 s1
  have o2 := pt_ok s0
  have o3 := pt_ok s1
  have o4 := pt_ok s2
  have o5 := pt_ok s3
  simp only [wf0, wf1, wf2, wf3, wf4, wf5, wf6, wf7, wf8, wf9, wf10, wf11, wf12, wf13, wf14, wf15, wf16, wf17, wf18, wf19, wf20, wf21, wf22, wf23, wf24, wf25, wf26, wf27, wf28, wf29, wf30, wf31, wf32, wf33, wf34, wfN, wfV, Bool.cond_self, q13, w1, w2, w3, w4, w5, w6, w7, w8, w9, w10, w11, w12, w14, w16, w17, w18, w19, w20, p1, p2, p3, p4, u0, u1, u2, u3, eh, eg, k4, k5, and_true, true_and]
  exact ⟨by repeat' (first | assumption | apply And.intro | intro _), wV_t (mn_bi hv.hc hv.hk hv.hl hv.hm (ar_ok s2 s0) (ar_ok s3 s1) (pt_in ⟨by omega, by omega⟩) (pt_in ⟨by omega, by omega⟩)) (mn_bi hv.hc hv.hk hv.hl hv.hm (ar_ok s2 s0) (ar_ok s3 s1) (pt_in ⟨by omega, by omega⟩) (pt_in ⟨by omega, by omega⟩))⟩
theorem wg_ok {z0 z1 z2 z3 z4 z5 z6 z7 z8 z9 z10 z11 z12 z13 z14 z15 z16 z17 z18 z19 z20 : Int} {gl : ByteArray} {g : Nat} {n  x0 x1 x2 x3 : Int} (d : Dr z0 z1 z2 z3 z4 z5 z6 z7 z8 z9 z10 z11 z12 z13 z14 z15 z16 z17 z18 z19 z20) (p : Xd4 x0 x1 x2 x3) (hg : inG gl) (eg : z13.tmod 5 = (g : Int)) (k4 : (z0.tmod (8 : Int) == 4) = false) (k5 : (z0.tmod (8 : Int) == 5) = false) (k6 : (z0.tmod (8 : Int) == 6) = true) : wgN z0 z1 z2 z3 z4 z5 z6 z7 z8 z9 z10 z11 z12 z13 z14 z15 z16 z17 z18 z19 z20 gl g n  x0 x1 x2 x3 := by
  obtain ⟨r0, r1, r2, r3, r4, r5, r6, r7, r8, r9, r10, r11, r12, r13, r14, r15, r16, r17, r18, r19, r20⟩ := d
  obtain ⟨s0, s1, s2, s3⟩ := p
  have t3 := tm_bd z3 (k := 3000) (by decide)
  have t4 := tm_bd z4 (k := 3000) (by decide)
  have t12 := tm_bd z12 (k := 20000) (by decide)
  have t11 := tm_bd z11 (k := 4) (by decide)
  have q13 := wz (z := z13) (by omega) (by omega)
  have w1 := wk (k := 1000) (z := z1) (by decide) (by decide) (by omega) (by omega)
  have w2 := wk (k := 1000) (z := z2) (by decide) (by decide) (by omega) (by omega)
  have w3 := wk (k := 1000) (z := z3.tmod 3000) (by decide) (by decide) (by omega) (by omega)
  have w4 := wk (k := 1000) (z := z4.tmod 3000) (by decide) (by decide) (by omega) (by omega)
  have w5 := wk (k := 1000) (z := z5) (by decide) (by decide) (by omega) (by omega)
  have w6 := wk (k := 1000) (z := z6) (by decide) (by decide) (by omega) (by omega)
  have w7 := wk (k := 1000) (z := z7) (by decide) (by decide) (by omega) (by omega)
  have w8 := wk (k := 1000) (z := z8) (by decide) (by decide) (by omega) (by omega)
  have w9 := wk (k := 1000) (z := z9) (by decide) (by decide) (by omega) (by omega)
  have w10 := wk (k := 1000) (z := z10) (by decide) (by decide) (by omega) (by omega)
  have w11 := wz (z := z11.tmod 4) (by omega) (by omega)
  have w12 := wk (k := 1000) (z := z12.tmod 20000) (by decide) (by decide) (by omega) (by omega)
  have w14 := wk (k := 100000) (z := z14) (by decide) (by decide) (by omega) (by omega)
  have w16 := wk (k := 10000) (z := z16) (by decide) (by decide) (by omega) (by omega)
  have w17 := wk (k := 10000) (z := z17) (by decide) (by decide) (by omega) (by omega)
  have w18 := wk (k := 100000) (z := z18) (by decide) (by decide) (by omega) (by omega)
  have w19 := wk (k := 100000) (z := z19) (by decide) (by decide) (by omega) (by omega)
  have w20 := wk (k := 100000) (z := z20) (by decide) (by decide) (by omega) (by omega)
  have p1 := pl_mn s2 s0
  have p2 := pl_mx s2 s0
  have p3 := pl_mn s3 s1
  have p4 := pl_mx s3 s1
  obtain ⟨HO, eh, sh⟩ := hole_ex r14 z15
  have sh0 : inSH 0 0 := ⟨by decide, by decide, by decide, by decide, .inl rfl⟩
  have hv : vBrk (1000 * z12.tmod 20000) (10000 * z16) (10000 * z17) (100000 * z18) (100000 * z19) (100000 * z20) := ⟨(by unfold inL; omega), (by unfold inL; omega), (by unfold inL; omega), (by unfold inA; omega), (by unfold inA; omega), (by unfold inA; omega)⟩
  have u0 := wpt s0
  have u1 := wpt s1
  have u2 := wpt s2
  have u3 := wpt s3
  have o0 := ar_ok s2 s0
  have o1 := ar_ok s3 s1
  have o2 := pt_ok s0
  have o3 := pt_ok s1
  have o4 := pt_ok s2
  have o5 := pt_ok s3
  simp only [wg0, wg1, wg2, wg3, wg4, wg5, wgN, Bool.cond_self, q13, w1, w2, w3, w4, w5, w6, w7, w8, w9, w10, w11, w12, w14, w16, w17, w18, w19, w20, p1, p2, p3, p4, u0, u1, u2, u3, eh, eg, k4, k5, k6, and_true, true_and]
  repeat' (first | assumption | apply And.intro | intro _)
theorem wh_ok {z0 z1 z2 z3 z4 z5 z6 z7 z8 z9 z10 z11 z12 z13 z14 z15 z16 z17 z18 z19 z20 : Int} {gl : ByteArray} {g : Nat} {n  x0 x1 x2 x3 : Int} (d : Dr z0 z1 z2 z3 z4 z5 z6 z7 z8 z9 z10 z11 z12 z13 z14 z15 z16 z17 z18 z19 z20) (p : Xd4 x0 x1 x2 x3) (hg : inG gl) (eg : z13.tmod 5 = (g : Int)) (k4 : (z0.tmod (8 : Int) == 4) = false) (k5 : (z0.tmod (8 : Int) == 5) = false) (k6 : (z0.tmod (8 : Int) == 6) = false) (k7 : (z0.tmod (8 : Int) == 7) = true) (ko : (z11.tmod (2 : Int) == 0) = true) : whN z0 z1 z2 z3 z4 z5 z6 z7 z8 z9 z10 z11 z12 z13 z14 z15 z16 z17 z18 z19 z20 gl g n  x0 x1 x2 x3 := by
  obtain ⟨r0, r1, r2, r3, r4, r5, r6, r7, r8, r9, r10, r11, r12, r13, r14, r15, r16, r17, r18, r19, r20⟩ := d
  obtain ⟨s0, s1, s2, s3⟩ := p
  have t3 := tm_bd z3 (k := 3000) (by decide)
  have t4 := tm_bd z4 (k := 3000) (by decide)
  have t12 := tm_bd z12 (k := 20000) (by decide)
  have t11 := tm_bd z11 (k := 4) (by decide)
  have q13 := wz (z := z13) (by omega) (by omega)
  have w1 := wk (k := 1000) (z := z1) (by decide) (by decide) (by omega) (by omega)
  have w2 := wk (k := 1000) (z := z2) (by decide) (by decide) (by omega) (by omega)
  have w3 := wk (k := 1000) (z := z3.tmod 3000) (by decide) (by decide) (by omega) (by omega)
  have w4 := wk (k := 1000) (z := z4.tmod 3000) (by decide) (by decide) (by omega) (by omega)
  have w5 := wk (k := 1000) (z := z5) (by decide) (by decide) (by omega) (by omega)
  have w6 := wk (k := 1000) (z := z6) (by decide) (by decide) (by omega) (by omega)
  have w7 := wk (k := 1000) (z := z7) (by decide) (by decide) (by omega) (by omega)
  have w8 := wk (k := 1000) (z := z8) (by decide) (by decide) (by omega) (by omega)
  have w9 := wk (k := 1000) (z := z9) (by decide) (by decide) (by omega) (by omega)
  have w10 := wk (k := 1000) (z := z10) (by decide) (by decide) (by omega) (by omega)
  have w11 := wz (z := z11.tmod 4) (by omega) (by omega)
  have w12 := wk (k := 1000) (z := z12.tmod 20000) (by decide) (by decide) (by omega) (by omega)
  have w14 := wk (k := 100000) (z := z14) (by decide) (by decide) (by omega) (by omega)
  have w16 := wk (k := 10000) (z := z16) (by decide) (by decide) (by omega) (by omega)
  have w17 := wk (k := 10000) (z := z17) (by decide) (by decide) (by omega) (by omega)
  have w18 := wk (k := 100000) (z := z18) (by decide) (by decide) (by omega) (by omega)
  have w19 := wk (k := 100000) (z := z19) (by decide) (by decide) (by omega) (by omega)
  have w20 := wk (k := 100000) (z := z20) (by decide) (by decide) (by omega) (by omega)
  have p1 := pl_mn s2 s0
  have p2 := pl_mx s2 s0
  have p3 := pl_mn s3 s1
  have p4 := pl_mx s3 s1
  obtain ⟨HO, eh, sh⟩ := hole_ex r14 z15
  have m1 := mn_ok x2 x0
  have m2 := mx_ok x2 x0
  have m3 := mn_ok x3 x1
  have m4 := mx_ok x3 x1
  have hv : vIdl (1000 * z1) (1000 * z12.tmod 20000) (100000 * z14) HO := ⟨(by unfold inL; omega), (by unfold inL; omega), sh⟩
  have u0 := wpt s0
  have u1 := wpt s1
  have u2 := wpt s2
  have u3 := wpt s3
  have o0 := ar_ok s2 s0
  have o1 := ar_ok s3 s1
  have o2 := pt_ok s0
  have o3 := pt_ok s1
  have o4 := pt_ok s2
  have o5 := pt_ok s3
  simp only [wh0, wh1, wh2, wh3, wh4, wh5, wh6, whN, Bool.cond_self, q13, w1, w2, w3, w4, w5, w6, w7, w8, w9, w10, w11, w12, w14, w16, w17, w18, w19, w20, p1, p2, p3, p4, u0, u1, u2, u3, eh, eg, k4, k5, k6, k7, ko, and_true, true_and]
  repeat' (first | assumption | apply And.intro | intro _)
theorem wi_ok {z0 z1 z2 z3 z4 z5 z6 z7 z8 z9 z10 z11 z12 z13 z14 z15 z16 z17 z18 z19 z20 : Int} {gl : ByteArray} {g : Nat} {n  x0 x1 x2 x3 : Int} (d : Dr z0 z1 z2 z3 z4 z5 z6 z7 z8 z9 z10 z11 z12 z13 z14 z15 z16 z17 z18 z19 z20) (p : Xd4 x0 x1 x2 x3) (hg : inG gl) (eg : z13.tmod 5 = (g : Int)) (k4 : (z0.tmod (8 : Int) == 4) = false) (k5 : (z0.tmod (8 : Int) == 5) = false) (k6 : (z0.tmod (8 : Int) == 6) = false) (k7 : (z0.tmod (8 : Int) == 7) = true) (ko : (z11.tmod (2 : Int) == 0) = false) : wiN z0 z1 z2 z3 z4 z5 z6 z7 z8 z9 z10 z11 z12 z13 z14 z15 z16 z17 z18 z19 z20 gl g n  x0 x1 x2 x3 ∧ wiV z0 z1 z2 z3 z4 z5 z6 z7 z8 z9 z10 z11 z12 z13 z14 z15 z16 z17 z18 z19 z20 gl g n  x0 x1 x2 x3 = true := by
  obtain ⟨r0, r1, r2, r3, r4, r5, r6, r7, r8, r9, r10, r11, r12, r13, r14, r15, r16, r17, r18, r19, r20⟩ := d
  obtain ⟨s0, s1, s2, s3⟩ := p
  have t3 := tm_bd z3 (k := 3000) (by decide)
  have t4 := tm_bd z4 (k := 3000) (by decide)
  have t12 := tm_bd z12 (k := 20000) (by decide)
  have t11 := tm_bd z11 (k := 4) (by decide)
  have q13 := wz (z := z13) (by omega) (by omega)
  have w1 := wk (k := 1000) (z := z1) (by decide) (by decide) (by omega) (by omega)
  have w2 := wk (k := 1000) (z := z2) (by decide) (by decide) (by omega) (by omega)
  have w3 := wk (k := 1000) (z := z3.tmod 3000) (by decide) (by decide) (by omega) (by omega)
  have w4 := wk (k := 1000) (z := z4.tmod 3000) (by decide) (by decide) (by omega) (by omega)
  have w5 := wk (k := 1000) (z := z5) (by decide) (by decide) (by omega) (by omega)
  have w6 := wk (k := 1000) (z := z6) (by decide) (by decide) (by omega) (by omega)
  have w7 := wk (k := 1000) (z := z7) (by decide) (by decide) (by omega) (by omega)
  have w8 := wk (k := 1000) (z := z8) (by decide) (by decide) (by omega) (by omega)
  have w9 := wk (k := 1000) (z := z9) (by decide) (by decide) (by omega) (by omega)
  have w10 := wk (k := 1000) (z := z10) (by decide) (by decide) (by omega) (by omega)
  have w11 := wz (z := z11.tmod 4) (by omega) (by omega)
  have w12 := wk (k := 1000) (z := z12.tmod 20000) (by decide) (by decide) (by omega) (by omega)
  have w14 := wk (k := 100000) (z := z14) (by decide) (by decide) (by omega) (by omega)
  have w16 := wk (k := 10000) (z := z16) (by decide) (by decide) (by omega) (by omega)
  have w17 := wk (k := 10000) (z := z17) (by decide) (by decide) (by omega) (by omega)
  have w18 := wk (k := 100000) (z := z18) (by decide) (by decide) (by omega) (by omega)
  have w19 := wk (k := 100000) (z := z19) (by decide) (by decide) (by omega) (by omega)
  have w20 := wk (k := 100000) (z := z20) (by decide) (by decide) (by omega) (by omega)
  have p1 := pl_mn s2 s0
  have p2 := pl_mx s2 s0
  have p3 := pl_mn s3 s1
  have p4 := pl_mx s3 s1
  obtain ⟨HO, eh, sh⟩ := hole_ex r14 z15
  have m1 := mn_ok x2 x0
  have m2 := mx_ok x2 x0
  have m3 := mn_ok x3 x1
  have m4 := mx_ok x3 x1
  have hv : vStd (1000 * z1) (1000 * z3.tmod 3000) 0 0 0 0 (bif !eqBytes gl { data := #[77, 73, 82, 82, 79, 82] } then 1000 * z9 else 0) (bif !eqBytes gl { data := #[77, 73, 82, 82, 79, 82] } then 1000 * z10 else 0) (bif !eqBytes gl { data := #[77, 73, 82, 82, 79, 82] } then z11.tmod 4 else 0) (1000 * z12.tmod 20000) gl (100000 * z14) HO := by
    have od : z11.tmod 4 ≠ 0 := fun h => by
      have : z11.tmod 2 = 0 := by
        have d1 : (4 : Int) ∣ z11 := Int.dvd_of_tmod_eq_zero h
        exact Int.tmod_eq_zero_of_dvd (by omega)
      rw [this] at ko; cases ko
    cases he : eqBytes gl { data := #[77, 73, 82, 82, 79, 82] } with
    | true => exact ⟨(by unfold inL; omega), (by unfold inK; omega), (by unfold inL; omega), (by unfold inL; omega), (by unfold inL; omega), (by unfold inL; omega), by show inL 0; unfold inL; omega, by show inL 0; unfold inL; omega, by simp only [Bool.not_true, cond_false]; omega, (by unfold inL; omega), hg, sh, .inl ⟨rfl, rfl, rfl⟩⟩
    | false =>
      have ne : gl ≠ g3 := fun h => by
        have := (eqBytes_iff gl _).2 (show gl = { data := #[77, 73, 82, 82, 79, 82] } from h)
        rw [he] at this; cases this
      exact ⟨(by unfold inL; omega), (by unfold inK; omega), (by unfold inL; omega), (by unfold inL; omega), (by unfold inL; omega), (by unfold inL; omega), by show inL (1000 * z9); unfold inL; omega, by show inL (1000 * z10); unfold inL; omega, by show -3 ≤ z11.tmod 4 ∧ z11.tmod 4 ≤ 3; omega, (by unfold inL; omega), hg, sh, .inr ⟨od, ne⟩⟩
  have u0 := wpt s0
  have u1 := wpt s1
  have u2 := wpt s2
  have u3 := wpt s3
  have o0 := ar_ok s2 s0
  have o1 := ar_ok s3 s1
  have o2 := pt_ok s0
  have o3 := pt_ok s1
  have o4 := pt_ok s2
  have o5 := pt_ok s3
  simp only [wi0, wi1, wi2, wi3, wi4, wi5, wi6, wi7, wi8, wi9, wi10, wi11, wi12, wi13, wi14, wi15, wi16, wi17, wi18, wi19, wi20, wi21, wi22, wi23, wi24, wi25, wi26, wi27, wi28, wi29, wi30, wi31, wi32, wi33, wi34, wi35, wi36, wi37, wi38, wiN, wiV, Bool.cond_self, q13, w1, w2, w3, w4, w5, w6, w7, w8, w9, w10, w11, w12, w14, w16, w17, w18, w19, w20, p1, p2, p3, p4, u0, u1, u2, u3, eh, eg, k4, k5, k6, k7, ko, and_true, true_and]
  exact ⟨by repeat' (first | assumption | apply And.intro | intro _), wV_t (mn_st hv.hc hv.hk hv.h0 hv.h1 hv.h2 hv.h3 (ar_ok s2 s0) (ar_ok s3 s1) (pt_in ⟨by omega, by omega⟩) (pt_in ⟨by omega, by omega⟩)) (mn_st hv.hc hv.hk hv.h0 hv.h1 hv.h2 hv.h3 (ar_ok s2 s0) (ar_ok s3 s1) (pt_in ⟨by omega, by omega⟩) (pt_in ⟨by omega, by omega⟩))⟩
end Go.Rd
