/- What is proved: SurfaceEven returns true, whatever the input (part 7 of 24). No conditions beyond those of the row. -/
import Derived.Test.YtiigkjnhmipnfaaGreatDoorPF
set_option linter.unusedVariables false
set_option linter.unusedSimpArgs false
set_option linter.unusedSectionVars false
namespace Go.Rd
open Go Go.Eng Go.Ar
theorem gl_in {g : Nat} : inG (glassB g) := by
  unfold inG isG glassB
  split
  · exact .inr (.inl rfl)
  · exact .inr (.inr (.inl rfl))
  · exact .inr (.inr (.inr (.inl rfl)))
  · exact .inr (.inr (.inr (.inr rfl)))
  · exact .inl rfl
theorem va_ok {z0 z1 z2 z3 z4 z5 z6 z7 z8 z9 z10 z11 z12 z13 z14 z15 z16 z17 z18 z19 z20 : Int} {gl : ByteArray} {g : Nat} {n  p q r t x0 x1 x2 x3 : Int} (d : Dr z0 z1 z2 z3 z4 z5 z6 z7 z8 z9 z10 z11 z12 z13 z14 z15 z16 z17 z18 z19 z20) (pX : Xd4 x0 x1 x2 x3) (hg : inG gl) (eg : z13.tmod 5 = (g : Int)) (k4 : (z0.tmod (8 : Int) == 4) = false) (k5 : (z0.tmod (8 : Int) == 5) = false) (k6 : (z0.tmod (8 : Int) == 6) = false) (k7 : (z0.tmod (8 : Int) == 7) = false) : vaN z0 z1 z2 z3 z4 z5 z6 z7 z8 z9 z10 z11 z12 z13 z14 z15 z16 z17 z18 z19 z20 gl g n  p q r t x0 x1 x2 x3 ∧ vaV z0 z1 z2 z3 z4 z5 z6 z7 z8 z9 z10 z11 z12 z13 z14 z15 z16 z17 z18 z19 z20 gl g n  p q r t x0 x1 x2 x3 = true := by
  obtain ⟨r0, r1, r2, r3, r4, r5, r6, r7, r8, r9, r10, r11, r12, r13, r14, r15, r16, r17, r18, r19, r20⟩ := d
  obtain ⟨s0, s1, s2, s3⟩ := pX
  have t3 := tm_bd z3 (k := 3000) (by decide)
  have t4 := tm_bd z4 (k := 3000) (by decide)
  have t12 := tm_bd z12 (k := 20000) (by decide)
  have t11 := tm_bd z11 (k := 4) (by decide)
  have q13 := wz (z := z13) (by omega) (by omega)
  have w1 := wk (k := 1000) (z := z1) (by decide) (by decide) (by omega) (by omega)
  have w2 := wk (k := 1000) (z := z2) (by decide) (by decide) (by omega) (by omega)
  have w3 := wk (k := 1000) (z := z3.tmod 3000) (by decide) (by decide) (by omega) (by omega)
  have w4 := wk (k := 1000) (z := z4.tmod 3000) (by decide) (by decide) (by omega) (by omega)
  have w5 := wk (k := 1000) (z := z5) (by decide) (by decide) (by omega) (by omega)
  have w6 := wk (k := 1000) (z := z6) (by decide) (by decide) (by omega) (by omega)
  have w7 := wk (k := 1000) (z := z7) (by decide) (by decide) (by omega) (by omega)
  have w8 := wk (k := 1000) (z := z8) (by decide) (by decide) (by omega) (by omega)
  have w9 := wk (k := 1000) (z := z9) (by decide) (by decide) (by omega) (by omega)
  have w10 := wk (k := 1000) (z := z10) (by decide) (by decide) (by omega) (by omega)
  have w11 := wz (z := z11.tmod 4) (by omega) (by omega)
  have w12 := wk (k := 1000) (z := z12.tmod 20000) (by decide) (by decide) (by omega) (by omega)
  have w14 := wk (k := 100000) (z := z14) (by decide) (by decide) (by omega) (by omega)
  have w16 := wk (k := 10000) (z := z16) (by decide) (by decide) (by omega) (by omega)
  have w17 := wk (k := 10000) (z := z17) (by decide) (by decide) (by omega) (by omega)
  have w18 := wk (k := 100000) (z := z18) (by decide) (by decide) (by omega) (by omega)
  have w19 := wk (k := 100000) (z := z19) (by decide) (by decide) (by omega) (by omega)
  have w20 := wk (k := 100000) (z := z20) (by decide) (by decide) (by omega) (by omega)
  have p1 := pl_mn s2 s0
  have p2 := pl_mx s2 s0
  have p3 := pl_mn s3 s1
  have p4 := pl_mx s3 s1
  obtain ⟨HO, eh, sh⟩ := hole_ex r14 z15
  have m1 := mn_ok x2 x0
  have m2 := mx_ok x2 x0
  have m3 := mn_ok x3 x1
  have m4 := mx_ok x3 x1
  have hv : vStd (1000 * z1) (1000 * z3.tmod 3000) 0 0 0 0 0 0 0 (1000 * z12.tmod 20000) gl (100000 * z14) HO := ⟨(by unfold inL; omega), (by unfold inK; omega), (by unfold inL; omega), (by unfold inL; omega), (by unfold inL; omega), (by unfold inL; omega), (by unfold inL; omega), (by unfold inL; omega), by omega, (by unfold inL; omega), hg, sh, .inl ⟨rfl, rfl, rfl⟩⟩
  have u0 := wpt s0
  have u1 := wpt s1
  have u2 := wpt s2
  have u3 := wpt s3
  simp only [va1, va2, va3, va4, va5, va6, va7, va8, va9, va10, va11, va16, va17, va18, va19, va20, va21, va26, va27, va28, va29, va30, va31, va32, va33, va34, va39, vaS, vaN, vaV, Bool.cond_self, q13, w1, w2, w3, w4, w5, w6, w7, w8, w9, w10, w11, w12, w14, w16, w17, w18, w19, w20, p1, p2, p3, p4, u0, u1, u2, u3, eh, eg, k4, k5, k6, k7, and_true, true_and]
  exact ⟨by repeat' (first | assumption | apply And.intro | intro _), evV_t (turn_st hv.hc) (turn_st hv.hc) (turn_st hv.hc) (turn_st hv.hc)⟩
theorem vb_ok {z0 z1 z2 z3 z4 z5 z6 z7 z8 z9 z10 z11 z12 z13 z14 z15 z16 z17 z18 z19 z20 : Int} {gl : ByteArray} {g : Nat} {n  p q r t x0 x1 x2 x3 : Int} (d : Dr z0 z1 z2 z3 z4 z5 z6 z7 z8 z9 z10 z11 z12 z13 z14 z15 z16 z17 z18 z19 z20) (pX : Xd4 x0 x1 x2 x3) (hg : inG gl) (eg : z13.tmod 5 = (g : Int)) (k4 : (z0.tmod (8 : Int) == 4) = true) (n0 : decide (0 < n) = false) : vbN z0 z1 z2 z3 z4 z5 z6 z7 z8 z9 z10 z11 z12 z13 z14 z15 z16 z17 z18 z19 z20 gl g n  p q r t x0 x1 x2 x3 ∧ vbV z0 z1 z2 z3 z4 z5 z6 z7 z8 z9 z10 z11 z12 z13 z14 z15 z16 z17 z18 z19 z20 gl g n  p q r t x0 x1 x2 x3 = true := by
  obtain ⟨r0, r1, r2, r3, r4, r5, r6, r7, r8, r9, r10, r11, r12, r13, r14, r15, r16, r17, r18, r19, r20⟩ := d
  obtain ⟨s0, s1, s2, s3⟩ := pX
  have t3 := tm_bd z3 (k := 3000) (by decide)
  have t4 := tm_bd z4 (k := 3000) (by decide)
  have t12 := tm_bd z12 (k := 20000) (by decide)
  have t11 := tm_bd z11 (k := 4) (by decide)
  have q13 := wz (z := z13) (by omega) (by omega)
  have w1 := wk (k := 1000) (z := z1) (by decide) (by decide) (by omega) (by omega)
  have w2 := wk (k := 1000) (z := z2) (by decide) (by decide) (by omega) (by omega)
  have w3 := wk (k := 1000) (z := z3.tmod 3000) (by decide) (by decide) (by omega) (by omega)
  have w4 := wk (k := 1000) (z := z4.tmod 3000) (by decide) (by decide) (by omega) (by omega)
  have w5 := wk (k := 1000) (z := z5) (by decide) (by decide) (by omega) (by omega)
  have w6 := wk (k := 1000) (z := z6) (by decide) (by decide) (by omega) (by omega)
  have w7 := wk (k := 1000) (z := z7) (by decide) (by decide) (by omega) (by omega)
  have w8 := wk (k := 1000) (z := z8) (by decide) (by decide) (by omega) (by omega)
  have w9 := wk (k := 1000) (z := z9) (by decide) (by decide) (by omega) (by omega)
  have w10 := wk (k := 1000) (z := z10) (by decide) (by decide) (by omega) (by omega)
  have w11 := wz (z := z11.tmod 4) (by omega) (by omega)
  have w12 := wk (k := 1000) (z := z12.tmod 20000) (by decide) (by decide) (by omega) (by omega)
  have w14 := wk (k := 100000) (z := z14) (by decide) (by decide) (by omega) (by omega)
  have w16 := wk (k := 10000) (z := z16) (by decide) (by decide) (by omega) (by omega)
  have w17 := wk (k := 10000) (z := z17) (by decide) (by decide) (by omega) (by omega)
  have w18 := wk (k := 100000) (z := z18) (by decide) (by decide) (by omega) (by omega)
  have w19 := wk (k := 100000) (z := z19) (by decide) (by decide) (by omega) (by omega)
  have w20 := wk (k := 100000) (z := z20) (by decide) (by decide) (by omega) (by omega)
  have p1 := pl_mn s2 s0
  have p2 := pl_mx s2 s0
  have p3 := pl_mn s3 s1
  have p4 := pl_mx s3 s1
  obtain ⟨HO, eh, sh⟩ := hole_ex r14 z15
  have m1 := mn_ok x2 x0
  have m2 := mx_ok x2 x0
  have m3 := mn_ok x3 x1
  have m4 := mx_ok x3 x1
  have hv : vStd (1000 * z1) (1000 * z3.tmod 3000) (1000 * z5) (1000 * z6) (1000 * z7) (1000 * z8) 0 0 0 (1000 * z12.tmod 20000) gl (100000 * z14) HO := ⟨(by unfold inL; omega), (by unfold inK; omega), (by unfold inL; omega), (by unfold inL; omega), (by unfold inL; omega), (by unfold inL; omega), (by unfold inL; omega), (by unfold inL; omega), by omega, (by unfold inL; omega), hg, sh, .inl ⟨rfl, rfl, rfl⟩⟩
  have u0 := wpt s0
  have u1 := wpt s1
  have u2 := wpt s2
  have u3 := wpt s3
  simp only [vb1, vb2, vb3, vb4, vb5, vb6, vb7, vb8, vb9, vb10, vb11, vb12, vb13, vb14, vb15, vb20, vb21, vb22, vb23, vb24, vb25, vb30, vb31, vb32, vb33, vb34, vb35, vb36, vb37, vb38, vb43, vbS, vbN, vbV, Bool.cond_self, q13, w1, w2, w3, w4, w5, w6, w7, w8, w9, w10, w11, w12, w14, w16, w17, w18, w19, w20, p1, p2, p3, p4, u0, u1, u2, u3, eh, eg, k4, n0, and_true, true_and]
  exact ⟨by repeat' (first | assumption | apply And.intro | intro _), evV_t (turn_st hv.hc) (turn_st hv.hc) (turn_st hv.hc) (turn_st hv.hc)⟩
theorem vc_ok {z0 z1 z2 z3 z4 z5 z6 z7 z8 z9 z10 z11 z12 z13 z14 z15 z16 z17 z18 z19 z20 : Int} {gl : ByteArray} {g : Nat} {n e0 p q r t x0 x1 x2 x3 : Int} (d : Dr z0 z1 z2 z3 z4 z5 z6 z7 z8 z9 z10 z11 z12 z13 z14 z15 z16 z17 z18 z19 z20) (pX : Xd4 x0 x1 x2 x3) (f0 : 0 ≤ e0 ∧ e0 ≤ 255) (hg : inG gl) (eg : z13.tmod 5 = (g : Int)) (k4 : (z0.tmod (8 : Int) == 4) = true) (n0 : decide (0 < n) = true) (n1 : decide ((1 : Int) < n) = false) : vcN z0 z1 z2 z3 z4 z5 z6 z7 z8 z9 z10 z11 z12 z13 z14 z15 z16 z17 z18 z19 z20 gl g n e0 p q r t x0 x1 x2 x3 ∧ vcV z0 z1 z2 z3 z4 z5 z6 z7 z8 z9 z10 z11 z12 z13 z14 z15 z16 z17 z18 z19 z20 gl g n e0 p q r t x0 x1 x2 x3 = true := by
  obtain ⟨r0, r1, r2, r3, r4, r5, r6, r7, r8, r9, r10, r11, r12, r13, r14, r15, r16, r17, r18, r19, r20⟩ := d
  obtain ⟨s0, s1, s2, s3⟩ := pX
  have t3 := tm_bd z3 (k := 3000) (by decide)
  have t4 := tm_bd z4 (k := 3000) (by decide)
  have t12 := tm_bd z12 (k := 20000) (by decide)
  have t11 := tm_bd z11 (k := 4) (by decide)
  have q13 := wz (z := z13) (by omega) (by omega)
  have w1 := wk (k := 1000) (z := z1) (by decide) (by decide) (by omega) (by omega)
  have w2 := wk (k := 1000) (z := z2) (by decide) (by decide) (by omega) (by omega)
  have w3 := wk (k := 1000) (z := z3.tmod 3000) (by decide) (by decide) (by omega) (by omega)
  have w4 := wk (k := 1000) (z := z4.tmod 3000) (by decide) (by decide) (by omega) (by omega)
  have w5 := wk (k := 1000) (z := z5) (by decide) (by decide) (by omega) (by omega)
  have w6 := wk (k := 1000) (z := z6) (by decide) (by decide) (by omega) (by omega)
  have w7 := wk (k := 1000) (z := z7) (by decide) (by decide) (by omega) (by omega)
  have w8 := wk (k := 1000) (z := z8) (by decide) (by decide) (by omega) (by omega)
  have w9 := wk (k := 1000) (z := z9) (by decide) (by decide) (by omega) (by omega)
  have w10 := wk (k := 1000) (z := z10) (by decide) (by decide) (by omega) (by omega)
  have w11 := wz (z := z11.tmod 4) (by omega) (by omega)
  have w12 := wk (k := 1000) (z := z12.tmod 20000) (by decide) (by decide) (by omega) (by omega)
  have w14 := wk (k := 100000) (z := z14) (by decide) (by decide) (by omega) (by omega)
  have w16 := wk (k := 10000) (z := z16) (by decide) (by decide) (by omega) (by omega)
  have w17 := wk (k := 10000) (z := z17) (by decide) (by decide) (by omega) (by omega)
  have w18 := wk (k := 100000) (z := z18) (by decide) (by decide) (by omega) (by omega)
  have w19 := wk (k := 100000) (z := z19) (by decide) (by decide) (by omega) (by omega)
  have w20 := wk (k := 100000) (z := z20) (by decide) (by decide) (by omega) (by omega)
  have p1 := pl_mn s2 s0
  have p2 := pl_mx s2 s0
  have p3 := pl_mn s3 s1
  have p4 := pl_mx s3 s1
  obtain ⟨HO, eh, sh⟩ := hole_ex r14 z15
  have m1 := mn_ok x2 x0
  have m2 := mx_ok x2 x0
  have m3 := mn_ok x3 x1
  have m4 := mx_ok x3 x1
  have hv : vStd (1000 * z1) (1000 * z3.tmod 3000) (1000 * z5) (1000 * z6) (1000 * z7) (1000 * z8) 0 0 0 (1000 * z12.tmod 20000) gl (100000 * z14) HO := ⟨(by unfold inL; omega), (by unfold inK; omega), (by unfold inL; omega), (by unfold inL; omega), (by unfold inL; omega), (by unfold inL; omega), (by unfold inL; omega), (by unfold inL; omega), by omega, (by unfold inL; omega), hg, sh, .inl ⟨rfl, rfl, rfl⟩⟩
  have u0 := wpt s0
  have u1 := wpt s1
  have u2 := wpt s2
  have u3 := wpt s3
  have g0 := film_in f0
  simp only [vc2, vc3, vc4, vc5, vc6, vc7, vc8, vc9, vc10, vc11, vc12, vc13, vc14, vc15, vc16, vc21, vc22, vc23, vc24, vc25, vc26, vc31, vc32, vc33, vc34, vc35, vc36, vc37, vc38, vc39, vc44, vcS, vcN, vcV, Bool.cond_self, q13, w1, w2, w3, w4, w5, w6, w7, w8, w9, w10, w11, w12, w14, w16, w17, w18, w19, w20, p1, p2, p3, p4, u0, u1, u2, u3, eh, eg, k4, n0, n1, and_true, true_and]
  exact ⟨by repeat' (first | assumption | apply And.intro | intro _), evV_t (turn_st hv.hc) (turn_st hv.hc) (turn_st hv.hc) (turn_st hv.hc)⟩
theorem vd_ok {z0 z1 z2 z3 z4 z5 z6 z7 z8 z9 z10 z11 z12 z13 z14 z15 z16 z17 z18 z19 z20 : Int} {gl : ByteArray} {g : Nat} {n e0 e1 p q r t x0 x1 x2 x3 : Int} (d : Dr z0 z1 z2 z3 z4 z5 z6 z7 z8 z9 z10 z11 z12 z13 z14 z15 z16 z17 z18 z19 z20) (pX : Xd4 x0 x1 x2 x3) (f0 : 0 ≤ e0 ∧ e0 ≤ 255) (f1 : 0 ≤ e1 ∧ e1 ≤ 255) (hg : inG gl) (eg : z13.tmod 5 = (g : Int)) (k4 : (z0.tmod (8 : Int) == 4) = true) (n0 : decide (0 < n) = true) (n1 : decide ((1 : Int) < n) = true) (n2 : decide ((2 : Int) < n) = false) : vdN z0 z1 z2 z3 z4 z5 z6 z7 z8 z9 z10 z11 z12 z13 z14 z15 z16 z17 z18 z19 z20 gl g n e0 e1 p q r t x0 x1 x2 x3 ∧ vdV z0 z1 z2 z3 z4 z5 z6 z7 z8 z9 z10 z11 z12 z13 z14 z15 z16 z17 z18 z19 z20 gl g n e0 e1 p q r t x0 x1 x2 x3 = true := by
  obtain ⟨r0, r1, r2, r3, r4, r5, r6, r7, r8, r9, r10, r11, r12, r13, r14, r15, r16, r17, r18, r19, r20⟩ := d
  obtain ⟨s0, s1, s2, s3⟩ := pX
  have t3 := tm_bd z3 (k := 3000) (by decide)
  have t4 := tm_bd z4 (k := 3000) (by decide)
  have t12 := tm_bd z12 (k := 20000) (by decide)
  have t11 := tm_bd z11 (k := 4) (by decide)
  have q13 := wz (z := z13) (by omega) (by omega)
  have w1 := wk (k := 1000) (z := z1) (by decide) (by decide) (by omega) (by omega)
  have w2 := wk (k := 1000) (z := z2) (by decide) (by decide) (by omega) (by omega)
  have w3 := wk (k := 1000) (z := z3.tmod 3000) (by decide) (by decide) (by omega) (by omega)
  have w4 := wk (k := 1000) (z := z4.tmod 3000) (by decide) (by decide) (by omega) (by omega)
  have w5 := wk (k := 1000) (z := z5) (by decide) (by decide) (by omega) (by omega)
  have w6 := wk (k := 1000) (z := z6) (by decide) (by decide) (by omega) (by omega)
  have w7 := wk (k := 1000) (z := z7) (by decide) (by decide) (by omega) (by omega)
  have w8 := wk (k := 1000) (z := z8) (by decide) (by decide) (by omega) (by omega)
  have w9 := wk (k := 1000) (z := z9) (by decide) (by decide) (by omega) (by omega)
  have w10 := wk (k := 1000) (z := z10) (by decide) (by decide) (by omega) (by omega)
  have w11 := wz (z := z11.tmod 4) (by omega) (by omega)
  have w12 := wk (k := 1000) (z := z12.tmod 20000) (by decide) (by decide) (by omega) (by omega)
  have w14 := wk (k := 100000) (z := z14) (by decide) (by decide) (by omega) (by omega)
  have w16 := wk (k := 10000) (z := z16) (by decide) (by decide) (by omega) (by omega)
  have w17 := wk (k := 10000) (z := z17) (by decide) (by decide) (by omega) (by omega)
  have w18 := wk (k := 100000) (z := z18) (by decide) (by decide) (by omega) (by omega)
  have w19 := wk (k := 100000) (z := z19) (by decide) (by decide) (by omega) (by omega)
  have w20 := wk (k := 100000) (z := z20) (by decide) (by decide) (by omega) (by omega)
  have p1 := pl_mn s2 s0
  have p2 := pl_mx s2 s0
  have p3 := pl_mn s3 s1
  have p4 := pl_mx s3 s1
  obtain ⟨HO, eh, sh⟩ := hole_ex r14 z15
  have m1 := mn_ok x2 x0
  have m2 := mx_ok x2 x0
  have m3 := mn_ok x3 x1
  have m4 := mx_ok x3 x1
  have hv : vStd (1000 * z1) (1000 * z3.tmod 3000) (1000 * z5) (1000 * z6) (1000 * z7) (1000 * z8) 0 0 0 (1000 * z12.tmod 20000) gl (100000 * z14) HO := ⟨(by unfold inL; omega), (by unfold inK; omega), (by unfold inL; omega), (by unfold inL; omega), (by unfold inL; omega), (by unfold inL; omega), (by unfold inL; omega), (by unfold inL; omega), by omega, (by unfold inL; omega), hg, sh, .inl ⟨rfl, rfl, rfl⟩⟩
  have u0 := wpt s0
  have u1 := wpt s1
  have u2 := wpt s2
  have u3 := wpt s3
  have g0 := film_in f0
  have g1 := film_in f1
  simp only [vd3, vd4, vd5, vd6, vd7, vd8, vd9, vd10, vd11, vd12, vd13, vd14, vd15, vd16, vd17, vd22, vd23, vd24, vd25, vd26, vd27, vd32, vd33, vd34, vd35, vd36, vd37, vd38, vd39, vd40, vd45, vdS, vdN, vdV, Bool.cond_self, q13, w1, w2, w3, w4, w5, w6, w7, w8, w9, w10, w11, w12, w14, w16, w17, w18, w19, w20, p1, p2, p3, p4, u0, u1, u2, u3, eh, eg, k4, n0, n1, n2, and_true, true_and]
  exact ⟨by repeat' (first | assumption | apply And.intro | intro _), evV_t (turn_st hv.hc) (turn_st hv.hc) (turn_st hv.hc) (turn_st hv.hc)⟩
theorem ve_ok {z0 z1 z2 z3 z4 z5 z6 z7 z8 z9 z10 z11 z12 z13 z14 z15 z16 z17 z18 z19 z20 : Int} {gl : ByteArray} {g : Nat} {n e0 e1 e2 p q r t x0 x1 x2 x3 : Int} (d : Dr z0 z1 z2 z3 z4 z5 z6 z7 z8 z9 z10 z11 z12 z13 z14 z15 z16 z17 z18 z19 z20) (pX : Xd4 x0 x1 x2 x3) (f0 : 0 ≤ e0 ∧ e0 ≤ 255) (f1 : 0 ≤ e1 ∧ e1 ≤ 255) (f2 : 0 ≤ e2 ∧ e2 ≤ 255) (hg : inG gl) (eg : z13.tmod 5 = (g : Int)) (k4 : (z0.tmod (8 : Int) == 4) = true) (n0 : decide (0 < n) = true) (n1 : decide ((1 : Int) < n) = true) (n2 : decide ((2 : Int) < n) = true) : veN z0 z1 z2 z3 z4 z5 z6 z7 z8 z9 z10 z11 z12 z13 z14 z15 z16 z17 z18 z19 z20 gl g n e0 e1 e2 p q r t x0 x1 x2 x3 ∧ veV z0 z1 z2 z3 z4 z5 z6 z7 z8 z9 z10 z11 z12 z13 z14 z15 z16 z17 z18 z19 z20 gl g n e0 e1 e2 p q r t x0 x1 x2 x3 = true := by
  obtain ⟨r0, r1, r2, r3, r4, r5, r6, r7, r8, r9, r10, r11, r12, r13, r14, r15, r16, r17, r18, r19, r20⟩ := d
  obtain ⟨s0, s1, s2, s3⟩ := pX
  have t3 := tm_bd z3 (k := 3000) (by decide)
  have t4 := tm_bd z4 (k := 3000) (by decide)
  have t12 := tm_bd z12 (k := 20000) (by decide)
  have t11 := tm_bd z11 (k := 4) (by decide)
  have q13 := wz (z := z13) (by omega) (by omega)
  have w1 := wk (k := 1000) (z := z1) (by decide) (by decide) (by omega) (by omega)
  have w2 := wk (k := 1000) (z := z2) (by decide) (by decide) (by omega) (by omega)
  have w3 := wk (k := 1000) (z := z3.tmod 3000) (by decide) (by decide) (by omega) (by omega)
  have w4 := wk (k := 1000) (z := z4.tmod 3000) (by decide) (by decide) (by omega) (by omega)
  have w5 := wk (k := 1000) (z := z5) (by decide) (by decide) (by omega) (by omega)
  have w6 := wk (k := 1000) (z := z6) (by decide) (by decide) (by omega) (by omega)
  have w7 := wk (k := 1000) (z := z7) (by decide) (by decide) (by omega) (by omega)
  have w8 := wk (k := 1000) (z := z8) (by decide) (by decide) (by omega) (by omega)
  have w9 := wk (k := 1000) (z := z9) (by decide) (by decide) (by omega) (by omega)
  have w10 := wk (k := 1000) (z := z10) (by decide) (by decide) (by omega) (by omega)
  have w11 := wz (z := z11.tmod 4) (by omega) (by omega)
  have w12 := wk (k := 1000) (z := z12.tmod 20000) (by decide) (by decide) (by omega) (by omega)
  have w14 := wk (k := 100000) (z := z14) (by decide) (by decide) (by omega) (by omega)
  have w16 := wk (k := 10000) (z := z16) (by decide) (by decide) (by omega) (by omega)
  have w17 := wk (k := 10000) (z := z17) (by decide) (by decide) (by omega) (by omega)
  have w18 := wk (k := 100000) (z := z18) (by decide) (by decide) (by omega) (by omega)
  have w19 := wk (k := 100000) (z := z19) (by decide) (by decide) (by omega) (by omega)
  have w20 := wk (k := 100000) (z := z20) (by decide) (by decide) (by omega) (by omega)
  have p1 := pl_mn s2 s0
  have p2 := pl_mx s2 s0
  have p3 := pl_mn s3 s1
  have p4 := pl_mx s3 s1
  obtain ⟨HO, eh, sh⟩ := hole_ex r14 z15
  have m1 := mn_ok x2 x0
  have m2 := mx_ok x2 x0
  have m3 := mn_ok x3 x1
  have m4 := mx_ok x3 x1
  have hv : vStd (1000 * z1) (1000 * z3.tmod 3000) (1000 * z5) (1000 * z6) (1000 * z7) (1000 * z8) 0 0 0 (1000 * z12.tmod 20000) gl (100000 * z14) HO := ⟨(by unfold inL; omega), (by unfold inK; omega), (by unfold inL; omega), (by unfold inL; omega), (by unfold inL; omega), (by unfold inL; omega), (by unfold inL; omega), (by unfold inL; omega), by omega, (by unfold inL; omega), hg, sh, .inl ⟨rfl, rfl, rfl⟩⟩
  have u0 := wpt s0
  have u1 := wpt s1
  have u2 := wpt s2
  have u3 := wpt s3
  have g0 := film_in f0
  have g1 := film_in f1
  have g2 := film_in f2
  simp only [ve3, ve4, ve5, ve6, ve7, ve8, ve9, ve10, ve11, ve12, ve13, ve14, ve15, ve16, ve17, ve22, ve23, ve24, ve25, ve26, ve27, ve32, ve33, ve34, ve35, ve36, ve37, ve38, ve39, ve40, ve45, veS, veN, veV, Bool.cond_self, q13, w1, w2, w3, w4, w5, w6, w7, w8, w9, w10, w11, w12, w14, w16, w17, w18, w19, w20, p1, p2, p3, p4, u0, u1, u2, u3, eh, eg, k4, n0, n1, n2, and_true, true_and]
  exact ⟨by repeat' (first | assumption | apply And.intro | intro _), evV_t (turn_st hv.hc) (turn_st hv.hc) (turn_st hv.hc) (turn_st hv.hc)⟩
theorem vf_ok {z0 z1 z2 z3 z4 z5 z6 z7 z8 z9 z10 z11 z12 z13 z14 z15 z16 z17 z18 z19 z20 : Int} {gl : ByteArray} {g : Nat} {n  p q r t x0 x1 x2 x3 : Int} (d : Dr z0 z1 z2 z3 z4 z5 z6 z7 z8 z9 z10 z11 z12 z13 z14 z15 z16 z17 z18 z19 z20) (pX : Xd4 x0 x1 x2 x3) (hg : inG gl) (eg : z13.tmod 5 = (g : Int)) (k4 : (z0.tmod (8 : Int) == 4) = false) (k5 : (z0.tmod (8 : Int) == 5) = true) : vfN z0 z1 z2 z3 z4 z5 z6 z7 z8 z9 z10 z11 z12 z13 z14 z15 z16 z17 z18 z19 z20 gl g n  p q r t x0 x1 x2 x3 ∧ vfV z0 z1 z2 z3 z4 z5 z6 z7 z8 z9 z10 z11 z12 z13 z14 z15 z16 z17 z18 z19 z20 gl g n  p q r t x0 x1 x2 x3 = true := by
  obtain ⟨r0, r1, r2, r3, r4, r5, r6, r7, r8, r9, r10, r11, r12, r13, r14, r15, r16, r17, r18, r19, r20⟩ := d
  obtain ⟨s0, s1, s2, s3⟩ := pX
  have t3 := tm_bd z3 (k := 3000) (by decide)
  have t4 := tm_bd z4 (k := 3000) (by decide)
  have t12 := tm_bd z12 (k := 20000) (by decide)
  have t11 := tm_bd z11 (k := 4) (by decide)
  have q13 := wz (z := z13) (by omega) (by omega)
  have w1 := wk (k := 1000) (z := z1) (by decide) (by decide) (by omega) (by omega)
  have w2 := wk (k := 1000) (z := z2) (by decide) (by decide) (by omega) (by omega)
  have w3 := wk (k := 1000) (z := z3.tmod 3000) (by decide) (by decide) (by omega) (by omega)
  have w4 := wk (k := 1000) (z := z4.tmod 3000) (by decide) (by decide) (by omega) (by omega)
  have w5 := wk (k := 1000) (z := z5) (by decide) (by decide) (by omega) (by omega)
  have w6 := wk (k := 1000) (z := z6) (by decide) (by decide) (by omega) (by omega)
  have w7 := wk (k := 1000) (z := z7) (by decide) (by decide) (by omega) (by omega)
  have w8 := wk (k := 1000) (z := z8) (by decide) (by decide) (by omega) (by omega)
  have w9 := wk (k := 1000) (z := z9) (by decide) (by decide) (by omega) (by omega)
  have w10 := wk (k := 1000) (z := z10) (by decide) (by decide) (by omega) (by omega)
  have w11 := wz (z := z11.tmod 4) (by omega) (by omega)
  have w12 := wk (k := 1000) (z := z12.tmod 20000) (by decide) (by decide) (by omega) (by omega)
  have w14 := wk (k := 100000) (z := z14) (by decide) (by decide) (by omega) (by omega)
  have w16 := wk (k := 10000) (z := z16) (by decide) (by decide) (by omega) (by omega)
  have w17 := wk (k := 10000) (z := z17) (by decide) (by decide) (by omega) (by omega)
  have w18 := wk (k := 100000) (z := z18) (by decide) (by decide) (by omega) (by omega)
  have w19 := wk (k := 100000) (z := z19) (by decide) (by decide) (by omega) (by omega)
  have w20 := wk (k := 100000) (z := z20) (by decide) (by decide) (by omega) (by omega)
  have p1 := pl_mn s2 s0
  have p2 := pl_mx s2 s0
  have p3 := pl_mn s3 s1
  have p4 := pl_mx s3 s1
  obtain ⟨HO, eh, sh⟩ := hole_ex r14 z15
  have m1 := mn_ok x2 x0
  have m2 := mx_ok x2 x0
  have m3 := mn_ok x3 x1
  have m4 := mx_ok x3 x1
  have hv : vBic (1000 * z1) (1000 * z3.tmod 3000) (1000 * z2) (1000 * z4.tmod 3000) (1000 * z12.tmod 20000) gl (100000 * z14) HO := ⟨(by unfold inL; omega), (by unfold inK; omega), (by unfold inL; omega), (by unfold inK; omega), (by unfold inL; omega), hg, sh⟩
  have u0 := wpt s0
  have u1 := wpt s1
  have u2 := wpt s2
  have u3 := wpt s3
  simp only [vf1, vf2, vf3, vf4, vf5, vf6, vf7, vf8, vf9, vf10, vf11, vf12, vf13, vf18, vf19, vf20, vf21, vf22, vf23, vf28, vf29, vf30, vf31, vf32, vf33, vf34, vf35, vf36, vf41, vfS, vfN, vfV, Bool.cond_self, q13, w1, w2, w3, w4, w5, w6, w7, w8, w9, w10, w11, w12, w14, w16, w17, w18, w19, w20, p1, p2, p3, p4, u0, u1, u2, u3, eh, eg, k4, k5, and_true, true_and]
  exact ⟨by repeat' (first | assumption | apply And.intro | intro _), evV_t (turn_bi hv.hl hv.hm) (turn_bi hv.hl hv.hm) (turn_bi hv.hl hv.hm) (turn_bi hv.hl hv.hm)⟩
theorem vg_ok {z0 z1 z2 z3 z4 z5 z6 z7 z8 z9 z10 z11 z12 z13 z14 z15 z16 z17 z18 z19 z20 : Int} {gl : ByteArray} {g : Nat} {n  p q r t x0 x1 x2 x3 : Int} (d : Dr z0 z1 z2 z3 z4 z5 z6 z7 z8 z9 z10 z11 z12 z13 z14 z15 z16 z17 z18 z19 z20) (pX : Xd4 x0 x1 x2 x3) (hg : inG gl) (eg : z13.tmod 5 = (g : Int)) (k4 : (z0.tmod (8 : Int) == 4) = false) (k5 : (z0.tmod (8 : Int) == 5) = false) (k6 : (z0.tmod (8 : Int) == 6) = true) : vgN z0 z1 z2 z3 z4 z5 z6 z7 z8 z9 z10 z11 z12 z13 z14 z15 z16 z17 z18 z19 z20 gl g n  p q r t x0 x1 x2 x3 := by
  obtain ⟨r0, r1, r2, r3, r4, r5, r6, r7, r8, r9, r10, r11, r12, r13, r14, r15, r16, r17, r18, r19, r20⟩ := d
  obtain ⟨s0, s1, s2, s3⟩ := pX
  have t3 := tm_bd z3 (k := 3000) (by decide)
  have t4 := tm_bd z4 (k := 3000) (by decide)
  have t12 := tm_bd z12 (k := 20000) (by decide)
  have t11 := tm_bd z11 (k := 4) (by decide)
  have q13 := wz (z := z13) (by omega) (by omega)
  have w1 := wk (k := 1000) (z := z1) (by decide) (by decide) (by omega) (by omega)
  have w2 := wk (k := 1000) (z := z2) (by decide) (by decide) (by omega) (by omega)
  have w3 := wk (k := 1000) (z := z3.tmod 3000) (by decide) (by decide) (by omega) (by omega)
  have w4 := wk (k := 1000) (z := z4.tmod 3000) (by decide) (by decide) (by omega) (by omega)
  have w5 := wk (k := 1000) (z := z5) (by decide) (by decide) (by omega) (by omega)
  have w6 := wk (k := 1000) (z := z6) (by decide) (by decide) (by omega) (by omega)
  have w7 := wk (k := 1000) (z := z7) (by decide) (by decide) (by omega) (by omega)
  have w8 := wk (k := 1000) (z := z8) (by decide) (by decide) (by omega) (by omega)
  have w9 := wk (k := 1000) (z := z9) (by decide) (by decide) (by omega) (by omega)
  have w10 := wk (k := 1000) (z := z10) (by decide) (by decide) (by omega) (by omega)
  have w11 := wz (z := z11.tmod 4) (by omega) (by omega)
  have w12 := wk (k := 1000) (z := z12.tmod 20000) (by decide) (by decide) (by omega) (by omega)
  have w14 := wk (k := 100000) (z := z14) (by decide) (by decide) (by omega) (by omega)
  have w16 := wk (k := 10000) (z := z16) (by decide) (by decide) (by omega) (by omega)
  have w17 := wk (k := 10000) (z := z17) (by decide) (by decide) (by omega) (by omega)
  have w18 := wk (k := 100000) (z := z18) (by decide) (by decide) (by omega) (by omega)
  have w19 := wk (k := 100000) (z := z19) (by decide) (by decide) (by omega) (by omega)
  have w20 := wk (k := 100000) (z := z20) (by decide) (by decide) (by omega) (by omega)
  have p1 := pl_mn s2 s0
  have p2 := pl_mx s2 s0
  have p3 := pl_mn s3 s1
  have p4 := pl_mx s3 s1
  obtain ⟨HO, eh, sh⟩ := hole_ex r14 z15
  have sh0 : inSH 0 0 := ⟨by decide, by decide, by decide, by decide, .inl rfl⟩
  have hv : vBrk (1000 * z12.tmod 20000) (10000 * z16) (10000 * z17) (100000 * z18) (100000 * z19) (100000 * z20) := ⟨(by unfold inL; omega), (by unfold inL; omega), (by unfold inL; omega), (by unfold inA; omega), (by unfold inA; omega), (by unfold inA; omega)⟩
  have u0 := wpt s0
  have u1 := wpt s1
  have u2 := wpt s2
  have u3 := wpt s3
  simp only [vg1, vg2, vg3, vg4, vg5, vgS, vgN, Bool.cond_self, q13, w1, w2, w3, w4, w5, w6, w7, w8, w9, w10, w11, w12, w14, w16, w17, w18, w19, w20, p1, p2, p3, p4, u0, u1, u2, u3, eh, eg, k4, k5, k6, and_true, true_and]
  repeat' (first | assumption | apply And.intro | intro _)
theorem vh_ok {z0 z1 z2 z3 z4 z5 z6 z7 z8 z9 z10 z11 z12 z13 z14 z15 z16 z17 z18 z19 z20 : Int} {gl : ByteArray} {g : Nat} {n  p q r t x0 x1 x2 x3 : Int} (d : Dr z0 z1 z2 z3 z4 z5 z6 z7 z8 z9 z10 z11 z12 z13 z14 z15 z16 z17 z18 z19 z20) (pX : Xd4 x0 x1 x2 x3) (hg : inG gl) (eg : z13.tmod 5 = (g : Int)) (k4 : (z0.tmod (8 : Int) == 4) = false) (k5 : (z0.tmod (8 : Int) == 5) = false) (k6 : (z0.tmod (8 : Int) == 6) = false) (k7 : (z0.tmod (8 : Int) == 7) = true) (ko : (z11.tmod (2 : Int) == 0) = true) : vhN z0 z1 z2 z3 z4 z5 z6 z7 z8 z9 z10 z11 z12 z13 z14 z15 z16 z17 z18 z19 z20 gl g n  p q r t x0 x1 x2 x3 ∧ vhV z0 z1 z2 z3 z4 z5 z6 z7 z8 z9 z10 z11 z12 z13 z14 z15 z16 z17 z18 z19 z20 gl g n  p q r t x0 x1 x2 x3 = true := by
  obtain ⟨r0, r1, r2, r3, r4, r5, r6, r7, r8, r9, r10, r11, r12, r13, r14, r15, r16, r17, r18, r19, r20⟩ := d
  obtain ⟨s0, s1, s2, s3⟩ := pX
  have t3 := tm_bd z3 (k := 3000) (by decide)
  have t4 := tm_bd z4 (k := 3000) (by decide)
  have t12 := tm_bd z12 (k := 20000) (by decide)
  have t11 := tm_bd z11 (k := 4) (by decide)
  have q13 := wz (z := z13) (by omega) (by omega)
  have w1 := wk (k := 1000) (z := z1) (by decide) (by decide) (by omega) (by omega)
  have w2 := wk (k := 1000) (z := z2) (by decide) (by decide) (by omega) (by omega)
  have w3 := wk (k := 1000) (z := z3.tmod 3000) (by decide) (by decide) (by omega) (by omega)
  have w4 := wk (k := 1000) (z := z4.tmod 3000) (by decide) (by decide) (by omega) (by omega)
  have w5 := wk (k := 1000) (z := z5) (by decide) (by decide) (by omega) (by omega)
  have w6 := wk (k := 1000) (z := z6) (by decide) (by decide) (by omega) (by omega)
  have w7 := wk (k := 1000) (z := z7) (by decide) (by decide) (by omega) (by omega)
  have w8 := wk (k := 1000) (z := z8) (by decide) (by decide) (by omega) (by omega)
  have w9 := wk (k := 1000) (z := z9) (by decide) (by decide) (by omega) (by omega)
  have w10 := wk (k := 1000) (z := z10) (by decide) (by decide) (by omega) (by omega)
  have w11 := wz (z := z11.tmod 4) (by omega) (by omega)
  have w12 := wk (k := 1000) (z := z12.tmod 20000) (by decide) (by decide) (by omega) (by omega)
  have w14 := wk (k := 100000) (z := z14) (by decide) (by decide) (by omega) (by omega)
  have w16 := wk (k := 10000) (z := z16) (by decide) (by decide) (by omega) (by omega)
  have w17 := wk (k := 10000) (z := z17) (by decide) (by decide) (by omega) (by omega)
  have w18 := wk (k := 100000) (z := z18) (by decide) (by decide) (by omega) (by omega)
  have w19 := wk (k := 100000) (z := z19) (by decide) (by decide) (by omega) (by omega)
  have w20 := wk (k := 100000) (z := z20) (by decide) (by decide) (by omega) (by omega)
  have p1 := pl_mn s2 s0
  have p2 := pl_mx s2 s0
  have p3 := pl_mn s3 s1
  have p4 := pl_mx s3 s1
  obtain ⟨HO, eh, sh⟩ := hole_ex r14 z15
  have m1 := mn_ok x2 x0
  have m2 := mx_ok x2 x0
  have m3 := mn_ok x3 x1
  have m4 := mx_ok x3 x1
  have hv : vIdl (1000 * z1) (1000 * z12.tmod 20000) (100000 * z14) HO := ⟨(by unfold inL; omega), (by unfold inL; omega), sh⟩
  have u0 := wpt s0
  have u1 := wpt s1
  have u2 := wpt s2
  have u3 := wpt s3
  simp only [vh1, vh2, vh3, vh4, vh5, vh10, vh11, vh12, vh13, vh14, vh15, vh20, vh21, vh22, vh23, vh24, vh25, vh26, vh31, vhS, vhN, vhV, Bool.cond_self, q13, w1, w2, w3, w4, w5, w6, w7, w8, w9, w10, w11, w12, w14, w16, w17, w18, w19, w20, p1, p2, p3, p4, u0, u1, u2, u3, eh, eg, k4, k5, k6, k7, ko, and_true, true_and]
  exact ⟨by repeat' (first | assumption | apply And.intro | intro _), evV_t turn_id turn_id turn_id turn_id⟩
theorem vi_ok {z0 z1 z2 z3 z4 z5 z6 z7 z8 z9 z10 z11 z12 z13 z14 z15 z16 z17 z18 z19 z20 : Int} {gl : ByteArray} {g : Nat} {n  p q r t x0 x1 x2 x3 : Int} (d : Dr z0 z1 z2 z3 z4 z5 z6 z7 z8 z9 z10 z11 z12 z13 z14 z15 z16 z17 z18 z19 z20) (pX : Xd4 x0 x1 x2 x3) (hg : inG gl) (eg : z13.tmod 5 = (g : Int)) (k4 : (z0.tmod (8 : Int) == 4) = false) (k5 : (z0.tmod (8 : Int) == 5) = false) (k6 : (z0.tmod (8 : Int) == 6) = false) (k7 : (z0.tmod (8 : Int) == 7) = true) (ko : (z11.tmod (2 : Int) == 0) = false) : viN z0 z1 z2 z3 z4 z5 z6 z7 z8 z9 z10 z11 z12 z13 z14 z15 z16 z17 z18 z19 z20 gl g n  p q r t x0 x1 x2 x3 ∧ viV z0 z1 z2 z3 z4 z5 z6 z7 z8 z9 z10 z11 z12 z13 z14 z15 z16 z17 z18 z19 z20 gl g n  p q r t x0 x1 x2 x3 = true := by
  obtain ⟨r0, r1, r2, r3, r4, r5, r6, r7, r8, r9, r10, r11, r12, r13, r14, r15, r16, r17, r18, r19, r20⟩ := d
  obtain ⟨s0, s1, s2, s3⟩ := pX
  have t3 := tm_bd z3 (k := 3000) (by decide)
  have t4 := tm_bd z4 (k := 3000) (by decide)
  have t12 := tm_bd z12 (k := 20000) (by decide)
  have t11 := tm_bd z11 (k := 4) (by decide)
  have q13 := wz (z := z13) (by omega) (by omega)
  have w1 := wk (k := 1000) (z := z1) (by decide) (by decide) (by omega) (by omega)
  have w2 := wk (k := 1000) (z := z2) (by decide) (by decide) (by omega) (by omega)
  have w3 := wk (k := 1000) (z := z3.tmod 3000) (by decide) (by decide) (by omega) (by omega)
  have w4 := wk (k := 1000) (z := z4.tmod 3000) (by decide) (by decide) (by omega) (by omega)
  have w5 := wk (k := 1000) (z := z5) (by decide) (by decide) (by omega) (by omega)
  have w6 := wk (k := 1000) (z := z6) (by decide) (by decide) (by omega) (by omega)
  have w7 := wk (k := 1000) (z := z7) (by decide) (by decide) (by omega) (by omega)
  have w8 := wk (k := 1000) (z := z8) (by decide) (by decide) (by omega) (by omega)
  have w9 := wk (k := 1000) (z := z9) (by decide) (by decide) (by omega) (by omega)
  have w10 := wk (k := 1000) (z := z10) (by decide) (by decide) (by omega) (by omega)
  have w11 := wz (z := z11.tmod 4) (by omega) (by omega)
  have w12 := wk (k := 1000) (z := z12.tmod 20000) (by decide) (by decide) (by omega) (by omega)
  have w14 := wk (k := 100000) (z := z14) (by decide) (by decide) (by omega) (by omega)
  have w16 := wk (k := 10000) (z := z16) (by decide) (by decide) (by omega) (by omega)
  have w17 := wk (k := 10000) (z := z17) (by decide) (by decide) (by omega) (by omega)
  have w18 := wk (k := 100000) (z := z18) (by decide) (by decide) (by omega) (by omega)
  have w19 := wk (k := 100000) (z := z19) (by decide) (by decide) (by omega) (by omega)
  have w20 := wk (k := 100000) (z := z20) (by decide) (by decide) (by omega) (by omega)
  have p1 := pl_mn s2 s0
  have p2 := pl_mx s2 s0
  have p3 := pl_mn s3 s1
  have p4 := pl_mx s3 s1
  obtain ⟨HO, eh, sh⟩ := hole_ex r14 z15
  have m1 := mn_ok x2 x0
  have m2 := mx_ok x2 x0
  have m3 := mn_ok x3 x1
  have m4 := mx_ok x3 x1
  have hv : vStd (1000 * z1) (1000 * z3.tmod 3000) 0 0 0 0 (bif !eqBytes gl { data := #[77, 73, 82, 82, 79, 82] } then 1000 * z9 else 0) (bif !eqBytes gl { data := #[77, 73, 82, 82, 79, 82] } then 1000 * z10 else 0) (bif !eqBytes gl { data := #[77, 73, 82, 82, 79, 82] } then z11.tmod 4 else 0) (1000 * z12.tmod 20000) gl (100000 * z14) HO := by
    have od : z11.tmod 4 ≠ 0 := fun h => by
      have : z11.tmod 2 = 0 := by
        have d1 : (4 : Int) ∣ z11 := Int.dvd_of_tmod_eq_zero h
        exact Int.tmod_eq_zero_of_dvd (by omega)
      rw [this] at ko; cases ko
    cases he : eqBytes gl { data := #[77, 73, 82, 82, 79, 82] } with
    | true => exact ⟨(by unfold inL; omega), (by unfold inK; omega), (by unfold inL; omega), (by unfold inL; omega), (by unfold inL; omega), (by unfold inL; omega), by show inL 0; unfold inL; omega, by show inL 0; unfold inL; omega, by simp only [Bool.not_true, cond_false]; omega, (by unfold inL; omega), hg, sh, .inl ⟨rfl, rfl, rfl⟩⟩
    | false =>
      have ne : gl ≠ g3 := fun h => by
        have := (eqBytes_iff gl _).2 (show gl = { data := #[77, 73, 82, 82, 79, 82] } from h)
        rw [he] at this; cases this
      exact ⟨(by unfold inL; omega), (by unfold inK; omega), (by unfold inL; omega), (by unfold inL; omega), (by unfold inL; omega), (by unfold inL; omega), by show inL (1000 * z9); unfold inL; omega, by show inL (1000 * z10); unfold inL; omega, by show -3 ≤ z11.tmod 4 ∧ z11.tmod 4 ≤ 3; omega, (by unfold inL; omega), hg, sh, .inr ⟨od, ne⟩⟩
  have u0 := wpt s0
  have u1 := wpt s1
  have u2 := wpt s2
  have u3 := wpt s3
  simp only [vi1, vi2, vi3, vi4, vi5, vi6, vi7, vi8, vi9, vi10, vi11, vi12, vi13, vi14, vi15, vi16, vi17, vi22, vi23, vi24, vi25, vi26, vi27, vi32, vi33, vi34, vi35, vi36, vi37, vi38, vi39, vi40, vi45, viS, viN, viV, Bool.cond_self, q13, w1, w2, w3, w4, w5, w6, w7, w8, w9, w10, w11, w12, w14, w16, w17, w18, w19, w20, p1, p2, p3, p4, u0, u1, u2, u3, eh, eg, k4, k5, k6, k7, ko, and_true, true_and]
  exact ⟨by repeat' (first | assumption | apply And.intro | intro _), evV_t (turn_st hv.hc) (turn_st hv.hc) (turn_st hv.hc) (turn_st hv.hc)⟩
end Go.Rd
