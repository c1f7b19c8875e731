/- What is proved: AperWithin returns true, whatever the input (part 6 of 19). No conditions beyond those of the row. -/
import Derived.Test.YtkeognjggnmgmaaGreatDoorPE
set_option linter.unusedVariables false
set_option linter.unusedSimpArgs false
set_option linter.unusedSectionVars false
/- The plain law of AperWithin. No program. -/
namespace Go.Rd
open Go Go.Eng Go.Ar

theorem gl_in {g : Nat} : inG (glassB g) := by
  unfold inG isG glassB
  split
  · exact .inr (.inl rfl)
  · exact .inr (.inr (.inl rfl))
  · exact .inr (.inr (.inr (.inl rfl)))
  · exact .inr (.inr (.inr (.inr rfl)))
  · exact .inl rfl
theorem wa_ok {z0 z1 z2 z3 z4 z5 z6 z7 z8 z9 z10 z11 z12 z13 z14 z15 z16 z17 z18 z19 z20 : Int} {gl : ByteArray} {g : Nat} {n  x0 x1 x2 x3 : Int} (d : Dr z0 z1 z2 z3 z4 z5 z6 z7 z8 z9 z10 z11 z12 z13 z14 z15 z16 z17 z18 z19 z20) (p : X4 x0 x1 x2 x3) (hg : inG gl) (eg : z13.tmod 5 = (g : Int)) (k4 : (z0.tmod (8 : Int) == 4) = false) (k5 : (z0.tmod (8 : Int) == 5) = false) (k6 : (z0.tmod (8 : Int) == 6) = false) (k7 : (z0.tmod (8 : Int) == 7) = false) : waN z0 z1 z2 z3 z4 z5 z6 z7 z8 z9 z10 z11 z12 z13 z14 z15 z16 z17 z18 z19 z20 gl g n  x0 x1 x2 x3 ∧ waV z0 z1 z2 z3 z4 z5 z6 z7 z8 z9 z10 z11 z12 z13 z14 z15 z16 z17 z18 z19 z20 gl g n  x0 x1 x2 x3 = true := by
  obtain ⟨r0, r1, r2, r3, r4, r5, r6, r7, r8, r9, r10, r11, r12, r13, r14, r15, r16, r17, r18, r19, r20⟩ := d
  obtain ⟨s0, s1, s2, s3⟩ := p
  have t3 := tm_bd z3 (k := 3000) (by decide)
  have t4 := tm_bd z4 (k := 3000) (by decide)
  have t12 := tm_bd z12 (k := 20000) (by decide)
  have t11 := tm_bd z11 (k := 4) (by decide)
  have q13 := wz (z := z13) (by omega) (by omega)
  have w1 := wk (k := 1000) (z := z1) (by decide) (by decide) (by omega) (by omega)
  have w2 := wk (k := 1000) (z := z2) (by decide) (by decide) (by omega) (by omega)
  have w3 := wk (k := 1000) (z := z3.tmod 3000) (by decide) (by decide) (by omega) (by omega)
  have w4 := wk (k := 1000) (z := z4.tmod 3000) (by decide) (by decide) (by omega) (by omega)
  have w5 := wk (k := 1000) (z := z5) (by decide) (by decide) (by omega) (by omega)
  have w6 := wk (k := 1000) (z := z6) (by decide) (by decide) (by omega) (by omega)
  have w7 := wk (k := 1000) (z := z7) (by decide) (by decide) (by omega) (by omega)
  have w8 := wk (k := 1000) (z := z8) (by decide) (by decide) (by omega) (by omega)
  have w9 := wk (k := 1000) (z := z9) (by decide) (by decide) (by omega) (by omega)
  have w10 := wk (k := 1000) (z := z10) (by decide) (by decide) (by omega) (by omega)
  have w11 := wz (z := z11.tmod 4) (by omega) (by omega)
  have w12 := wk (k := 1000) (z := z12.tmod 20000) (by decide) (by decide) (by omega) (by omega)
  have w14 := wk (k := 100000) (z := z14) (by decide) (by decide) (by omega) (by omega)
  have w16 := wk (k := 10000) (z := z16) (by decide) (by decide) (by omega) (by omega)
  have w17 := wk (k := 10000) (z := z17) (by decide) (by decide) (by omega) (by omega)
  have w18 := wk (k := 100000) (z := z18) (by decide) (by decide) (by omega) (by omega)
  have w19 := wk (k := 100000) (z := z19) (by decide) (by decide) (by omega) (by omega)
  have w20 := wk (k := 100000) (z := z20) (by decide) (by decide) (by omega) (by omega)
  have p1 := pl_mn s2 s0
  have p2 := pl_mx s2 s0
  have p3 := pl_mn s3 s1
  have p4 := pl_mx s3 s1
  have p5 := pl_mn s0 s0
  have p6 := pl_mx s0 s0
  have p7 := pl_mn s1 s1
  have p8 := pl_mx s1 s1
  obtain ⟨HO, eh, sh⟩ := hole_ex r14 z15
  have i2 := ins_pl sh s2 s0 s3 s1
  have i1 := ins_pl sh s0 s0 s1 s1
  have m1 := mn_ok x2 x0
  have m2 := mx_ok x2 x0
  have m3 := mn_ok x3 x1
  have m4 := mx_ok x3 x1
  have wi := within_ok (se := 100000 * z14) (ho := HO) (X := mnI x2 x0) (Y := mxI x2 x0) (x := x0) (U := mnI x3 x1) (V := mxI x3 x1) (u := x1) (by omega) (by omega)
  rw [mn_self, mx_self, mn_self, mx_self] at i1
  have hv : vStd (1000 * z1) (1000 * z3.tmod 3000) 0 0 0 0 0 0 0 (1000 * z12.tmod 20000) gl (100000 * z14) HO := ⟨(by unfold inL; omega), (by unfold inK; omega), (by unfold inL; omega), (by unfold inL; omega), (by unfold inL; omega), (by unfold inL; omega), (by unfold inL; omega), (by unfold inL; omega), by omega, (by unfold inL; omega), hg, sh, .inl ⟨rfl, rfl, rfl⟩⟩
  simp only [waN, waV, wa0, wa1, wa2, wa3, wa4, wa5, wa6, wa7, wa8, wa9, wa10, wa11, wa12, wa13, wa14, Bool.cond_self, q13, w1, w2, w3, w4, w5, w6, w7, w8, w9, w10, w11, w12, w14, w16, w17, w18, w19, w20, p1, p2, p3, p4, p5, p6, p7, p8, mn_self, mx_self, eh, eg, k4, k5, k6, k7, and_true, true_and]
  exact ⟨⟨⟨hv, i2⟩, hv, i1⟩, wi⟩
theorem wb_ok {z0 z1 z2 z3 z4 z5 z6 z7 z8 z9 z10 z11 z12 z13 z14 z15 z16 z17 z18 z19 z20 : Int} {gl : ByteArray} {g : Nat} {n  x0 x1 x2 x3 : Int} (d : Dr z0 z1 z2 z3 z4 z5 z6 z7 z8 z9 z10 z11 z12 z13 z14 z15 z16 z17 z18 z19 z20) (p : X4 x0 x1 x2 x3) (hg : inG gl) (eg : z13.tmod 5 = (g : Int)) (k4 : (z0.tmod (8 : Int) == 4) = true) (n0 : decide (0 < n) = false) : wbN z0 z1 z2 z3 z4 z5 z6 z7 z8 z9 z10 z11 z12 z13 z14 z15 z16 z17 z18 z19 z20 gl g n  x0 x1 x2 x3 ∧ wbV z0 z1 z2 z3 z4 z5 z6 z7 z8 z9 z10 z11 z12 z13 z14 z15 z16 z17 z18 z19 z20 gl g n  x0 x1 x2 x3 = true := by
  obtain ⟨r0, r1, r2, r3, r4, r5, r6, r7, r8, r9, r10, r11, r12, r13, r14, r15, r16, r17, r18, r19, r20⟩ := d
  obtain ⟨s0, s1, s2, s3⟩ := p
  have t3 := tm_bd z3 (k := 3000) (by decide)
  have t4 := tm_bd z4 (k := 3000) (by decide)
  have t12 := tm_bd z12 (k := 20000) (by decide)
  have t11 := tm_bd z11 (k := 4) (by decide)
  have q13 := wz (z := z13) (by omega) (by omega)
  have w1 := wk (k := 1000) (z := z1) (by decide) (by decide) (by omega) (by omega)
  have w2 := wk (k := 1000) (z := z2) (by decide) (by decide) (by omega) (by omega)
  have w3 := wk (k := 1000) (z := z3.tmod 3000) (by decide) (by decide) (by omega) (by omega)
  have w4 := wk (k := 1000) (z := z4.tmod 3000) (by decide) (by decide) (by omega) (by omega)
  have w5 := wk (k := 1000) (z := z5) (by decide) (by decide) (by omega) (by omega)
  have w6 := wk (k := 1000) (z := z6) (by decide) (by decide) (by omega) (by omega)
  have w7 := wk (k := 1000) (z := z7) (by decide) (by decide) (by omega) (by omega)
  have w8 := wk (k := 1000) (z := z8) (by decide) (by decide) (by omega) (by omega)
  have w9 := wk (k := 1000) (z := z9) (by decide) (by decide) (by omega) (by omega)
  have w10 := wk (k := 1000) (z := z10) (by decide) (by decide) (by omega) (by omega)
  have w11 := wz (z := z11.tmod 4) (by omega) (by omega)
  have w12 := wk (k := 1000) (z := z12.tmod 20000) (by decide) (by decide) (by omega) (by omega)
  have w14 := wk (k := 100000) (z := z14) (by decide) (by decide) (by omega) (by omega)
  have w16 := wk (k := 10000) (z := z16) (by decide) (by decide) (by omega) (by omega)
  have w17 := wk (k := 10000) (z := z17) (by decide) (by decide) (by omega) (by omega)
  have w18 := wk (k := 100000) (z := z18) (by decide) (by decide) (by omega) (by omega)
  have w19 := wk (k := 100000) (z := z19) (by decide) (by decide) (by omega) (by omega)
  have w20 := wk (k := 100000) (z := z20) (by decide) (by decide) (by omega) (by omega)
  have p1 := pl_mn s2 s0
  have p2 := pl_mx s2 s0
  have p3 := pl_mn s3 s1
  have p4 := pl_mx s3 s1
  have p5 := pl_mn s0 s0
  have p6 := pl_mx s0 s0
  have p7 := pl_mn s1 s1
  have p8 := pl_mx s1 s1
  obtain ⟨HO, eh, sh⟩ := hole_ex r14 z15
  have i2 := ins_pl sh s2 s0 s3 s1
  have i1 := ins_pl sh s0 s0 s1 s1
  have m1 := mn_ok x2 x0
  have m2 := mx_ok x2 x0
  have m3 := mn_ok x3 x1
  have m4 := mx_ok x3 x1
  have wi := within_ok (se := 100000 * z14) (ho := HO) (X := mnI x2 x0) (Y := mxI x2 x0) (x := x0) (U := mnI x3 x1) (V := mxI x3 x1) (u := x1) (by omega) (by omega)
  rw [mn_self, mx_self, mn_self, mx_self] at i1
  have hv : vStd (1000 * z1) (1000 * z3.tmod 3000) (1000 * z5) (1000 * z6) (1000 * z7) (1000 * z8) 0 0 0 (1000 * z12.tmod 20000) gl (100000 * z14) HO := ⟨(by unfold inL; omega), (by unfold inK; omega), (by unfold inL; omega), (by unfold inL; omega), (by unfold inL; omega), (by unfold inL; omega), (by unfold inL; omega), (by unfold inL; omega), by omega, (by unfold inL; omega), hg, sh, .inl ⟨rfl, rfl, rfl⟩⟩
  simp only [wbN, wbV, wb0, wb1, wb2, wb3, wb4, wb5, wb6, wb7, wb8, wb9, wb10, wb11, wb12, wb13, wb14, Bool.cond_self, q13, w1, w2, w3, w4, w5, w6, w7, w8, w9, w10, w11, w12, w14, w16, w17, w18, w19, w20, p1, p2, p3, p4, p5, p6, p7, p8, mn_self, mx_self, eh, eg, k4, n0, and_true, true_and]
  exact ⟨⟨⟨hv, i2⟩, hv, i1⟩, wi⟩
theorem wc_ok {z0 z1 z2 z3 z4 z5 z6 z7 z8 z9 z10 z11 z12 z13 z14 z15 z16 z17 z18 z19 z20 : Int} {gl : ByteArray} {g : Nat} {n e0 x0 x1 x2 x3 : Int} (d : Dr z0 z1 z2 z3 z4 z5 z6 z7 z8 z9 z10 z11 z12 z13 z14 z15 z16 z17 z18 z19 z20) (p : X4 x0 x1 x2 x3) (f0 : 0 ≤ e0 ∧ e0 ≤ 255) (hg : inG gl) (eg : z13.tmod 5 = (g : Int)) (k4 : (z0.tmod (8 : Int) == 4) = true) (n0 : decide (0 < n) = true) (n1 : decide ((1 : Int) < n) = false) : wcN z0 z1 z2 z3 z4 z5 z6 z7 z8 z9 z10 z11 z12 z13 z14 z15 z16 z17 z18 z19 z20 gl g n e0 x0 x1 x2 x3 ∧ wcV z0 z1 z2 z3 z4 z5 z6 z7 z8 z9 z10 z11 z12 z13 z14 z15 z16 z17 z18 z19 z20 gl g n e0 x0 x1 x2 x3 = true := by
  obtain ⟨r0, r1, r2, r3, r4, r5, r6, r7, r8, r9, r10, r11, r12, r13, r14, r15, r16, r17, r18, r19, r20⟩ := d
  obtain ⟨s0, s1, s2, s3⟩ := p
  have t3 := tm_bd z3 (k := 3000) (by decide)
  have t4 := tm_bd z4 (k := 3000) (by decide)
  have t12 := tm_bd z12 (k := 20000) (by decide)
  have t11 := tm_bd z11 (k := 4) (by decide)
  have q13 := wz (z := z13) (by omega) (by omega)
  have w1 := wk (k := 1000) (z := z1) (by decide) (by decide) (by omega) (by omega)
  have w2 := wk (k := 1000) (z := z2) (by decide) (by decide) (by omega) (by omega)
  have w3 := wk (k := 1000) (z := z3.tmod 3000) (by decide) (by decide) (by omega) (by omega)
  have w4 := wk (k := 1000) (z := z4.tmod 3000) (by decide) (by decide) (by omega) (by omega)
  have w5 := wk (k := 1000) (z := z5) (by decide) (by decide) (by omega) (by omega)
  have w6 := wk (k := 1000) (z := z6) (by decide) (by decide) (by omega) (by omega)
  have w7 := wk (k := 1000) (z := z7) (by decide) (by decide) (by omega) (by omega)
  have w8 := wk (k := 1000) (z := z8) (by decide) (by decide) (by omega) (by omega)
  have w9 := wk (k := 1000) (z := z9) (by decide) (by decide) (by omega) (by omega)
  have w10 := wk (k := 1000) (z := z10) (by decide) (by decide) (by omega) (by omega)
  have w11 := wz (z := z11.tmod 4) (by omega) (by omega)
  have w12 := wk (k := 1000) (z := z12.tmod 20000) (by decide) (by decide) (by omega) (by omega)
  have w14 := wk (k := 100000) (z := z14) (by decide) (by decide) (by omega) (by omega)
  have w16 := wk (k := 10000) (z := z16) (by decide) (by decide) (by omega) (by omega)
  have w17 := wk (k := 10000) (z := z17) (by decide) (by decide) (by omega) (by omega)
  have w18 := wk (k := 100000) (z := z18) (by decide) (by decide) (by omega) (by omega)
  have w19 := wk (k := 100000) (z := z19) (by decide) (by decide) (by omega) (by omega)
  have w20 := wk (k := 100000) (z := z20) (by decide) (by decide) (by omega) (by omega)
  have p1 := pl_mn s2 s0
  have p2 := pl_mx s2 s0
  have p3 := pl_mn s3 s1
  have p4 := pl_mx s3 s1
  have p5 := pl_mn s0 s0
  have p6 := pl_mx s0 s0
  have p7 := pl_mn s1 s1
  have p8 := pl_mx s1 s1
  obtain ⟨HO, eh, sh⟩ := hole_ex r14 z15
  have i2 := ins_pl sh s2 s0 s3 s1
  have i1 := ins_pl sh s0 s0 s1 s1
  have m1 := mn_ok x2 x0
  have m2 := mx_ok x2 x0
  have m3 := mn_ok x3 x1
  have m4 := mx_ok x3 x1
  have wi := within_ok (se := 100000 * z14) (ho := HO) (X := mnI x2 x0) (Y := mxI x2 x0) (x := x0) (U := mnI x3 x1) (V := mxI x3 x1) (u := x1) (by omega) (by omega)
  rw [mn_self, mx_self, mn_self, mx_self] at i1
  have hv : vStd (1000 * z1) (1000 * z3.tmod 3000) (1000 * z5) (1000 * z6) (1000 * z7) (1000 * z8) 0 0 0 (1000 * z12.tmod 20000) gl (100000 * z14) HO := ⟨(by unfold inL; omega), (by unfold inK; omega), (by unfold inL; omega), (by unfold inL; omega), (by unfold inL; omega), (by unfold inL; omega), (by unfold inL; omega), (by unfold inL; omega), by omega, (by unfold inL; omega), hg, sh, .inl ⟨rfl, rfl, rfl⟩⟩
  simp only [wcN, wcV, wc1, wc2, wc3, wc4, wc5, wc6, wc7, wc8, wc9, wc10, wc11, wc12, wc13, wc14, wc15, Bool.cond_self, q13, w1, w2, w3, w4, w5, w6, w7, w8, w9, w10, w11, w12, w14, w16, w17, w18, w19, w20, p1, p2, p3, p4, p5, p6, p7, p8, mn_self, mx_self, eh, eg, k4, n0, n1, and_true, true_and]
  have g0 := film_in f0
  exact ⟨⟨⟨⟨hv, g0⟩, i2⟩, ⟨hv, g0⟩, i1⟩, wi⟩
theorem wd_ok {z0 z1 z2 z3 z4 z5 z6 z7 z8 z9 z10 z11 z12 z13 z14 z15 z16 z17 z18 z19 z20 : Int} {gl : ByteArray} {g : Nat} {n e0 e1 x0 x1 x2 x3 : Int} (d : Dr z0 z1 z2 z3 z4 z5 z6 z7 z8 z9 z10 z11 z12 z13 z14 z15 z16 z17 z18 z19 z20) (p : X4 x0 x1 x2 x3) (f0 : 0 ≤ e0 ∧ e0 ≤ 255) (f1 : 0 ≤ e1 ∧ e1 ≤ 255) (hg : inG gl) (eg : z13.tmod 5 = (g : Int)) (k4 : (z0.tmod (8 : Int) == 4) = true) (n0 : decide (0 < n) = true) (n1 : decide ((1 : Int) < n) = true) (n2 : decide ((2 : Int) < n) = false) : wdN z0 z1 z2 z3 z4 z5 z6 z7 z8 z9 z10 z11 z12 z13 z14 z15 z16 z17 z18 z19 z20 gl g n e0 e1 x0 x1 x2 x3 ∧ wdV z0 z1 z2 z3 z4 z5 z6 z7 z8 z9 z10 z11 z12 z13 z14 z15 z16 z17 z18 z19 z20 gl g n e0 e1 x0 x1 x2 x3 = true := by
  obtain ⟨r0, r1, r2, r3, r4, r5, r6, r7, r8, r9, r10, r11, r12, r13, r14, r15, r16, r17, r18, r19, r20⟩ := d
  obtain ⟨s0, s1, s2, s3⟩ := p
  have t3 := tm_bd z3 (k := 3000) (by decide)
  have t4 := tm_bd z4 (k := 3000) (by decide)
  have t12 := tm_bd z12 (k := 20000) (by decide)
  have t11 := tm_bd z11 (k := 4) (by decide)
  have q13 := wz (z := z13) (by omega) (by omega)
  have w1 := wk (k := 1000) (z := z1) (by decide) (by decide) (by omega) (by omega)
  have w2 := wk (k := 1000) (z := z2) (by decide) (by decide) (by omega) (by omega)
  have w3 := wk (k := 1000) (z := z3.tmod 3000) (by decide) (by decide) (by omega) (by omega)
  have w4 := wk (k := 1000) (z := z4.tmod 3000) (by decide) (by decide) (by omega) (by omega)
  have w5 := wk (k := 1000) (z := z5) (by decide) (by decide) (by omega) (by omega)
  have w6 := wk (k := 1000) (z := z6) (by decide) (by decide) (by omega) (by omega)
  have w7 := wk (k := 1000) (z := z7) (by decide) (by decide) (by omega) (by omega)
  have w8 := wk (k := 1000) (z := z8) (by decide) (by decide) (by omega) (by omega)
  have w9 := wk (k := 1000) (z := z9) (by decide) (by decide) (by omega) (by omega)
  have w10 := wk (k := 1000) (z := z10) (by decide) (by decide) (by omega) (by omega)
  have w11 := wz (z := z11.tmod 4) (by omega) (by omega)
  have w12 := wk (k := 1000) (z := z12.tmod 20000) (by decide) (by decide) (by omega) (by omega)
  have w14 := wk (k := 100000) (z := z14) (by decide) (by decide) (by omega) (by omega)
  have w16 := wk (k := 10000) (z := z16) (by decide) (by decide) (by omega) (by omega)
  have w17 := wk (k := 10000) (z := z17) (by decide) (by decide) (by omega) (by omega)
  have w18 := wk (k := 100000) (z := z18) (by decide) (by decide) (by omega) (by omega)
  have w19 := wk (k := 100000) (z := z19) (by decide) (by decide) (by omega) (by omega)
  have w20 := wk (k := 100000) (z := z20) (by decide) (by decide) (by omega) (by omega)
  have p1 := pl_mn s2 s0
  have p2 := pl_mx s2 s0
  have p3 := pl_mn s3 s1
  have p4 := pl_mx s3 s1
  have p5 := pl_mn s0 s0
  have p6 := pl_mx s0 s0
  have p7 := pl_mn s1 s1
  have p8 := pl_mx s1 s1
  obtain ⟨HO, eh, sh⟩ := hole_ex r14 z15
  have i2 := ins_pl sh s2 s0 s3 s1
  have i1 := ins_pl sh s0 s0 s1 s1
  have m1 := mn_ok x2 x0
  have m2 := mx_ok x2 x0
  have m3 := mn_ok x3 x1
  have m4 := mx_ok x3 x1
  have wi := within_ok (se := 100000 * z14) (ho := HO) (X := mnI x2 x0) (Y := mxI x2 x0) (x := x0) (U := mnI x3 x1) (V := mxI x3 x1) (u := x1) (by omega) (by omega)
  rw [mn_self, mx_self, mn_self, mx_self] at i1
  have hv : vStd (1000 * z1) (1000 * z3.tmod 3000) (1000 * z5) (1000 * z6) (1000 * z7) (1000 * z8) 0 0 0 (1000 * z12.tmod 20000) gl (100000 * z14) HO := ⟨(by unfold inL; omega), (by unfold inK; omega), (by unfold inL; omega), (by unfold inL; omega), (by unfold inL; omega), (by unfold inL; omega), (by unfold inL; omega), (by unfold inL; omega), by omega, (by unfold inL; omega), hg, sh, .inl ⟨rfl, rfl, rfl⟩⟩
  simp only [wdN, wdV, wd2, wd3, wd4, wd5, wd6, wd7, wd8, wd9, wd10, wd11, wd12, wd13, wd14, wd15, wd16, Bool.cond_self, q13, w1, w2, w3, w4, w5, w6, w7, w8, w9, w10, w11, w12, w14, w16, w17, w18, w19, w20, p1, p2, p3, p4, p5, p6, p7, p8, mn_self, mx_self, eh, eg, k4, n0, n1, n2, and_true, true_and]
  have g0 := film_in f0
  have g1 := film_in f1
  exact ⟨⟨⟨⟨hv, g0, g1⟩, i2⟩, ⟨hv, g0, g1⟩, i1⟩, wi⟩
theorem we_ok {z0 z1 z2 z3 z4 z5 z6 z7 z8 z9 z10 z11 z12 z13 z14 z15 z16 z17 z18 z19 z20 : Int} {gl : ByteArray} {g : Nat} {n e0 e1 e2 x0 x1 x2 x3 : Int} (d : Dr z0 z1 z2 z3 z4 z5 z6 z7 z8 z9 z10 z11 z12 z13 z14 z15 z16 z17 z18 z19 z20) (p : X4 x0 x1 x2 x3) (f0 : 0 ≤ e0 ∧ e0 ≤ 255) (f1 : 0 ≤ e1 ∧ e1 ≤ 255) (f2 : 0 ≤ e2 ∧ e2 ≤ 255) (hg : inG gl) (eg : z13.tmod 5 = (g : Int)) (k4 : (z0.tmod (8 : Int) == 4) = true) (n0 : decide (0 < n) = true) (n1 : decide ((1 : Int) < n) = true) (n2 : decide ((2 : Int) < n) = true) : weN z0 z1 z2 z3 z4 z5 z6 z7 z8 z9 z10 z11 z12 z13 z14 z15 z16 z17 z18 z19 z20 gl g n e0 e1 e2 x0 x1 x2 x3 ∧ weV z0 z1 z2 z3 z4 z5 z6 z7 z8 z9 z10 z11 z12 z13 z14 z15 z16 z17 z18 z19 z20 gl g n e0 e1 e2 x0 x1 x2 x3 = true := by
  obtain ⟨r0, r1, r2, r3, r4, r5, r6, r7, r8, r9, r10, r11, r12, r13, r14, r15, r16, r17, r18, r19, r20⟩ := d
  obtain ⟨s0, s1, s2, s3⟩ := p
  have t3 := tm_bd z3 (k := 3000) (by decide)
  have t4 := tm_bd z4 (k := 3000) (by decide)
  have t12 := tm_bd z12 (k := 20000) (by decide)
  have t11 := tm_bd z11 (k := 4) (by decide)
  have q13 := wz (z := z13) (by omega) (by omega)
  have w1 := wk (k := 1000) (z := z1) (by decide) (by decide) (by omega) (by omega)
  have w2 := wk (k := 1000) (z := z2) (by decide) (by decide) (by omega) (by omega)
  have w3 := wk (k := 1000) (z := z3.tmod 3000) (by decide) (by decide) (by omega) (by omega)
  have w4 := wk (k := 1000) (z := z4.tmod 3000) (by decide) (by decide) (by omega) (by omega)
  have w5 := wk (k := 1000) (z := z5) (by decide) (by decide) (by omega) (by omega)
  have w6 := wk (k := 1000) (z := z6) (by decide) (by decide) (by omega) (by omega)
  have w7 := wk (k := 1000) (z := z7) (by decide) (by decide) (by omega) (by omega)
  have w8 := wk (k := 1000) (z := z8) (by decide) (by decide) (by omega) (by omega)
  have w9 := wk (k := 1000) (z := z9) (by decide) (by decide) (by omega) (by omega)
  have w10 := wk (k := 1000) (z := z10) (by decide) (by decide) (by omega) (by omega)
  have w11 := wz (z := z11.tmod 4) (by omega) (by omega)
  have w12 := wk (k := 1000) (z := z12.tmod 20000) (by decide) (by decide) (by omega) (by omega)
  have w14 := wk (k := 100000) (z := z14) (by decide) (by decide) (by omega) (by omega)
  have w16 := wk (k := 10000) (z := z16) (by decide) (by decide) (by omega) (by omega)
  have w17 := wk (k := 10000) (z := z17) (by decide) (by decide) (by omega) (by omega)
  have w18 := wk (k := 100000) (z := z18) (by decide) (by decide) (by omega) (by omega)
  have w19 := wk (k := 100000) (z := z19) (by decide) (by decide) (by omega) (by omega)
  have w20 := wk (k := 100000) (z := z20) (by decide) (by decide) (by omega) (by omega)
  have p1 := pl_mn s2 s0
  have p2 := pl_mx s2 s0
  have p3 := pl_mn s3 s1
  have p4 := pl_mx s3 s1
  have p5 := pl_mn s0 s0
  have p6 := pl_mx s0 s0
  have p7 := pl_mn s1 s1
  have p8 := pl_mx s1 s1
  obtain ⟨HO, eh, sh⟩ := hole_ex r14 z15
  have i2 := ins_pl sh s2 s0 s3 s1
  have i1 := ins_pl sh s0 s0 s1 s1
  have m1 := mn_ok x2 x0
  have m2 := mx_ok x2 x0
  have m3 := mn_ok x3 x1
  have m4 := mx_ok x3 x1
  have wi := within_ok (se := 100000 * z14) (ho := HO) (X := mnI x2 x0) (Y := mxI x2 x0) (x := x0) (U := mnI x3 x1) (V := mxI x3 x1) (u := x1) (by omega) (by omega)
  rw [mn_self, mx_self, mn_self, mx_self] at i1
  have hv : vStd (1000 * z1) (1000 * z3.tmod 3000) (1000 * z5) (1000 * z6) (1000 * z7) (1000 * z8) 0 0 0 (1000 * z12.tmod 20000) gl (100000 * z14) HO := ⟨(by unfold inL; omega), (by unfold inK; omega), (by unfold inL; omega), (by unfold inL; omega), (by unfold inL; omega), (by unfold inL; omega), (by unfold inL; omega), (by unfold inL; omega), by omega, (by unfold inL; omega), hg, sh, .inl ⟨rfl, rfl, rfl⟩⟩
  simp only [weN, weV, we2, we3, we4, we5, we6, we7, we8, we9, we10, we11, we12, we13, we14, we15, we16, Bool.cond_self, q13, w1, w2, w3, w4, w5, w6, w7, w8, w9, w10, w11, w12, w14, w16, w17, w18, w19, w20, p1, p2, p3, p4, p5, p6, p7, p8, mn_self, mx_self, eh, eg, k4, n0, n1, n2, and_true, true_and]
  have g0 := film_in f0
  have g1 := film_in f1
  have g2 := film_in f2
  exact ⟨⟨⟨⟨hv, g0, g1, g2⟩, i2⟩, ⟨hv, g0, g1, g2⟩, i1⟩, wi⟩
theorem wf_ok {z0 z1 z2 z3 z4 z5 z6 z7 z8 z9 z10 z11 z12 z13 z14 z15 z16 z17 z18 z19 z20 : Int} {gl : ByteArray} {g : Nat} {n  x0 x1 x2 x3 : Int} (d : Dr z0 z1 z2 z3 z4 z5 z6 z7 z8 z9 z10 z11 z12 z13 z14 z15 z16 z17 z18 z19 z20) (p : X4 x0 x1 x2 x3) (hg : inG gl) (eg : z13.tmod 5 = (g : Int)) (k4 : (z0.tmod (8 : Int) == 4) = false) (k5 : (z0.tmod (8 : Int) == 5) = true) : wfN z0 z1 z2 z3 z4 z5 z6 z7 z8 z9 z10 z11 z12 z13 z14 z15 z16 z17 z18 z19 z20 gl g n  x0 x1 x2 x3 ∧ wfV z0 z1 z2 z3 z4 z5 z6 z7 z8 z9 z10 z11 z12 z13 z14 z15 z16 z17 z18 z19 z20 gl g n  x0 x1 x2 x3 = true := by
  obtain ⟨r0, r1, r2, r3, r4, r5, r6, r7, r8, r9, r10, r11, r12, r13, r14, r15, r16, r17, r18, r19, r20⟩ := d
  obtain ⟨s0, s1, s2, s3⟩ := p
  have t3 := tm_bd z3 (k := 3000) (by decide)
  have t4 := tm_bd z4 (k := 3000) (by decide)
  have t12 := tm_bd z12 (k := 20000) (by decide)
  have t11 := tm_bd z11 (k := 4) (by decide)
  have q13 := wz (z := z13) (by omega) (by omega)
  have w1 := wk (k := 1000) (z := z1) (by decide) (by decide) (by omega) (by omega)
  have w2 := wk (k := 1000) (z := z2) (by decide) (by decide) (by omega) (by omega)
  have w3 := wk (k := 1000) (z := z3.tmod 3000) (by decide) (by decide) (by omega) (by omega)
  have w4 := wk (k := 1000) (z := z4.tmod 3000) (by decide) (by decide) (by omega) (by omega)
  have w5 := wk (k := 1000) (z := z5) (by decide) (by decide) (by omega) (by omega)
  have w6 := wk (k := 1000) (z := z6) (by decide) (by decide) (by omega) (by omega)
  have w7 := wk (k := 1000) (z := z7) (by decide) (by decide) (by omega) (by omega)
  have w8 := wk (k := 1000) (z := z8) (by decide) (by decide) (by omega) (by omega)
  have w9 := wk (k := 1000) (z := z9) (by decide) (by decide) (by omega) (by omega)
  have w10 := wk (k := 1000) (z := z10) (by decide) (by decide) (by omega) (by omega)
  have w11 := wz (z := z11.tmod 4) (by omega) (by omega)
  have w12 := wk (k := 1000) (z := z12.tmod 20000) (by decide) (by decide) (by omega) (by omega)
  have w14 := wk (k := 100000) (z := z14) (by decide) (by decide) (by omega) (by omega)
  have w16 := wk (k := 10000) (z := z16) (by decide) (by decide) (by omega) (by omega)
  have w17 := wk (k := 10000) (z := z17) (by decide) (by decide) (by omega) (by omega)
  have w18 := wk (k := 100000) (z := z18) (by decide) (by decide) (by omega) (by omega)
  have w19 := wk (k := 100000) (z := z19) (by decide) (by decide) (by omega) (by omega)
  have w20 := wk (k := 100000) (z := z20) (by decide) (by decide) (by omega) (by omega)
  have p1 := pl_mn s2 s0
  have p2 := pl_mx s2 s0
  have p3 := pl_mn s3 s1
  have p4 := pl_mx s3 s1
  have p5 := pl_mn s0 s0
  have p6 := pl_mx s0 s0
  have p7 := pl_mn s1 s1
  have p8 := pl_mx s1 s1
  obtain ⟨HO, eh, sh⟩ := hole_ex r14 z15
  have i2 := ins_pl sh s2 s0 s3 s1
  have i1 := ins_pl sh s0 s0 s1 s1
  have m1 := mn_ok x2 x0
  have m2 := mx_ok x2 x0
  have m3 := mn_ok x3 x1
  have m4 := mx_ok x3 x1
  have wi := within_ok (se := 100000 * z14) (ho := HO) (X := mnI x2 x0) (Y := mxI x2 x0) (x := x0) (U := mnI x3 x1) (V := mxI x3 x1) (u := x1) (by omega) (by omega)
  rw [mn_self, mx_self, mn_self, mx_self] at i1
  have hv : vBic (1000 * z1) (1000 * z3.tmod 3000) (1000 * z2) (1000 * z4.tmod 3000) (1000 * z12.tmod 20000) gl (100000 * z14) HO := ⟨(by unfold inL; omega), (by unfold inK; omega), (by unfold inL; omega), (by unfold inK; omega), (by unfold inL; omega), hg, sh⟩
  simp only [wfN, wfV, wf0, wf1, wf2, wf3, wf4, wf5, wf6, wf7, wf8, wf9, wf10, wf11, wf12, wf13, wf14, Bool.cond_self, q13, w1, w2, w3, w4, w5, w6, w7, w8, w9, w10, w11, w12, w14, w16, w17, w18, w19, w20, p1, p2, p3, p4, p5, p6, p7, p8, mn_self, mx_self, eh, eg, k4, k5, and_true, true_and]
  exact ⟨⟨⟨hv, i2⟩, hv, i1⟩, wi⟩
theorem wg_ok {z0 z1 z2 z3 z4 z5 z6 z7 z8 z9 z10 z11 z12 z13 z14 z15 z16 z17 z18 z19 z20 : Int} {gl : ByteArray} {g : Nat} {n  x0 x1 x2 x3 : Int} (d : Dr z0 z1 z2 z3 z4 z5 z6 z7 z8 z9 z10 z11 z12 z13 z14 z15 z16 z17 z18 z19 z20) (p : X4 x0 x1 x2 x3) (hg : inG gl) (eg : z13.tmod 5 = (g : Int)) (k4 : (z0.tmod (8 : Int) == 4) = false) (k5 : (z0.tmod (8 : Int) == 5) = false) (k6 : (z0.tmod (8 : Int) == 6) = true) : wgN z0 z1 z2 z3 z4 z5 z6 z7 z8 z9 z10 z11 z12 z13 z14 z15 z16 z17 z18 z19 z20 gl g n  x0 x1 x2 x3 := by
  obtain ⟨r0, r1, r2, r3, r4, r5, r6, r7, r8, r9, r10, r11, r12, r13, r14, r15, r16, r17, r18, r19, r20⟩ := d
  obtain ⟨s0, s1, s2, s3⟩ := p
  have t3 := tm_bd z3 (k := 3000) (by decide)
  have t4 := tm_bd z4 (k := 3000) (by decide)
  have t12 := tm_bd z12 (k := 20000) (by decide)
  have t11 := tm_bd z11 (k := 4) (by decide)
  have q13 := wz (z := z13) (by omega) (by omega)
  have w1 := wk (k := 1000) (z := z1) (by decide) (by decide) (by omega) (by omega)
  have w2 := wk (k := 1000) (z := z2) (by decide) (by decide) (by omega) (by omega)
  have w3 := wk (k := 1000) (z := z3.tmod 3000) (by decide) (by decide) (by omega) (by omega)
  have w4 := wk (k := 1000) (z := z4.tmod 3000) (by decide) (by decide) (by omega) (by omega)
  have w5 := wk (k := 1000) (z := z5) (by decide) (by decide) (by omega) (by omega)
  have w6 := wk (k := 1000) (z := z6) (by decide) (by decide) (by omega) (by omega)
  have w7 := wk (k := 1000) (z := z7) (by decide) (by decide) (by omega) (by omega)
  have w8 := wk (k := 1000) (z := z8) (by decide) (by decide) (by omega) (by omega)
  have w9 := wk (k := 1000) (z := z9) (by decide) (by decide) (by omega) (by omega)
  have w10 := wk (k := 1000) (z := z10) (by decide) (by decide) (by omega) (by omega)
  have w11 := wz (z := z11.tmod 4) (by omega) (by omega)
  have w12 := wk (k := 1000) (z := z12.tmod 20000) (by decide) (by decide) (by omega) (by omega)
  have w14 := wk (k := 100000) (z := z14) (by decide) (by decide) (by omega) (by omega)
  have w16 := wk (k := 10000) (z := z16) (by decide) (by decide) (by omega) (by omega)
  have w17 := wk (k := 10000) (z := z17) (by decide) (by decide) (by omega) (by omega)
  have w18 := wk (k := 100000) (z := z18) (by decide) (by decide) (by omega) (by omega)
  have w19 := wk (k := 100000) (z := z19) (by decide) (by decide) (by omega) (by omega)
  have w20 := wk (k := 100000) (z := z20) (by decide) (by decide) (by omega) (by omega)
  have p1 := pl_mn s2 s0
  have p2 := pl_mx s2 s0
  have p3 := pl_mn s3 s1
  have p4 := pl_mx s3 s1
  have p5 := pl_mn s0 s0
  have p6 := pl_mx s0 s0
  have p7 := pl_mn s1 s1
  have p8 := pl_mx s1 s1
  obtain ⟨HO, eh, sh⟩ := hole_ex r14 z15
  have sh0 : inSH 0 0 := ⟨by decide, by decide, by decide, by decide, .inl rfl⟩
  have i2 := ins_pl sh0 s2 s0 s3 s1
  have i1 := ins_pl sh0 s0 s0 s1 s1
  rw [mn_self, mx_self, mn_self, mx_self] at i1
  have hv : vBrk (1000 * z12.tmod 20000) (10000 * z16) (10000 * z17) (100000 * z18) (100000 * z19) (100000 * z20) := ⟨(by unfold inL; omega), (by unfold inL; omega), (by unfold inL; omega), (by unfold inA; omega), (by unfold inA; omega), (by unfold inA; omega)⟩
  simp only [wgN, wg0, wg1, Bool.cond_self, q13, w1, w2, w3, w4, w5, w6, w7, w8, w9, w10, w11, w12, w14, w16, w17, w18, w19, w20, p1, p2, p3, p4, p5, p6, p7, p8, mn_self, mx_self, eh, eg, k4, k5, k6, and_true, true_and]
  exact ⟨⟨hv, i2⟩, hv, i1⟩
theorem wh_ok {z0 z1 z2 z3 z4 z5 z6 z7 z8 z9 z10 z11 z12 z13 z14 z15 z16 z17 z18 z19 z20 : Int} {gl : ByteArray} {g : Nat} {n  x0 x1 x2 x3 : Int} (d : Dr z0 z1 z2 z3 z4 z5 z6 z7 z8 z9 z10 z11 z12 z13 z14 z15 z16 z17 z18 z19 z20) (p : X4 x0 x1 x2 x3) (hg : inG gl) (eg : z13.tmod 5 = (g : Int)) (k4 : (z0.tmod (8 : Int) == 4) = false) (k5 : (z0.tmod (8 : Int) == 5) = false) (k6 : (z0.tmod (8 : Int) == 6) = false) (k7 : (z0.tmod (8 : Int) == 7) = true) (ko : (z11.tmod (2 : Int) == 0) = true) : whN z0 z1 z2 z3 z4 z5 z6 z7 z8 z9 z10 z11 z12 z13 z14 z15 z16 z17 z18 z19 z20 gl g n  x0 x1 x2 x3 ∧ whV z0 z1 z2 z3 z4 z5 z6 z7 z8 z9 z10 z11 z12 z13 z14 z15 z16 z17 z18 z19 z20 gl g n  x0 x1 x2 x3 = true := by
  obtain ⟨r0, r1, r2, r3, r4, r5, r6, r7, r8, r9, r10, r11, r12, r13, r14, r15, r16, r17, r18, r19, r20⟩ := d
  obtain ⟨s0, s1, s2, s3⟩ := p
  have t3 := tm_bd z3 (k := 3000) (by decide)
  have t4 := tm_bd z4 (k := 3000) (by decide)
  have t12 := tm_bd z12 (k := 20000) (by decide)
  have t11 := tm_bd z11 (k := 4) (by decide)
  have q13 := wz (z := z13) (by omega) (by omega)
  have w1 := wk (k := 1000) (z := z1) (by decide) (by decide) (by omega) (by omega)
  have w2 := wk (k := 1000) (z := z2) (by decide) (by decide) (by omega) (by omega)
  have w3 := wk (k := 1000) (z := z3.tmod 3000) (by decide) (by decide) (by omega) (by omega)
  have w4 := wk (k := 1000) (z := z4.tmod 3000) (by decide) (by decide) (by omega) (by omega)
  have w5 := wk (k := 1000) (z := z5) (by decide) (by decide) (by omega) (by omega)
  have w6 := wk (k := 1000) (z := z6) (by decide) (by decide) (by omega) (by omega)
  have w7 := wk (k := 1000) (z := z7) (by decide) (by decide) (by omega) (by omega)
  have w8 := wk (k := 1000) (z := z8) (by decide) (by decide) (by omega) (by omega)
  have w9 := wk (k := 1000) (z := z9) (by decide) (by decide) (by omega) (by omega)
  have w10 := wk (k := 1000) (z := z10) (by decide) (by decide) (by omega) (by omega)
  have w11 := wz (z := z11.tmod 4) (by omega) (by omega)
  have w12 := wk (k := 1000) (z := z12.tmod 20000) (by decide) (by decide) (by omega) (by omega)
  have w14 := wk (k := 100000) (z := z14) (by decide) (by decide) (by omega) (by omega)
  have w16 := wk (k := 10000) (z := z16) (by decide) (by decide) (by omega) (by omega)
  have w17 := wk (k := 10000) (z := z17) (by decide) (by decide) (by omega) (by omega)
  have w18 := wk (k := 100000) (z := z18) (by decide) (by decide) (by omega) (by omega)
  have w19 := wk (k := 100000) (z := z19) (by decide) (by decide) (by omega) (by omega)
  have w20 := wk (k := 100000) (z := z20) (by decide) (by decide) (by omega) (by omega)
  have p1 := pl_mn s2 s0
  have p2 := pl_mx s2 s0
  have p3 := pl_mn s3 s1
  have p4 := pl_mx s3 s1
  have p5 := pl_mn s0 s0
  have p6 := pl_mx s0 s0
  have p7 := pl_mn s1 s1
  have p8 := pl_mx s1 s1
  obtain ⟨HO, eh, sh⟩ := hole_ex r14 z15
  have i2 := ins_pl sh s2 s0 s3 s1
  have i1 := ins_pl sh s0 s0 s1 s1
  have m1 := mn_ok x2 x0
  have m2 := mx_ok x2 x0
  have m3 := mn_ok x3 x1
  have m4 := mx_ok x3 x1
  have wi := within_ok (se := 100000 * z14) (ho := HO) (X := mnI x2 x0) (Y := mxI x2 x0) (x := x0) (U := mnI x3 x1) (V := mxI x3 x1) (u := x1) (by omega) (by omega)
  rw [mn_self, mx_self, mn_self, mx_self] at i1
  have hv : vIdl (1000 * z1) (1000 * z12.tmod 20000) (100000 * z14) HO := ⟨(by unfold inL; omega), (by unfold inL; omega), sh⟩
  simp only [whN, whV, wh0, wh1, wh2, wh3, wh4, wh5, wh6, wh7, wh8, wh9, wh10, wh11, wh12, Bool.cond_self, q13, w1, w2, w3, w4, w5, w6, w7, w8, w9, w10, w11, w12, w14, w16, w17, w18, w19, w20, p1, p2, p3, p4, p5, p6, p7, p8, mn_self, mx_self, eh, eg, k4, k5, k6, k7, ko, and_true, true_and]
  exact ⟨⟨⟨hv, i2⟩, hv, i1⟩, wi⟩
theorem wi_ok {z0 z1 z2 z3 z4 z5 z6 z7 z8 z9 z10 z11 z12 z13 z14 z15 z16 z17 z18 z19 z20 : Int} {gl : ByteArray} {g : Nat} {n  x0 x1 x2 x3 : Int} (d : Dr z0 z1 z2 z3 z4 z5 z6 z7 z8 z9 z10 z11 z12 z13 z14 z15 z16 z17 z18 z19 z20) (p : X4 x0 x1 x2 x3) (hg : inG gl) (eg : z13.tmod 5 = (g : Int)) (k4 : (z0.tmod (8 : Int) == 4) = false) (k5 : (z0.tmod (8 : Int) == 5) = false) (k6 : (z0.tmod (8 : Int) == 6) = false) (k7 : (z0.tmod (8 : Int) == 7) = true) (ko : (z11.tmod (2 : Int) == 0) = false) : wiN z0 z1 z2 z3 z4 z5 z6 z7 z8 z9 z10 z11 z12 z13 z14 z15 z16 z17 z18 z19 z20 gl g n  x0 x1 x2 x3 ∧ wiV z0 z1 z2 z3 z4 z5 z6 z7 z8 z9 z10 z11 z12 z13 z14 z15 z16 z17 z18 z19 z20 gl g n  x0 x1 x2 x3 = true := by
  obtain ⟨r0, r1, r2, r3, r4, r5, r6, r7, r8, r9, r10, r11, r12, r13, r14, r15, r16, r17, r18, r19, r20⟩ := d
  obtain ⟨s0, s1, s2, s3⟩ := p
  have t3 := tm_bd z3 (k := 3000) (by decide)
  have t4 := tm_bd z4 (k := 3000) (by decide)
  have t12 := tm_bd z12 (k := 20000) (by decide)
  have t11 := tm_bd z11 (k := 4) (by decide)
  have q13 := wz (z := z13) (by omega) (by omega)
  have w1 := wk (k := 1000) (z := z1) (by decide) (by decide) (by omega) (by omega)
  have w2 := wk (k := 1000) (z := z2) (by decide) (by decide) (by omega) (by omega)
  have w3 := wk (k := 1000) (z := z3.tmod 3000) (by decide) (by decide) (by omega) (by omega)
  have w4 := wk (k := 1000) (z := z4.tmod 3000) (by decide) (by decide) (by omega) (by omega)
  have w5 := wk (k := 1000) (z := z5) (by decide) (by decide) (by omega) (by omega)
  have w6 := wk (k := 1000) (z := z6) (by decide) (by decide) (by omega) (by omega)
  have w7 := wk (k := 1000) (z := z7) (by decide) (by decide) (by omega) (by omega)
  have w8 := wk (k := 1000) (z := z8) (by decide) (by decide) (by omega) (by omega)
  have w9 := wk (k := 1000) (z := z9) (by decide) (by decide) (by omega) (by omega)
  have w10 := wk (k := 1000) (z := z10) (by decide) (by decide) (by omega) (by omega)
  have w11 := wz (z := z11.tmod 4) (by omega) (by omega)
  have w12 := wk (k := 1000) (z := z12.tmod 20000) (by decide) (by decide) (by omega) (by omega)
  have w14 := wk (k := 100000) (z := z14) (by decide) (by decide) (by omega) (by omega)
  have w16 := wk (k := 10000) (z := z16) (by decide) (by decide) (by omega) (by omega)
  have w17 := wk (k := 10000) (z := z17) (by decide) (by decide) (by omega) (by omega)
  have w18 := wk (k := 100000) (z := z18) (by decide) (by decide) (by omega) (by omega)
  have w19 := wk (k := 100000) (z := z19) (by decide) (by decide) (by omega) (by omega)
  have w20 := wk (k := 100000) (z := z20) (by decide) (by decide) (by omega) (by omega)
  have p1 := pl_mn s2 s0
  have p2 := pl_mx s2 s0
  have p3 := pl_mn s3 s1
  have p4 := pl_mx s3 s1
  have p5 := pl_mn s0 s0
  have p6 := pl_mx s0 s0
  have p7 := pl_mn s1 s1
  have p8 := pl_mx s1 s1
  obtain ⟨HO, eh, sh⟩ := hole_ex r14 z15
  have i2 := ins_pl sh s2 s0 s3 s1
  have i1 := ins_pl sh s0 s0 s1 s1
  have m1 := mn_ok x2 x0
  have m2 := mx_ok x2 x0
  have m3 := mn_ok x3 x1
  have m4 := mx_ok x3 x1
  have wi := within_ok (se := 100000 * z14) (ho := HO) (X := mnI x2 x0) (Y := mxI x2 x0) (x := x0) (U := mnI x3 x1) (V := mxI x3 x1) (u := x1) (by omega) (by omega)
  rw [mn_self, mx_self, mn_self, mx_self] at i1
  have hv : vStd (1000 * z1) (1000 * z3.tmod 3000) 0 0 0 0 (bif !eqBytes gl { data := #[77, 73, 82, 82, 79, 82] } then 1000 * z9 else 0) (bif !eqBytes gl { data := #[77, 73, 82, 82, 79, 82] } then 1000 * z10 else 0) (bif !eqBytes gl { data := #[77, 73, 82, 82, 79, 82] } then z11.tmod 4 else 0) (1000 * z12.tmod 20000) gl (100000 * z14) HO := by
    have od : z11.tmod 4 ≠ 0 := fun h => by
      have : z11.tmod 2 = 0 := by
        have d1 : (4 : Int) ∣ z11 := Int.dvd_of_tmod_eq_zero h
        exact Int.tmod_eq_zero_of_dvd (by omega)
      rw [this] at ko; cases ko
    cases he : eqBytes gl { data := #[77, 73, 82, 82, 79, 82] } with
    | true => exact ⟨(by unfold inL; omega), (by unfold inK; omega), (by unfold inL; omega), (by unfold inL; omega), (by unfold inL; omega), (by unfold inL; omega), by show inL 0; unfold inL; omega, by show inL 0; unfold inL; omega, by simp only [Bool.not_true, cond_false]; omega, (by unfold inL; omega), hg, sh, .inl ⟨rfl, rfl, rfl⟩⟩
    | false =>
      have ne : gl ≠ g3 := fun h => by
        have := (eqBytes_iff gl _).2 (show gl = { data := #[77, 73, 82, 82, 79, 82] } from h)
        rw [he] at this; cases this
      exact ⟨(by unfold inL; omega), (by unfold inK; omega), (by unfold inL; omega), (by unfold inL; omega), (by unfold inL; omega), (by unfold inL; omega), by show inL (1000 * z9); unfold inL; omega, by show inL (1000 * z10); unfold inL; omega, by show -3 ≤ z11.tmod 4 ∧ z11.tmod 4 ≤ 3; omega, (by unfold inL; omega), hg, sh, .inr ⟨od, ne⟩⟩
  simp only [wiN, wiV, wi0, wi1, wi2, wi3, wi4, wi5, wi6, wi7, wi8, wi9, wi10, wi11, wi12, wi13, wi14, wi15, wi16, wi17, wi18, wi19, wi20, Bool.cond_self, q13, w1, w2, w3, w4, w5, w6, w7, w8, w9, w10, w11, w12, w14, w16, w17, w18, w19, w20, p1, p2, p3, p4, p5, p6, p7, p8, mn_self, mx_self, eh, eg, k4, k5, k6, k7, ko, and_true, true_and]
  exact ⟨⟨⟨hv, i2⟩, hv, i1⟩, wi⟩
end Go.Rd
