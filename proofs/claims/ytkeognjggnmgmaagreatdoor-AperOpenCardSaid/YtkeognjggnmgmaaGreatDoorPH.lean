/- What is proved: AperOpen returns true, whatever the input (part 8 of 22). No conditions beyond those of the row. -/
import Derived.Test.YtkeognjggnmgmaaGreatDoorPG
set_option linter.unusedVariables false
set_option linter.unusedSimpArgs false
set_option linter.unusedSectionVars false
/- The plain law of AperOpen. No program. -/
namespace Go.Rd
open Go Go.Eng Go.Ar

theorem gl_in {g : Nat} : inG (glassB g) := by
  unfold inG isG glassB
  split
  · exact .inr (.inl rfl)
  · exact .inr (.inr (.inl rfl))
  · exact .inr (.inr (.inr (.inl rfl)))
  · exact .inr (.inr (.inr (.inr rfl)))
  · exact .inl rfl

theorem ins_00 (L H : Int) : insV 0 0 L H = 1 := rfl
/-- What is in stays in, when Semi grows and Hole shrinks. -/
theorem ins_wide {S HO S' HO' L H : Int} (s0 : 0 ≤ S) (h0 : 0 ≤ HO') (hh : HO' ≤ HO) (hs : (S = 0 ∧ S' = 0) ∨ (0 < S ∧ S ≤ S')) (h : insV S HO L H = 1) : insV S' HO' L H = 1 := by
  have key : ∀ p q : Int, judB S HO p q = false → judB S' HO' p q = false := by
    intro p q hj
    have hhole : holeB HO q = false → holeB HO' q = false := by
      intro k
      unfold holeB at k ⊢
      cases h1 : HO' != 0 with
      | false => rfl
      | true =>
        have h2 : HO' ≠ 0 := by simpa using h1
        have h3 : (HO != 0) = true := by simp; omega
        rw [h3, cond_true] at k
        rw [cond_true]
        have := of_decide_eq_false k
        have sq := sq_le h0 hh
        exact decide_eq_false (by omega)
    unfold judB at hj ⊢
    rcases hs with ⟨rfl, rfl⟩ | ⟨hp, hl⟩
    · exact hhole hj
    · have h3 : (S != 0) = true := by simp; omega
      have h4 : (S' != 0) = true := by simp; omega
      rw [h3, cond_true] at hj
      rw [h4, cond_true]
      cases h5 : decide (S * S * 4294967296 < p * 1000000000000) with
      | true => rw [h5] at hj; cases hj
      | false =>
        rw [h5, cond_false] at hj
        have := of_decide_eq_false h5
        have sq := sq_le s0 hl
        rw [show decide (S' * S' * 4294967296 < p * 1000000000000) = false from decide_eq_false (by omega), cond_false]
        exact hhole hj
  unfold insV at h ⊢
  cases a : judB S HO L H with
  | true => rw [a] at h; simp at h
  | false =>
    cases b : judB S HO H L with
    | true => rw [a, b] at h; simp at h
    | false => rw [key _ _ a, key _ _ b]; rfl
theorem open_ok {S HO S' HO' L H : Int} (s0 : 0 ≤ S) (h0 : 0 ≤ HO') (hh : HO' ≤ HO) (hs : (S = 0 ∧ S' = 0) ∨ (0 < S ∧ S ≤ S')) : (bif insV 0 0 L H != 1 then true else bif insV S HO L H == 1 then insV S' HO' L H != 1 else false) = false := by
  rw [ins_00]
  cases h : insV S HO L H == 1 with
  | false => rfl
  | true => rw [ins_wide s0 h0 hh hs (eq_of_beq h)]; rfl
theorem wide_ex {z14 m : Int} (h : 0 ≤ z14 ∧ z14 ≤ 255) (hm : 0 ≤ m ∧ m ≤ 65535) {HO : Int} (hh : inSH (100000 * z14) HO) : ∃ S' HO', (bif decide (100000 * z14 > 0) then IntKind.i64.wrap (100000 * z14 + 1000 * m) else 100000 * z14) = S' ∧ IntKind.i64.wrap (HO.tdiv 2) = HO' ∧ inSH S' HO' ∧ 0 ≤ HO' ∧ HO' ≤ HO ∧ ((100000 * z14 = 0 ∧ S' = 0) ∨ (0 < 100000 * z14 ∧ 100000 * z14 ≤ S')) := by
  obtain ⟨_, _, q1, q2, q3⟩ := hh
  have e : IntKind.i64.wrap (HO.tdiv 2) = HO / 2 := by rw [Int.tdiv_eq_ediv_of_nonneg q1]; exact i64w (by omega) (by omega)
  refine ⟨_, _, rfl, e, ?_, by omega, by omega, ?_⟩
  · by_cases c : 100000 * z14 > 0
    · rw [decide_eq_true c, cond_true, i64w (by omega) (by omega)]; exact ⟨by omega, by omega, by omega, by omega, by omega⟩
    · rw [decide_eq_false c, cond_false]; exact ⟨by omega, by omega, by omega, by omega, by omega⟩
  · by_cases c : 100000 * z14 > 0
    · rw [decide_eq_true c, cond_true, i64w (by omega) (by omega)]; omega
    · rw [decide_eq_false c, cond_false]; omega
theorem ins_0 {se ho : Int} (sh : inSH se ho) : insOk se ho 0 0 0 0 := by
  obtain ⟨k1, k2, k3, k4, _⟩ := sh
  exact ⟨0, 0, 0, 0, ⟨k1, k2, k3, k4, by omega, by omega, by omega, by omega, by omega, by omega⟩, rfl, rfl, rfl, rfl⟩
theorem va_ok {z0 z1 z2 z3 z4 z5 z6 z7 z8 z9 z10 z11 z12 z13 z14 z15 z16 z17 z18 z19 z20 : Int} {gl : ByteArray} {g : Nat} {n x0 x1 x2 x3 m : Int} (d : Dr z0 z1 z2 z3 z4 z5 z6 z7 z8 z9 z10 z11 z12 z13 z14 z15 z16 z17 z18 z19 z20) (p : X4 x0 x1 x2 x3) (hm : 0 ≤ m ∧ m ≤ 65535) (hg : inG gl) (eg : z13.tmod 5 = (g : Int)) (k4 : (z0.tmod (8 : Int) == 4) = false) (k5 : (z0.tmod (8 : Int) == 5) = false) (k6 : (z0.tmod (8 : Int) == 6) = false) (k7 : (z0.tmod (8 : Int) == 7) = false) : vaN z0 z1 z2 z3 z4 z5 z6 z7 z8 z9 z10 z11 z12 z13 z14 z15 z16 z17 z18 z19 z20 gl g n x0 x1 x2 x3 m ∧ vaV z0 z1 z2 z3 z4 z5 z6 z7 z8 z9 z10 z11 z12 z13 z14 z15 z16 z17 z18 z19 z20 gl g n x0 x1 x2 x3 m = true := by
  obtain ⟨r0, r1, r2, r3, r4, r5, r6, r7, r8, r9, r10, r11, r12, r13, r14, r15, r16, r17, r18, r19, r20⟩ := d
  obtain ⟨s0, s1, s2, s3⟩ := p
  have t3 := tm_bd z3 (k := 3000) (by decide)
  have t4 := tm_bd z4 (k := 3000) (by decide)
  have t12 := tm_bd z12 (k := 20000) (by decide)
  have t11 := tm_bd z11 (k := 4) (by decide)
  have q13 := wz (z := z13) (by omega) (by omega)
  have w1 := wk (k := 1000) (z := z1) (by decide) (by decide) (by omega) (by omega)
  have w2 := wk (k := 1000) (z := z2) (by decide) (by decide) (by omega) (by omega)
  have w3 := wk (k := 1000) (z := z3.tmod 3000) (by decide) (by decide) (by omega) (by omega)
  have w4 := wk (k := 1000) (z := z4.tmod 3000) (by decide) (by decide) (by omega) (by omega)
  have w5 := wk (k := 1000) (z := z5) (by decide) (by decide) (by omega) (by omega)
  have w6 := wk (k := 1000) (z := z6) (by decide) (by decide) (by omega) (by omega)
  have w7 := wk (k := 1000) (z := z7) (by decide) (by decide) (by omega) (by omega)
  have w8 := wk (k := 1000) (z := z8) (by decide) (by decide) (by omega) (by omega)
  have w9 := wk (k := 1000) (z := z9) (by decide) (by decide) (by omega) (by omega)
  have w10 := wk (k := 1000) (z := z10) (by decide) (by decide) (by omega) (by omega)
  have w11 := wz (z := z11.tmod 4) (by omega) (by omega)
  have w12 := wk (k := 1000) (z := z12.tmod 20000) (by decide) (by decide) (by omega) (by omega)
  have w14 := wk (k := 100000) (z := z14) (by decide) (by decide) (by omega) (by omega)
  have w16 := wk (k := 10000) (z := z16) (by decide) (by decide) (by omega) (by omega)
  have w17 := wk (k := 10000) (z := z17) (by decide) (by decide) (by omega) (by omega)
  have w18 := wk (k := 100000) (z := z18) (by decide) (by decide) (by omega) (by omega)
  have w19 := wk (k := 100000) (z := z19) (by decide) (by decide) (by omega) (by omega)
  have w20 := wk (k := 100000) (z := z20) (by decide) (by decide) (by omega) (by omega)
  have p1 := pl_mn s2 s0
  have p2 := pl_mx s2 s0
  have p3 := pl_mn s3 s1
  have p4 := pl_mx s3 s1
  have p5 := pl_mn s0 s0
  have p6 := pl_mx s0 s0
  have p7 := pl_mn s1 s1
  have p8 := pl_mx s1 s1
  have wm := wk (k := 1000) (z := m) (by decide) (by decide) (by omega) (by omega)
  obtain ⟨HO, eh, sh⟩ := hole_ex r14 z15
  obtain ⟨S', HO', es, eo, sh', h0', hh', hs'⟩ := wide_ex r14 hm sh
  have sh0 : inSH 0 0 := ⟨by decide, by decide, by decide, by decide, .inl rfl⟩
  have ia0 := ins_0 sh
  have ia1 := ins_pl sh s0 s0 s1 s1
  have ia2 := ins_pl sh s2 s0 s3 s1
  rw [mn_self, mx_self, mn_self, mx_self] at ia1
  have ib0 := ins_0 sh0
  have ib1 := ins_pl sh0 s0 s0 s1 s1
  have ib2 := ins_pl sh0 s2 s0 s3 s1
  rw [mn_self, mx_self, mn_self, mx_self] at ib1
  have ic0 := ins_0 sh'
  have ic1 := ins_pl sh' s0 s0 s1 s1
  have ic2 := ins_pl sh' s2 s0 s3 s1
  rw [mn_self, mx_self, mn_self, mx_self] at ic1
  have o0 := open_ok (L := qL 0 0 0 0) (H := qH 0 0 0 0) (show 0 ≤ 100000 * z14 by omega) h0' hh' hs'
  have o1 := open_ok (L := qL (x0 * 16777216) (x0 * 16777216) (x1 * 16777216) (x1 * 16777216)) (H := qH (x0 * 16777216) (x0 * 16777216) (x1 * 16777216) (x1 * 16777216)) (show 0 ≤ 100000 * z14 by omega) h0' hh' hs'
  have o2 := open_ok (L := qL (mnI x2 x0 * 16777216) (mxI x2 x0 * 16777216) (mnI x3 x1 * 16777216) (mxI x3 x1 * 16777216)) (H := qH (mnI x2 x0 * 16777216) (mxI x2 x0 * 16777216) (mnI x3 x1 * 16777216) (mxI x3 x1 * 16777216)) (show 0 ≤ 100000 * z14 by omega) h0' hh' hs'
  have hv : vStd (1000 * z1) (1000 * z3.tmod 3000) 0 0 0 0 0 0 0 (1000 * z12.tmod 20000) gl (100000 * z14) HO := ⟨(by unfold inL; omega), (by unfold inK; omega), (by unfold inL; omega), (by unfold inL; omega), (by unfold inL; omega), (by unfold inL; omega), (by unfold inL; omega), (by unfold inL; omega), by omega, (by unfold inL; omega), hg, sh, .inl ⟨rfl, rfl, rfl⟩⟩
  have hvb : vStd (1000 * z1) (1000 * z3.tmod 3000) 0 0 0 0 0 0 0 (1000 * z12.tmod 20000) gl 0 0 := ⟨(by unfold inL; omega), (by unfold inK; omega), (by unfold inL; omega), (by unfold inL; omega), (by unfold inL; omega), (by unfold inL; omega), (by unfold inL; omega), (by unfold inL; omega), by omega, (by unfold inL; omega), hg, sh0, .inl ⟨rfl, rfl, rfl⟩⟩
  have hvc : vStd (1000 * z1) (1000 * z3.tmod 3000) 0 0 0 0 0 0 0 (1000 * z12.tmod 20000) gl S' HO' := ⟨(by unfold inL; omega), (by unfold inK; omega), (by unfold inL; omega), (by unfold inL; omega), (by unfold inL; omega), (by unfold inL; omega), (by unfold inL; omega), (by unfold inL; omega), by omega, (by unfold inL; omega), hg, sh', .inl ⟨rfl, rfl, rfl⟩⟩
  simp only [vaN, vaV, va0, va1, va2, va3, va4, va5, va6, va7, va8, va9, va10, va11, va12, va13, va14, va15, va16, va17, va18, va19, va20, va21, va22, va23, va24, va25, va26, va27, va28, va29, va30, Bool.cond_self, q13, w1, w2, w3, w4, w5, w6, w7, w8, w9, w10, w11, w12, w14, w16, w17, w18, w19, w20, wm, p1, p2, p3, p4, p5, p6, p7, p8, mn_self, mx_self, eh, es, eo, eg, k4, k5, k6, k7, o0, o1, o2, Bool.not_false, Bool.false_or, Bool.or_false, Bool.true_and, Bool.and_true, Bool.and_false, Bool.or_self, cond_false, and_true, true_and, true_implies, forall_const]
  repeat' first | assumption | with_reducible apply And.intro
theorem vb_ok {z0 z1 z2 z3 z4 z5 z6 z7 z8 z9 z10 z11 z12 z13 z14 z15 z16 z17 z18 z19 z20 : Int} {gl : ByteArray} {g : Nat} {n x0 x1 x2 x3 m : Int} (d : Dr z0 z1 z2 z3 z4 z5 z6 z7 z8 z9 z10 z11 z12 z13 z14 z15 z16 z17 z18 z19 z20) (p : X4 x0 x1 x2 x3) (hm : 0 ≤ m ∧ m ≤ 65535) (hg : inG gl) (eg : z13.tmod 5 = (g : Int)) (k4 : (z0.tmod (8 : Int) == 4) = true) (n0 : decide (0 < n) = false) : vbN z0 z1 z2 z3 z4 z5 z6 z7 z8 z9 z10 z11 z12 z13 z14 z15 z16 z17 z18 z19 z20 gl g n x0 x1 x2 x3 m ∧ vbV z0 z1 z2 z3 z4 z5 z6 z7 z8 z9 z10 z11 z12 z13 z14 z15 z16 z17 z18 z19 z20 gl g n x0 x1 x2 x3 m = true := by
  obtain ⟨r0, r1, r2, r3, r4, r5, r6, r7, r8, r9, r10, r11, r12, r13, r14, r15, r16, r17, r18, r19, r20⟩ := d
  obtain ⟨s0, s1, s2, s3⟩ := p
  have t3 := tm_bd z3 (k := 3000) (by decide)
  have t4 := tm_bd z4 (k := 3000) (by decide)
  have t12 := tm_bd z12 (k := 20000) (by decide)
  have t11 := tm_bd z11 (k := 4) (by decide)
  have q13 := wz (z := z13) (by omega) (by omega)
  have w1 := wk (k := 1000) (z := z1) (by decide) (by decide) (by omega) (by omega)
  have w2 := wk (k := 1000) (z := z2) (by decide) (by decide) (by omega) (by omega)
  have w3 := wk (k := 1000) (z := z3.tmod 3000) (by decide) (by decide) (by omega) (by omega)
  have w4 := wk (k := 1000) (z := z4.tmod 3000) (by decide) (by decide) (by omega) (by omega)
  have w5 := wk (k := 1000) (z := z5) (by decide) (by decide) (by omega) (by omega)
  have w6 := wk (k := 1000) (z := z6) (by decide) (by decide) (by omega) (by omega)
  have w7 := wk (k := 1000) (z := z7) (by decide) (by decide) (by omega) (by omega)
  have w8 := wk (k := 1000) (z := z8) (by decide) (by decide) (by omega) (by omega)
  have w9 := wk (k := 1000) (z := z9) (by decide) (by decide) (by omega) (by omega)
  have w10 := wk (k := 1000) (z := z10) (by decide) (by decide) (by omega) (by omega)
  have w11 := wz (z := z11.tmod 4) (by omega) (by omega)
  have w12 := wk (k := 1000) (z := z12.tmod 20000) (by decide) (by decide) (by omega) (by omega)
  have w14 := wk (k := 100000) (z := z14) (by decide) (by decide) (by omega) (by omega)
  have w16 := wk (k := 10000) (z := z16) (by decide) (by decide) (by omega) (by omega)
  have w17 := wk (k := 10000) (z := z17) (by decide) (by decide) (by omega) (by omega)
  have w18 := wk (k := 100000) (z := z18) (by decide) (by decide) (by omega) (by omega)
  have w19 := wk (k := 100000) (z := z19) (by decide) (by decide) (by omega) (by omega)
  have w20 := wk (k := 100000) (z := z20) (by decide) (by decide) (by omega) (by omega)
  have p1 := pl_mn s2 s0
  have p2 := pl_mx s2 s0
  have p3 := pl_mn s3 s1
  have p4 := pl_mx s3 s1
  have p5 := pl_mn s0 s0
  have p6 := pl_mx s0 s0
  have p7 := pl_mn s1 s1
  have p8 := pl_mx s1 s1
  have wm := wk (k := 1000) (z := m) (by decide) (by decide) (by omega) (by omega)
  obtain ⟨HO, eh, sh⟩ := hole_ex r14 z15
  obtain ⟨S', HO', es, eo, sh', h0', hh', hs'⟩ := wide_ex r14 hm sh
  have sh0 : inSH 0 0 := ⟨by decide, by decide, by decide, by decide, .inl rfl⟩
  have ia0 := ins_0 sh
  have ia1 := ins_pl sh s0 s0 s1 s1
  have ia2 := ins_pl sh s2 s0 s3 s1
  rw [mn_self, mx_self, mn_self, mx_self] at ia1
  have ib0 := ins_0 sh0
  have ib1 := ins_pl sh0 s0 s0 s1 s1
  have ib2 := ins_pl sh0 s2 s0 s3 s1
  rw [mn_self, mx_self, mn_self, mx_self] at ib1
  have ic0 := ins_0 sh'
  have ic1 := ins_pl sh' s0 s0 s1 s1
  have ic2 := ins_pl sh' s2 s0 s3 s1
  rw [mn_self, mx_self, mn_self, mx_self] at ic1
  have o0 := open_ok (L := qL 0 0 0 0) (H := qH 0 0 0 0) (show 0 ≤ 100000 * z14 by omega) h0' hh' hs'
  have o1 := open_ok (L := qL (x0 * 16777216) (x0 * 16777216) (x1 * 16777216) (x1 * 16777216)) (H := qH (x0 * 16777216) (x0 * 16777216) (x1 * 16777216) (x1 * 16777216)) (show 0 ≤ 100000 * z14 by omega) h0' hh' hs'
  have o2 := open_ok (L := qL (mnI x2 x0 * 16777216) (mxI x2 x0 * 16777216) (mnI x3 x1 * 16777216) (mxI x3 x1 * 16777216)) (H := qH (mnI x2 x0 * 16777216) (mxI x2 x0 * 16777216) (mnI x3 x1 * 16777216) (mxI x3 x1 * 16777216)) (show 0 ≤ 100000 * z14 by omega) h0' hh' hs'
  have hv : vStd (1000 * z1) (1000 * z3.tmod 3000) (1000 * z5) (1000 * z6) (1000 * z7) (1000 * z8) 0 0 0 (1000 * z12.tmod 20000) gl (100000 * z14) HO := ⟨(by unfold inL; omega), (by unfold inK; omega), (by unfold inL; omega), (by unfold inL; omega), (by unfold inL; omega), (by unfold inL; omega), (by unfold inL; omega), (by unfold inL; omega), by omega, (by unfold inL; omega), hg, sh, .inl ⟨rfl, rfl, rfl⟩⟩
  have hvb : vStd (1000 * z1) (1000 * z3.tmod 3000) (1000 * z5) (1000 * z6) (1000 * z7) (1000 * z8) 0 0 0 (1000 * z12.tmod 20000) gl 0 0 := ⟨(by unfold inL; omega), (by unfold inK; omega), (by unfold inL; omega), (by unfold inL; omega), (by unfold inL; omega), (by unfold inL; omega), (by unfold inL; omega), (by unfold inL; omega), by omega, (by unfold inL; omega), hg, sh0, .inl ⟨rfl, rfl, rfl⟩⟩
  have hvc : vStd (1000 * z1) (1000 * z3.tmod 3000) (1000 * z5) (1000 * z6) (1000 * z7) (1000 * z8) 0 0 0 (1000 * z12.tmod 20000) gl S' HO' := ⟨(by unfold inL; omega), (by unfold inK; omega), (by unfold inL; omega), (by unfold inL; omega), (by unfold inL; omega), (by unfold inL; omega), (by unfold inL; omega), (by unfold inL; omega), by omega, (by unfold inL; omega), hg, sh', .inl ⟨rfl, rfl, rfl⟩⟩
  simp only [vbN, vbV, vb0, vb1, vb2, vb3, vb4, vb5, vb6, vb7, vb8, vb9, vb10, vb11, vb12, vb13, vb14, vb15, vb16, vb17, vb18, vb19, vb20, vb21, vb22, vb23, vb24, vb25, vb26, vb27, vb28, vb29, vb30, vb31, vb32, vb33, vb34, Bool.cond_self, q13, w1, w2, w3, w4, w5, w6, w7, w8, w9, w10, w11, w12, w14, w16, w17, w18, w19, w20, wm, p1, p2, p3, p4, p5, p6, p7, p8, mn_self, mx_self, eh, es, eo, eg, k4, n0, o0, o1, o2, Bool.not_false, Bool.false_or, Bool.or_false, Bool.true_and, Bool.and_true, Bool.and_false, Bool.or_self, cond_false, and_true, true_and, true_implies, forall_const]
  repeat' first | assumption | with_reducible apply And.intro
theorem vc_ok {z0 z1 z2 z3 z4 z5 z6 z7 z8 z9 z10 z11 z12 z13 z14 z15 z16 z17 z18 z19 z20 : Int} {gl : ByteArray} {g : Nat} {n e0 x0 x1 x2 x3 m : Int} (d : Dr z0 z1 z2 z3 z4 z5 z6 z7 z8 z9 z10 z11 z12 z13 z14 z15 z16 z17 z18 z19 z20) (p : X4 x0 x1 x2 x3) (hm : 0 ≤ m ∧ m ≤ 65535) (f0 : 0 ≤ e0 ∧ e0 ≤ 255) (hg : inG gl) (eg : z13.tmod 5 = (g : Int)) (k4 : (z0.tmod (8 : Int) == 4) = true) (n0 : decide (0 < n) = true) (n1 : decide ((1 : Int) < n) = false) : vcN z0 z1 z2 z3 z4 z5 z6 z7 z8 z9 z10 z11 z12 z13 z14 z15 z16 z17 z18 z19 z20 gl g n e0 x0 x1 x2 x3 m ∧ vcV z0 z1 z2 z3 z4 z5 z6 z7 z8 z9 z10 z11 z12 z13 z14 z15 z16 z17 z18 z19 z20 gl g n e0 x0 x1 x2 x3 m = true := by
  obtain ⟨r0, r1, r2, r3, r4, r5, r6, r7, r8, r9, r10, r11, r12, r13, r14, r15, r16, r17, r18, r19, r20⟩ := d
  obtain ⟨s0, s1, s2, s3⟩ := p
  have t3 := tm_bd z3 (k := 3000) (by decide)
  have t4 := tm_bd z4 (k := 3000) (by decide)
  have t12 := tm_bd z12 (k := 20000) (by decide)
  have t11 := tm_bd z11 (k := 4) (by decide)
  have q13 := wz (z := z13) (by omega) (by omega)
  have w1 := wk (k := 1000) (z := z1) (by decide) (by decide) (by omega) (by omega)
  have w2 := wk (k := 1000) (z := z2) (by decide) (by decide) (by omega) (by omega)
  have w3 := wk (k := 1000) (z := z3.tmod 3000) (by decide) (by decide) (by omega) (by omega)
  have w4 := wk (k := 1000) (z := z4.tmod 3000) (by decide) (by decide) (by omega) (by omega)
  have w5 := wk (k := 1000) (z := z5) (by decide) (by decide) (by omega) (by omega)
  have w6 := wk (k := 1000) (z := z6) (by decide) (by decide) (by omega) (by omega)
  have w7 := wk (k := 1000) (z := z7) (by decide) (by decide) (by omega) (by omega)
  have w8 := wk (k := 1000) (z := z8) (by decide) (by decide) (by omega) (by omega)
  have w9 := wk (k := 1000) (z := z9) (by decide) (by decide) (by omega) (by omega)
  have w10 := wk (k := 1000) (z := z10) (by decide) (by decide) (by omega) (by omega)
  have w11 := wz (z := z11.tmod 4) (by omega) (by omega)
  have w12 := wk (k := 1000) (z := z12.tmod 20000) (by decide) (by decide) (by omega) (by omega)
  have w14 := wk (k := 100000) (z := z14) (by decide) (by decide) (by omega) (by omega)
  have w16 := wk (k := 10000) (z := z16) (by decide) (by decide) (by omega) (by omega)
  have w17 := wk (k := 10000) (z := z17) (by decide) (by decide) (by omega) (by omega)
  have w18 := wk (k := 100000) (z := z18) (by decide) (by decide) (by omega) (by omega)
  have w19 := wk (k := 100000) (z := z19) (by decide) (by decide) (by omega) (by omega)
  have w20 := wk (k := 100000) (z := z20) (by decide) (by decide) (by omega) (by omega)
  have p1 := pl_mn s2 s0
  have p2 := pl_mx s2 s0
  have p3 := pl_mn s3 s1
  have p4 := pl_mx s3 s1
  have p5 := pl_mn s0 s0
  have p6 := pl_mx s0 s0
  have p7 := pl_mn s1 s1
  have p8 := pl_mx s1 s1
  have wm := wk (k := 1000) (z := m) (by decide) (by decide) (by omega) (by omega)
  obtain ⟨HO, eh, sh⟩ := hole_ex r14 z15
  obtain ⟨S', HO', es, eo, sh', h0', hh', hs'⟩ := wide_ex r14 hm sh
  have sh0 : inSH 0 0 := ⟨by decide, by decide, by decide, by decide, .inl rfl⟩
  have ia0 := ins_0 sh
  have ia1 := ins_pl sh s0 s0 s1 s1
  have ia2 := ins_pl sh s2 s0 s3 s1
  rw [mn_self, mx_self, mn_self, mx_self] at ia1
  have ib0 := ins_0 sh0
  have ib1 := ins_pl sh0 s0 s0 s1 s1
  have ib2 := ins_pl sh0 s2 s0 s3 s1
  rw [mn_self, mx_self, mn_self, mx_self] at ib1
  have ic0 := ins_0 sh'
  have ic1 := ins_pl sh' s0 s0 s1 s1
  have ic2 := ins_pl sh' s2 s0 s3 s1
  rw [mn_self, mx_self, mn_self, mx_self] at ic1
  have o0 := open_ok (L := qL 0 0 0 0) (H := qH 0 0 0 0) (show 0 ≤ 100000 * z14 by omega) h0' hh' hs'
  have o1 := open_ok (L := qL (x0 * 16777216) (x0 * 16777216) (x1 * 16777216) (x1 * 16777216)) (H := qH (x0 * 16777216) (x0 * 16777216) (x1 * 16777216) (x1 * 16777216)) (show 0 ≤ 100000 * z14 by omega) h0' hh' hs'
  have o2 := open_ok (L := qL (mnI x2 x0 * 16777216) (mxI x2 x0 * 16777216) (mnI x3 x1 * 16777216) (mxI x3 x1 * 16777216)) (H := qH (mnI x2 x0 * 16777216) (mxI x2 x0 * 16777216) (mnI x3 x1 * 16777216) (mxI x3 x1 * 16777216)) (show 0 ≤ 100000 * z14 by omega) h0' hh' hs'
  have hv : vStd (1000 * z1) (1000 * z3.tmod 3000) (1000 * z5) (1000 * z6) (1000 * z7) (1000 * z8) 0 0 0 (1000 * z12.tmod 20000) gl (100000 * z14) HO := ⟨(by unfold inL; omega), (by unfold inK; omega), (by unfold inL; omega), (by unfold inL; omega), (by unfold inL; omega), (by unfold inL; omega), (by unfold inL; omega), (by unfold inL; omega), by omega, (by unfold inL; omega), hg, sh, .inl ⟨rfl, rfl, rfl⟩⟩
  have hvb : vStd (1000 * z1) (1000 * z3.tmod 3000) (1000 * z5) (1000 * z6) (1000 * z7) (1000 * z8) 0 0 0 (1000 * z12.tmod 20000) gl 0 0 := ⟨(by unfold inL; omega), (by unfold inK; omega), (by unfold inL; omega), (by unfold inL; omega), (by unfold inL; omega), (by unfold inL; omega), (by unfold inL; omega), (by unfold inL; omega), by omega, (by unfold inL; omega), hg, sh0, .inl ⟨rfl, rfl, rfl⟩⟩
  have hvc : vStd (1000 * z1) (1000 * z3.tmod 3000) (1000 * z5) (1000 * z6) (1000 * z7) (1000 * z8) 0 0 0 (1000 * z12.tmod 20000) gl S' HO' := ⟨(by unfold inL; omega), (by unfold inK; omega), (by unfold inL; omega), (by unfold inL; omega), (by unfold inL; omega), (by unfold inL; omega), (by unfold inL; omega), (by unfold inL; omega), by omega, (by unfold inL; omega), hg, sh', .inl ⟨rfl, rfl, rfl⟩⟩
  have g0 := film_in f0
  simp only [vcN, vcV, vc1, vc2, vc3, vc4, vc5, vc6, vc7, vc8, vc9, vc10, vc11, vc12, vc13, vc14, vc15, vc16, vc17, vc18, vc19, vc20, vc21, vc22, vc23, vc24, vc25, vc26, vc27, vc28, vc29, vc30, vc31, vc32, vc33, vc34, vc35, Bool.cond_self, q13, w1, w2, w3, w4, w5, w6, w7, w8, w9, w10, w11, w12, w14, w16, w17, w18, w19, w20, wm, p1, p2, p3, p4, p5, p6, p7, p8, mn_self, mx_self, eh, es, eo, eg, k4, n0, n1, o0, o1, o2, Bool.not_false, Bool.false_or, Bool.or_false, Bool.true_and, Bool.and_true, Bool.and_false, Bool.or_self, cond_false, and_true, true_and, true_implies, forall_const]
  repeat' first | assumption | with_reducible apply And.intro
theorem vd_ok {z0 z1 z2 z3 z4 z5 z6 z7 z8 z9 z10 z11 z12 z13 z14 z15 z16 z17 z18 z19 z20 : Int} {gl : ByteArray} {g : Nat} {n e0 e1 x0 x1 x2 x3 m : Int} (d : Dr z0 z1 z2 z3 z4 z5 z6 z7 z8 z9 z10 z11 z12 z13 z14 z15 z16 z17 z18 z19 z20) (p : X4 x0 x1 x2 x3) (hm : 0 ≤ m ∧ m ≤ 65535) (f0 : 0 ≤ e0 ∧ e0 ≤ 255) (f1 : 0 ≤ e1 ∧ e1 ≤ 255) (hg : inG gl) (eg : z13.tmod 5 = (g : Int)) (k4 : (z0.tmod (8 : Int) == 4) = true) (n0 : decide (0 < n) = true) (n1 : decide ((1 : Int) < n) = true) (n2 : decide ((2 : Int) < n) = false) : vdN z0 z1 z2 z3 z4 z5 z6 z7 z8 z9 z10 z11 z12 z13 z14 z15 z16 z17 z18 z19 z20 gl g n e0 e1 x0 x1 x2 x3 m ∧ vdV z0 z1 z2 z3 z4 z5 z6 z7 z8 z9 z10 z11 z12 z13 z14 z15 z16 z17 z18 z19 z20 gl g n e0 e1 x0 x1 x2 x3 m = true := by
  obtain ⟨r0, r1, r2, r3, r4, r5, r6, r7, r8, r9, r10, r11, r12, r13, r14, r15, r16, r17, r18, r19, r20⟩ := d
  obtain ⟨s0, s1, s2, s3⟩ := p
  have t3 := tm_bd z3 (k := 3000) (by decide)
  have t4 := tm_bd z4 (k := 3000) (by decide)
  have t12 := tm_bd z12 (k := 20000) (by decide)
  have t11 := tm_bd z11 (k := 4) (by decide)
  have q13 := wz (z := z13) (by omega) (by omega)
  have w1 := wk (k := 1000) (z := z1) (by decide) (by decide) (by omega) (by omega)
  have w2 := wk (k := 1000) (z := z2) (by decide) (by decide) (by omega) (by omega)
  have w3 := wk (k := 1000) (z := z3.tmod 3000) (by decide) (by decide) (by omega) (by omega)
  have w4 := wk (k := 1000) (z := z4.tmod 3000) (by decide) (by decide) (by omega) (by omega)
  have w5 := wk (k := 1000) (z := z5) (by decide) (by decide) (by omega) (by omega)
  have w6 := wk (k := 1000) (z := z6) (by decide) (by decide) (by omega) (by omega)
  have w7 := wk (k := 1000) (z := z7) (by decide) (by decide) (by omega) (by omega)
  have w8 := wk (k := 1000) (z := z8) (by decide) (by decide) (by omega) (by omega)
  have w9 := wk (k := 1000) (z := z9) (by decide) (by decide) (by omega) (by omega)
  have w10 := wk (k := 1000) (z := z10) (by decide) (by decide) (by omega) (by omega)
  have w11 := wz (z := z11.tmod 4) (by omega) (by omega)
  have w12 := wk (k := 1000) (z := z12.tmod 20000) (by decide) (by decide) (by omega) (by omega)
  have w14 := wk (k := 100000) (z := z14) (by decide) (by decide) (by omega) (by omega)
  have w16 := wk (k := 10000) (z := z16) (by decide) (by decide) (by omega) (by omega)
  have w17 := wk (k := 10000) (z := z17) (by decide) (by decide) (by omega) (by omega)
  have w18 := wk (k := 100000) (z := z18) (by decide) (by decide) (by omega) (by omega)
  have w19 := wk (k := 100000) (z := z19) (by decide) (by decide) (by omega) (by omega)
  have w20 := wk (k := 100000) (z := z20) (by decide) (by decide) (by omega) (by omega)
  have p1 := pl_mn s2 s0
  have p2 := pl_mx s2 s0
  have p3 := pl_mn s3 s1
  have p4 := pl_mx s3 s1
  have p5 := pl_mn s0 s0
  have p6 := pl_mx s0 s0
  have p7 := pl_mn s1 s1
  have p8 := pl_mx s1 s1
  have wm := wk (k := 1000) (z := m) (by decide) (by decide) (by omega) (by omega)
  obtain ⟨HO, eh, sh⟩ := hole_ex r14 z15
  obtain ⟨S', HO', es, eo, sh', h0', hh', hs'⟩ := wide_ex r14 hm sh
  have sh0 : inSH 0 0 := ⟨by decide, by decide, by decide, by decide, .inl rfl⟩
  have ia0 := ins_0 sh
  have ia1 := ins_pl sh s0 s0 s1 s1
  have ia2 := ins_pl sh s2 s0 s3 s1
  rw [mn_self, mx_self, mn_self, mx_self] at ia1
  have ib0 := ins_0 sh0
  have ib1 := ins_pl sh0 s0 s0 s1 s1
  have ib2 := ins_pl sh0 s2 s0 s3 s1
  rw [mn_self, mx_self, mn_self, mx_self] at ib1
  have ic0 := ins_0 sh'
  have ic1 := ins_pl sh' s0 s0 s1 s1
  have ic2 := ins_pl sh' s2 s0 s3 s1
  rw [mn_self, mx_self, mn_self, mx_self] at ic1
  have o0 := open_ok (L := qL 0 0 0 0) (H := qH 0 0 0 0) (show 0 ≤ 100000 * z14 by omega) h0' hh' hs'
  have o1 := open_ok (L := qL (x0 * 16777216) (x0 * 16777216) (x1 * 16777216) (x1 * 16777216)) (H := qH (x0 * 16777216) (x0 * 16777216) (x1 * 16777216) (x1 * 16777216)) (show 0 ≤ 100000 * z14 by omega) h0' hh' hs'
  have o2 := open_ok (L := qL (mnI x2 x0 * 16777216) (mxI x2 x0 * 16777216) (mnI x3 x1 * 16777216) (mxI x3 x1 * 16777216)) (H := qH (mnI x2 x0 * 16777216) (mxI x2 x0 * 16777216) (mnI x3 x1 * 16777216) (mxI x3 x1 * 16777216)) (show 0 ≤ 100000 * z14 by omega) h0' hh' hs'
  have hv : vStd (1000 * z1) (1000 * z3.tmod 3000) (1000 * z5) (1000 * z6) (1000 * z7) (1000 * z8) 0 0 0 (1000 * z12.tmod 20000) gl (100000 * z14) HO := ⟨(by unfold inL; omega), (by unfold inK; omega), (by unfold inL; omega), (by unfold inL; omega), (by unfold inL; omega), (by unfold inL; omega), (by unfold inL; omega), (by unfold inL; omega), by omega, (by unfold inL; omega), hg, sh, .inl ⟨rfl, rfl, rfl⟩⟩
  have hvb : vStd (1000 * z1) (1000 * z3.tmod 3000) (1000 * z5) (1000 * z6) (1000 * z7) (1000 * z8) 0 0 0 (1000 * z12.tmod 20000) gl 0 0 := ⟨(by unfold inL; omega), (by unfold inK; omega), (by unfold inL; omega), (by unfold inL; omega), (by unfold inL; omega), (by unfold inL; omega), (by unfold inL; omega), (by unfold inL; omega), by omega, (by unfold inL; omega), hg, sh0, .inl ⟨rfl, rfl, rfl⟩⟩
  have hvc : vStd (1000 * z1) (1000 * z3.tmod 3000) (1000 * z5) (1000 * z6) (1000 * z7) (1000 * z8) 0 0 0 (1000 * z12.tmod 20000) gl S' HO' := ⟨(by unfold inL; omega), (by unfold inK; omega), (by unfold inL; omega), (by unfold inL; omega), (by unfold inL; omega), (by unfold inL; omega), (by unfold inL; omega), (by unfold inL; omega), by omega, (by unfold inL; omega), hg, sh', .inl ⟨rfl, rfl, rfl⟩⟩
  have g0 := film_in f0
  have g1 := film_in f1
  simp only [vdN, vdV, vd2, vd3, vd4, vd5, vd6, vd7, vd8, vd9, vd10, vd11, vd12, vd13, vd14, vd15, vd16, vd17, vd18, vd19, vd20, vd21, vd22, vd23, vd24, vd25, vd26, vd27, vd28, vd29, vd30, vd31, vd32, vd33, vd34, vd35, vd36, Bool.cond_self, q13, w1, w2, w3, w4, w5, w6, w7, w8, w9, w10, w11, w12, w14, w16, w17, w18, w19, w20, wm, p1, p2, p3, p4, p5, p6, p7, p8, mn_self, mx_self, eh, es, eo, eg, k4, n0, n1, n2, o0, o1, o2, Bool.not_false, Bool.false_or, Bool.or_false, Bool.true_and, Bool.and_true, Bool.and_false, Bool.or_self, cond_false, and_true, true_and, true_implies, forall_const]
  repeat' first | assumption | with_reducible apply And.intro
theorem ve_ok {z0 z1 z2 z3 z4 z5 z6 z7 z8 z9 z10 z11 z12 z13 z14 z15 z16 z17 z18 z19 z20 : Int} {gl : ByteArray} {g : Nat} {n e0 e1 e2 x0 x1 x2 x3 m : Int} (d : Dr z0 z1 z2 z3 z4 z5 z6 z7 z8 z9 z10 z11 z12 z13 z14 z15 z16 z17 z18 z19 z20) (p : X4 x0 x1 x2 x3) (hm : 0 ≤ m ∧ m ≤ 65535) (f0 : 0 ≤ e0 ∧ e0 ≤ 255) (f1 : 0 ≤ e1 ∧ e1 ≤ 255) (f2 : 0 ≤ e2 ∧ e2 ≤ 255) (hg : inG gl) (eg : z13.tmod 5 = (g : Int)) (k4 : (z0.tmod (8 : Int) == 4) = true) (n0 : decide (0 < n) = true) (n1 : decide ((1 : Int) < n) = true) (n2 : decide ((2 : Int) < n) = true) : veN z0 z1 z2 z3 z4 z5 z6 z7 z8 z9 z10 z11 z12 z13 z14 z15 z16 z17 z18 z19 z20 gl g n e0 e1 e2 x0 x1 x2 x3 m ∧ veV z0 z1 z2 z3 z4 z5 z6 z7 z8 z9 z10 z11 z12 z13 z14 z15 z16 z17 z18 z19 z20 gl g n e0 e1 e2 x0 x1 x2 x3 m = true := by
  obtain ⟨r0, r1, r2, r3, r4, r5, r6, r7, r8, r9, r10, r11, r12, r13, r14, r15, r16, r17, r18, r19, r20⟩ := d
  obtain ⟨s0, s1, s2, s3⟩ := p
  have t3 := tm_bd z3 (k := 3000) (by decide)
  have t4 := tm_bd z4 (k := 3000) (by decide)
  have t12 := tm_bd z12 (k := 20000) (by decide)
  have t11 := tm_bd z11 (k := 4) (by decide)
  have q13 := wz (z := z13) (by omega) (by omega)
  have w1 := wk (k := 1000) (z := z1) (by decide) (by decide) (by omega) (by omega)
  have w2 := wk (k := 1000) (z := z2) (by decide) (by decide) (by omega) (by omega)
  have w3 := wk (k := 1000) (z := z3.tmod 3000) (by decide) (by decide) (by omega) (by omega)
  have w4 := wk (k := 1000) (z := z4.tmod 3000) (by decide) (by decide) (by omega) (by omega)
  have w5 := wk (k := 1000) (z := z5) (by decide) (by decide) (by omega) (by omega)
  have w6 := wk (k := 1000) (z := z6) (by decide) (by decide) (by omega) (by omega)
  have w7 := wk (k := 1000) (z := z7) (by decide) (by decide) (by omega) (by omega)
  have w8 := wk (k := 1000) (z := z8) (by decide) (by decide) (by omega) (by omega)
  have w9 := wk (k := 1000) (z := z9) (by decide) (by decide) (by omega) (by omega)
  have w10 := wk (k := 1000) (z := z10) (by decide) (by decide) (by omega) (by omega)
  have w11 := wz (z := z11.tmod 4) (by omega) (by omega)
  have w12 := wk (k := 1000) (z := z12.tmod 20000) (by decide) (by decide) (by omega) (by omega)
  have w14 := wk (k := 100000) (z := z14) (by decide) (by decide) (by omega) (by omega)
  have w16 := wk (k := 10000) (z := z16) (by decide) (by decide) (by omega) (by omega)
  have w17 := wk (k := 10000) (z := z17) (by decide) (by decide) (by omega) (by omega)
  have w18 := wk (k := 100000) (z := z18) (by decide) (by decide) (by omega) (by omega)
  have w19 := wk (k := 100000) (z := z19) (by decide) (by decide) (by omega) (by omega)
  have w20 := wk (k := 100000) (z := z20) (by decide) (by decide) (by omega) (by omega)
  have p1 := pl_mn s2 s0
  have p2 := pl_mx s2 s0
  have p3 := pl_mn s3 s1
  have p4 := pl_mx s3 s1
  have p5 := pl_mn s0 s0
  have p6 := pl_mx s0 s0
  have p7 := pl_mn s1 s1
  have p8 := pl_mx s1 s1
  have wm := wk (k := 1000) (z := m) (by decide) (by decide) (by omega) (by omega)
  obtain ⟨HO, eh, sh⟩ := hole_ex r14 z15
  obtain ⟨S', HO', es, eo, sh', h0', hh', hs'⟩ := wide_ex r14 hm sh
  have sh0 : inSH 0 0 := ⟨by decide, by decide, by decide, by decide, .inl rfl⟩
  have ia0 := ins_0 sh
  have ia1 := ins_pl sh s0 s0 s1 s1
  have ia2 := ins_pl sh s2 s0 s3 s1
  rw [mn_self, mx_self, mn_self, mx_self] at ia1
  have ib0 := ins_0 sh0
  have ib1 := ins_pl sh0 s0 s0 s1 s1
  have ib2 := ins_pl sh0 s2 s0 s3 s1
  rw [mn_self, mx_self, mn_self, mx_self] at ib1
  have ic0 := ins_0 sh'
  have ic1 := ins_pl sh' s0 s0 s1 s1
  have ic2 := ins_pl sh' s2 s0 s3 s1
  rw [mn_self, mx_self, mn_self, mx_self] at ic1
  have o0 := open_ok (L := qL 0 0 0 0) (H := qH 0 0 0 0) (show 0 ≤ 100000 * z14 by omega) h0' hh' hs'
  have o1 := open_ok (L := qL (x0 * 16777216) (x0 * 16777216) (x1 * 16777216) (x1 * 16777216)) (H := qH (x0 * 16777216) (x0 * 16777216) (x1 * 16777216) (x1 * 16777216)) (show 0 ≤ 100000 * z14 by omega) h0' hh' hs'
  have o2 := open_ok (L := qL (mnI x2 x0 * 16777216) (mxI x2 x0 * 16777216) (mnI x3 x1 * 16777216) (mxI x3 x1 * 16777216)) (H := qH (mnI x2 x0 * 16777216) (mxI x2 x0 * 16777216) (mnI x3 x1 * 16777216) (mxI x3 x1 * 16777216)) (show 0 ≤ 100000 * z14 by omega) h0' hh' hs'
  have hv : vStd (1000 * z1) (1000 * z3.tmod 3000) (1000 * z5) (1000 * z6) (1000 * z7) (1000 * z8) 0 0 0 (1000 * z12.tmod 20000) gl (100000 * z14) HO := ⟨(by unfold inL; omega), (by unfold inK; omega), (by unfold inL; omega), (by unfold inL; omega), (by unfold inL; omega), (by unfold inL; omega), (by unfold inL; omega), (by unfold inL; omega), by omega, (by unfold inL; omega), hg, sh, .inl ⟨rfl, rfl, rfl⟩⟩
  have hvb : vStd (1000 * z1) (1000 * z3.tmod 3000) (1000 * z5) (1000 * z6) (1000 * z7) (1000 * z8) 0 0 0 (1000 * z12.tmod 20000) gl 0 0 := ⟨(by unfold inL; omega), (by unfold inK; omega), (by unfold inL; omega), (by unfold inL; omega), (by unfold inL; omega), (by unfold inL; omega), (by unfold inL; omega), (by unfold inL; omega), by omega, (by unfold inL; omega), hg, sh0, .inl ⟨rfl, rfl, rfl⟩⟩
  have hvc : vStd (1000 * z1) (1000 * z3.tmod 3000) (1000 * z5) (1000 * z6) (1000 * z7) (1000 * z8) 0 0 0 (1000 * z12.tmod 20000) gl S' HO' := ⟨(by unfold inL; omega), (by unfold inK; omega), (by unfold inL; omega), (by unfold inL; omega), (by unfold inL; omega), (by unfold inL; omega), (by unfold inL; omega), (by unfold inL; omega), by omega, (by unfold inL; omega), hg, sh', .inl ⟨rfl, rfl, rfl⟩⟩
  have g0 := film_in f0
  have g1 := film_in f1
  have g2 := film_in f2
  simp only [veN, veV, ve2, ve3, ve4, ve5, ve6, ve7, ve8, ve9, ve10, ve11, ve12, ve13, ve14, ve15, ve16, ve17, ve18, ve19, ve20, ve21, ve22, ve23, ve24, ve25, ve26, ve27, ve28, ve29, ve30, ve31, ve32, ve33, ve34, ve35, ve36, Bool.cond_self, q13, w1, w2, w3, w4, w5, w6, w7, w8, w9, w10, w11, w12, w14, w16, w17, w18, w19, w20, wm, p1, p2, p3, p4, p5, p6, p7, p8, mn_self, mx_self, eh, es, eo, eg, k4, n0, n1, n2, o0, o1, o2, Bool.not_false, Bool.false_or, Bool.or_false, Bool.true_and, Bool.and_true, Bool.and_false, Bool.or_self, cond_false, and_true, true_and, true_implies, forall_const]
  repeat' first | assumption | with_reducible apply And.intro
theorem vf_ok {z0 z1 z2 z3 z4 z5 z6 z7 z8 z9 z10 z11 z12 z13 z14 z15 z16 z17 z18 z19 z20 : Int} {gl : ByteArray} {g : Nat} {n x0 x1 x2 x3 m : Int} (d : Dr z0 z1 z2 z3 z4 z5 z6 z7 z8 z9 z10 z11 z12 z13 z14 z15 z16 z17 z18 z19 z20) (p : X4 x0 x1 x2 x3) (hm : 0 ≤ m ∧ m ≤ 65535) (hg : inG gl) (eg : z13.tmod 5 = (g : Int)) (k4 : (z0.tmod (8 : Int) == 4) = false) (k5 : (z0.tmod (8 : Int) == 5) = true) : vfN z0 z1 z2 z3 z4 z5 z6 z7 z8 z9 z10 z11 z12 z13 z14 z15 z16 z17 z18 z19 z20 gl g n x0 x1 x2 x3 m ∧ vfV z0 z1 z2 z3 z4 z5 z6 z7 z8 z9 z10 z11 z12 z13 z14 z15 z16 z17 z18 z19 z20 gl g n x0 x1 x2 x3 m = true := by
  obtain ⟨r0, r1, r2, r3, r4, r5, r6, r7, r8, r9, r10, r11, r12, r13, r14, r15, r16, r17, r18, r19, r20⟩ := d
  obtain ⟨s0, s1, s2, s3⟩ := p
  have t3 := tm_bd z3 (k := 3000) (by decide)
  have t4 := tm_bd z4 (k := 3000) (by decide)
  have t12 := tm_bd z12 (k := 20000) (by decide)
  have t11 := tm_bd z11 (k := 4) (by decide)
  have q13 := wz (z := z13) (by omega) (by omega)
  have w1 := wk (k := 1000) (z := z1) (by decide) (by decide) (by omega) (by omega)
  have w2 := wk (k := 1000) (z := z2) (by decide) (by decide) (by omega) (by omega)
  have w3 := wk (k := 1000) (z := z3.tmod 3000) (by decide) (by decide) (by omega) (by omega)
  have w4 := wk (k := 1000) (z := z4.tmod 3000) (by decide) (by decide) (by omega) (by omega)
  have w5 := wk (k := 1000) (z := z5) (by decide) (by decide) (by omega) (by omega)
  have w6 := wk (k := 1000) (z := z6) (by decide) (by decide) (by omega) (by omega)
  have w7 := wk (k := 1000) (z := z7) (by decide) (by decide) (by omega) (by omega)
  have w8 := wk (k := 1000) (z := z8) (by decide) (by decide) (by omega) (by omega)
  have w9 := wk (k := 1000) (z := z9) (by decide) (by decide) (by omega) (by omega)
  have w10 := wk (k := 1000) (z := z10) (by decide) (by decide) (by omega) (by omega)
  have w11 := wz (z := z11.tmod 4) (by omega) (by omega)
  have w12 := wk (k := 1000) (z := z12.tmod 20000) (by decide) (by decide) (by omega) (by omega)
  have w14 := wk (k := 100000) (z := z14) (by decide) (by decide) (by omega) (by omega)
  have w16 := wk (k := 10000) (z := z16) (by decide) (by decide) (by omega) (by omega)
  have w17 := wk (k := 10000) (z := z17) (by decide) (by decide) (by omega) (by omega)
  have w18 := wk (k := 100000) (z := z18) (by decide) (by decide) (by omega) (by omega)
  have w19 := wk (k := 100000) (z := z19) (by decide) (by decide) (by omega) (by omega)
  have w20 := wk (k := 100000) (z := z20) (by decide) (by decide) (by omega) (by omega)
  have p1 := pl_mn s2 s0
  have p2 := pl_mx s2 s0
  have p3 := pl_mn s3 s1
  have p4 := pl_mx s3 s1
  have p5 := pl_mn s0 s0
  have p6 := pl_mx s0 s0
  have p7 := pl_mn s1 s1
  have p8 := pl_mx s1 s1
  have wm := wk (k := 1000) (z := m) (by decide) (by decide) (by omega) (by omega)
  obtain ⟨HO, eh, sh⟩ := hole_ex r14 z15
  obtain ⟨S', HO', es, eo, sh', h0', hh', hs'⟩ := wide_ex r14 hm sh
  have sh0 : inSH 0 0 := ⟨by decide, by decide, by decide, by decide, .inl rfl⟩
  have ia0 := ins_0 sh
  have ia1 := ins_pl sh s0 s0 s1 s1
  have ia2 := ins_pl sh s2 s0 s3 s1
  rw [mn_self, mx_self, mn_self, mx_self] at ia1
  have ib0 := ins_0 sh0
  have ib1 := ins_pl sh0 s0 s0 s1 s1
  have ib2 := ins_pl sh0 s2 s0 s3 s1
  rw [mn_self, mx_self, mn_self, mx_self] at ib1
  have ic0 := ins_0 sh'
  have ic1 := ins_pl sh' s0 s0 s1 s1
  have ic2 := ins_pl sh' s2 s0 s3 s1
  rw [mn_self, mx_self, mn_self, mx_self] at ic1
  have o0 := open_ok (L := qL 0 0 0 0) (H := qH 0 0 0 0) (show 0 ≤ 100000 * z14 by omega) h0' hh' hs'
  have o1 := open_ok (L := qL (x0 * 16777216) (x0 * 16777216) (x1 * 16777216) (x1 * 16777216)) (H := qH (x0 * 16777216) (x0 * 16777216) (x1 * 16777216) (x1 * 16777216)) (show 0 ≤ 100000 * z14 by omega) h0' hh' hs'
  have o2 := open_ok (L := qL (mnI x2 x0 * 16777216) (mxI x2 x0 * 16777216) (mnI x3 x1 * 16777216) (mxI x3 x1 * 16777216)) (H := qH (mnI x2 x0 * 16777216) (mxI x2 x0 * 16777216) (mnI x3 x1 * 16777216) (mxI x3 x1 * 16777216)) (show 0 ≤ 100000 * z14 by omega) h0' hh' hs'
  have hv : vBic (1000 * z1) (1000 * z3.tmod 3000) (1000 * z2) (1000 * z4.tmod 3000) (1000 * z12.tmod 20000) gl (100000 * z14) HO := ⟨(by unfold inL; omega), (by unfold inK; omega), (by unfold inL; omega), (by unfold inK; omega), (by unfold inL; omega), hg, sh⟩
  have hvb : vBic (1000 * z1) (1000 * z3.tmod 3000) (1000 * z2) (1000 * z4.tmod 3000) (1000 * z12.tmod 20000) gl 0 0 := ⟨(by unfold inL; omega), (by unfold inK; omega), (by unfold inL; omega), (by unfold inK; omega), (by unfold inL; omega), hg, sh0⟩
  have hvc : vBic (1000 * z1) (1000 * z3.tmod 3000) (1000 * z2) (1000 * z4.tmod 3000) (1000 * z12.tmod 20000) gl S' HO' := ⟨(by unfold inL; omega), (by unfold inK; omega), (by unfold inL; omega), (by unfold inK; omega), (by unfold inL; omega), hg, sh'⟩
  simp only [vfN, vfV, vf0, vf1, vf2, vf3, vf4, vf5, vf6, vf7, vf8, vf9, vf10, vf11, vf12, vf13, vf14, vf15, vf16, vf17, vf18, vf19, vf20, vf21, vf22, vf23, vf24, vf25, vf26, vf27, vf28, vf29, vf30, vf31, vf32, Bool.cond_self, q13, w1, w2, w3, w4, w5, w6, w7, w8, w9, w10, w11, w12, w14, w16, w17, w18, w19, w20, wm, p1, p2, p3, p4, p5, p6, p7, p8, mn_self, mx_self, eh, es, eo, eg, k4, k5, o0, o1, o2, Bool.not_false, Bool.false_or, Bool.or_false, Bool.true_and, Bool.and_true, Bool.and_false, Bool.or_self, cond_false, and_true, true_and, true_implies, forall_const]
  repeat' first | assumption | with_reducible apply And.intro
theorem vg_ok {z0 z1 z2 z3 z4 z5 z6 z7 z8 z9 z10 z11 z12 z13 z14 z15 z16 z17 z18 z19 z20 : Int} {gl : ByteArray} {g : Nat} {n x0 x1 x2 x3 m : Int} (d : Dr z0 z1 z2 z3 z4 z5 z6 z7 z8 z9 z10 z11 z12 z13 z14 z15 z16 z17 z18 z19 z20) (p : X4 x0 x1 x2 x3) (hm : 0 ≤ m ∧ m ≤ 65535) (hg : inG gl) (eg : z13.tmod 5 = (g : Int)) (k4 : (z0.tmod (8 : Int) == 4) = false) (k5 : (z0.tmod (8 : Int) == 5) = false) (k6 : (z0.tmod (8 : Int) == 6) = true) : vgN z0 z1 z2 z3 z4 z5 z6 z7 z8 z9 z10 z11 z12 z13 z14 z15 z16 z17 z18 z19 z20 gl g n x0 x1 x2 x3 m := by
  obtain ⟨r0, r1, r2, r3, r4, r5, r6, r7, r8, r9, r10, r11, r12, r13, r14, r15, r16, r17, r18, r19, r20⟩ := d
  obtain ⟨s0, s1, s2, s3⟩ := p
  have t3 := tm_bd z3 (k := 3000) (by decide)
  have t4 := tm_bd z4 (k := 3000) (by decide)
  have t12 := tm_bd z12 (k := 20000) (by decide)
  have t11 := tm_bd z11 (k := 4) (by decide)
  have q13 := wz (z := z13) (by omega) (by omega)
  have w1 := wk (k := 1000) (z := z1) (by decide) (by decide) (by omega) (by omega)
  have w2 := wk (k := 1000) (z := z2) (by decide) (by decide) (by omega) (by omega)
  have w3 := wk (k := 1000) (z := z3.tmod 3000) (by decide) (by decide) (by omega) (by omega)
  have w4 := wk (k := 1000) (z := z4.tmod 3000) (by decide) (by decide) (by omega) (by omega)
  have w5 := wk (k := 1000) (z := z5) (by decide) (by decide) (by omega) (by omega)
  have w6 := wk (k := 1000) (z := z6) (by decide) (by decide) (by omega) (by omega)
  have w7 := wk (k := 1000) (z := z7) (by decide) (by decide) (by omega) (by omega)
  have w8 := wk (k := 1000) (z := z8) (by decide) (by decide) (by omega) (by omega)
  have w9 := wk (k := 1000) (z := z9) (by decide) (by decide) (by omega) (by omega)
  have w10 := wk (k := 1000) (z := z10) (by decide) (by decide) (by omega) (by omega)
  have w11 := wz (z := z11.tmod 4) (by omega) (by omega)
  have w12 := wk (k := 1000) (z := z12.tmod 20000) (by decide) (by decide) (by omega) (by omega)
  have w14 := wk (k := 100000) (z := z14) (by decide) (by decide) (by omega) (by omega)
  have w16 := wk (k := 10000) (z := z16) (by decide) (by decide) (by omega) (by omega)
  have w17 := wk (k := 10000) (z := z17) (by decide) (by decide) (by omega) (by omega)
  have w18 := wk (k := 100000) (z := z18) (by decide) (by decide) (by omega) (by omega)
  have w19 := wk (k := 100000) (z := z19) (by decide) (by decide) (by omega) (by omega)
  have w20 := wk (k := 100000) (z := z20) (by decide) (by decide) (by omega) (by omega)
  have p1 := pl_mn s2 s0
  have p2 := pl_mx s2 s0
  have p3 := pl_mn s3 s1
  have p4 := pl_mx s3 s1
  have p5 := pl_mn s0 s0
  have p6 := pl_mx s0 s0
  have p7 := pl_mn s1 s1
  have p8 := pl_mx s1 s1
  have wm := wk (k := 1000) (z := m) (by decide) (by decide) (by omega) (by omega)
  obtain ⟨HO, eh, sh⟩ := hole_ex r14 z15
  obtain ⟨S', HO', es, eo, sh', h0', hh', hs'⟩ := wide_ex r14 hm sh
  have sh0 : inSH 0 0 := ⟨by decide, by decide, by decide, by decide, .inl rfl⟩
  have ia0 := ins_0 sh
  have ia1 := ins_pl sh s0 s0 s1 s1
  have ia2 := ins_pl sh s2 s0 s3 s1
  rw [mn_self, mx_self, mn_self, mx_self] at ia1
  have ib0 := ins_0 sh0
  have ib1 := ins_pl sh0 s0 s0 s1 s1
  have ib2 := ins_pl sh0 s2 s0 s3 s1
  rw [mn_self, mx_self, mn_self, mx_self] at ib1
  have ic0 := ins_0 sh'
  have ic1 := ins_pl sh' s0 s0 s1 s1
  have ic2 := ins_pl sh' s2 s0 s3 s1
  rw [mn_self, mx_self, mn_self, mx_self] at ic1
  have o0 := open_ok (L := qL 0 0 0 0) (H := qH 0 0 0 0) (show 0 ≤ 100000 * z14 by omega) h0' hh' hs'
  have o1 := open_ok (L := qL (x0 * 16777216) (x0 * 16777216) (x1 * 16777216) (x1 * 16777216)) (H := qH (x0 * 16777216) (x0 * 16777216) (x1 * 16777216) (x1 * 16777216)) (show 0 ≤ 100000 * z14 by omega) h0' hh' hs'
  have o2 := open_ok (L := qL (mnI x2 x0 * 16777216) (mxI x2 x0 * 16777216) (mnI x3 x1 * 16777216) (mxI x3 x1 * 16777216)) (H := qH (mnI x2 x0 * 16777216) (mxI x2 x0 * 16777216) (mnI x3 x1 * 16777216) (mxI x3 x1 * 16777216)) (show 0 ≤ 100000 * z14 by omega) h0' hh' hs'
  have hv : vBrk (1000 * z12.tmod 20000) (10000 * z16) (10000 * z17) (100000 * z18) (100000 * z19) (100000 * z20) := ⟨(by unfold inL; omega), (by unfold inL; omega), (by unfold inL; omega), (by unfold inA; omega), (by unfold inA; omega), (by unfold inA; omega)⟩
  simp only [vgN, vg0, vg1, Bool.cond_self, q13, w1, w2, w3, w4, w5, w6, w7, w8, w9, w10, w11, w12, w14, w16, w17, w18, w19, w20, wm, p1, p2, p3, p4, p5, p6, p7, p8, mn_self, mx_self, eh, es, eo, eg, k4, k5, k6, o0, o1, o2, Bool.not_false, Bool.false_or, Bool.or_false, Bool.true_and, Bool.and_true, Bool.and_false, Bool.or_self, cond_false, and_true, true_and, true_implies, forall_const]
  repeat' first | assumption | with_reducible apply And.intro
theorem vh_ok {z0 z1 z2 z3 z4 z5 z6 z7 z8 z9 z10 z11 z12 z13 z14 z15 z16 z17 z18 z19 z20 : Int} {gl : ByteArray} {g : Nat} {n x0 x1 x2 x3 m : Int} (d : Dr z0 z1 z2 z3 z4 z5 z6 z7 z8 z9 z10 z11 z12 z13 z14 z15 z16 z17 z18 z19 z20) (p : X4 x0 x1 x2 x3) (hm : 0 ≤ m ∧ m ≤ 65535) (hg : inG gl) (eg : z13.tmod 5 = (g : Int)) (k4 : (z0.tmod (8 : Int) == 4) = false) (k5 : (z0.tmod (8 : Int) == 5) = false) (k6 : (z0.tmod (8 : Int) == 6) = false) (k7 : (z0.tmod (8 : Int) == 7) = true) (ko : (z11.tmod (2 : Int) == 0) = true) (ks : decide (100000 * z14 > 0) = true) : vhN z0 z1 z2 z3 z4 z5 z6 z7 z8 z9 z10 z11 z12 z13 z14 z15 z16 z17 z18 z19 z20 gl g n x0 x1 x2 x3 m ∧ vhV z0 z1 z2 z3 z4 z5 z6 z7 z8 z9 z10 z11 z12 z13 z14 z15 z16 z17 z18 z19 z20 gl g n x0 x1 x2 x3 m = true := by
  obtain ⟨r0, r1, r2, r3, r4, r5, r6, r7, r8, r9, r10, r11, r12, r13, r14, r15, r16, r17, r18, r19, r20⟩ := d
  obtain ⟨s0, s1, s2, s3⟩ := p
  have t3 := tm_bd z3 (k := 3000) (by decide)
  have t4 := tm_bd z4 (k := 3000) (by decide)
  have t12 := tm_bd z12 (k := 20000) (by decide)
  have t11 := tm_bd z11 (k := 4) (by decide)
  have q13 := wz (z := z13) (by omega) (by omega)
  have w1 := wk (k := 1000) (z := z1) (by decide) (by decide) (by omega) (by omega)
  have w2 := wk (k := 1000) (z := z2) (by decide) (by decide) (by omega) (by omega)
  have w3 := wk (k := 1000) (z := z3.tmod 3000) (by decide) (by decide) (by omega) (by omega)
  have w4 := wk (k := 1000) (z := z4.tmod 3000) (by decide) (by decide) (by omega) (by omega)
  have w5 := wk (k := 1000) (z := z5) (by decide) (by decide) (by omega) (by omega)
  have w6 := wk (k := 1000) (z := z6) (by decide) (by decide) (by omega) (by omega)
  have w7 := wk (k := 1000) (z := z7) (by decide) (by decide) (by omega) (by omega)
  have w8 := wk (k := 1000) (z := z8) (by decide) (by decide) (by omega) (by omega)
  have w9 := wk (k := 1000) (z := z9) (by decide) (by decide) (by omega) (by omega)
  have w10 := wk (k := 1000) (z := z10) (by decide) (by decide) (by omega) (by omega)
  have w11 := wz (z := z11.tmod 4) (by omega) (by omega)
  have w12 := wk (k := 1000) (z := z12.tmod 20000) (by decide) (by decide) (by omega) (by omega)
  have w14 := wk (k := 100000) (z := z14) (by decide) (by decide) (by omega) (by omega)
  have w16 := wk (k := 10000) (z := z16) (by decide) (by decide) (by omega) (by omega)
  have w17 := wk (k := 10000) (z := z17) (by decide) (by decide) (by omega) (by omega)
  have w18 := wk (k := 100000) (z := z18) (by decide) (by decide) (by omega) (by omega)
  have w19 := wk (k := 100000) (z := z19) (by decide) (by decide) (by omega) (by omega)
  have w20 := wk (k := 100000) (z := z20) (by decide) (by decide) (by omega) (by omega)
  have p1 := pl_mn s2 s0
  have p2 := pl_mx s2 s0
  have p3 := pl_mn s3 s1
  have p4 := pl_mx s3 s1
  have p5 := pl_mn s0 s0
  have p6 := pl_mx s0 s0
  have p7 := pl_mn s1 s1
  have p8 := pl_mx s1 s1
  have wm := wk (k := 1000) (z := m) (by decide) (by decide) (by omega) (by omega)
  obtain ⟨HO, eh, sh⟩ := hole_ex r14 z15
  obtain ⟨S', HO', es, eo, sh', h0', hh', hs'⟩ := wide_ex r14 hm sh
  have sh0 : inSH 0 0 := ⟨by decide, by decide, by decide, by decide, .inl rfl⟩
  have ia0 := ins_0 sh
  have ia1 := ins_pl sh s0 s0 s1 s1
  have ia2 := ins_pl sh s2 s0 s3 s1
  rw [mn_self, mx_self, mn_self, mx_self] at ia1
  have ib0 := ins_0 sh0
  have ib1 := ins_pl sh0 s0 s0 s1 s1
  have ib2 := ins_pl sh0 s2 s0 s3 s1
  rw [mn_self, mx_self, mn_self, mx_self] at ib1
  have ic0 := ins_0 sh'
  have ic1 := ins_pl sh' s0 s0 s1 s1
  have ic2 := ins_pl sh' s2 s0 s3 s1
  rw [mn_self, mx_self, mn_self, mx_self] at ic1
  have o0 := open_ok (L := qL 0 0 0 0) (H := qH 0 0 0 0) (show 0 ≤ 100000 * z14 by omega) h0' hh' hs'
  have o1 := open_ok (L := qL (x0 * 16777216) (x0 * 16777216) (x1 * 16777216) (x1 * 16777216)) (H := qH (x0 * 16777216) (x0 * 16777216) (x1 * 16777216) (x1 * 16777216)) (show 0 ≤ 100000 * z14 by omega) h0' hh' hs'
  have o2 := open_ok (L := qL (mnI x2 x0 * 16777216) (mxI x2 x0 * 16777216) (mnI x3 x1 * 16777216) (mxI x3 x1 * 16777216)) (H := qH (mnI x2 x0 * 16777216) (mxI x2 x0 * 16777216) (mnI x3 x1 * 16777216) (mxI x3 x1 * 16777216)) (show 0 ≤ 100000 * z14 by omega) h0' hh' hs'
  have hv : vIdl (1000 * z1) (1000 * z12.tmod 20000) (100000 * z14) HO := ⟨(by unfold inL; omega), (by unfold inL; omega), sh⟩
  have hvb : vIdl (1000 * z1) (1000 * z12.tmod 20000) 0 0 := ⟨(by unfold inL; omega), (by unfold inL; omega), sh0⟩
  have hvc : vIdl (1000 * z1) (1000 * z12.tmod 20000) S' HO' := ⟨(by unfold inL; omega), (by unfold inL; omega), sh'⟩
  rw [ks, cond_true] at es
  rw [ks] at eh
  simp only [vhN, vhV, vh0, vh1, vh2, vh3, vh4, vh5, vh6, vh7, vh8, vh9, vh10, vh11, vh12, vh13, vh14, vh15, vh16, vh17, vh18, vh19, vh20, vh21, vh22, vh23, vh24, Bool.cond_self, q13, w1, w2, w3, w4, w5, w6, w7, w8, w9, w10, w11, w12, w14, w16, w17, w18, w19, w20, wm, p1, p2, p3, p4, p5, p6, p7, p8, mn_self, mx_self, eh, es, eo, eg, k4, k5, k6, k7, ko, ks, o0, o1, o2, Bool.not_false, Bool.false_or, Bool.or_false, Bool.true_and, Bool.and_true, Bool.and_false, Bool.or_self, cond_false, and_true, true_and, true_implies, forall_const]
  repeat' first | assumption | with_reducible apply And.intro
theorem vi_ok {z0 z1 z2 z3 z4 z5 z6 z7 z8 z9 z10 z11 z12 z13 z14 z15 z16 z17 z18 z19 z20 : Int} {gl : ByteArray} {g : Nat} {n x0 x1 x2 x3 m : Int} (d : Dr z0 z1 z2 z3 z4 z5 z6 z7 z8 z9 z10 z11 z12 z13 z14 z15 z16 z17 z18 z19 z20) (p : X4 x0 x1 x2 x3) (hm : 0 ≤ m ∧ m ≤ 65535) (hg : inG gl) (eg : z13.tmod 5 = (g : Int)) (k4 : (z0.tmod (8 : Int) == 4) = false) (k5 : (z0.tmod (8 : Int) == 5) = false) (k6 : (z0.tmod (8 : Int) == 6) = false) (k7 : (z0.tmod (8 : Int) == 7) = true) (ko : (z11.tmod (2 : Int) == 0) = false) : viN z0 z1 z2 z3 z4 z5 z6 z7 z8 z9 z10 z11 z12 z13 z14 z15 z16 z17 z18 z19 z20 gl g n x0 x1 x2 x3 m ∧ viV z0 z1 z2 z3 z4 z5 z6 z7 z8 z9 z10 z11 z12 z13 z14 z15 z16 z17 z18 z19 z20 gl g n x0 x1 x2 x3 m = true := by
  obtain ⟨r0, r1, r2, r3, r4, r5, r6, r7, r8, r9, r10, r11, r12, r13, r14, r15, r16, r17, r18, r19, r20⟩ := d
  obtain ⟨s0, s1, s2, s3⟩ := p
  have t3 := tm_bd z3 (k := 3000) (by decide)
  have t4 := tm_bd z4 (k := 3000) (by decide)
  have t12 := tm_bd z12 (k := 20000) (by decide)
  have t11 := tm_bd z11 (k := 4) (by decide)
  have q13 := wz (z := z13) (by omega) (by omega)
  have w1 := wk (k := 1000) (z := z1) (by decide) (by decide) (by omega) (by omega)
  have w2 := wk (k := 1000) (z := z2) (by decide) (by decide) (by omega) (by omega)
  have w3 := wk (k := 1000) (z := z3.tmod 3000) (by decide) (by decide) (by omega) (by omega)
  have w4 := wk (k := 1000) (z := z4.tmod 3000) (by decide) (by decide) (by omega) (by omega)
  have w5 := wk (k := 1000) (z := z5) (by decide) (by decide) (by omega) (by omega)
  have w6 := wk (k := 1000) (z := z6) (by decide) (by decide) (by omega) (by omega)
  have w7 := wk (k := 1000) (z := z7) (by decide) (by decide) (by omega) (by omega)
  have w8 := wk (k := 1000) (z := z8) (by decide) (by decide) (by omega) (by omega)
  have w9 := wk (k := 1000) (z := z9) (by decide) (by decide) (by omega) (by omega)
  have w10 := wk (k := 1000) (z := z10) (by decide) (by decide) (by omega) (by omega)
  have w11 := wz (z := z11.tmod 4) (by omega) (by omega)
  have w12 := wk (k := 1000) (z := z12.tmod 20000) (by decide) (by decide) (by omega) (by omega)
  have w14 := wk (k := 100000) (z := z14) (by decide) (by decide) (by omega) (by omega)
  have w16 := wk (k := 10000) (z := z16) (by decide) (by decide) (by omega) (by omega)
  have w17 := wk (k := 10000) (z := z17) (by decide) (by decide) (by omega) (by omega)
  have w18 := wk (k := 100000) (z := z18) (by decide) (by decide) (by omega) (by omega)
  have w19 := wk (k := 100000) (z := z19) (by decide) (by decide) (by omega) (by omega)
  have w20 := wk (k := 100000) (z := z20) (by decide) (by decide) (by omega) (by omega)
  have p1 := pl_mn s2 s0
  have p2 := pl_mx s2 s0
  have p3 := pl_mn s3 s1
  have p4 := pl_mx s3 s1
  have p5 := pl_mn s0 s0
  have p6 := pl_mx s0 s0
  have p7 := pl_mn s1 s1
  have p8 := pl_mx s1 s1
  have wm := wk (k := 1000) (z := m) (by decide) (by decide) (by omega) (by omega)
  obtain ⟨HO, eh, sh⟩ := hole_ex r14 z15
  obtain ⟨S', HO', es, eo, sh', h0', hh', hs'⟩ := wide_ex r14 hm sh
  have sh0 : inSH 0 0 := ⟨by decide, by decide, by decide, by decide, .inl rfl⟩
  have ia0 := ins_0 sh
  have ia1 := ins_pl sh s0 s0 s1 s1
  have ia2 := ins_pl sh s2 s0 s3 s1
  rw [mn_self, mx_self, mn_self, mx_self] at ia1
  have ib0 := ins_0 sh0
  have ib1 := ins_pl sh0 s0 s0 s1 s1
  have ib2 := ins_pl sh0 s2 s0 s3 s1
  rw [mn_self, mx_self, mn_self, mx_self] at ib1
  have ic0 := ins_0 sh'
  have ic1 := ins_pl sh' s0 s0 s1 s1
  have ic2 := ins_pl sh' s2 s0 s3 s1
  rw [mn_self, mx_self, mn_self, mx_self] at ic1
  have o0 := open_ok (L := qL 0 0 0 0) (H := qH 0 0 0 0) (show 0 ≤ 100000 * z14 by omega) h0' hh' hs'
  have o1 := open_ok (L := qL (x0 * 16777216) (x0 * 16777216) (x1 * 16777216) (x1 * 16777216)) (H := qH (x0 * 16777216) (x0 * 16777216) (x1 * 16777216) (x1 * 16777216)) (show 0 ≤ 100000 * z14 by omega) h0' hh' hs'
  have o2 := open_ok (L := qL (mnI x2 x0 * 16777216) (mxI x2 x0 * 16777216) (mnI x3 x1 * 16777216) (mxI x3 x1 * 16777216)) (H := qH (mnI x2 x0 * 16777216) (mxI x2 x0 * 16777216) (mnI x3 x1 * 16777216) (mxI x3 x1 * 16777216)) (show 0 ≤ 100000 * z14 by omega) h0' hh' hs'
  have hv : vStd (1000 * z1) (1000 * z3.tmod 3000) 0 0 0 0 (bif !eqBytes gl { data := #[77, 73, 82, 82, 79, 82] } then 1000 * z9 else 0) (bif !eqBytes gl { data := #[77, 73, 82, 82, 79, 82] } then 1000 * z10 else 0) (bif !eqBytes gl { data := #[77, 73, 82, 82, 79, 82] } then z11.tmod 4 else 0) (1000 * z12.tmod 20000) gl (100000 * z14) HO := by
    have od : z11.tmod 4 ≠ 0 := fun h => by
      have : z11.tmod 2 = 0 := by
        have d1 : (4 : Int) ∣ z11 := Int.dvd_of_tmod_eq_zero h
        exact Int.tmod_eq_zero_of_dvd (by omega)
      rw [this] at ko; cases ko
    cases he : eqBytes gl { data := #[77, 73, 82, 82, 79, 82] } with
    | true => exact ⟨(by unfold inL; omega), (by unfold inK; omega), (by unfold inL; omega), (by unfold inL; omega), (by unfold inL; omega), (by unfold inL; omega), by show inL 0; unfold inL; omega, by show inL 0; unfold inL; omega, by simp only [Bool.not_true, cond_false]; omega, (by unfold inL; omega), hg, sh, .inl ⟨rfl, rfl, rfl⟩⟩
    | false =>
      have ne : gl ≠ g3 := fun h => by
        have := (eqBytes_iff gl _).2 (show gl = { data := #[77, 73, 82, 82, 79, 82] } from h)
        rw [he] at this; cases this
      exact ⟨(by unfold inL; omega), (by unfold inK; omega), (by unfold inL; omega), (by unfold inL; omega), (by unfold inL; omega), (by unfold inL; omega), by show inL (1000 * z9); unfold inL; omega, by show inL (1000 * z10); unfold inL; omega, by show -3 ≤ z11.tmod 4 ∧ z11.tmod 4 ≤ 3; omega, (by unfold inL; omega), hg, sh, .inr ⟨od, ne⟩⟩
  have hvb : vStd (1000 * z1) (1000 * z3.tmod 3000) 0 0 0 0 (bif !eqBytes gl { data := #[77, 73, 82, 82, 79, 82] } then 1000 * z9 else 0) (bif !eqBytes gl { data := #[77, 73, 82, 82, 79, 82] } then 1000 * z10 else 0) (bif !eqBytes gl { data := #[77, 73, 82, 82, 79, 82] } then z11.tmod 4 else 0) (1000 * z12.tmod 20000) gl 0 0 := by
    have od : z11.tmod 4 ≠ 0 := fun h => by
      have : z11.tmod 2 = 0 := by
        have d1 : (4 : Int) ∣ z11 := Int.dvd_of_tmod_eq_zero h
        exact Int.tmod_eq_zero_of_dvd (by omega)
      rw [this] at ko; cases ko
    cases he : eqBytes gl { data := #[77, 73, 82, 82, 79, 82] } with
    | true => exact ⟨(by unfold inL; omega), (by unfold inK; omega), (by unfold inL; omega), (by unfold inL; omega), (by unfold inL; omega), (by unfold inL; omega), by show inL 0; unfold inL; omega, by show inL 0; unfold inL; omega, by simp only [Bool.not_true, cond_false]; omega, (by unfold inL; omega), hg, sh0, .inl ⟨rfl, rfl, rfl⟩⟩
    | false =>
      have ne : gl ≠ g3 := fun h => by
        have := (eqBytes_iff gl _).2 (show gl = { data := #[77, 73, 82, 82, 79, 82] } from h)
        rw [he] at this; cases this
      exact ⟨(by unfold inL; omega), (by unfold inK; omega), (by unfold inL; omega), (by unfold inL; omega), (by unfold inL; omega), (by unfold inL; omega), by show inL (1000 * z9); unfold inL; omega, by show inL (1000 * z10); unfold inL; omega, by show -3 ≤ z11.tmod 4 ∧ z11.tmod 4 ≤ 3; omega, (by unfold inL; omega), hg, sh0, .inr ⟨od, ne⟩⟩
  have hvc : vStd (1000 * z1) (1000 * z3.tmod 3000) 0 0 0 0 (bif !eqBytes gl { data := #[77, 73, 82, 82, 79, 82] } then 1000 * z9 else 0) (bif !eqBytes gl { data := #[77, 73, 82, 82, 79, 82] } then 1000 * z10 else 0) (bif !eqBytes gl { data := #[77, 73, 82, 82, 79, 82] } then z11.tmod 4 else 0) (1000 * z12.tmod 20000) gl S' HO' := by
    have od : z11.tmod 4 ≠ 0 := fun h => by
      have : z11.tmod 2 = 0 := by
        have d1 : (4 : Int) ∣ z11 := Int.dvd_of_tmod_eq_zero h
        exact Int.tmod_eq_zero_of_dvd (by omega)
      rw [this] at ko; cases ko
    cases he : eqBytes gl { data := #[77, 73, 82, 82, 79, 82] } with
    | true => exact ⟨(by unfold inL; omega), (by unfold inK; omega), (by unfold inL; omega), (by unfold inL; omega), (by unfold inL; omega), (by unfold inL; omega), by show inL 0; unfold inL; omega, by show inL 0; unfold inL; omega, by simp only [Bool.not_true, cond_false]; omega, (by unfold inL; omega), hg, sh', .inl ⟨rfl, rfl, rfl⟩⟩
    | false =>
      have ne : gl ≠ g3 := fun h => by
        have := (eqBytes_iff gl _).2 (show gl = { data := #[77, 73, 82, 82, 79, 82] } from h)
        rw [he] at this; cases this
      exact ⟨(by unfold inL; omega), (by unfold inK; omega), (by unfold inL; omega), (by unfold inL; omega), (by unfold inL; omega), (by unfold inL; omega), by show inL (1000 * z9); unfold inL; omega, by show inL (1000 * z10); unfold inL; omega, by show -3 ≤ z11.tmod 4 ∧ z11.tmod 4 ≤ 3; omega, (by unfold inL; omega), hg, sh', .inr ⟨od, ne⟩⟩
  simp only [viN, viV, vi0, vi1, vi2, vi3, vi4, vi5, vi6, vi7, vi8, vi9, vi10, vi11, vi12, vi13, vi14, vi15, vi16, vi17, vi18, vi19, vi20, vi21, vi22, vi23, vi24, vi25, vi26, vi27, vi28, vi29, vi30, vi31, vi32, vi33, vi34, vi35, vi36, vi37, vi38, vi39, Bool.cond_self, q13, w1, w2, w3, w4, w5, w6, w7, w8, w9, w10, w11, w12, w14, w16, w17, w18, w19, w20, wm, p1, p2, p3, p4, p5, p6, p7, p8, mn_self, mx_self, eh, es, eo, eg, k4, k5, k6, k7, ko, o0, o1, o2, Bool.not_false, Bool.false_or, Bool.or_false, Bool.true_and, Bool.and_true, Bool.and_false, Bool.or_self, cond_false, and_true, true_and, true_implies, forall_const]
  repeat' first | assumption | with_reducible apply And.intro
theorem vj_ok {z0 z1 z2 z3 z4 z5 z6 z7 z8 z9 z10 z11 z12 z13 z14 z15 z16 z17 z18 z19 z20 : Int} {gl : ByteArray} {g : Nat} {n x0 x1 x2 x3 m : Int} (d : Dr z0 z1 z2 z3 z4 z5 z6 z7 z8 z9 z10 z11 z12 z13 z14 z15 z16 z17 z18 z19 z20) (p : X4 x0 x1 x2 x3) (hm : 0 ≤ m ∧ m ≤ 65535) (hg : inG gl) (eg : z13.tmod 5 = (g : Int)) (k4 : (z0.tmod (8 : Int) == 4) = false) (k5 : (z0.tmod (8 : Int) == 5) = false) (k6 : (z0.tmod (8 : Int) == 6) = false) (k7 : (z0.tmod (8 : Int) == 7) = true) (ko : (z11.tmod (2 : Int) == 0) = true) (ks : decide (100000 * z14 > 0) = false) : vjN z0 z1 z2 z3 z4 z5 z6 z7 z8 z9 z10 z11 z12 z13 z14 z15 z16 z17 z18 z19 z20 gl g n x0 x1 x2 x3 m ∧ vjV z0 z1 z2 z3 z4 z5 z6 z7 z8 z9 z10 z11 z12 z13 z14 z15 z16 z17 z18 z19 z20 gl g n x0 x1 x2 x3 m = true := by
  obtain ⟨r0, r1, r2, r3, r4, r5, r6, r7, r8, r9, r10, r11, r12, r13, r14, r15, r16, r17, r18, r19, r20⟩ := d
  obtain ⟨s0, s1, s2, s3⟩ := p
  have t3 := tm_bd z3 (k := 3000) (by decide)
  have t4 := tm_bd z4 (k := 3000) (by decide)
  have t12 := tm_bd z12 (k := 20000) (by decide)
  have t11 := tm_bd z11 (k := 4) (by decide)
  have q13 := wz (z := z13) (by omega) (by omega)
  have w1 := wk (k := 1000) (z := z1) (by decide) (by decide) (by omega) (by omega)
  have w2 := wk (k := 1000) (z := z2) (by decide) (by decide) (by omega) (by omega)
  have w3 := wk (k := 1000) (z := z3.tmod 3000) (by decide) (by decide) (by omega) (by omega)
  have w4 := wk (k := 1000) (z := z4.tmod 3000) (by decide) (by decide) (by omega) (by omega)
  have w5 := wk (k := 1000) (z := z5) (by decide) (by decide) (by omega) (by omega)
  have w6 := wk (k := 1000) (z := z6) (by decide) (by decide) (by omega) (by omega)
  have w7 := wk (k := 1000) (z := z7) (by decide) (by decide) (by omega) (by omega)
  have w8 := wk (k := 1000) (z := z8) (by decide) (by decide) (by omega) (by omega)
  have w9 := wk (k := 1000) (z := z9) (by decide) (by decide) (by omega) (by omega)
  have w10 := wk (k := 1000) (z := z10) (by decide) (by decide) (by omega) (by omega)
  have w11 := wz (z := z11.tmod 4) (by omega) (by omega)
  have w12 := wk (k := 1000) (z := z12.tmod 20000) (by decide) (by decide) (by omega) (by omega)
  have w14 := wk (k := 100000) (z := z14) (by decide) (by decide) (by omega) (by omega)
  have w16 := wk (k := 10000) (z := z16) (by decide) (by decide) (by omega) (by omega)
  have w17 := wk (k := 10000) (z := z17) (by decide) (by decide) (by omega) (by omega)
  have w18 := wk (k := 100000) (z := z18) (by decide) (by decide) (by omega) (by omega)
  have w19 := wk (k := 100000) (z := z19) (by decide) (by decide) (by omega) (by omega)
  have w20 := wk (k := 100000) (z := z20) (by decide) (by decide) (by omega) (by omega)
  have p1 := pl_mn s2 s0
  have p2 := pl_mx s2 s0
  have p3 := pl_mn s3 s1
  have p4 := pl_mx s3 s1
  have p5 := pl_mn s0 s0
  have p6 := pl_mx s0 s0
  have p7 := pl_mn s1 s1
  have p8 := pl_mx s1 s1
  have wm := wk (k := 1000) (z := m) (by decide) (by decide) (by omega) (by omega)
  obtain ⟨HO, eh, sh⟩ := hole_ex r14 z15
  obtain ⟨S', HO', es, eo, sh', h0', hh', hs'⟩ := wide_ex r14 hm sh
  have sh0 : inSH 0 0 := ⟨by decide, by decide, by decide, by decide, .inl rfl⟩
  have ia0 := ins_0 sh
  have ia1 := ins_pl sh s0 s0 s1 s1
  have ia2 := ins_pl sh s2 s0 s3 s1
  rw [mn_self, mx_self, mn_self, mx_self] at ia1
  have ib0 := ins_0 sh0
  have ib1 := ins_pl sh0 s0 s0 s1 s1
  have ib2 := ins_pl sh0 s2 s0 s3 s1
  rw [mn_self, mx_self, mn_self, mx_self] at ib1
  have ic0 := ins_0 sh'
  have ic1 := ins_pl sh' s0 s0 s1 s1
  have ic2 := ins_pl sh' s2 s0 s3 s1
  rw [mn_self, mx_self, mn_self, mx_self] at ic1
  have o0 := open_ok (L := qL 0 0 0 0) (H := qH 0 0 0 0) (show 0 ≤ 100000 * z14 by omega) h0' hh' hs'
  have o1 := open_ok (L := qL (x0 * 16777216) (x0 * 16777216) (x1 * 16777216) (x1 * 16777216)) (H := qH (x0 * 16777216) (x0 * 16777216) (x1 * 16777216) (x1 * 16777216)) (show 0 ≤ 100000 * z14 by omega) h0' hh' hs'
  have o2 := open_ok (L := qL (mnI x2 x0 * 16777216) (mxI x2 x0 * 16777216) (mnI x3 x1 * 16777216) (mxI x3 x1 * 16777216)) (H := qH (mnI x2 x0 * 16777216) (mxI x2 x0 * 16777216) (mnI x3 x1 * 16777216) (mxI x3 x1 * 16777216)) (show 0 ≤ 100000 * z14 by omega) h0' hh' hs'
  have hv : vIdl (1000 * z1) (1000 * z12.tmod 20000) (100000 * z14) HO := ⟨(by unfold inL; omega), (by unfold inL; omega), sh⟩
  have hvb : vIdl (1000 * z1) (1000 * z12.tmod 20000) 0 0 := ⟨(by unfold inL; omega), (by unfold inL; omega), sh0⟩
  have hvc : vIdl (1000 * z1) (1000 * z12.tmod 20000) S' HO' := ⟨(by unfold inL; omega), (by unfold inL; omega), sh'⟩
  rw [ks, cond_false] at es
  subst es
  simp only [ks, Bool.cond_self, cond_false] at eh
  subst eh
  simp only [vjN, vjV, vj0, vj1, vj2, vj3, vj4, vj5, vj6, vj7, vj8, vj9, vj10, vj11, vj12, vj13, vj14, vj15, vj16, vj17, vj18, vj19, vj20, vj21, vj22, vj23, Bool.cond_self, q13, w1, w2, w3, w4, w5, w6, w7, w8, w9, w10, w11, w12, w14, w16, w17, w18, w19, w20, wm, p1, p2, p3, p4, p5, p6, p7, p8, mn_self, mx_self, eo, eg, k4, k5, k6, k7, ko, ks, o0, o1, o2, Bool.not_false, Bool.false_or, Bool.or_false, Bool.true_and, Bool.and_true, Bool.and_false, Bool.or_self, cond_false, and_true, true_and, true_implies, forall_const]
  repeat' first | assumption | with_reducible apply And.intro
end Go.Rd
