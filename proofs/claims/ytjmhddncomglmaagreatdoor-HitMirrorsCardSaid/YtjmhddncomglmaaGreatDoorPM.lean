/- What is proved: a law of hits returns true, whatever the input (part 13). No conditions beyond those of the row. -/
import Derived.Test.YtjmhddncomglmaaGreatDoorPF
import Derived.Test.YtjmhddncomglmaaGreatDoorPG
import Derived.Test.YtjmhddncomglmaaGreatDoorPH
import Derived.Test.YtjmhddncomglmaaGreatDoorPL
set_option linter.unusedVariables false
set_option linter.unusedSimpArgs false
set_option linter.unusedSectionVars false
namespace Go.Proofs.YtjmhddncomglmaaGreatDoor.K
open Go Go.Eng Go.Ar Go.Rd
noncomputable section
def eV (k : Int) : AV := .tuple [.agg [.int false .i64 0, .int false .i64 0], .int false .i64 k]
theorem us_1 (s : Su) (n : Int) (ys : List Int) (a b x y : Int) : rw2 cA 119 (s.cells (.int false .i64 1)) n ys a b x y = some (.p (taF (pOk s 1 n ys true) ⟨s.c, s.k, s.a0, s.a1, s.a2, s.a3, a, b, x, y⟩), spV (sagS s.c s.k s.a0 s.a1 s.a2 s.a3 a b x y)) := by kernel_rfl
theorem us_2 (s : Su) (n : Int) (ys : List Int) (a b x y : Int) : rw2 cA 119 (s.cellsZ (.int false .i64 2)) n ys a b x y = some (.p (tbF (pOk { s with a0 := 0, a1 := 0, a2 := 0, a3 := 0 } 2 n ys true) ⟨s.c, s.k, s.l, s.m, a, b, x, y⟩), spV (sagX s.c s.k s.l s.m a b x y)) := by kernel_rfl
theorem us_3 (s : Su) (n : Int) (ys : List Int) (a b x y : Int) : rw2 cA 119 (s.cells (.int false .i64 3)) n ys a b x y = some (.p (pOk s 3 n ys true), eV 5) := by kernel_rfl
theorem us_4 (s : Su) (n : Int) (ys : List Int) (a b x y : Int) : rw2 cA 119 (s.cells (.int false .i64 4)) n ys a b x y = some (.p (pOk s 4 n ys true /\ okSp a b = true /\ okSp x y = true), eV 0) := by kernel_rfl
theorem us_1b (s : Su) (n : Int) (ys : List Int) (a b x y : Int) : rw2 (cBd 0) 119 (s.cells (.int false .i64 1)) n ys a b x y = some (.p (pOk s 1 n ys true /\ okSp a b = false), eV 20) := by kernel_rfl
theorem us_1c (s : Su) (n : Int) (ys : List Int) (a b x y : Int) : rw2 (cBd 40) 119 (s.cells (.int false .i64 1)) n ys a b x y = some (.p (pOk s 1 n ys true /\ okSp a b = true /\ okSp x y = false), eV 20) := by kernel_rfl
theorem us_2b (s : Su) (n : Int) (ys : List Int) (a b x y : Int) : rw2 (cBd 0) 119 (s.cellsZ (.int false .i64 2)) n ys a b x y = some (.p (pOk { s with a0 := 0, a1 := 0, a2 := 0, a3 := 0 } 2 n ys true /\ okSp a b = false), eV 20) := by kernel_rfl
theorem us_2c (s : Su) (n : Int) (ys : List Int) (a b x y : Int) : rw2 (cBd 40) 119 (s.cellsZ (.int false .i64 2)) n ys a b x y = some (.p (pOk { s with a0 := 0, a1 := 0, a2 := 0, a3 := 0 } 2 n ys true /\ okSp a b = true /\ okSp x y = false), eV 20) := by kernel_rfl
theorem us_4b (s : Su) (n : Int) (ys : List Int) (a b x y : Int) : rw2 (cBd 0) 119 (s.cells (.int false .i64 4)) n ys a b x y = some (.p (pOk s 4 n ys true /\ okSp a b = false), eV 20) := by kernel_rfl
theorem us_4c (s : Su) (n : Int) (ys : List Int) (a b x y : Int) : rw2 (cBd 40) 119 (s.cells (.int false .i64 4)) n ys a b x y = some (.p (pOk s 4 n ys true /\ okSp a b = true /\ okSp x y = false), eV 20) := by kernel_rfl
theorem us_0 (s : Su) (n : Int) (ys : List Int) (a b x y : Int) : rw2 cNo 119 (s.cells (.int true .i64 s.kd)) n ys a b x y = some (.p (pOk s s.kd n ys false), eV 110) := by kernel_rfl
theorem two_bad {a b x y : Int} (h : okXY a b x y = false) : okSp a b = false ∨ (okSp a b = true /\ okSp x y = false) := by
 unfold okXY at h
 cases h1 : okSp a b with
 | false => exact .inl rfl
 | true => rw [h1] at h; exact .inr ⟨rfl, h⟩
theorem eV_tell {k : Int} {S : Sp} (h : (⟨0, 0, k⟩ : Sp) = S) : tell (eV k) (spV S) := by
 subst h
 exact ⟨⟨⟨rfl, rfl⟩, ⟨rfl, rfl⟩, trivial⟩, ⟨rfl, rfl⟩, trivial⟩
theorem spV_tell {S T : Sp} (h : S = T) : tell (spV S) (spV T) := by
 subst h
 exact ⟨⟨⟨rfl, rfl⟩, ⟨rfl, rfl⟩, trivial⟩, ⟨rfl, rfl⟩, trivial⟩
def sagA' : Su -> List Int -> Int -> Int -> Int -> Int -> AV := fun s ys a b x y => spV (sagG s ys a b x y)
theorem sagG_ok : NOk Tryz.prog glob hG 119 (lSpec hG [.s suI .i64, .n sS, .n sS] (suV2 sagA')) := by
 refine su2_ok ⟨_, Tryz.func119, rfl⟩ fun s n ys a b x y hg ho => ?_
 cases hr : rightS s ys with
 | false => exact ⟨cNo, s.cells (.int true .i64 s.kd), _, _, cNo_ok, rfl, rfl, tell_kd ⟨rfl, rfl⟩, us_0 s n ys a b x y, rfl, rk rfl ho hg hr, eV_tell (by unfold sagG; rw [hr]; rfl)⟩
 | true =>
  have bad : okXY a b x y = false -> s.kd ≠ 3 -> (⟨0, 0, 20⟩ : Sp) = sagG s ys a b x y := fun h h3 => by unfold sagG; rw [hr, h, beq_eq_false_iff_ne.2 h3]; rfl
  have good : okXY a b x y = true -> s.kd ≠ 3 -> sagK s a b x y = sagG s ys a b x y := fun h h3 => by unfold sagG; rw [hr, h, beq_eq_false_iff_ne.2 h3]; rfl
  rcases right_kd hr with hk | hk | hk | hk
  .cases hx : okXY a b x y with
   | true =>
    have hh : okSp a b = true /\ okSp x y = true := by simpa [okXY] using hx
    exact ⟨cA, s.cells (.int false .i64 1), _, _, cA_ok, rfl, rfl, tell_kd ⟨rfl, hk⟩, us_1 s n ys a b x y, rfl, taF_ok (rk hk ho hg hr) (right_std hr) hh.1 hh.2, spV_tell (by rw [<- good hx (by omega)]; unfold sagK; rw [hk]; rfl)⟩
   | false =>
    rcases two_bad hx with h1 | h1
    .exact ⟨cBd 0, s.cells (.int false .i64 1), _, _, cBd_ok _, rfl, rfl, tell_kd ⟨rfl, hk⟩, us_1b s n ys a b x y, rfl, ⟨rk hk ho hg hr, h1⟩, eV_tell (bad hx (by omega))⟩
    .exact ⟨cBd 40, s.cells (.int false .i64 1), _, _, cBd_ok _, rfl, rfl, tell_kd ⟨rfl, hk⟩, us_1c s n ys a b x y, rfl, ⟨rk hk ho hg hr, h1⟩, eV_tell (bad hx (by omega))⟩
  .cases hx : okXY a b x y with
   | true =>
    have hh : okSp a b = true /\ okSp x y = true := by simpa [okXY] using hx
    exact ⟨cA, s.cellsZ (.int false .i64 2), _, _, cA_ok, rfl, rfl, tell_kz hk (right_noA hr hk), us_2 s n ys a b x y, rfl, tbF_ok (rkz hk (right_noA hr hk) ho hg hr) (right_bic hr) hh.1 hh.2, spV_tell (by rw [<- good hx (by omega)]; unfold sagK; rw [hk]; rfl)⟩
   | false =>
    rcases two_bad hx with h1 | h1
    .exact ⟨cBd 0, s.cellsZ (.int false .i64 2), _, _, cBd_ok _, rfl, rfl, tell_kz hk (right_noA hr hk), us_2b s n ys a b x y, rfl, ⟨rkz hk (right_noA hr hk) ho hg hr, h1⟩, eV_tell (bad hx (by omega))⟩
    .exact ⟨cBd 40, s.cellsZ (.int false .i64 2), _, _, cBd_ok _, rfl, rfl, tell_kz hk (right_noA hr hk), us_2c s n ys a b x y, rfl, ⟨rkz hk (right_noA hr hk) ho hg hr, h1⟩, eV_tell (bad hx (by omega))⟩
  .exact ⟨cA, s.cells (.int false .i64 3), _, _, cA_ok, rfl, rfl, tell_kd ⟨rfl, hk⟩, us_3 s n ys a b x y, rfl, rk hk ho hg hr, eV_tell (by unfold sagG; rw [hr, hk]; rfl)⟩
  .cases hx : okXY a b x y with
   | true =>
    have hh : okSp a b = true /\ okSp x y = true := by simpa [okXY] using hx
    exact ⟨cA, s.cells (.int false .i64 4), _, _, cA_ok, rfl, rfl, tell_kd ⟨rfl, hk⟩, us_4 s n ys a b x y, rfl, ⟨rk hk ho hg hr, hh.1, hh.2⟩, eV_tell (by rw [<- good hx (by omega)]; unfold sagK; rw [hk]; rfl)⟩
   | false =>
    rcases two_bad hx with h1 | h1
    .exact ⟨cBd 0, s.cells (.int false .i64 4), _, _, cBd_ok _, rfl, rfl, tell_kd ⟨rfl, hk⟩, us_4b s n ys a b x y, rfl, ⟨rk hk ho hg hr, h1⟩, eV_tell (bad hx (by omega))⟩
    .exact ⟨cBd 40, s.cells (.int false .i64 4), _, _, cBd_ok _, rfl, rfl, tell_kd ⟨rfl, hk⟩, us_4c s n ys a b x y, rfl, ⟨rk hk ho hg hr, h1⟩, eV_tell (bad hx (by omega))⟩
end
end Go.Proofs.YtjmhddncomglmaaGreatDoor.K
namespace Go.Rd
open Go Go.Eng Go.Ar
section
variable {c k l m a0 a1 a2 a3 a b d e : Int} (hc : inL c) (hk : inK k)
theorem ey_s0 : s0 c k a b (-e) (-d) = s0 c k a b d e := by
 rfl
theorem ey_s1 : s1 c k a b (-e) (-d) = s1 c k a b d e := by
 exact sqr_ng d e
theorem ey_s2 : s2 c k a b (-e) (-d) = s2 c k a b d e := by
 unfold s2
 simp only [ey_s0, ey_s1, ng_z]
theorem ey_s3 : s3 c k a b (-e) (-d) = s3 c k a b d e := by
 unfold s3
 simp only [ey_s2, ng_z]
theorem ey_s4 : s4 c k a b (-e) (-d) = s4 c k a b d e := by
 unfold s4
 simp only [ey_s3, ng_z]
theorem ey_s5 : s5 c k a b (-e) (-d) = s5 c k a b d e := by
 unfold s5
 simp only [ey_s4, ng_z]
theorem ey_s6 : s6 c k a b (-e) (-d) = s6 c k a b d e := by
 unfold s6
 simp only [ey_s5, ng_z]
theorem ey_s7 : s7 c k a b (-e) (-d) = s7 c k a b d e := by
 unfold s7
 simp only [ey_s6, ng_z]
theorem ey_s8 : s8 c k a b (-e) (-d) = s8 c k a b d e := by
 unfold s8
 simp only [ey_s3, ng_z]
theorem ey_s9 : s9 c k a b (-e) (-d) = s9 c k a b d e := by
 unfold s9
 simp only [ey_s7, ng_z]
theorem ey_s10 : s10 c k a b (-e) (-d) = s10 c k a b d e := by
 unfold s10
 simp only [ey_s8, ey_s9, ng_z]
include hc in
theorem ey_s11 : s11 c k a b (-e) (-d) = ng (s11 c k a b d e) := by
 unfold s11
 exact sc_ng (sc_c hc) d e
include hc in
theorem ey_s12 : s12 c k a b (-e) (-d) = ng (s12 c k a b d e) := by
 unfold s12
 rw [ey_s7, ey_s11 hc]
 exact div_ng _ _ _ _
theorem ey_s13 : s13 c k a b (-e) (-d) = s13 c k a b d e := by
 rfl
theorem ey_s14 : s14 c k a b (-e) (-d) = s14 c k a b d e := by
 unfold s14
 simp only [ey_s7, ey_s13, ng_z]
theorem ey_u0 : u0 c k a b (-e) (-d) = u0 c k a b d e := by
 unfold u0
 simp only [ey_s2, ng_z]
theorem ey_u1 : u1 c k a0 a1 a2 a3 a b (-e) (-d) = u1 c k a0 a1 a2 a3 a b d e := by
 unfold u1
 simp only [ey_u0, ng_z]
theorem ey_u2 : u2 c k a b (-e) (-d) = u2 c k a b d e := by
 unfold u2
 simp only [ey_u0, ng_z]
theorem ey_u3 : u3 c k a0 a1 a2 a3 a b (-e) (-d) = u3 c k a0 a1 a2 a3 a b d e := by
 unfold u3
 simp only [ey_u1, ey_u2, ng_z]
theorem ey_u4 : u4 c k a0 a1 a2 a3 a b (-e) (-d) = u4 c k a0 a1 a2 a3 a b d e := by
 unfold u4
 simp only [ey_s10, ey_u3, ng_z]
theorem ey_sagH0 : sagH0 c k a b (-e) (-d) = sagH0 c k a b d e := by
 unfold sagH0
 simp only [ey_s0, ey_s1, ey_s2, ey_s3, ey_s4, ey_s5, ng_z]
theorem ey_sagB : sagB c k a b (-e) (-d) = sagB c k a b d e := by
 unfold sagB
 simp only [ey_s6, ey_s7, ey_s8, ey_s9, ey_s10, ey_sagH0, ng_z]
theorem ey_sagD : sagD c k a b (-e) (-d) = sagD c k a b d e := by
 unfold sagD
 simp only [ey_s6, ey_sagH0, ng_z]
theorem ey_sagE : sagE c k a0 a1 a2 a3 a b (-e) (-d) = sagE c k a0 a1 a2 a3 a b d e := by
 unfold sagE
 simp only [ey_s0, ey_s1, ey_s2, ey_u0, ey_u1, ey_u2, ey_u3, ey_u4, ng_z]
theorem ey_sagC : sagC c k a0 a1 a2 a3 a b (-e) (-d) = sagC c k a0 a1 a2 a3 a b d e := by
 unfold sagC
 simp only [ey_sagB, ey_sagE, ng_z]
theorem ey_sagS : sagS c k a0 a1 a2 a3 a b (-e) (-d) = sagS c k a0 a1 a2 a3 a b d e := by
 unfold sagS
 simp only [ey_s10, ey_u4, ey_sagD, ey_sagC, ng_z]
theorem ey_q1 : q1 c k a0 a1 a2 a3 a b (-e) (-d) = q1 c k a0 a1 a2 a3 a b d e := by
 unfold q1
 simp only [ey_u0, ng_z]
theorem ey_q2 : q2 c k a0 a1 a2 a3 a b (-e) (-d) = q2 c k a0 a1 a2 a3 a b d e := by
 unfold q2
 simp only [ey_u0, ey_q1, ng_z]
theorem ey_q3 : q3 c k a0 a1 a2 a3 a b (-e) (-d) = q3 c k a0 a1 a2 a3 a b d e := by
 unfold q3
 simp only [ey_q2, ng_z]
theorem ey_q4 : q4 c k a0 a1 a2 a3 a b (-e) (-d) = q4 c k a0 a1 a2 a3 a b d e := by
 unfold q4
 simp only [ey_s14, ey_q3, ng_z]
theorem ey_q5 : q5 c k a0 a1 a2 a3 a b (-e) (-d) = ng (q5 c k a0 a1 a2 a3 a b d e) := by
 unfold q5
 rw [ey_q2]
 rw [fif_ng]
 exact mul_ng _ _ _ _
include hc in
theorem ey_q6 : q6 c k a0 a1 a2 a3 a b (-e) (-d) = ng (q6 c k a0 a1 a2 a3 a b d e) := by
 unfold q6
 rw [ey_s12 hc, ey_q5]
 exact add_ng _ _ _ _
theorem ey_slB : slB c k a b (-e) (-d) = slB c k a b d e := by
 unfold slB
 simp only [ey_s2, ey_s8, ey_s9, ey_s10, ng_z]
theorem ey_slE : slE c k a0 a1 a2 a3 a b (-e) (-d) = slE c k a0 a1 a2 a3 a b d e := by
 unfold slE
 simp only [ey_s2, ey_q1, ng_z]
include hc in
theorem ey_slA : slA c k a0 a1 a2 a3 a b (-e) (-d) = slA c k a0 a1 a2 a3 a b d e := by
 unfold slA
 simp only [ey_s12 hc, ey_s14, ey_q2, ey_q3, ey_q4, ey_q5, ey_q6 hc, ey_slB, ey_slE, ng_z]
include hc in
theorem ey_slP : slP c k a b (-e) (-d) = slP c k a b d e := by
 unfold slP
 simp only [ey_s12 hc, ey_s14, ey_slB, ng_z]
include hc in
theorem ey_slC : slC c k a0 a1 a2 a3 a b (-e) (-d) = slC c k a0 a1 a2 a3 a b d e := by
 unfold slC
 simp only [ey_slA hc, ey_slP hc, ng_z]
theorem ey_slU : slU c k a0 a1 a2 a3 a b (-e) (-d) = slU c k a0 a1 a2 a3 a b d e := by
 unfold slU
 simp only [ey_s14, ey_q4, ng_z]
include hc in
theorem ey_slV : slV c k a0 a1 a2 a3 a b (-e) (-d) = ng (slV c k a0 a1 a2 a3 a b d e) := by
 unfold slV
 rw [ey_q6 hc, ey_s12 hc]
 cases asp a0 a1 a2 a3 <;> rfl
theorem ey_b0 : b0 c k l m a b (-e) (-d) = b0 c k l m a b d e := by
 rfl
theorem ey_b1 : b1 c k l m a b (-e) (-d) = b1 c k l m a b d e := by
 unfold b1
 simp only [ey_b0, ng_z]
theorem ey_b2 : b2 c k l m a b (-e) (-d) = b2 c k l m a b d e := by
 exact sqr_ng d e
theorem ey_b3 : b3 c k l m a b (-e) (-d) = b3 c k l m a b d e := by
 unfold b3
 simp only [ey_b2, ng_z]
theorem ey_b4 : b4 c k l m a b (-e) (-d) = b4 c k l m a b d e := by
 unfold b4
 simp only [ey_b1, ng_z]
theorem ey_b5 : b5 c k l m a b (-e) (-d) = b5 c k l m a b d e := by
 unfold b5
 simp only [ey_b3, ng_z]
theorem ey_b6 : b6 c k l m a b (-e) (-d) = b6 c k l m a b d e := by
 unfold b6
 simp only [ey_b4, ng_z]
theorem ey_b7 : b7 c k l m a b (-e) (-d) = b7 c k l m a b d e := by
 unfold b7
 simp only [ey_b5, ng_z]
theorem ey_b8 : b8 c k l m a b (-e) (-d) = b8 c k l m a b d e := by
 unfold b8
 simp only [ey_b6, ey_b7, ng_z]
theorem ey_b9 : b9 c k l m a b (-e) (-d) = b9 c k l m a b d e := by
 unfold b9
 simp only [ey_b8, ng_z]
theorem ey_b10 : b10 c k l m a b (-e) (-d) = b10 c k l m a b d e := by
 unfold b10
 simp only [ey_b9, ng_z]
theorem ey_b11 : b11 c k l m a b (-e) (-d) = b11 c k l m a b d e := by
 unfold b11
 simp only [ey_b1, ey_b3, ng_z]
theorem ey_b12 : b12 c k l m a b (-e) (-d) = b12 c k l m a b d e := by
 unfold b12
 simp only [ey_b10, ng_z]
theorem ey_b13 : b13 c k l m a b (-e) (-d) = b13 c k l m a b d e := by
 unfold b13
 simp only [ey_b11, ey_b12, ng_z]
theorem ey_b14 : b14 c k l m a b (-e) (-d) = b14 c k l m a b d e := by
 rfl
theorem ey_b15 : b15 c k l m a b (-e) (-d) = b15 c k l m a b d e := by
 unfold b15
 simp only [ey_b14, ng_z]
theorem ey_b16 : b16 c k l m a b (-e) (-d) = b16 c k l m a b d e := by
 unfold b16
 simp only [ey_b15, ng_z]
theorem ey_b17 : b17 c k l m a b (-e) (-d) = b17 c k l m a b d e := by
 unfold b17
 simp only [ey_b10, ey_b16, ng_z]
include hc in
theorem ey_b18 : b18 c k l m a b (-e) (-d) = ng (b18 c k l m a b d e) := by
 unfold b18
 exact sc_ng (sc_c hc) d e
include hc in
theorem ey_b19 : b19 c k l m a b (-e) (-d) = ng (b19 c k l m a b d e) := by
 unfold b19
 rw [ey_b18 hc]
 exact sc_ng (sc_c hc) _ _
include hc hk in
theorem ey_b20 : b20 c k l m a b (-e) (-d) = ng (b20 c k l m a b d e) := by
 unfold b20
 rw [ey_b19 hc]
 exact sc_ng (sc_k hk) _ _
include hc hk in
theorem ey_b21 : b21 c k l m a b (-e) (-d) = ng (b21 c k l m a b d e) := by
 unfold b21
 rw [ey_b10, ey_b20 hc hk]
 exact div_ng _ _ _ _
include hc hk in
theorem ey_b22 : b22 c k l m a b (-e) (-d) = ng (b22 c k l m a b d e) := by
 unfold b22
 rw [ey_b13, ey_b21 hc hk]
 exact mul_ng' _ _ _ _
include hc in
theorem ey_b23 : b23 c k l m a b (-e) (-d) = ng (b23 c k l m a b d e) := by
 unfold b23
 rw [ey_b18 hc]
 exact sc_ng sc_21 _ _
include hc hk in
theorem ey_b24 : b24 c k l m a b (-e) (-d) = ng (b24 c k l m a b d e) := by
 unfold b24
 rw [ey_b22 hc hk, ey_b23 hc]
 exact add_ng _ _ _ _
include hc hk in
theorem ey_b25 : b25 c k l m a b (-e) (-d) = ng (b25 c k l m a b d e) := by
 unfold b25
 rw [ey_b12, ey_b24 hc hk]
 exact div_ng _ _ _ _
theorem ey_b26 : b26 c k l m a b (-e) (-d) = b26 c k l m a b d e := by
 unfold b26
 simp only [ey_b13, ey_b17, ng_z]
theorem ey_b27 : b27 c k l m a b (-e) (-d) = b27 c k l m a b d e := by
 unfold b27
 simp only [ey_b14, ng_z]
theorem ey_b28 : b28 c k l m a b (-e) (-d) = b28 c k l m a b d e := by
 unfold b28
 simp only [ey_b26, ey_b27, ng_z]
theorem ey_b29 : b29 c k l m a b (-e) (-d) = b29 c k l m a b d e := by
 unfold b29
 simp only [ey_b12, ey_b28, ng_z]
theorem ey_sagX0 : sagX0 c k l m a b (-e) (-d) = sagX0 c k l m a b d e := by
 unfold sagX0
 simp only [ey_b0, ey_b1, ey_b2, ey_b3, ey_b4, ey_b5, ey_b6, ey_b7, ey_b8, ng_z]
theorem ey_sagXC : sagXC c k l m a b (-e) (-d) = sagXC c k l m a b d e := by
 unfold sagXC
 simp only [ey_b9, ey_b10, ey_b11, ey_b12, ey_b13, ey_sagX0, ng_z]
theorem ey_sagXD : sagXD c k l m a b (-e) (-d) = sagXD c k l m a b d e := by
 unfold sagXD
 simp only [ey_b9, ey_sagX0, ng_z]
theorem ey_sagX : sagX c k l m a b (-e) (-d) = sagX c k l m a b d e := by
 unfold sagX
 simp only [ey_b13, ey_sagXC, ey_sagXD, ng_z]
theorem ey_slXB : slXB c k l m a b (-e) (-d) = slXB c k l m a b d e := by
 unfold slXB
 simp only [ey_b8, ey_b11, ey_b12, ey_b13, ng_z]
include hc hk in
theorem ey_slX : slX c k l m a b (-e) (-d) = slX c k l m a b d e := by
 unfold slX
 simp only [ey_b12, ey_b17, ey_b21 hc hk, ey_b22 hc hk, ey_b24 hc hk, ey_b25 hc hk, ey_b26, ey_b28, ey_b29, ey_slXB, ng_z]
end
end Go.Rd
namespace Go.Ar
open Go Go.Eng
def rR (a b : Int) : Bool := bif rRt a then (bif rRt b then decide (a <= b) else false) else false
def ifmn (x y : Int) : Int := if y < x then y else x
def ifmx (x y : Int) : Int := if y > x then y else x
def rScL (a b n d : Int) : Int := ifmn (scaleV a n d false) (scaleV b n d false)
def rScH (a b n d : Int) : Int := ifmx (scaleV a n d true) (scaleV b n d true)
def rScBad (a b n d : Int) : Bool := bif !(scaleE b n d true == 0) then true else !rR (rScL a b n d) (rScH a b n d)
def rSc3 (a b n d x y : Int) : Int := bif scaleE a n d false == 0 then bif scaleE b n d false == 0 then bif scaleE a n d true == 0 then bif rScBad a b n d then y else x else y else y else y
def rScaleS (a b n d : Int) : Sp := ⟨bif !rR a b then 0 else bif scaleE a n d false == 2 then 0 else rSc3 a b n d (rScL a b n d) 0, bif !rR a b then 0 else bif scaleE a n d false == 2 then 0 else rSc3 a b n d (rScH a b n d) 0,
 bif !rR a b then 20 else bif scaleE a n d false == 2 then 2 else rSc3 a b n d 0 6⟩
theorem rR_eq (a b : Int) : rR a b = okSp a b := by
 unfold rR
 rw [rRt_eq, rRt_eq]
 unfold okF okSp
 by_cases h1 : -4503599627370496 <= a <;> by_cases h2 : a <= b <;> by_cases h3 : b <= 4503599627370496 <;> simp [h1, h2, h3] <;> omega
theorem rR_told {l h : Int} (k : l <= h) : rR l h = (okF l && okF h) := by
 rw [rR_eq]
 unfold okF okSp
 rw [Bool.eq_iff_iff]
 simp
 omega
theorem ifmn_eq (x y : Int) : ifmn x y = mn x y := by
 unfold ifmn mn; by_cases h : y < x <;> simp [h]
theorem ifmx_eq (x y : Int) : ifmx x y = mx x y := by
 unfold ifmx mx; by_cases h : x < y <;> simp [h]
theorem fitV_ok {v : Int} (h : okF v = true) : fitV v = v := by unfold fitV; rw [h]; rfl
end Go.Ar
namespace Go.Ar
open Go
def xNegS (a b : Int) : Sp := xTold (xCS a b) (IntKind.i64.wrap (0 - b)) (IntKind.i64.wrap (0 - a))
theorem xNegS_eq (a b : Int) : xNegS a b = negS a b := by
 unfold xNegS negS xTold
 rw [xCS_eq]
 cases h : okSp a b with
 | false => simp [err]
 | true =>
  have := okSp_iff.1 h
  rw [i64w (by omega) (by omega), i64w (by omega) (by omega)]
  have hb : xTb (0 - b) (0 - a) = false := by
   unfold xTb
   rw [decide_eq_false (show ¬ (0 - b < -4503599627370496) by omega), decide_eq_false (show ¬ (0 - a > 4503599627370496) by omega)]
   rfl
  rw [hb]
  simp
end Go.Ar
namespace Go.Vc
open Go Go.Eng Go.Ar
structure VF where
 ad : Int -> Int -> Int -> Int -> Sp
 su : Int -> Int -> Int -> Int -> Sp
 mu : Int -> Int -> Int -> Int -> Sp
 di : Int -> Int -> Int -> Int -> Sp
 sc : Int -> Int -> Int -> Int -> Sp
 sq : Int -> Int -> Sp
 rt : Int -> Int -> Sp
 ng : Int -> Int -> Sp
 ck : Int -> Int -> Int
 ok : Int -> Int -> Bool
noncomputable def vf0 : VF := ⟨addS, subS, mulS, divS, scaleS, sqrS, sqrtS, negS, chkS, okSp⟩
structure Ve where
 a : Int
 b : Int
 c : Int
 d : Int
 e : Int
 f : Int
def Ve.cells (v : Ve) : List AV := [.int true .i64 v.a, .int true .i64 v.b, .int true .i64 v.c, .int true .i64 v.d, .int true .i64 v.e, .int true .i64 v.f]
section
variable (F : VF) (v : Ve)
def nA : Sp := F.ad (F.sq v.a v.b).lo (F.sq v.a v.b).hi (F.sq v.c v.d).lo (F.sq v.c v.d).hi
def nB : Sp := F.ad (nA F v).lo (nA F v).hi (F.sq v.e v.f).lo (F.sq v.e v.f).hi
def nR : Sp := F.rt (nB F v).lo (nB F v).hi
def nD1 : Sp := F.di v.a v.b (nR F v).lo (nR F v).hi
def nD2 : Sp := F.di v.c v.d (nR F v).lo (nR F v).hi
def nD3 : Sp := F.di v.e v.f (nR F v).lo (nR F v).hi
def fe (x y : Int) : Int := bif x == 0 then y else x
def uZ : Bool := !(v.a == 0 && (v.b == 0 && (v.c == 0 && (v.d == 0 && (v.e == 0 && (v.f == 0 && true))))))
def vCk : Int := fe (fe (F.ck v.a v.b) (F.ck v.c v.d)) (F.ck v.e v.f)
def vC0 : Int := bif uZ v then vCk F v else 0
def uE : Int := fe (fe (fe (fe (fe (fe (fe (fe (fe (vC0 F v) (F.sq v.a v.b).e) (F.sq v.c v.d).e) (F.sq v.e v.f).e) (nA F v).e) (nB F v).e) (nR F v).e) (nD1 F v).e) (nD2 F v).e) (nD3 F v).e
def uI (x : Int) : Int := bif uE F v != 0 then 0 else x
def uV : Ve := ⟨uI F v (nD1 F v).lo, uI F v (nD1 F v).hi, uI F v (nD2 F v).lo, uI F v (nD2 F v).hi, uI F v (nD3 F v).lo, uI F v (nD3 F v).hi⟩
def uO : Int := bif uE F v != 0 then uE F v else 0
def f3 (a b c : Int) : Int := bif a != 0 || !(a != 0) && (b != 0 || !(b != 0) && c != 0) then bif a != 0 then a else bif b != 0 then b else c else 0
def wOk : Bool := !bif F.ok v.a v.b then bif F.ok v.c v.d then F.ok v.e v.f else false else false
def w5 : Int := f3 (F.sq v.a v.b).e (F.sq v.c v.d).e (F.sq v.e v.f).e
end
structure VF.law (F : VF) : Prop where
 ck : ∀ a b, F.ck a b = bif F.ok a b then 0 else 20
 z : F.ok 0 0 = true
theorem vf0_law : vf0.law := ⟨fun _ _ => rfl, by decide⟩
theorem vC0_eq {F : VF} (h : F.law) (v : Ve) : vC0 F v = bif wOk F v then 20 else 0 := by
 unfold vC0 vCk wOk fe
 simp only [h.ck]
 cases hz : uZ v with
 | true => cases F.ok v.a v.b <;> cases F.ok v.c v.d <;> cases F.ok v.e v.f <;> rfl
 | false =>
  unfold uZ at hz
  simp only [Bool.and_true, Bool.not_eq_false', Bool.and_eq_true, beq_iff_eq] at hz
  obtain ⟨h1, h2, h3, h4, h5, h6⟩ := hz
  rw [h1, h2, h3, h4, h5, h6, h.z]
  rfl
end Go.Vc
namespace Go.Vc
open Go Go.Eng Go.Ar Go.Rd
structure NF where
 ck : Su -> List Int -> Int
 rt : Su -> List Int -> Bool
 vc : Ve -> Int
 sl : Su -> List Int -> Int -> Int -> Int -> Int -> Nat -> Int
 uV : Ve -> Ve
 uO : Ve -> Int
 ng : Int -> Int -> Sp
 sk : Int -> Int -> Int
section
variable (F : NF) (s : Su) (n : Int) (ys : List Int) (v : Ve)
def nG (i : Nat) : Int := F.sl s ys v.a v.b v.c v.d i
def nX1 : Sp := F.ng (nG F s ys v 0) (nG F s ys v 1)
def nX2 : Sp := F.ng (nG F s ys v 2) (nG F s ys v 3)
def nW : Ve := ⟨(nX1 F s ys v).lo, (nX1 F s ys v).hi, (nX2 F s ys v).lo, (nX2 F s ys v).hi, 4294967296, 4294967296⟩
def nU : Int := F.uO (nW F s ys v)
def q2 : Bool := !bif F.sk v.a v.b != 0 || !(F.sk v.a v.b != 0) && (F.sk v.c v.d != 0 || !(F.sk v.c v.d != 0) && F.sk v.e v.f != 0) then false else true
end
structure NF.law (F : NF) : Prop where
 ck : ∀ s ys, F.ck s ys = bif F.rt s ys then 0 else 110
 vc : ∀ v, F.vc v = bif q2 F v then 20 else 0
end Go.Vc
namespace Go.Rd
open Go Go.Eng Go.Ar Go.Vc
theorem okXY_mx (a b x y : Int) : okXY (-b) (-a) x y = okXY a b x y := by unfold okXY; rw [okSp_ng]
theorem okXY_my (a b x y : Int) : okXY a b (-y) (-x) = okXY a b x y := by unfold okXY; rw [okSp_ng]
theorem sagG_mx (s : Su) (ys : List Int) (a b x y : Int) : sagG s ys (-b) (-a) x y = sagG s ys a b x y := by
 unfold sagG sagK
 rw [okXY_mx, ev_sagS, ev_sagX]
theorem sagG_my (s : Su) (ys : List Int) (a b x y : Int) : sagG s ys a b (-y) (-x) = sagG s ys a b x y := by
 unfold sagG sagK
 rw [okXY_my, ey_sagS, ey_sagX]
section
variable {s : Su} {ys : List Int} (h : rightS s ys = true) (a b x y : Int)
include h
theorem slpC_mx : slpC s (-b) (-a) x y = slpC s a b x y := by
 have h1 := right_std h
 have h2 := right_bic h
 unfold slpC
 rw [ev_slC h1.hc, ev_slX h2.hl h2.hm]
theorem slpC_my : slpC s a b (-y) (-x) = slpC s a b x y := by
 have h1 := right_std h
 have h2 := right_bic h
 unfold slpC
 rw [ey_slC h1.hc, ey_slX h1.hc h1.hk]
theorem slpU_mx : slpU s (-b) (-a) x y = ng (slpU s a b x y) := by
 have h1 := right_std h
 have h2 := right_bic h
 unfold slpU
 rw [ev_slU h1.hc, ev_b29 h2.hl h2.hm]
 cases s.kd == 1 <;> cases s.kd == 2 <;> rfl
theorem slpU_my : slpU s a b (-y) (-x) = slpU s a b x y := by
 have h1 := right_std h
 unfold slpU
 rw [ey_slU, ey_b29]
theorem slpZ_mx : slpZ s (-b) (-a) x y = slpZ s a b x y := by
 unfold slpZ
 rw [ev_slV, ev_b25]
theorem slpZ_my : slpZ s a b (-y) (-x) = ng (slpZ s a b x y) := by
 have h1 := right_std h
 unfold slpZ
 rw [ey_slV h1.hc, ey_b25 h1.hc h1.hk]
 cases s.kd == 1 <;> cases s.kd == 2 <;> rfl
end
end Go.Rd
namespace Go.Ht
open Go Go.Eng Go.Ar Go.Rd Go.Vc
structure Iv where
 lo : Int
 hi : Int
structure HF where
 ng : Int -> Int -> Sp
 ad : Int -> Int -> Int -> Int -> Sp
 su : Int -> Int -> Int -> Int -> Sp
 mu : Int -> Int -> Int -> Int -> Sp
 di : Int -> Int -> Int -> Int -> Sp
 sc : Int -> Int -> Int -> Int -> Sp
 sq : Int -> Int -> Sp
 rt : Int -> Int -> Sp
 md : Int -> Int -> Sp
 mt : Int -> Int -> Int -> Int -> Sp
 sg : Su -> List Int -> Int -> Int -> Int -> Int -> Sp
 sl : Su -> List Int -> Int -> Int -> Int -> Int -> Nat -> Int
 ck : Su -> List Int -> Int
 vc : Ve -> Int
def why (e : Int) : Int := bif e == 6 then 5 else 2
def op (s : Sp) : Except Int Iv := bif s.e == 0 then .ok ⟨s.lo, s.hi⟩ else .error (why s.e)
section
variable (F : HF) (S : Su) (ys : List Int) (p w : Ve)
def add (x y : Iv) : Except Int Iv := op (F.ad x.lo x.hi y.lo y.hi)
def sub (x y : Iv) : Except Int Iv := op (F.su x.lo x.hi y.lo y.hi)
def mul (x y : Iv) : Except Int Iv := op (F.mu x.lo x.hi y.lo y.hi)
def div (x y : Iv) : Except Int Iv := op (F.di x.lo x.hi y.lo y.hi)
def sqr (x : Iv) : Except Int Iv := op (F.sq x.lo x.hi)
def scl (x : Iv) (n d : Int) : Except Int Iv := op (F.sc x.lo x.hi n d)
def kW (k : Int) : Int := IntKind.i64.wrap (1000000 + k)
def one : Iv := ⟨4294967296, 4294967296⟩
def pos (x : Iv) (k : Int) : Except Int Unit := bif decide (x.hi < k) then .error 1 else bif decide (x.lo < k) then .error 2 else .ok ()
def toP (t : Iv) : Except Int Ve := do
 let a <- mul F t ⟨w.a, w.b⟩
 let b <- add F ⟨p.a, p.b⟩ a
 let c <- mul F t ⟨w.c, w.d⟩
 let d <- add F ⟨p.c, p.d⟩ c
 let e <- mul F t ⟨w.e, w.f⟩
 return ⟨b.lo, b.hi, d.lo, d.hi, e.lo, e.hi⟩
def conicP (c k : Int) : Except Int Iv := do
 let x2 <- sqr F ⟨p.a, p.b⟩
 let y2 <- sqr F ⟨p.c, p.d⟩
 let rr <- add F x2 y2
 let f <- scl F rr c 1000000000
 let lx <- mul F ⟨w.a, w.b⟩ ⟨p.a, p.b⟩
 let my <- mul F ⟨w.c, w.d⟩ ⟨p.c, p.d⟩
 let lm <- add F lx my
 let cl <- scl F lm c 1000000000
 let g <- sub F ⟨w.e, w.f⟩ cl
 let l2 <- sqr F ⟨w.a, w.b⟩
 let m2 <- sqr F ⟨w.c, w.d⟩
 let s2 <- add F l2 m2
 let n2 <- sqr F ⟨w.e, w.f⟩
 let kn <- scl F n2 (kW k) 1000000
 let a <- add F s2 kn
 let g2 <- sqr F g
 let fc <- scl F f c 1000000000
 let fa <- mul F fc a
 let h <- sub F g2 fa
 pos h 0
 let r <- op (F.rt h.lo h.hi)
 let r <- bif decide (w.f < 0) then op (F.ng r.lo r.hi) else .ok r
 let d <- add F g r
 let t <- div F f d
 let z <- mul F t ⟨w.e, w.f⟩
 let kz <- scl F z (kW k) 1000000
 let cz <- scl F kz c 1000000000
 let q <- sub F one cz
 pos q 1
 return t
def near (t : Iv) : Except Int Iv := do
 let m <- op (F.md t.lo t.hi)
 let u : Iv := ⟨m.lo, m.lo⟩
 let a <- toP F p w u
 let b <- toP F p w t
 let z <- op (F.sg S ys a.a a.b a.c a.d)
 let e <- sub F ⟨a.e, a.f⟩ z
 let v := F.sl S ys b.a b.b b.c b.d
 bif v 4 == 0 then do
  let x <- mul F ⟨v 0, v 1⟩ ⟨w.a, w.b⟩
  let d1 <- sub F ⟨w.e, w.f⟩ x
  let y <- mul F ⟨v 2, v 3⟩ ⟨w.c, w.d⟩
  let d <- sub F d1 y
  let q <- div F e d
  sub F u q
 else .error 2
def roundP (t : Iv) (b : Bool) : Option (Iv × Bool) := match near F S ys p w t with
 | .error _ => none
 | .ok v => bif (F.mt v.lo v.hi t.lo t.hi).e == 0 then some (⟨(F.mt v.lo v.hi t.lo t.hi).lo, (F.mt v.lo v.hi t.lo t.hi).hi⟩, b || (decide (v.lo > t.lo) && decide (v.hi < t.hi))) else none
def roundsP : Nat -> Iv -> Bool -> Option (Iv × Bool)
 | 0, t, b => some (t, b)
 | n + 1, t, b => match roundP F S ys p w t b with
  | none => none
  | some (u, c) => roundsP n u c
def wide (b : Iv) (n : Int) : Option Iv := bif (F.ad b.lo b.hi (-n) n).e == 0 then (match roundsP F S ys p w 8 ⟨(F.ad b.lo b.hi (-n) n).lo, (F.ad b.lo b.hi (-n) n).hi⟩ false with
  | some (t, true) => some t
  | _ => none) else none
def widths (b : Iv) : List Int -> Except Int Iv
 | [] => .error 2
 | n :: l => match wide F S ys p w b n with
  | some t => .ok t
  | none => widths b l
def curvedP (c k : Int) : Except Int Iv := match conicP F p w c k with
 | .error x => .error (bif x == 5 then 5 else 2)
 | .ok b => widths F S ys p w b [1048576, 67108864, 2147483648, 34359738368]
def flat : Bool := S.a0 == 0 && (S.a1 == 0 && (S.a2 == 0 && S.a3 == 0))
def wayP : Except Int Iv := bif S.kd == 1 then (bif flat S then conicP F p w S.c S.k else curvedP F S ys p w S.c S.k)
 else bif S.kd == 2 then curvedP F S ys p w ((S.c + S.l) / 2) 0 else .ok ⟨0, 0⟩
def planeP : Except Int (Ve × Iv) := do
 let m <- op (F.ng p.e p.f)
 let t <- div F m ⟨w.e, w.f⟩
 let a <- mul F t ⟨w.a, w.b⟩
 let b <- add F ⟨p.a, p.b⟩ a
 let c <- mul F t ⟨w.c, w.d⟩
 let d <- add F ⟨p.c, p.d⟩ c
 return (⟨b.lo, b.hi, d.lo, d.hi, 0, 0⟩, t)
def hitP : Except Int (Ve × Iv) := do
 let (q, a) <- planeP F p w
 let t <- wayP F S ys q w
 bif S.kd == 1 || S.kd == 2 then do
  let at' <- toP F q w t
  let b <- add F a t
  return (at', b)
 else return (q, a)
end
end Go.Ht
namespace Go.Ht
open Go Go.Eng Go.Ar Go.Rd Go.Vc
def Iv.ng (x : Iv) : Iv := ⟨-x.hi, -x.lo⟩
def fx (v : Ve) : Ve := ⟨-v.b, -v.a, v.c, v.d, v.e, v.f⟩
def fy (v : Ve) : Ve := ⟨v.a, v.b, -v.d, -v.c, v.e, v.f⟩
structure HF.odd (F : HF) : Prop where
 ad : ∀ a b c d, F.ad (-b) (-a) (-d) (-c) = Rd.ng (F.ad a b c d)
 mu : ∀ a b c d, F.mu (-b) (-a) c d = Rd.ng (F.mu a b c d)
 mu' : ∀ a b c d, F.mu a b (-d) (-c) = Rd.ng (F.mu a b c d)
 sq : ∀ a b, F.sq (-b) (-a) = F.sq a b
 gx : ∀ S ys a b c d, F.sg S ys (-b) (-a) c d = F.sg S ys a b c d
 gy : ∀ S ys a b c d, F.sg S ys a b (-d) (-c) = F.sg S ys a b c d
structure HF.oddS (F : HF) (S : Su) (ys : List Int) : Prop where
 x4 : ∀ a b c d, F.sl S ys (-b) (-a) c d 4 = F.sl S ys a b c d 4
 x0 : ∀ a b c d, F.sl S ys (-b) (-a) c d 0 = -F.sl S ys a b c d 1
 x1 : ∀ a b c d, F.sl S ys (-b) (-a) c d 1 = -F.sl S ys a b c d 0
 x2 : ∀ a b c d, F.sl S ys (-b) (-a) c d 2 = F.sl S ys a b c d 2
 x3 : ∀ a b c d, F.sl S ys (-b) (-a) c d 3 = F.sl S ys a b c d 3
 y4 : ∀ a b c d, F.sl S ys a b (-d) (-c) 4 = F.sl S ys a b c d 4
 y0 : ∀ a b c d, F.sl S ys a b (-d) (-c) 0 = F.sl S ys a b c d 0
 y1 : ∀ a b c d, F.sl S ys a b (-d) (-c) 1 = F.sl S ys a b c d 1
 y2 : ∀ a b c d, F.sl S ys a b (-d) (-c) 2 = -F.sl S ys a b c d 3
 y3 : ∀ a b c d, F.sl S ys a b (-d) (-c) 3 = -F.sl S ys a b c d 2
theorem op_ng (s : Sp) : op (Rd.ng s) = (op s).map Iv.ng := by
 unfold op Rd.ng Iv.ng
 show (bif s.e == 0 then _ else _) = _
 cases s.e == 0 <;> rfl
theorem map_bind {α β γ : Type} (x : Except Int α) (f : α -> β) (k : β -> Except Int γ) : (x.map f >>= k) = (x >>= fun a => k (f a)) := by cases x <;> rfl
theorem bind_map {α β γ : Type} (x : Except Int α) (k : α -> Except Int β) (f : β -> γ) : (x >>= k).map f = (x >>= fun a => (k a).map f) := by cases x <;> rfl
section
variable {F : HF} (o : F.odd)
include o
theorem add_ng (x y : Iv) : add F x.ng y.ng = (add F x y).map Iv.ng := by
 unfold add Iv.ng
 show op (F.ad (-x.hi) (-x.lo) (-y.hi) (-y.lo)) = _
 rw [o.ad, op_ng]
 rfl
theorem mul_ng (x y : Iv) : mul F x.ng y = (mul F x y).map Iv.ng := by
 unfold mul
 show op (F.mu (-x.hi) (-x.lo) y.lo y.hi) = _
 rw [o.mu, op_ng]
theorem mul_ng' (x y : Iv) : mul F x y.ng = (mul F x y).map Iv.ng := by
 unfold mul
 show op (F.mu x.lo x.hi (-y.hi) (-y.lo)) = _
 rw [o.mu', op_ng]
theorem mul_ngng (x y : Iv) : mul F x.ng y.ng = mul F x y := by
 unfold mul
 show op (F.mu (-x.hi) (-x.lo) (-y.hi) (-y.lo)) = _
 rw [o.mu, o.mu', op_ng, op_ng]
 cases op (F.mu x.lo x.hi y.lo y.hi) with
 | error e => rfl
 | ok v =>
  show Except.ok (⟨- -v.lo, - -v.hi⟩ : Iv) = _
  simp
theorem sqr_ng (x : Iv) : sqr F x.ng = sqr F x := by
 unfold sqr
 show op (F.sq (-x.hi) (-x.lo)) = _
 rw [o.sq]
end
section
variable {F : HF} (o : F.odd) (S : Su) (ys : List Int) (p w : Ve)
include o
theorem toP_mx (t : Iv) : toP F (fx p) (fx w) t = (toP F p w t).map fx := by
 unfold toP fx
 rw [show (⟨-w.b, -w.a⟩ : Iv) = Iv.ng ⟨w.a, w.b⟩ from rfl, show (⟨-p.b, -p.a⟩ : Iv) = Iv.ng ⟨p.a, p.b⟩ from rfl, mul_ng' o, map_bind]
 simp only [add_ng o, map_bind, bind_map]
 rfl
theorem toP_my (t : Iv) : toP F (fy p) (fy w) t = (toP F p w t).map fy := by
 unfold toP fy
 rw [show (⟨-w.d, -w.c⟩ : Iv) = Iv.ng ⟨w.c, w.d⟩ from rfl, show (⟨-p.d, -p.c⟩ : Iv) = Iv.ng ⟨p.c, p.d⟩ from rfl]
 simp only [mul_ng' o, add_ng o, map_bind, bind_map]
 rfl
theorem conic_mx (c k : Int) : conicP F (fx p) (fx w) c k = conicP F p w c k := by
 unfold conicP fx
 rw [show (⟨-w.b, -w.a⟩ : Iv) = Iv.ng ⟨w.a, w.b⟩ from rfl, show (⟨-p.b, -p.a⟩ : Iv) = Iv.ng ⟨p.a, p.b⟩ from rfl]
 simp only [sqr_ng o, mul_ngng o]
theorem conic_my (c k : Int) : conicP F (fy p) (fy w) c k = conicP F p w c k := by
 unfold conicP fy
 rw [show (⟨-w.d, -w.c⟩ : Iv) = Iv.ng ⟨w.c, w.d⟩ from rfl, show (⟨-p.d, -p.c⟩ : Iv) = Iv.ng ⟨p.c, p.d⟩ from rfl]
 simp only [sqr_ng o, mul_ngng o]
theorem plane_mx : planeP F (fx p) (fx w) = (planeP F p w).map fun v => (fx v.1, v.2) := by
 unfold planeP fx
 rw [show (⟨-w.b, -w.a⟩ : Iv) = Iv.ng ⟨w.a, w.b⟩ from rfl, show (⟨-p.b, -p.a⟩ : Iv) = Iv.ng ⟨p.a, p.b⟩ from rfl]
 simp only [mul_ng' o, add_ng o, map_bind, bind_map]
 rfl
theorem plane_my : planeP F (fy p) (fy w) = (planeP F p w).map fun v => (fy v.1, v.2) := by
 unfold planeP fy
 rw [show (⟨-w.d, -w.c⟩ : Iv) = Iv.ng ⟨w.c, w.d⟩ from rfl, show (⟨-p.d, -p.c⟩ : Iv) = Iv.ng ⟨p.c, p.d⟩ from rfl]
 simp only [mul_ng' o, add_ng o, map_bind, bind_map]
 rfl
variable {S ys} (q : F.oddS S ys)
include q
theorem near_mx (t : Iv) : near F S ys (fx p) (fx w) t = near F S ys p w t := by
 unfold near
 simp only [toP_mx o, map_bind]
 have h0 (b : Ve) (x : Iv) : (⟨-(F.sl S ys b.a b.b b.c b.d 1), -(F.sl S ys b.a b.b b.c b.d 0)⟩ : Iv) = Iv.ng ⟨F.sl S ys b.a b.b b.c b.d 0, F.sl S ys b.a b.b b.c b.d 1⟩ := rfl
 unfold fx
 simp only [o.gx, q.x4, q.x0, q.x1, q.x2, q.x3]
 have e (b : Ve) : mul F ⟨-(F.sl S ys b.a b.b b.c b.d 1), -(F.sl S ys b.a b.b b.c b.d 0)⟩ ⟨-w.b, -w.a⟩ = mul F ⟨F.sl S ys b.a b.b b.c b.d 0, F.sl S ys b.a b.b b.c b.d 1⟩ ⟨w.a, w.b⟩ := mul_ngng o ⟨F.sl S ys b.a b.b b.c b.d 0, F.sl S ys b.a b.b b.c b.d 1⟩ ⟨w.a, w.b⟩
 simp only [e]
theorem near_my (t : Iv) : near F S ys (fy p) (fy w) t = near F S ys p w t := by
 unfold near
 simp only [toP_my o, map_bind]
 unfold fy
 simp only [o.gy, q.y4, q.y0, q.y1, q.y2, q.y3]
 have e (b : Ve) : mul F ⟨-(F.sl S ys b.a b.b b.c b.d 3), -(F.sl S ys b.a b.b b.c b.d 2)⟩ ⟨-w.d, -w.c⟩ = mul F ⟨F.sl S ys b.a b.b b.c b.d 2, F.sl S ys b.a b.b b.c b.d 3⟩ ⟨w.c, w.d⟩ := mul_ngng o ⟨F.sl S ys b.a b.b b.c b.d 2, F.sl S ys b.a b.b b.c b.d 3⟩ ⟨w.c, w.d⟩
 simp only [e]
theorem rounds_mx : ∀ (n : Nat) (t : Iv) (b : Bool), roundsP F S ys (fx p) (fx w) n t b = roundsP F S ys p w n t b
 | 0, _, _ => rfl
 | n + 1, t, b => by
  unfold roundsP roundP
  rw [near_mx o p w q]
  simp only [rounds_mx n]
theorem rounds_my : ∀ (n : Nat) (t : Iv) (b : Bool), roundsP F S ys (fy p) (fy w) n t b = roundsP F S ys p w n t b
 | 0, _, _ => rfl
 | n + 1, t, b => by
  unfold roundsP roundP
  rw [near_my o p w q]
  simp only [rounds_my n]
theorem widths_mx (b : Iv) : ∀ (l : List Int), widths F S ys (fx p) (fx w) b l = widths F S ys p w b l
 | [] => rfl
 | n :: l => by
  unfold widths wide
  simp only [rounds_mx o p w q, widths_mx b l]
theorem widths_my (b : Iv) : ∀ (l : List Int), widths F S ys (fy p) (fy w) b l = widths F S ys p w b l
 | [] => rfl
 | n :: l => by
  unfold widths wide
  simp only [rounds_my o p w q, widths_my b l]
theorem way_mx : wayP F S ys (fx p) (fx w) = wayP F S ys p w := by
 unfold wayP curvedP
 simp only [conic_mx o, widths_mx o p w q]
theorem way_my : wayP F S ys (fy p) (fy w) = wayP F S ys p w := by
 unfold wayP curvedP
 simp only [conic_my o, widths_my o p w q]
theorem hit_mx : hitP F S ys (fx p) (fx w) = (hitP F S ys p w).map fun v => (fx v.1, v.2) := by
 unfold hitP
 rw [plane_mx o, map_bind]
 simp only [way_mx o _ w q, toP_mx o, map_bind, bind_map]
 cases S.kd == 1 || S.kd == 2 <;> simp only [cond_true, cond_false, map_bind, bind_map] <;> rfl
theorem hit_my : hitP F S ys (fy p) (fy w) = (hitP F S ys p w).map fun v => (fy v.1, v.2) := by
 unfold hitP
 rw [plane_my o, map_bind]
 simp only [way_my o _ w q, toP_my o, map_bind, bind_map]
 cases S.kd == 1 || S.kd == 2 <;> simp only [cond_true, cond_false, map_bind, bind_map] <;> rfl
end
end Go.Ht
namespace Go.Vc
open Go Go.Eng Go.Ar
section
variable (F : VF) (v w : Ve) (X Y Z : Sp)
def z3 {β : Type} (f : Int -> Int -> Int -> Int -> Sp) (w : Ve) (x : Sp -> Sp -> Sp -> β) : β := x (f v.a v.b w.a w.b) (f v.c v.d w.c w.d) (f v.e v.f w.e w.f)
end
structure VF.law2 (F : VF) : Prop extends F.law where
 ad : ∀ a b c d, ((F.ad a b c d).e == 0) = false -> (F.ad a b c d).lo = 0 /\ (F.ad a b c d).hi = 0
 ng : ∀ a b, (F.ng a b).e = bif F.ok a b then 0 else 20
end Go.Vc
namespace Go.Vc
open Go Go.Eng Go.Ar Go.Rd
structure BF where
 vc : Ve -> Int
 sk : Int -> Int -> Int
 sl : Su -> List Int -> Int -> Int -> Int -> Int -> Nat -> Int
 uV : Ve -> Ve
 uO : Ve -> Int
 ng : Int -> Int -> Sp
 ad : Int -> Int -> Int -> Int -> Sp
 su : Int -> Int -> Int -> Int -> Sp
 mu : Int -> Int -> Int -> Int -> Sp
 di : Int -> Int -> Int -> Int -> Sp
 sc : Int -> Int -> Int -> Int -> Sp
 sq : Int -> Int -> Sp
 rt : Int -> Int -> Sp
 dt : Ve -> Ve -> Sp
 bV : Ve -> Ve -> Ve
 bO : Ve -> Ve -> Int
 aV : Ve -> Ve -> Ve
 aO : Ve -> Ve -> Int
 mV : Ve -> Int -> Int -> Ve
 mO : Ve -> Int -> Int -> Int
 nV : Ve -> Ve
 nO : Ve -> Int
end Go.Vc
namespace Go.Vc
open Go Go.Eng Go.Ar Go.Rd
structure BX where
 F : BF
 S : Su
 ys : List Int
 a : Int
 b : Int
 l : Int
 v : Ve
 w : Ve
namespace BX
variable (X : BX)
def sl (i : Nat) : Int := X.F.sl X.S X.ys X.v.a X.v.b X.v.c X.v.d i
def n1 : Sp := X.F.ng (X.sl 0) (X.sl 1)
def n2 : Sp := X.F.ng (X.sl 2) (X.sl 3)
def nw : Ve := ⟨X.n1.lo, X.n1.hi, X.n2.lo, X.n2.hi, 4294967296, 4294967296⟩
def u : Ve := X.F.uV X.nw
def uo : Int := X.F.uO X.nw
def k : Sp := X.F.dt X.w X.u
def und : Bool := bif decide (X.k.lo <= 0) then decide (X.k.hi >= 0) else false
def mir : Bool := eqBytes X.S.g ⟨#[77, 73, 82, 82, 79, 82]⟩
def s1 : Sp := X.F.sc X.w.a X.w.b X.a X.b
def s2 : Sp := X.F.sc X.w.c X.w.d X.a X.b
def s3 : Sp := X.F.sc X.w.e X.w.f X.a X.b
def o0 : Bool := X.S.o == 0
def q1 : Sp := X.F.sq X.v.a X.v.b
def q2 : Sp := X.F.sq X.v.c X.v.d
def q3 : Sp := X.F.ad X.q1.lo X.q1.hi X.q2.lo X.q2.hi
def w1 : Sp := X.F.sc 4294967296 4294967296 (IntKind.i64.wrap (2 * X.S.f0)) 100000
def w2 : Sp := X.F.sc X.q3.lo X.q3.hi (IntKind.i64.wrap (4 * X.S.f1)) 10000000
def w3 : Sp := X.F.ad X.w1.lo X.w1.hi X.w2.lo X.w2.hi
def w4 : Sp := X.F.sc X.w3.lo X.w3.hi (IntKind.i64.wrap (X.S.o * X.l)) 1000000000
def w5 : Sp := X.F.sc X.w4.lo X.w4.hi 10000000 X.b
def t : Ve := ⟨bif !X.mir then X.s1.lo else X.w.a, bif !X.mir then X.s1.hi else X.w.b, bif !X.mir then X.s2.lo else X.w.c, bif !X.mir then X.s2.hi else X.w.d, bif !X.mir then X.s3.lo else X.w.e, bif !X.mir then X.s3.hi else X.w.f⟩
def m1 : Sp := X.F.mu X.v.a X.v.b X.w5.lo X.w5.hi
def m2 : Sp := X.F.ad X.t.a X.t.b X.m1.lo X.m1.hi
def m3 : Sp := X.F.mu X.v.c X.v.d X.w5.lo X.w5.hi
def m4 : Sp := X.F.ad X.t.c X.t.d X.m3.lo X.m3.hi
def av : Ve := ⟨bif X.o0 then X.t.a else X.m2.lo, bif X.o0 then X.t.b else X.m2.hi, bif X.o0 then X.t.c else X.m4.lo, bif X.o0 then X.t.d else X.m4.hi, bif X.o0 then X.t.e else X.t.e, bif X.o0 then X.t.f else X.t.f⟩
def d1 : Sp := X.F.dt X.av X.u
def mo1 : Int := X.F.mO X.u X.d1.lo X.d1.hi
def mv1 : Ve := X.F.mV X.u X.d1.lo X.d1.hi
def bo : Int := X.F.bO X.av X.mv1
def bv : Ve := X.F.bV X.av X.mv1
def d2 : Sp := X.F.dt X.bv X.bv
def h : Sp := X.F.su 4294967296 4294967296 X.d2.lo X.d2.hi
def tot : Bool := decide (X.h.hi < 0)
def neg : Bool := decide (X.h.lo < 0)
def r : Sp := X.F.rt X.h.lo X.h.hi
def fl : Bool := !(decide (X.k.hi < 0) == X.mir)
def r2 : Sp := X.F.ng X.r.lo X.r.hi
def rl : Int := bif X.fl then X.r2.lo else X.r.lo
def rh : Int := bif X.fl then X.r2.hi else X.r.hi
def mo2 : Int := X.F.mO X.u X.rl X.rh
def mv2 : Ve := X.F.mV X.u X.rl X.rh
def ao : Int := X.F.aO X.bv X.mv2
def out : Ve := X.F.aV X.bv X.mv2
end BX
structure Eb where
 z : Bool
 s : Bool
def eb (e : Int) : Eb := ⟨e == 0, e == 6⟩
structure BT where
 a1 : Eb
 a2 : Eb
 a3 : Eb
 a4 : Eb
 a5 : Eb
 u : Bool
 m : Bool
 b1 : Eb
 b2 : Eb
 b3 : Eb
 o : Bool
 c1 : Eb
 c2 : Eb
 c3 : Eb
 c4 : Eb
 c5 : Eb
 c6 : Eb
 c7 : Eb
 c8 : Eb
 c9 : Eb
 d1 : Eb
 d2 : Eb
 d3 : Eb
 e1 : Eb
 e2 : Eb
 e3 : Eb
 e4 : Eb
 e5 : Eb
 t : Bool
 n : Bool
 f1 : Eb
 fl : Bool
 f2 : Eb
 f3 : Eb
 f4 : Eb
def BX.bt (X : BX) : BT := ⟨eb (X.sl 4), eb X.n1.e, eb X.n2.e, eb X.uo, eb X.k.e, X.und, X.mir, eb X.s1.e, eb X.s2.e, eb X.s3.e, X.o0, eb X.q1.e, eb X.q2.e, eb X.q3.e, eb X.w1.e, eb X.w2.e, eb X.w3.e, eb X.w4.e, eb X.w5.e, eb X.m1.e, eb X.m2.e, eb X.m3.e, eb X.m4.e,
 eb X.d1.e, eb X.mo1, eb X.bo, eb X.d2.e, eb X.h.e, X.tot, X.neg, eb X.r.e, X.fl, eb X.r2.e, eb X.mo2, eb X.ao⟩
namespace BT
variable (B : BT)
def p11 : Bool := B.a1.z && (B.a2.z && (B.a3.z && B.a4.z))
def p22 : Bool := bif !B.m then B.b1.z && (B.b2.z && B.b3.z) else true
def p28 : Bool := B.c1.z && (B.c2.z && B.c3.z)
def p36 : Bool := B.c4.z && (B.c5.z && B.c6.z)
def p40 : Bool := B.c7.z && B.c8.z
def p47 : Bool := B.c9.z && B.d1.z
def p52 : Bool := B.p22 && (B.o || !B.o && (B.p28 && (B.p36 && (B.p40 && (B.p47 && (B.d2.z && B.d3.z))))))
def p72 : Bool := B.e1.z && (B.e2.z && B.e3.z)
def p81 : Bool := B.e4.z && B.e5.z
def p93 : Bool := bif B.fl then B.f2.z else true
def g (z : Eb -> Bool) (u n : Bool) : Bool :=
 B.a1.z && (B.a2.z && (B.a3.z && (!B.a4.z && z B.a4) || !B.a3.z && z B.a3) || !B.a2.z && z B.a2) || !B.a1.z && z B.a1 || B.p11 && (!B.a5.z && z B.a5 || B.a5.z && (u || !B.u && (B.p52 && (B.e1.z && (!B.e2.z && z B.e2 || B.e2.z && (!B.e3.z && z B.e3)) || !B.e1.z && z B.e1 || B.p72 && (B.e4.z && (!B.e5.z && z B.e5) || !B.e4.z && z B.e4 || B.p81 && (!B.t && (n || !B.n && (B.f1.z && (B.fl && (!B.f2.z && z B.f2) || B.p93 && (!B.f3.z && z B.f3 || B.f3.z && (!B.f4.z && z B.f4))) || !B.f1.z && z B.f1))))) || (!B.m && (!B.b1.z && z B.b1 || B.b1.z && (!B.b2.z && z B.b2 || B.b2.z && (!B.b3.z && z B.b3))) || B.p22 && (!B.o && (!B.c1.z && z B.c1 || B.c1.z && (!B.c2.z && z B.c2 || B.c2.z && (!B.c3.z && z B.c3)) || B.p28 && (B.c4.z && (B.c5.z && (!B.c6.z && z B.c6) || !B.c5.z && z B.c5) || !B.c4.z && z B.c4 || B.p36 && (B.c7.z && (!B.c8.z && z B.c8) || !B.c7.z && z B.c7 || B.p40 && (B.p47 && (!B.d2.z && z B.d2 || B.d2.z && (!B.d3.z && z B.d3)) || (!B.c9.z && z B.c9 || B.c9.z && (!B.d1.z && z B.d1)))))))))))
def g2 : Bool := B.g (fun e => !e.s) B.u B.n
def g5 : Bool := B.g (fun e => e.s) false false
def g3 : Bool := B.p11 && (B.a5.z && (!B.u && (B.p52 && (B.p72 && (B.p81 && B.t)))))
end BT
def eF (x y : Eb) : Eb := ⟨x.z && y.z, bif x.z then y.s else x.s⟩
namespace BT
variable (B : BT)
def R1 : Eb := eF (eF (eF (eF B.a1 B.a2) B.a3) B.a4) B.a5
def Rm : Eb := bif !B.m then eF (eF (eF B.R1 B.b1) B.b2) B.b3 else B.R1
def Ro : Eb := bif !B.o then eF (eF (eF (eF (eF (eF (eF (eF (eF (eF (eF (eF B.Rm B.c1) B.c2) B.c3) B.c4) B.c5) B.c6) B.c7) B.c8) B.c9) B.d1) B.d2) B.d3 else B.Rm
def R2 : Eb := eF (eF (eF (eF (eF B.Ro B.e1) B.e2) B.e3) B.e4) B.e5
def Rf : Eb := bif B.fl then eF (eF B.R2 B.f1) B.f2 else eF B.R2 B.f1
def R3 : Eb := eF (eF B.Rf B.f3) B.f4
def pc (x y z w : Int) : Int := bif B.g2 then x else bif B.g5 then y else bif B.g3 then z else w
end BT
end Go.Vc
namespace Go.Vc
open Go Go.Eng Go.Ar Go.Rd
def kE (E e : Int) : Int := bif E != 0 then E else bif e != 0 then e else E
def kI (E e x : Int) : Int := bif E != 0 then 0 else bif e != 0 then 0 else x
def kV (E e : Int) (v : Ve) : Ve := ⟨kI E e v.a, kI E e v.b, kI E e v.c, kI E e v.d, kI E e v.e, kI E e v.f⟩
theorem kE_fe (E e : Int) : kE E e = fe E e := by
 unfold kE fe
 simp only [bne]
 cases hE : E == 0 with
 | false => rfl
 | true =>
  cases he : e == 0 with
  | false => rfl
  | true => have := beq_iff_eq.1 hE; have := beq_iff_eq.1 he; subst_vars; rfl
theorem fe_z {x y : Int} : fe x y = 0 ↔ x = 0 /\ y = 0 := by
 unfold fe
 cases h : x == 0 with
 | true => have := beq_iff_eq.1 h; simp [this]
 | false =>
  have : x ≠ 0 := by simpa using h
  simp [this]
theorem kE_c {E e e' : Int} (h : E = 0 -> e = e') : kE E e = fe E e' := by
 rw [kE_fe]
 unfold fe
 cases hE : E == 0 with
 | false => rfl
 | true => exact h (beq_iff_eq.1 hE)
theorem kI_z {E e x : Int} (h : fe E e = 0) : kI E e x = x := by
 obtain ⟨rfl, rfl⟩ := fe_z.1 h
 rfl
theorem kV_z {E e : Int} {v : Ve} (h : fe E e = 0) : kV E e v = v := by
 unfold kV
 simp only [kI_z h]
namespace BX
variable (X : BX)
def E1 : Int := kE (X.sl 4) X.n1.e
def E2 : Int := kE X.E1 X.n2.e
def nw' : Ve := ⟨kI (X.sl 4) X.n1.e X.n1.lo, kI (X.sl 4) X.n1.e X.n1.hi, kI X.E1 X.n2.e X.n2.lo, kI X.E1 X.n2.e X.n2.hi, 4294967296, 4294967296⟩
def E3 : Int := kE X.E2 (X.F.uO X.nw')
def u' : Ve := kV X.E2 (X.F.uO X.nw') (X.F.uV X.nw')
def k' : Sp := X.F.dt X.w X.u'
def E4 : Int := kE X.E3 X.k'.e
def kl : Int := kI X.E3 X.k'.e X.k'.lo
def kh : Int := kI X.E3 X.k'.e X.k'.hi
def und' : Bool := bif decide (X.kl <= 0) then decide (X.kh >= 0) else false
def E5 : Int := kE X.E4 X.s1.e
def E6 : Int := kE X.E5 X.s2.e
def t' : Ve := ⟨bif !X.mir then kI X.E4 X.s1.e X.s1.lo else X.w.a, bif !X.mir then kI X.E4 X.s1.e X.s1.hi else X.w.b, bif !X.mir then kI X.E5 X.s2.e X.s2.lo else X.w.c, bif !X.mir then kI X.E5 X.s2.e X.s2.hi else X.w.d, bif !X.mir then kI X.E6 X.s3.e X.s3.lo else X.w.e, bif !X.mir then kI X.E6 X.s3.e X.s3.hi else X.w.f⟩
def E7 : Int := bif !X.mir then kE X.E6 X.s3.e else X.E4
def E8 : Int := kE X.E7 X.w1.e
def E9 : Int := kE X.E8 X.q1.e
def E10 : Int := kE X.E9 X.q2.e
def q3' : Sp := X.F.ad (kI X.E8 X.q1.e X.q1.lo) (kI X.E8 X.q1.e X.q1.hi) (kI X.E9 X.q2.e X.q2.lo) (kI X.E9 X.q2.e X.q2.hi)
def E11 : Int := kE X.E10 X.q3'.e
def w2' : Sp := X.F.sc (kI X.E10 X.q3'.e X.q3'.lo) (kI X.E10 X.q3'.e X.q3'.hi) (IntKind.i64.wrap (4 * X.S.f1)) 10000000
def E12 : Int := kE X.E11 X.w2'.e
def w3' : Sp := X.F.ad (kI X.E7 X.w1.e X.w1.lo) (kI X.E7 X.w1.e X.w1.hi) (kI X.E11 X.w2'.e X.w2'.lo) (kI X.E11 X.w2'.e X.w2'.hi)
def E13 : Int := kE X.E12 X.w3'.e
def w4' : Sp := X.F.sc (kI X.E12 X.w3'.e X.w3'.lo) (kI X.E12 X.w3'.e X.w3'.hi) (IntKind.i64.wrap (X.S.o * X.l)) 1000000000
def E14 : Int := kE X.E13 X.w4'.e
def w5' : Sp := X.F.sc (kI X.E13 X.w4'.e X.w4'.lo) (kI X.E13 X.w4'.e X.w4'.hi) 10000000 X.b
def E15 : Int := kE X.E14 X.w5'.e
def wl : Int := kI X.E14 X.w5'.e X.w5'.lo
def wh : Int := kI X.E14 X.w5'.e X.w5'.hi
def m1' : Sp := X.F.mu X.v.a X.v.b X.wl X.wh
def E16 : Int := kE X.E15 X.m1'.e
def m2' : Sp := X.F.ad X.t'.a X.t'.b (kI X.E15 X.m1'.e X.m1'.lo) (kI X.E15 X.m1'.e X.m1'.hi)
def E17 : Int := kE X.E16 X.m2'.e
def m3' : Sp := X.F.mu X.v.c X.v.d X.wl X.wh
def E18 : Int := kE X.E17 X.m3'.e
def m4' : Sp := X.F.ad X.t'.c X.t'.d (kI X.E17 X.m3'.e X.m3'.lo) (kI X.E17 X.m3'.e X.m3'.hi)
def E19 : Int := bif X.S.o != 0 then kE X.E18 X.m4'.e else X.E7
def av' : Ve := ⟨bif X.S.o != 0 then kI X.E16 X.m2'.e X.m2'.lo else X.t'.a, bif X.S.o != 0 then kI X.E16 X.m2'.e X.m2'.hi else X.t'.b, bif X.S.o != 0 then kI X.E18 X.m4'.e X.m4'.lo else X.t'.c, bif X.S.o != 0 then kI X.E18 X.m4'.e X.m4'.hi else X.t'.d, bif X.S.o != 0 then X.t'.e else X.t'.e, bif X.S.o != 0 then X.t'.f else X.t'.f⟩
def d1' : Sp := X.F.dt X.av' X.u'
def E20 : Int := kE X.E19 X.d1'.e
def dl : Int := kI X.E19 X.d1'.e X.d1'.lo
def dh : Int := kI X.E19 X.d1'.e X.d1'.hi
def E21 : Int := kE X.E20 (X.F.mO X.u' X.dl X.dh)
def mv1' : Ve := kV X.E20 (X.F.mO X.u' X.dl X.dh) (X.F.mV X.u' X.dl X.dh)
def E22 : Int := kE X.E21 (X.F.bO X.av' X.mv1')
def bv' : Ve := kV X.E21 (X.F.bO X.av' X.mv1') (X.F.bV X.av' X.mv1')
def d2' : Sp := X.F.dt X.bv' X.bv'
def E23 : Int := kE X.E22 X.d2'.e
def h' : Sp := X.F.su 4294967296 4294967296 (kI X.E22 X.d2'.e X.d2'.lo) (kI X.E22 X.d2'.e X.d2'.hi)
def E24 : Int := kE X.E23 X.h'.e
def hl : Int := kI X.E23 X.h'.e X.h'.lo
def hh : Int := kI X.E23 X.h'.e X.h'.hi
def r' : Sp := X.F.rt X.hl X.hh
def E25 : Int := kE X.E24 X.r'.e
def fl' : Bool := !(decide (X.kh < 0) == X.mir)
def rl1 : Int := kI X.E24 X.r'.e X.r'.lo
def rh1 : Int := kI X.E24 X.r'.e X.r'.hi
def r2' : Sp := X.F.ng X.rl1 X.rh1
def E26 : Int := bif X.fl' then kE X.E25 X.r2'.e else X.E25
def rl' : Int := bif X.fl' then kI X.E25 X.r2'.e X.r2'.lo else X.rl1
def rh' : Int := bif X.fl' then kI X.E25 X.r2'.e X.r2'.hi else X.rh1
def E27 : Int := kE X.E26 (X.F.mO X.u' X.rl' X.rh')
def mv2' : Ve := kV X.E26 (X.F.mO X.u' X.rl' X.rh') (X.F.mV X.u' X.rl' X.rh')
def E28 : Int := kE X.E27 (X.F.aO X.bv' X.mv2')
def why (e : Int) : Int := bif e == 6 then 5 else 2
def oc' : Int := bif X.E4 != 0 then why X.E4 else bif X.und' then 2 else bif X.E24 != 0 then why X.E24 else bif decide (X.hh < 0) then 3 else bif decide (X.hl < 0) then 2 else bif X.E28 != 0 then why X.E28 else 0
def fin (x : Int) : Int := bif X.oc' != 0 then 0 else bif X.E4 != 0 then 0 else bif X.und' then 0 else bif X.E24 != 0 then 0 else bif decide (X.hh < 0) then 0 else bif decide (X.hl < 0) then 0 else bif X.E28 != 0 then 0 else x
def F1 : Int := fe (fe (fe (fe (X.sl 4) X.n1.e) X.n2.e) X.uo) X.k.e
end BX
structure BX.law (X : BX) : Prop where
 q1 : X.q1.e = 0 ∨ X.q1.e = 6
 q2 : X.q2.e = 0 ∨ X.q2.e = 6
 q3 : X.q1.e = 0 -> X.q2.e = 0 -> X.q3.e = 0 ∨ X.q3.e = 6
 w1 : X.w1.e = 0 ∨ X.w1.e = 6
namespace BX
variable {X : BX}
theorem e1 : X.E1 = fe (X.sl 4) X.n1.e := kE_fe _ _
theorem e2 : X.E2 = fe X.E1 X.n2.e := kE_fe _ _
theorem z_nw (h : X.E2 = 0) : X.nw' = X.nw := by
 have h1 := e1 (X := X); have h2 := e2 (X := X)
 rw [h2] at h
 obtain ⟨a, b⟩ := fe_z.1 h
 have c := h1 ▸ a
 unfold nw' nw
 simp only [kI_z c, kI_z h]
theorem e3 : X.E3 = fe X.E2 X.uo := kE_c fun h => by rw [z_nw h]; rfl
theorem z3 (h : X.E3 = 0) : X.u' = X.u := by
 rw [e3] at h
 have a := z_nw (fe_z.1 h).1
 have c : X.F.uO X.nw' = X.uo := by rw [a]; rfl
 unfold u'
 rw [c, a, kV_z h]
 rfl
theorem z_k (h : X.E3 = 0) : X.k' = X.k := by unfold k' k; rw [z3 h]
theorem e4 : X.E4 = fe X.E3 X.k.e := kE_c fun h => by rw [z_k h]
theorem z4 (h : X.E4 = 0) : X.kl = X.k.lo /\ X.kh = X.k.hi := by
 rw [e4] at h
 have a := z_k (fe_z.1 h).1
 unfold kl kh
 rw [a, kI_z h, kI_z h]
 exact ⟨rfl, rfl⟩
theorem f1 : X.E4 = X.F1 := by rw [e4, e3, e2, e1]; rfl
theorem e5 : X.E5 = fe X.E4 X.s1.e := kE_fe _ _
theorem e6 : X.E6 = fe X.E5 X.s2.e := kE_fe _ _
theorem e7 : X.E7 = bif !X.mir then fe X.E6 X.s3.e else X.E4 := by unfold E7; rw [kE_fe]
theorem z7 (h : X.E7 = 0) : X.t' = X.t := by
 rw [e7] at h
 unfold t' t
 cases hm : X.mir with
 | true => rfl
 | false =>
  rw [hm] at h
  have h : fe X.E6 X.s3.e = 0 := h
  have a := (fe_z.1 h).1
  rw [e6] at a
  have b := (fe_z.1 a).1
  rw [e5] at b
  simp only [kI_z h, kI_z a, kI_z b]
end BX
end Go.Vc
namespace Go.Vc
open Go Go.Eng Go.Ar Go.Rd
def okSq (a b n d : Int) : Prop := okSp a b = true -> okR n d = true -> abH a b * sg n n < 18446744073709551615 * d
theorem sg_nn (n : Int) : 0 <= sg n n := by
 unfold sg
 cases h : decide (n < 0) with
 | true => have := of_decide_eq_true h; show 0 <= -n; omega
 | false => have := of_decide_eq_false h; show 0 <= n; omega
theorem okSq_of {a b n d : Int} (k : okSc n d) : okSq a b n d := fun h1 h2 => by
 have := k h2
 have p := abH_le h1
 have := Int.mul_le_mul_of_nonneg_right p.2 (sg_nn n)
 omega
structure BO where
 v : Ve
 c : Int
 e : Int
def cz (f : Int -> Int) (v : Ve) : Ve := ⟨f v.a, f v.b, f v.c, f v.d, f v.e, f v.f⟩
namespace BX
variable (X : BX)
def bi : Bool := bif decide ((if X.b < X.a then X.b else X.a) < 10000000) then true else bif decide ((if X.b > X.a then X.b else X.a) > 40000000) then true else bif decide (X.l < 300000) then true else decide (X.l > 2500000)
def vz : Bool := !(X.F.vc X.v != 0) && !(X.F.vc X.w != 0)
def fr (x y z : Int) : Int := bif X.bi then x else bif X.vz then z else y
def er : Int := bif X.F.vc X.v != 0 then X.F.vc X.v else X.F.vc X.w
def sk3 (v : Ve) : Bool := !bif X.F.sk v.a v.b != 0 || !(X.F.sk v.a v.b != 0) && (X.F.sk v.c v.d != 0 || !(X.F.sk v.c v.d != 0) && X.F.sk v.e v.f != 0) then false else true
def i1 : Sp := X.F.sc X.v.a X.v.b X.S.c 1000000000
def i2 : Sp := X.F.sc X.i1.lo X.i1.hi 10000000 X.b
def i3 : Sp := X.F.sc X.v.c X.v.d X.S.c 1000000000
def i4 : Sp := X.F.sc X.i3.lo X.i3.hi 10000000 X.b
def bk : Bool := decide (X.w.f < 0)
def i5 : Sp := X.F.ng X.i2.lo X.i2.hi
def i6 : Sp := X.F.ng X.i4.lo X.i4.hi
def xl : Int := bif X.bk then X.i5.lo else X.i2.lo
def xh : Int := bif X.bk then X.i5.hi else X.i2.hi
def yl : Int := bif X.bk then X.i6.lo else X.i4.lo
def yh : Int := bif X.bk then X.i6.hi else X.i4.hi
def i7 : Sp := X.F.di X.w.a X.w.b X.w.e X.w.f
def i8 : Sp := X.F.su X.i7.lo X.i7.hi X.xl X.xh
def i9 : Sp := X.F.di X.w.c X.w.d X.w.e X.w.f
def i10 : Sp := X.F.su X.i9.lo X.i9.hi X.yl X.yh
def iw : Ve := ⟨X.i8.lo, X.i8.hi, X.i10.lo, X.i10.hi, 4294967296, 4294967296⟩
def io : Int := X.F.uO X.iw
def iu : Ve := X.F.uV X.iw
def jo : Int := X.F.nO X.iu
def jv : Ve := X.F.nV X.iu
end BX
structure IT where
 a1 : Eb
 a2 : Eb
 a3 : Eb
 a4 : Eb
 k : Bool
 b1 : Eb
 b2 : Eb
 c1 : Eb
 c2 : Eb
 c3 : Eb
 c4 : Eb
 c5 : Eb
 c6 : Eb
namespace IT
variable (B : IT)
def p47 : Bool := B.a1.z && B.a2.z
def p410 : Bool := B.p47 && (B.a3.z && B.a4.z)
def p418 : Bool := bif B.k then B.b1.z && B.b2.z else true
def p423 : Bool := B.c1.z && B.c2.z
def ok : Bool := B.p410 && (B.p418 && (B.p423 && (B.c3.z && B.c4.z) && (B.c5.z && bif B.k then B.c6.z else true)))
def g5 : Bool := B.p410 && (B.p418 && (B.p423 && (B.c3.z && B.c4.z) && (B.c5.z && (B.k && (!B.c6.z && B.c6.s)) || !B.c5.z && B.c5.s) || (B.p423 && (!B.c3.z && B.c3.s || B.c3.z && (!B.c4.z && B.c4.s)) || (!B.c1.z && B.c1.s || B.c1.z && (!B.c2.z && B.c2.s)))) || B.k && (!B.b1.z && B.b1.s || B.b1.z && (!B.b2.z && B.b2.s))) || (B.a1.z && (!B.a2.z && B.a2.s) || !B.a1.z && B.a1.s || B.p47 && (B.a3.z && (!B.a4.z && B.a4.s) || !B.a3.z && B.a3.s))
end IT
namespace BX
variable (X : BX)
def it : IT := ⟨eb X.i1.e, eb X.i2.e, eb X.i3.e, eb X.i4.e, X.bk, eb X.i5.e, eb X.i6.e, eb X.i7.e, eb X.i8.e, eb X.i9.e, eb X.i10.e, eb X.io, eb X.jo⟩
def iv : Ve := ⟨bif X.bk then X.jv.a else X.iu.a, bif X.bk then X.jv.b else X.iu.b, bif X.bk then X.jv.c else X.iu.c, bif X.bk then X.jv.d else X.iu.d, bif X.bk then X.jv.e else X.iu.e, bif X.bk then X.jv.f else X.iu.f⟩
def an1 : BO := ⟨cz (fun z => X.fr 0 0 (X.bt.pc 0 0 0 z)) X.out, X.fr 0 0 (X.bt.pc 2 5 3 0), X.fr 2 X.er (X.bt.pc 9 9 9 0)⟩
def an3 : BO := ⟨cz (fun z => X.fr 0 0 z) X.w, 0, X.fr 2 X.er 0⟩
def an4 : BO := ⟨cz (fun z => X.fr 0 0 (bif X.it.ok then z else 0)) X.iv, X.fr 0 0 (bif X.it.ok then 0 else bif X.it.g5 then 5 else 2), X.fr 2 X.er (bif X.it.ok then 0 else 9)⟩
def ans (r : Bool) : BO := bif !r then ⟨⟨0, 0, 0, 0, 0, 0⟩, 0, 110⟩ else bif X.S.kd == 3 then X.an3 else bif X.S.kd == 4 then X.an4 else X.an1
def k1 : Int := bif X.i1.e != 0 then X.i1.e else 0
def i2' : Sp := X.F.sc (bif X.i1.e != 0 then 0 else X.i1.lo) (bif X.i1.e != 0 then 0 else X.i1.hi) 10000000 X.b
def k2 : Int := kE X.k1 X.i2'.e
def k3 : Int := kE X.k2 X.i3.e
def i4' : Sp := X.F.sc (kI X.k2 X.i3.e X.i3.lo) (kI X.k2 X.i3.e X.i3.hi) 10000000 X.b
def k4 : Int := kE X.k3 X.i4'.e
def al : Int := kI X.k1 X.i2'.e X.i2'.lo
def ah : Int := kI X.k1 X.i2'.e X.i2'.hi
def ch : Int := kI X.k3 X.i4'.e X.i4'.hi
def i5' : Sp := X.F.ng X.al X.ah
def k5 : Int := kE X.k4 X.i5'.e
variable {X}
structure vlaw (X : BX) : Prop where
 vc : ∀ v, X.F.vc v = bif X.sk3 v then 20 else 0
end BX
end Go.Vc
namespace Go.Vc
open Go Go.Eng Go.Ar Go.Rd
namespace BX
variable (X : BX) (n : Int)
def p2f : Int := IntKind.i64.wrap (2 * X.S.f0)
def p4f : Int := IntKind.i64.wrap (4 * X.S.f1)
def pol : Int := IntKind.i64.wrap (X.S.o * X.l)
variable {X n}
end BX
def slpB (s : Su) (ys : List Int) (a b x y : Int) : Nat -> Int
 | 0 => tw1 (sagG s ys a b x y).e (slpC s a b x y) (slpU s a b x y).lo
 | 1 => tw1 (sagG s ys a b x y).e (slpC s a b x y) (slpU s a b x y).hi
 | 2 => tw1 (sagG s ys a b x y).e (slpC s a b x y) (slpZ s a b x y).lo
 | 3 => tw1 (sagG s ys a b x y).e (slpC s a b x y) (slpZ s a b x y).hi
 | _ => twE (sagG s ys a b x y).e (slpC s a b x y)
end Go.Vc
namespace Go.Ht
open Go Go.Eng Go.Ar Go.Rd Go.Vc
def midS (a b : Int) : Sp := bif okSp a b then ⟨(a + b) / 2, 0, 0⟩ else ⟨0, 0, 20⟩
def meetS (a b c d : Int) : Sp := bif okSp a b && okSp c d then (bif decide (mx a c > mn b d) then ⟨0, 0, 4⟩ else toldS (mx a c) (mn b d)) else ⟨0, 0, 20⟩
noncomputable def hf0 : HF := ⟨negS, addS, subS, mulS, divS, scaleS, sqrS, sqrtS, midS, meetS, sagG, slpB, fun s ys => bif rightS s ys then 0 else 110, vC0 vf0⟩
theorem hf0_odd : hf0.odd := ⟨Rd.add_ng, Rd.mul_ng, Rd.mul_ng', Rd.sqr_ng, sagG_mx, sagG_my⟩
theorem tw1_n (g : Int) (p : Bool) (v : Int) : tw1 g p (-v) = -tw1 g p v := by
 unfold tw1
 cases (t1 g || !t1 g && p) <;> cases t1 g <;> rfl
theorem hf0_oddS {S : Su} {ys : List Int} (h : rightS S ys = true) : hf0.oddS S ys := by
 refine ⟨?_, ?_, ?_, ?_, ?_, ?_, ?_, ?_, ?_, ?_⟩ <;> intro a b c d
 .show twE _ _ = twE _ _
  rw [sagG_mx, slpC_mx h]
 .show tw1 _ _ _ = -tw1 _ _ _
  rw [sagG_mx, slpC_mx h, slpU_mx h, <- tw1_n]; rfl
 .show tw1 _ _ _ = -tw1 _ _ _
  rw [sagG_mx, slpC_mx h, slpU_mx h, <- tw1_n]; rfl
 .show tw1 _ _ _ = tw1 _ _ _
  rw [sagG_mx, slpC_mx h, slpZ_mx h]
 .show tw1 _ _ _ = tw1 _ _ _
  rw [sagG_mx, slpC_mx h, slpZ_mx h]
 .show twE _ _ = twE _ _
  rw [sagG_my, slpC_my h]
 .show tw1 _ _ _ = tw1 _ _ _
  rw [sagG_my, slpC_my h, slpU_my h]
 .show tw1 _ _ _ = tw1 _ _ _
  rw [sagG_my, slpC_my h, slpU_my h]
 .show tw1 _ _ _ = -tw1 _ _ _
  rw [sagG_my, slpC_my h, slpZ_my h, <- tw1_n]; rfl
 .show tw1 _ _ _ = -tw1 _ _ _
  rw [sagG_my, slpC_my h, slpZ_my h, <- tw1_n]; rfl
theorem vc_fx (v : Ve) : hf0.vc (fx v) = hf0.vc v := by
 show vC0 vf0 _ = vC0 vf0 _
 rw [vC0_eq vf0_law, vC0_eq vf0_law]
 have : wOk vf0 (fx v) = wOk vf0 v := by
  show (!bif okSp (-v.b) (-v.a) then bif okSp v.c v.d then okSp v.e v.f else false else false) = (!bif okSp v.a v.b then bif okSp v.c v.d then okSp v.e v.f else false else false)
  rw [okSp_ng]
 rw [this]
theorem vc_fy (v : Ve) : hf0.vc (fy v) = hf0.vc v := by
 show vC0 vf0 _ = vC0 vf0 _
 rw [vC0_eq vf0_law, vC0_eq vf0_law]
 have : wOk vf0 (fy v) = wOk vf0 v := by
  show (!bif okSp v.a v.b then bif okSp (-v.d) (-v.c) then okSp v.e v.f else false else false) = (!bif okSp v.a v.b then bif okSp v.c v.d then okSp v.e v.f else false else false)
  rw [okSp_ng]
 rw [this]
structure HO where
 at' : Ve
 way : Iv
 c : Int
 e : Int
def ve0 : Ve := ⟨0, 0, 0, 0, 0, 0⟩
def hitA (F : HF) (S : Su) (ys : List Int) (p w : Ve) : HO :=
 bif F.ck S ys == 0 then (bif F.vc p == 0 && F.vc w == 0 then (match hitP F S ys p w with
  | .ok (a, t) => ⟨a, t, 0, 0⟩
  | .error c => ⟨ve0, ⟨0, 0⟩, c, 9⟩) else ⟨ve0, ⟨0, 0⟩, 0, 240⟩) else ⟨ve0, ⟨0, 0⟩, 0, F.ck S ys⟩
def HO.fx (o : HO) : HO := { o with at' := Ht.fx o.at' }
def HO.fy (o : HO) : HO := { o with at' := Ht.fy o.at' }
theorem hitA_fx (S : Su) (ys : List Int) (p w : Ve) : hitA hf0 S ys (fx p) (fx w) = (hitA hf0 S ys p w).fx := by
 unfold hitA
 rw [vc_fx, vc_fx]
 cases hr : rightS S ys with
 | false =>
  have : hf0.ck S ys = 110 := by show (bif rightS S ys then _ else _) = _; rw [hr]; rfl
  rw [this]
  rfl
 | true =>
  rw [hit_mx hf0_odd p w (hf0_oddS hr)]
  cases hf0.ck S ys == 0 <;> simp only [cond_true, cond_false]
  .rfl
  cases hf0.vc p == 0 && hf0.vc w == 0 <;> simp only [cond_true, cond_false]
  .rfl
  cases hitP hf0 S ys p w <;> rfl
theorem hitA_fy (S : Su) (ys : List Int) (p w : Ve) : hitA hf0 S ys (fy p) (fy w) = (hitA hf0 S ys p w).fy := by
 unfold hitA
 rw [vc_fy, vc_fy]
 cases hr : rightS S ys with
 | false =>
  have : hf0.ck S ys = 110 := by show (bif rightS S ys then _ else _) = _; rw [hr]; rfl
  rw [this]
  rfl
 | true =>
  rw [hit_my hf0_odd p w (hf0_oddS hr)]
  cases hf0.ck S ys == 0 <;> simp only [cond_true, cond_false]
  .rfl
  cases hf0.vc p == 0 && hf0.vc w == 0 <;> simp only [cond_true, cond_false]
  .rfl
  cases hitP hf0 S ys p w <;> rfl
end Go.Ht
namespace Go.Ht
open Go Go.Eng Go.Ar Go.Rd Go.Vc
def xMidV (a b : Int) : Int := bif xCS a b != 0 then 0 else (IntKind.i64.wrap (a + b)).fdiv (2 ^ min (Int.toNat 1) IntKind.i64.bits)
def xMidE (a b : Int) : Int := bif xCS a b != 0 then xCS a b else 0
theorem xMid_eq (a b : Int) : xMidV a b = (midS a b).lo /\ xMidE a b = (midS a b).e := by
 unfold xMidV xMidE midS
 rw [xCS_eq]
 cases h : okSp a b with
 | false => exact ⟨rfl, rfl⟩
 | true =>
  have := okSp_iff.1 h
  refine ⟨?_, rfl⟩
  show (IntKind.i64.wrap (a + b)).fdiv 2 = (a + b) / 2
  rw [i64w (by omega) (by omega), Int.fdiv_eq_ediv_of_nonneg _ (by decide)]
def mtE (a b c d : Int) : Int := bif !(xCS a b != 0) && !(xCS c d != 0) then 0 else bif xCS a b != 0 then xCS a b else xCS c d
def mtL (a c : Int) : Int := if c > a then c else a
def mtH (b d : Int) : Int := if d < b then d else b
def mtB (l h : Int) : Bool := bif decide (l < -4503599627370496) then true else decide (h > 4503599627370496)
def xMeetS (a b c d : Int) : Sp := ⟨bif mtE a b c d != 0 then 0 else bif decide (mtL a c > mtH b d) then 0 else bif mtB (mtL a c) (mtH b d) then 0 else mtL a c,
 bif mtE a b c d != 0 then 0 else bif decide (mtL a c > mtH b d) then 0 else bif mtB (mtL a c) (mtH b d) then 0 else mtH b d,
 bif mtE a b c d != 0 then mtE a b c d else bif decide (mtL a c > mtH b d) then 4 else bif mtB (mtL a c) (mtH b d) then 6 else 0⟩
theorem xMeet_eq (a b c d : Int) : xMeetS a b c d = meetS a b c d := by
 have l : mtL a c = mx a c := by
  unfold mtL mx
  by_cases h : a < c
  .rw [if_pos h, decide_eq_true h]; rfl
  .rw [if_neg h, decide_eq_false h]; rfl
 have r : mtH b d = mn b d := by
  unfold mtH mn
  by_cases h : d < b
  .rw [if_pos h, decide_eq_true h]; rfl
  .rw [if_neg h, decide_eq_false h]; rfl
 unfold xMeetS mtE meetS
 rw [xCS_eq, xCS_eq, l, r]
 cases h1 : okSp a b with
 | false => cases h2 : okSp c d <;> rfl
 | true => cases h2 : okSp c d with
  | false => rfl
  | true =>
   show (⟨bif decide (mx a c > mn b d) then 0 else bif mtB (mx a c) (mn b d) then 0 else mx a c, bif decide (mx a c > mn b d) then 0 else bif mtB (mx a c) (mn b d) then 0 else mn b d, bif decide (mx a c > mn b d) then 4 else bif mtB (mx a c) (mn b d) then 6 else 0⟩ : Sp) = bif decide (mx a c > mn b d) then ⟨0, 0, 4⟩ else toldS (mx a c) (mn b d)
   have k1 := okSp_iff.1 h1
   have k2 := okSp_iff.1 h2
   have p : mx a c = a ∨ mx a c = c := by unfold mx; cases decide (a < c) <;> simp
   have q : mn b d = b ∨ mn b d = d := by unfold mn; cases decide (d < b) <;> simp
   cases decide (mx a c > mn b d) with
   | true => rfl
   | false =>
    have hb : mtB (mx a c) (mn b d) = false := by
     unfold mtB
     rw [decide_eq_false (by omega), decide_eq_false (by omega)]
     rfl
    rw [hb, told_of (by omega) (by omega) (by omega) (by omega)]
    rfl
end Go.Ht
namespace Go.Proofs.YtjmhddncomglmaaGreatDoor.K
open Go Go.Eng Go.Ar Go.Ht
noncomputable section
def sMid (G : Int -> Int -> Sp) : PSpec := numSpec [shS] none fun
 | [.n a, .n b] => two (G a b).lo (G a b).e
 | _ => .u []
theorem mid_run (a b : Int) : oneV ((run c2 300).call 118 [.agg [.int true .i64 a, .int true .i64 b]] ⟨[], 0, 1⟩) = some (.tt, (two (xMidV a b) (xMidE a b)).av true) := by kernel_rfl
theorem meet_run (a b c d : Int) : oneV ((run c2 300).call 87 [.agg [.int true .i64 a, .int true .i64 b], .agg [.int true .i64 c, .int true .i64 d]] ⟨[], 0, 1⟩) = some (.p ((!(mtE a b c d != 0)) = true -> d = d /\ b = b), (outS (xMeetS a b c d)).av true) := by kernel_rfl
theorem smid_ok : PureOk Tryz.prog 118 (sMid midS) := by
 refine num_ok (fun xs hk _ => ?_) ⟨_, Tryz.func118, rfl⟩
 obtain ⟨a, _, rfl, h1⟩ := kn hk; obtain ⟨b, _, rfl, h2⟩ := kn h1; obtain rfl := k0 h2
 have := mid_run a b
 rw [(xMid_eq a b).1, (xMid_eq a b).2] at this
 exact ⟨c2, 300, _, c2_ok, rfl, fun _ => rfl, rfl, this, trivial⟩
theorem smeet_ok : PureOk Tryz.prog 87 (sBin meetS) := by
 refine num_ok (fun xs hk _ => ?_) ⟨_, Tryz.func87, rfl⟩
 obtain ⟨a, _, rfl, h1⟩ := kn hk; obtain ⟨b, _, rfl, h2⟩ := kn h1; obtain ⟨c, _, rfl, h3⟩ := kn h2; obtain ⟨d, _, rfl, h4⟩ := kn h3; obtain rfl := k0 h4
 have := meet_run a b c d
 rw [xMeet_eq] at this
 exact ⟨c2, 300, _, c2_ok, rfl, fun _ => rfl, rfl, this, fun _ => ⟨rfl, rfl⟩⟩
end
end Go.Proofs.YtjmhddncomglmaaGreatDoor.K
namespace Go.Proofs.YtjmhddncomglmaaGreatDoor.K
open Go Go.Eng Go.Ar Go.Rd Go.Vc Go.Ht
noncomputable section
def slHF (F : HF) (s : Su) (ys : List Int) (a b x y : Int) : AV := .tuple [.agg [.int true .i64 (F.sl s ys a b x y 0), .int true .i64 (F.sl s ys a b x y 1)], .agg [.int true .i64 (F.sl s ys a b x y 2), .int true .i64 (F.sl s ys a b x y 3)], .int true .i64 (F.sl s ys a b x y 4)]
def sgHF (F : HF) (s : Su) (ys : List Int) (a b x y : Int) : AV := (outS (F.sg s ys a b x y)).av true
def shVv : Sh := .a [.i .i64, .i .i64, .i .i64, .i .i64, .i .i64, .i .i64]
def vcHF (F : HF) : PSpec := numSpec [shVv] none fun
 | [.n a, .n b, .n c, .n d, .n e, .n f] => .n .i64 (F.vc ⟨a, b, c, d, e, f⟩)
 | _ => .u []
def sScP (F : Int -> Int -> Int -> Int -> Sp) : PSpec := fun args => match Sh.readL [shS, .i .i64, .i .i64] args with
 | some (s, [.n a, .n b, .n n, .n d]) => some (.p (okSq a b n d), (outS (F a b n d)).av s)
 | _ => none
abbrev suP2 : List Pa := [.s suI .i64, .n sS, .n sS]
def hp (s : PSpec) : NSpec := hN (gH s)
def tblHtO (F : HF) : List (FuncId × NSpec) := [(80, hp (sUn F.ng)), (54, hp (sBin F.ad)), (114, hp (sBin F.su)), (90, hp (sBin F.mu)), (89, hp (sBin F.di)), (112, hp (sScP F.sc)), (113, hp (sUn F.sq)), (79, hp (sUn F.rt)), (118, hp (sMid F.md)), (87, hp (sBin F.mt))]
def tblHtP (F : HF) (b : Bool) : List (FuncId × NSpec) := (10, bif b then chk0S else chk1S) :: (119, lSpec hG suP2 (suV2 (sgHF F))) :: (120, lSpec hG suP2 (suV2 (slHF F))) :: (46, hp (vcHF F)) :: tblHtO F
def cHtP (F : HF) (b : Bool) : Ctx := mkN Tryz.prog glob hG (tblHtP F b) [] ext
def rHt (C : Ctx) (f : FuncId) (kd : AV) (s : Su) (n : Int) (ys : List Int) (p w : Ve) : Option (Nd × AV) := oneG (viewsH true hG [(.i64, ys)]).size hG.clock ((run C 60000).call f [.agg (s.cells kd ++ [.lslice hG.size n]), .agg (p.cells ++ w.cells)] (viewsH true hG [(.i64, ys)]))
end
end Go.Proofs.YtjmhddncomglmaaGreatDoor.K
namespace Go.Proofs.YtjmhddncomglmaaGreatDoor.K
open Go Go.Eng Go.Ar Go.Rd Go.Vc Go.Ht
noncomputable section
def sixI : List Sh := [.i .i64, .i .i64, .i .i64, .i .i64, .i .i64, .i .i64]
def solI : List Sh := sixI ++ (sixI ++ suI)
def rNr (C : Ctx) (kd : AV) (s : Su) (n : Int) (ys : List Int) (p w : Ve) (t : Iv) : Option (Nd × AV) :=
 let h := (((viewsH true hG [(.i64, ys)]).push0 (.cells (p.cells ++ (w.cells ++ (s.cells kd ++ [.lslice hG.size n]))))).push0 (.cells [.ptr (hG.size + 1) 0])).push0 (.cells [.int true .i64 t.lo, .int true .i64 t.hi])
 oneG h.size hG.clock ((run C 60000).call 83 (argB hG 85 [[.i .i64, .i .i64]]) h)
def rCo (C : Ctx) (kd : AV) (s : Su) (n : Int) (ys : List Int) (p w : Ve) (c k : Int) : Option (Nd × AV) :=
 let h := ((((viewsH true hG [(.i64, ys)]).push0 (.cells (p.cells ++ (w.cells ++ (s.cells kd ++ [.lslice hG.size n]))))).push0 (.cells [.ptr (hG.size + 1) 0])).push0 (.cells [.int true .i64 c])).push0 (.cells [.int true .i64 k])
 oneG h.size hG.clock ((run C 60000).call 83 (argB hG 84 [[.i .i64], [.i .i64]]) h)
end
end Go.Proofs.YtjmhddncomglmaaGreatDoor.K
namespace Go.Ht
open Go Go.Eng Go.Ar Go.Rd Go.Vc
def bd (q : Sp -> Bool) (s : Sp) : Bool := !(s.e == 0) && q s
def q6 (s : Sp) : Bool := s.e == 6
def q2 (s : Sp) : Bool := !(s.e == 6)
def ok0 (s : Sp) : Bool := s.e == 0
def ptB (q : Sp -> Bool) (a b c d e : Sp) : Bool := (ok0 a && ok0 b && (ok0 c && ok0 d && bd q e || (bd q c || ok0 c && bd q d)) || (bd q a || ok0 a && bd q b))
def ptO (a b c d e : Sp) : Bool := ok0 a && ok0 b && (ok0 c && ok0 d && ok0 e)
section
variable (F : HF) (S : Su) (ys : List Int) (p w : Ve) (t : Iv)
def nU : Int := (F.md t.lo t.hi).lo
def p1 (p w : Ve) (x y : Int) : Sp := F.mu x y w.a w.b
def p2 (p w : Ve) (x y : Int) : Sp := F.ad p.a p.b (p1 F p w x y).lo (p1 F p w x y).hi
def p3 (p w : Ve) (x y : Int) : Sp := F.mu x y w.c w.d
def p4 (p w : Ve) (x y : Int) : Sp := F.ad p.c p.d (p3 F p w x y).lo (p3 F p w x y).hi
def p5 (p w : Ve) (x y : Int) : Sp := F.mu x y w.e w.f
def ptBad (q : Sp -> Bool) (x y : Int) : Bool := ptB q (p1 F p w x y) (p2 F p w x y) (p3 F p w x y) (p4 F p w x y) (p5 F p w x y)
def ptOk (x y : Int) : Bool := ptO (p1 F p w x y) (p2 F p w x y) (p3 F p w x y) (p4 F p w x y) (p5 F p w x y)
def nZ : Sp := F.sg S ys (p2 F p w (nU F t) (nU F t)).lo (p2 F p w (nU F t) (nU F t)).hi (p4 F p w (nU F t) (nU F t)).lo (p4 F p w (nU F t) (nU F t)).hi
def nE : Sp := F.su (p5 F p w (nU F t) (nU F t)).lo (p5 F p w (nU F t) (nU F t)).hi (nZ F S ys p w t).lo (nZ F S ys p w t).hi
def nV (i : Nat) : Int := F.sl S ys (p2 F p w t.lo t.hi).lo (p2 F p w t.lo t.hi).hi (p4 F p w t.lo t.hi).lo (p4 F p w t.lo t.hi).hi i
def nX : Sp := F.mu (nV F S ys p w t 0) (nV F S ys p w t 1) w.a w.b
def nD1 : Sp := F.su w.e w.f (nX F S ys p w t).lo (nX F S ys p w t).hi
def nY : Sp := F.mu (nV F S ys p w t 2) (nV F S ys p w t 3) w.c w.d
def nD : Sp := F.su (nD1 F S ys p w t).lo (nD1 F S ys p w t).hi (nY F S ys p w t).lo (nY F S ys p w t).hi
def nQ : Sp := F.di (nE F S ys p w t).lo (nE F S ys p w t).hi (nD F S ys p w t).lo (nD F S ys p w t).hi
def nR : Sp := F.su (nU F t) (nU F t) (nQ F S ys p w t).lo (nQ F S ys p w t).hi
def nC (q : Sp -> Bool) (v : Bool -> Bool -> Bool) : Bool :=
 ok0 (F.md t.lo t.hi) && (ptOk F p w (nU F t) (nU F t) && ptBad F p w q t.lo t.hi || ptBad F p w q (nU F t) (nU F t) ||
  ptOk F p w (nU F t) (nU F t) && ptOk F p w t.lo t.hi && (ok0 (nZ F S ys p w t) && ok0 (nE F S ys p w t) && v (nV F S ys p w t 4 != 0) (!(nV F S ys p w t 4 != 0) && (ok0 (nX F S ys p w t) && (ok0 (nD1 F S ys p w t) && (ok0 (nY F S ys p w t) && bd q (nD F S ys p w t) || bd q (nY F S ys p w t)) || bd q (nD1 F S ys p w t)) || bd q (nX F S ys p w t) ||
   ok0 (nX F S ys p w t) && (ok0 (nD1 F S ys p w t) && (ok0 (nY F S ys p w t) && ok0 (nD F S ys p w t))) && (ok0 (nQ F S ys p w t) && bd q (nR F S ys p w t) || bd q (nQ F S ys p w t)))) || (bd q (nZ F S ys p w t) || ok0 (nZ F S ys p w t) && bd q (nE F S ys p w t)))) || !ok0 (F.md t.lo t.hi) && q (F.md t.lo t.hi)
def nC2 : Bool := nC F S ys p w t q2 (· || ·)
def nC5 : Bool := nC F S ys p w t q6 (fun _ x => x)
def nAv : AV := .tuple [.agg [.int true .i64 (bif nC2 F S ys p w t then 0 else bif nC5 F S ys p w t then 0 else (nR F S ys p w t).lo), .int true .i64 (bif nC2 F S ys p w t then 0 else bif nC5 F S ys p w t then 0 else (nR F S ys p w t).hi)], .int true .i64 (bif nC2 F S ys p w t then 2 else bif nC5 F S ys p w t then 5 else 0)]
def nNd (ok : Prop) : Prop := ok0 (F.md t.lo t.hi) = true -> (ptOk F p w (nU F t) (nU F t) = true -> t.lo = t.lo /\ t.hi = t.hi) /\ ((ptOk F p w (nU F t) (nU F t) && ptOk F p w t.lo t.hi) = true -> (ok /\ ((p5 F p w (nU F t) (nU F t)).lo = (p5 F p w (nU F t) (nU F t)).lo /\ (p5 F p w (nU F t) (nU F t)).hi = (p5 F p w (nU F t) (nU F t)).hi) /\ (ok0 (nZ F S ys p w t) = true -> (p5 F p w (nU F t) (nU F t)).lo = (p5 F p w (nU F t) (nU F t)).lo /\ (p5 F p w (nU F t) (nU F t)).hi = (p5 F p w (nU F t) (nU F t)).hi)) /\
 ((ok0 (nZ F S ys p w t) && ok0 (nE F S ys p w t)) = true -> ok /\ ((!(nV F S ys p w t 4 != 0)) = true -> (ok0 (nX F S ys p w t) = true -> ((w.c = w.c /\ w.d = w.d) /\ (nV F S ys p w t 2 = nV F S ys p w t 2 /\ nV F S ys p w t 3 = nV F S ys p w t 3) /\ w.e = w.e /\ w.f = w.f) /\ (ok0 (nD1 F S ys p w t) = true -> (w.c = w.c /\ w.d = w.d) /\ nV F S ys p w t 2 = nV F S ys p w t 2 /\ nV F S ys p w t 3 = nV F S ys p w t 3)) /\
  ((ok0 (nX F S ys p w t) && (ok0 (nD1 F S ys p w t) && (ok0 (nY F S ys p w t) && ok0 (nD F S ys p w t)))) = true -> ok0 (nQ F S ys p w t) = true -> nU F t = nU F t /\ nU F t = nU F t))))
theorem nNd_ok {q : Prop} (h : q) : nNd F S ys p w t q := fun _ => ⟨fun _ => ⟨rfl, rfl⟩, fun _ => ⟨⟨h, ⟨rfl, rfl⟩, fun _ => ⟨rfl, rfl⟩⟩, fun _ => ⟨h, fun _ => ⟨fun _ => ⟨⟨⟨rfl, rfl⟩, ⟨rfl, rfl⟩, rfl, rfl⟩, fun _ => ⟨⟨rfl, rfl⟩, rfl, rfl⟩⟩, fun _ _ => ⟨rfl, rfl⟩⟩⟩⟩⟩
end
end Go.Ht
namespace Go.Proofs.YtjmhddncomglmaaGreatDoor.K
open Go Go.Eng Go.Ar Go.Rd Go.Vc Go.Ht
noncomputable section
theorem nr_run (F : HF) (s : Su) (n : Int) (ys : List Int) (p w : Ve) (t : Iv) : rNr (cHtP F true) (.int true .i64 s.kd) s n ys p w t = some (.p (nNd F s ys p w t (okF3 n ys /\ s.g.size < 1000000000)), nAv F s ys p w t) := by kernel_rfl
end
end Go.Proofs.YtjmhddncomglmaaGreatDoor.K
namespace Go.Proofs.YtjmhddncomglmaaGreatDoor.K
open Go Go.Eng Go.Ar Go.Rd
noncomputable section
def pK (s : Su) (n : Int) (ys : List Int) (k : Int) : Prop := okF3 n ys /\ s.g.size < 1000000000 /\ rightS s ys = true /\ s.kd = k
def sagV (k : Int) (F : Su -> Int -> Int -> Int -> Int -> Sp) : Nat -> List Itm -> Option (Prop × AV × List ABody) := fun _ its => match its with
 | [.s xs n ys, .n [.n a, .n b], .n [.n x, .n y]] => match suOf xs with
  | some s => some (pK s n ys k /\ okSp a b = true /\ okSp x y = true, spV (F s a b x y), [])
  | none => none
 | _ => none
theorem sagV_ok {k : Int} {F : Su -> Int -> Int -> Int -> Int -> Sp} (h : ∀ s a b x y, s.kd = k -> k ≠ 3 /\ sagK s a b x y = F s a b x y) : NOk Tryz.prog glob hG 119 (lSpec hG [.s suI .i64, .n sS, .n sS] (sagV k F)) := by
 refine lSpec_weaken sagG_ok fun sz its p v bs e => ?_
 unfold sagV at e
 split at e
 .rename_i xs n ys a b x y
  split at e
  .rename_i s hs
   cases e
   refine ⟨okF3 n ys /\ s.g.size < 1000000000, sagA' s ys a b x y, by simp only [suV2, hs], fun hp => ⟨⟨hp.1.1, hp.1.2.1⟩, fun σ U hU => ?_⟩⟩
   obtain ⟨h3, hF⟩ := h s a b x y hp.1.2.2.2
   have e : sagG s ys a b x y = F s a b x y := by
    unfold sagG okXY
    rw [hp.1.2.2.1, hp.2.1, hp.2.2, hp.1.2.2.2, beq_eq_false_iff_ne.2 h3]
    exact hF
   unfold sagA' at hU
   rw [e] at hU
   exact hU
  .cases e
 .cases e
def sag1F : Su -> Int -> Int -> Int -> Int -> Sp := fun s a b x y => sagS s.c s.k s.a0 s.a1 s.a2 s.a3 a b x y
def sag2F : Su -> Int -> Int -> Int -> Int -> Sp := fun s a b x y => sagX s.c s.k s.l s.m a b x y
theorem sag1_ok : NOk Tryz.prog glob hG 119 (lSpec hG [.s suI .i64, .n sS, .n sS] (sagV 1 sag1F)) := sagV_ok fun s a b x y h => ⟨by decide, by unfold sagK sag1F; rw [h]; rfl⟩
theorem sag2_ok : NOk Tryz.prog glob hG 119 (lSpec hG [.s suI .i64, .n sS, .n sS] (sagV 2 sag2F)) := sagV_ok fun s a b x y h => ⟨by decide, by unfold sagK sag2F; rw [h]; rfl⟩
def sagE' (k : Int) : Nat -> List Itm -> Option (Prop × AV × List ABody) := fun _ its => match its with
 | [.s xs n ys, .n [.n a, .n b], .n [.n x, .n y]] => match suOf xs with
  | some s => some (okF3 n ys /\ s.g.size < 1000000000 /\ sagG s ys a b x y = ⟨0, 0, k⟩, eV k, [])
  | none => none
 | _ => none
theorem sagE_ok (k : Int) : NOk Tryz.prog glob hG 119 (lSpec hG [.s suI .i64, .n sS, .n sS] (sagE' k)) := by
 refine lSpec_weaken sagG_ok fun sz its p v bs e => ?_
 unfold sagE' at e
 split at e
 .rename_i xs n ys a b x y
  split at e
  .rename_i s hs
   cases e
   refine ⟨okF3 n ys /\ s.g.size < 1000000000, sagA' s ys a b x y, by simp only [suV2, hs], fun hp => ⟨⟨hp.1, hp.2.1⟩, fun σ U hU => ?_⟩⟩
   unfold sagA' at hU
   rw [hp.2.2] at hU
   exact hU
  .cases e
 .cases e
def tblV : List (FuncId × NSpec) := [(111, hN (gH chkSpec)), (113, hN (gH (good2 [shS] sqrS))), (114, hN (gH (good4 [shS, shS] subS))), (79, hN (gH (good2 [shS] sqrtS))), (112, hN (gH (good4 [shS, .i .i64, .i .i64] xScaleS)))]
theorem tblV_g : ∀ x ∈ tblV, NOk Tryz.prog glob hG x.1 x.2 := by
 intro x hx
 simp only [tblV, List.mem_cons, List.not_mem_nil, or_false] at hx
 rcases hx with rfl | rfl | rfl | rfl | rfl
 .exact chk0.h.n
 .exact (good_un ssqr_ok).h.n
 .exact (good_bin ssub_ok).h.n
 .exact (good_un ssqrt_ok).h.n
 .exact (good_sc sscale_ok).h.n
def hDom (q : Bool) (_ d : Nat) : Option AV := match Nat.beq d 102 with
 | true => some (.bool false false)
 | false => match Nat.beq d 62 with
  | true => (match q with | true => some (.bool false true) | false => some (.bool false false))
  | false => none
def cV (S : NSpec) (q : Bool) : Ctx := hinting (mkN Tryz.prog glob hG ((119, S) :: tblV) tblTe ext) (hDom q)
theorem cV_ok {S : NSpec} (h : NOk Tryz.prog glob hG 119 S) (q : Bool) : CtxOk (cV S q) := hinting_ok (mkN_ok prog_ok ext_ok (fun x hx => by
 rcases List.mem_cons.1 hx with rfl | hx
 .exact h
 .exact tblV_g x hx) tblTe_g) (hDom q)
def cV1 (q : Bool) : Ctx := cV (lSpec hG [.s suI .i64, .n sS, .n sS] (sagV 1 sag1F)) q
def cV2 : Ctx := cV (lSpec hG [.s suI .i64, .n sS, .n sS] (sagV 2 sag2F)) false
def cVe (k : Int) : Ctx := mkN Tryz.prog glob hG [(119, lSpec hG [.s suI .i64, .n sS, .n sS] (sagE' k))] [] ext
theorem cVe_ok (k : Int) : CtxOk (cVe k) := by
 refine mkN_ok prog_ok ext_ok (fun x hx => ?_) (fun _ h => by cases h)
 simp only [List.mem_cons, List.not_mem_nil, or_false] at hx
 subst hx
 exact sagE_ok k
def eV2 (k : Int) : AV := .tuple [.agg [.int false .i64 0, .int false .i64 0], .agg [.int false .i64 0, .int false .i64 0], .int false .i64 k]
theorem ul_1t (s : Su) (n : Int) (ys : List Int) (a b x y : Int) : rw2 (cV1 true) 120 (s.cells (.int false .i64 1)) n ys a b x y = some (.p (tcF (pK { s with kd := 1 } n ys 1) ⟨s.c, s.k, s.a0, s.a1, s.a2, s.a3, a, b, x, y⟩), sp2V (sagS s.c s.k s.a0 s.a1 s.a2 s.a3 a b x y).e (slA s.c s.k s.a0 s.a1 s.a2 s.a3 a b x y) (q4 s.c s.k s.a0 s.a1 s.a2 s.a3 a b x y) (q6 s.c s.k s.a0 s.a1 s.a2 s.a3 a b x y)) := by kernel_rfl
theorem ul_1f (s : Su) (n : Int) (ys : List Int) (a b x y : Int) : rw2 (cV1 false) 120 (s.cells (.int false .i64 1)) n ys a b x y = some (.p (teF (pK { s with kd := 1 } n ys 1) ⟨s.c, s.k, s.a0, s.a1, s.a2, s.a3, a, b, x, y⟩), sp2V (sagS s.c s.k s.a0 s.a1 s.a2 s.a3 a b x y).e (slP s.c s.k a b x y) (s14 s.c s.k a b x y) (s12 s.c s.k a b x y)) := by kernel_rfl
theorem ul_2 (s : Su) (n : Int) (ys : List Int) (a b x y : Int) : rw2 cV2 120 (s.cellsZ (.int false .i64 2)) n ys a b x y = some (.p (tdF (pK { s with kd := 2, a0 := 0, a1 := 0, a2 := 0, a3 := 0 } n ys 2) ⟨s.c, s.k, s.l, s.m, a, b, x, y⟩), slpX s.c s.k s.l s.m a b x y) := by kernel_rfl
theorem ul_4 (s : Su) (n : Int) (ys : List Int) (a b x y : Int) : rw2 (cVe 0) 120 (s.cells (.int false .i64 4)) n ys a b x y = some (.p (okF3 n ys /\ s.g.size < 1000000000 /\ sagG { s with kd := 4 } ys a b x y = ⟨0, 0, 0⟩), eV2 0) := by kernel_rfl
theorem ul_e5 (s : Su) (n : Int) (ys : List Int) (a b x y : Int) : rw2 (cVe 5) 120 (s.cells (.int true .i64 s.kd)) n ys a b x y = some (.p (okF3 n ys /\ s.g.size < 1000000000 /\ sagG s ys a b x y = ⟨0, 0, 5⟩), eV2 5) := by kernel_rfl
theorem ul_e20 (s : Su) (n : Int) (ys : List Int) (a b x y : Int) : rw2 (cVe 20) 120 (s.cells (.int true .i64 s.kd)) n ys a b x y = some (.p (okF3 n ys /\ s.g.size < 1000000000 /\ sagG s ys a b x y = ⟨0, 0, 20⟩), eV2 20) := by kernel_rfl
theorem ul_e110 (s : Su) (n : Int) (ys : List Int) (a b x y : Int) : rw2 (cVe 110) 120 (s.cells (.int true .i64 s.kd)) n ys a b x y = some (.p (okF3 n ys /\ s.g.size < 1000000000 /\ sagG s ys a b x y = ⟨0, 0, 110⟩), eV2 110) := by kernel_rfl
theorem eV2_tell {k : Int} {g : Int} {p : Bool} {u v : Sp} (h : g = k) (h0 : k ≠ 0) : tell (eV2 k) (sp2V g p u v) := by
 subst h
 have e : t1 g = true := by unfold t1; rw [bne0 h0]; rfl
 have e1 : ∀ z, tw1 g p z = 0 := fun z => by unfold tw1; rw [e]; rfl
 have e2 : twE g p = g := by unfold twE; rw [e]; rfl
 exact ⟨⟨⟨rfl, (e1 _).symm⟩, ⟨rfl, (e1 _).symm⟩, trivial⟩, ⟨⟨rfl, (e1 _).symm⟩, ⟨rfl, (e1 _).symm⟩, trivial⟩, ⟨rfl, e2.symm⟩, trivial⟩
theorem sp2V_tell {g : Int} {p : Bool} {u v : Sp} {S : AV} (h : sp2V g p u v = S) : tell (sp2V g p u v) S := by
 subst h
 exact ⟨⟨⟨rfl, rfl⟩, ⟨rfl, rfl⟩, trivial⟩, ⟨⟨rfl, rfl⟩, ⟨rfl, rfl⟩, trivial⟩, ⟨rfl, rfl⟩, trivial⟩
theorem pkz {s : Su} {ys : List Int} {n : Int} (hk : s.kd = 2) (h0 : s.a0 = 0 /\ s.a1 = 0 /\ s.a2 = 0 /\ s.a3 = 0) (ho : okF3 n ys) (hg : s.g.size < 1000000000) (h : rightS s ys = true) : pK { s with kd := 2, a0 := 0, a1 := 0, a2 := 0, a3 := 0 } n ys 2 := by
 have e : ({ s with kd := 2, a0 := 0, a1 := 0, a2 := 0, a3 := 0 } : Su) = s := by
  obtain ⟨h1, h2, h3, h4⟩ := h0
  cases s
  simp_all
 rw [e]
 exact ⟨ho, hg, h, hk⟩
theorem pk1 {s : Su} {ys : List Int} {n : Int} (hk : s.kd = 1) (ho : okF3 n ys) (hg : s.g.size < 1000000000) (h : rightS s ys = true) : pK { s with kd := 1 } n ys 1 := by rw [su_kd hk]; exact ⟨ho, hg, h, hk⟩
theorem slpG_ok : NOk Tryz.prog glob hG 120 (lSpec hG [.s suI .i64, .n sS, .n sS] (suV2 slpG)) := by
 refine su2_ok ⟨_, Tryz.func120, rfl⟩ fun s n ys a b x y hg ho => ?_
 cases hr : rightS s ys with
 | false =>
  have e : sagG s ys a b x y = ⟨0, 0, 110⟩ := by unfold sagG; rw [hr]; rfl
  exact ⟨cVe 110, s.cells (.int true .i64 s.kd), _, _, cVe_ok _, rfl, rfl, tell_kd ⟨rfl, rfl⟩, ul_e110 s n ys a b x y, rfl, ⟨ho, hg, e⟩, eV2_tell (by rw [e]) (by decide)⟩
 | true =>
  have bad : okXY a b x y = false -> s.kd ≠ 3 -> sagG s ys a b x y = ⟨0, 0, 20⟩ := fun h h3 => by unfold sagG; rw [hr, h, beq_eq_false_iff_ne.2 h3]; rfl
  have good : okXY a b x y = true -> s.kd ≠ 3 -> sagG s ys a b x y = sagK s a b x y := fun h h3 => by unfold sagG; rw [hr, h, beq_eq_false_iff_ne.2 h3]; rfl
  cases hx : okXY a b x y with
  | false =>
   by_cases h3 : s.kd = 3
   .have e : sagG s ys a b x y = ⟨0, 0, 5⟩ := by unfold sagG; rw [hr, h3]; rfl
    exact ⟨cVe 5, s.cells (.int true .i64 s.kd), _, _, cVe_ok _, rfl, rfl, tell_kd ⟨rfl, rfl⟩, ul_e5 s n ys a b x y, rfl, ⟨ho, hg, e⟩, eV2_tell (by rw [e]) (by decide)⟩
   .exact ⟨cVe 20, s.cells (.int true .i64 s.kd), _, _, cVe_ok _, rfl, rfl, tell_kd ⟨rfl, rfl⟩, ul_e20 s n ys a b x y, rfl, ⟨ho, hg, bad hx h3⟩, eV2_tell (by rw [bad hx h3]) (by decide)⟩
  | true =>
   have hh : okSp a b = true /\ okSp x y = true := by simpa [okXY] using hx
   rcases right_kd hr with hk | hk | hk | hk
   .have eg : sagG s ys a b x y = sagS s.c s.k s.a0 s.a1 s.a2 s.a3 a b x y := by rw [good hx (by omega)]; unfold sagK; rw [hk]; rfl
    have e : slpV s.c s.k s.a0 s.a1 s.a2 s.a3 a b x y = slpG s ys a b x y := by unfold slpG slpC slpU slpZ; rw [eg, hk]; rfl
    cases has : asp s.a0 s.a1 s.a2 s.a3 with
    | true => exact ⟨cV1 true, s.cells (.int false .i64 1), _, _, cV_ok sag1_ok _, rfl, rfl, tell_kd ⟨rfl, hk⟩, ul_1t s n ys a b x y, rfl, tcF_ok (pk1 hk ho hg hr) (right_std hr) hh.1 hh.2 has, sp2V_tell ((slpV_t (h := has) ..).trans e)⟩
    | false => exact ⟨cV1 false, s.cells (.int false .i64 1), _, _, cV_ok sag1_ok _, rfl, rfl, tell_kd ⟨rfl, hk⟩, ul_1f s n ys a b x y, rfl, teF_ok (pk1 hk ho hg hr) (right_std hr) hh.1 hh.2 has, sp2V_tell ((slpV_f (h := has) ..).trans e)⟩
   .have eg : sagG s ys a b x y = sagX s.c s.k s.l s.m a b x y := by rw [good hx (by omega)]; unfold sagK; rw [hk]; rfl
    have e : slpX s.c s.k s.l s.m a b x y = slpG s ys a b x y := by unfold slpG slpC slpU slpZ slpX; rw [eg, hk]; rfl
    exact ⟨cV2, s.cellsZ (.int false .i64 2), _, _, cV_ok sag2_ok _, rfl, rfl, tell_kz hk (right_noA hr hk), ul_2 s n ys a b x y, rfl, tdF_ok (pkz hk (right_noA hr hk) ho hg hr) (right_bic hr) hh.1 hh.2, sp2V_tell e⟩
   .have e : sagG s ys a b x y = ⟨0, 0, 5⟩ := by unfold sagG; rw [hr, hk]; rfl
    exact ⟨cVe 5, s.cells (.int true .i64 s.kd), _, _, cVe_ok _, rfl, rfl, tell_kd ⟨rfl, rfl⟩, ul_e5 s n ys a b x y, rfl, ⟨ho, hg, e⟩, eV2_tell (by rw [e]) (by decide)⟩
   .have eg : sagG s ys a b x y = ⟨0, 0, 0⟩ := by rw [good hx (by omega)]; unfold sagK; rw [hk]; rfl
    have e : slpG s ys a b x y = sp2V 0 true ⟨0, 0, 0⟩ ⟨0, 0, 0⟩ := by unfold slpG slpC slpU slpZ; rw [eg, hk]; rfl
    refine ⟨cVe 0, s.cells (.int false .i64 4), _, _, cVe_ok _, rfl, rfl, tell_kd ⟨rfl, hk⟩, ul_4 s n ys a b x y, rfl, ⟨ho, hg, by rw [su_kd hk]; exact eg⟩, ?_⟩
    rw [e]
    exact ⟨⟨⟨rfl, rfl⟩, ⟨rfl, rfl⟩, trivial⟩, ⟨⟨rfl, rfl⟩, ⟨rfl, rfl⟩, trivial⟩, ⟨rfl, rfl⟩, trivial⟩
end
end Go.Proofs.YtjmhddncomglmaaGreatDoor.K
namespace Go.Proofs.YtjmhddncomglmaaGreatDoor.K
open Go Go.Eng Go.Ar
noncomputable section
noncomputable def c0 : Ctx := mkC Tryz.prog [] ext
theorem c0_ok : CtxOk c0 := mkC_ok prog_ok (fun _ h => by cases h) ext_ok
noncomputable def c0u : Ctx := withUnroll c0 147 3
theorem c0u_ok : CtxOk c0u := withUnroll_ok c0_ok _ _
def ovFr : AFr := ⟨147, none⟩
noncomputable def ovA : Code := loopOf Tryz.prog 147 0
def ovS (a n d : Int) : St := ⟨[⟨0, .int true .u64 a⟩, ⟨0, .int true .u64 n⟩, ⟨0, .int true .u64 d⟩, ⟨0, .tuple []⟩, ⟨0, .tuple []⟩, ⟨0, .tuple []⟩, ⟨3, .int false .u64 0⟩, ⟨4, .bool false false⟩, ⟨5, .bool false false⟩, ⟨6, .int false .u64 0⟩, ⟨7, .int false .u64 0⟩, ⟨8, .int false .i64 63⟩] ++ blankT 37, [], ⟨[], 0, 9⟩⟩
def ovP (i q r : Int) : Patch := ⟨deadT 12 37 ++ [(9, .int true .u64 q), (10, .int true .u64 r), (11, .int true .i64 i)], [], []⟩
def ovU (a n d : Nat) : Sum (Int × Int × Int) :=
 {
  S := fun y => ovP y.1 y.2.1 y.2.2
  I := fun y => ∃ k : Nat, k <= 64 /\ a / 2 ^ k * n / d <= 4503599627370496 /\ y = ((k : Int) - 1, ((a / 2 ^ k * n / d : Nat) : Int), ((a / 2 ^ k * n % d : Nat) : Int))
  μ := fun y => (y.1 + 1).toNat
  F := fun y => ovF a n d (y.1 + 1).toNat y.1 y.2.1 y.2.2
  next := fun y => (IntKind.i64.wrap (y.1 - 1), ovQ a n d y.1 y.2.1 y.2.2, ovR a n d y.1 y.2.2)
  ids := []
  X := fun y x => match x with
   | .ret => some (ovRet, [])
   | _ => some (ovO y.2.1 y.2.2, []) }
def ovNd (a n d : Nat) (i q r : Int) : Prop :=
 (decide (i >= 0) = true -> (0 <= IntKind.u64.wrap i /\ (ovBit a i = true -> (d : Int) ≠ 0 /\ (d : Int) ≠ 0)) /\ (ovG1 a n d i r = true -> ovG2 a n d i r = true -> ovG3 a n d i r = true -> False)) /\
 ((!decide (i >= 0)) = true -> (q = q /\ r = r) /\ (ovU a n d).F (i, q, r) = (.exit 0, ovO q r)) /\
 ((decide (i >= 0) && !ovBig a n d i q r) = true -> (ovQ a n d i q r = ovQ a n d i q r /\ ovR a n d i r = ovR a n d i r /\ IntKind.i64.wrap (i - 1) = IntKind.i64.wrap (i - 1)) /\
  (ovU a n d).I ((ovU a n d).next (i, q, r)) /\ (ovU a n d).μ ((ovU a n d).next (i, q, r)) < (ovU a n d).μ (i, q, r) /\ (ovU a n d).F ((ovU a n d).next (i, q, r)) = (ovU a n d).F (i, q, r)) /\
 ((decide (i >= 0) && ovBig a n d i q r) = true -> (ovU a n d).F (i, q, r) = (.ret, ovRet))
theorem ov_run (a n d : Nat) (i q r : Int) : chkR (ovS a n d) ((ovU a n d).way (i, q, r)) ((run c0u 300).code ovFr ovA (patch (ovS a n d) ((ovU a n d).S (i, q, r)))) = some (.p (ovNd a n d i q r)) := by kernel_rfl
theorem ov_start (a n d : Nat) : fit (ovS a n d) (ovS a n d) (patch (ovS a n d) ((ovU a n d).S (63, 0, 0))) [] = some (.p ((0 : Int) = 0 /\ (0 : Int) = 0 /\ (63 : Int) = 63)) := by kernel_rfl
theorem ov_nd (a n d : Nat) (ha : a < 18446744073709551616) (hn : n <= 4611686018427387904) (hd : 1 <= d) (hd' : d <= 4611686018427387904) (y : Int × Int × Int) (hy : (ovU a n d).I y) : ovNd a n d y.1 y.2.1 y.2.2 := by
 obtain ⟨k, hk, hq, rfl⟩ := hy
 cases k with
 | zero =>
  have e0 : decide ((((0 : Nat) : Int) - 1) >= 0) = false := by decide
  refine ⟨fun h => ?_, fun _ => ⟨⟨rfl, rfl⟩, rfl⟩, fun h => ?_, fun h => ?_⟩
  .rw [show ((0 : Nat) : Int) - 1 = -1 from rfl] at h; cases h
  .simp only [e0, Bool.false_and] at h; cases h
  .simp only [e0, Bool.false_and] at h; cases h
 | succ k =>
  obtain ⟨s1, s2, s3, s4⟩ := ov_step a n d k ha hn hd hd' (by omega) hq
  have e : ((k + 1 : Nat) : Int) - 1 = (k : Int) := by omega
  have et : ((k : Int) + 1).toNat = k + 1 := by omega
  simp only [e]
  have ew : IntKind.i64.wrap ((k : Int) - 1) = (k : Int) - 1 := i64w (by omega) (by omega)
  refine ⟨fun _ => ⟨⟨s3, fun _ => ⟨by omega, by omega⟩⟩, s4⟩, fun h => ?_, fun h => ⟨⟨rfl, rfl, rfl⟩, ?_, ?_, ?_⟩, fun h => ?_⟩
  .rw [decide_eq_true (by omega)] at h; cases h
  .simp only [Bool.and_eq_true, Bool.not_eq_true'] at h
   have h2 := h.2
   unfold ovBig at h2
   rw [s1] at h2
   have h2 := of_decide_eq_false h2
   refine ⟨k, by omega, by omega, ?_⟩
   show (IntKind.i64.wrap ((k : Int) - 1), _, _) = _
   rw [ew, s1, s2]
  .show (IntKind.i64.wrap ((k : Int) - 1) + 1).toNat < ((k : Int) + 1).toNat
   rw [ew]; omega
  .simp only [Bool.and_eq_true, Bool.not_eq_true'] at h
   show ovF a n d (IntKind.i64.wrap ((k : Int) - 1) + 1).toNat (IntKind.i64.wrap ((k : Int) - 1)) _ _ = ovF a n d ((k : Int) + 1).toNat k _ _
   rw [et, ovF, h.2, cond_false, ew, show ((k : Int) - 1 + 1).toNat = k by omega]
   rfl
  .simp only [Bool.and_eq_true] at h
   show ovF a n d ((k : Int) + 1).toNat k _ _ = _
   rw [et, ovF, h.2, cond_true]
def ovFits (a n d : Nat) : Bool := decide (a * n / d <= 4503599627370496)
theorem ov_loop (a n d : Nat) (ha : a < 18446744073709551616) (hn : n <= 4611686018427387904) (hd : 1 <= d) (hd' : d <= 4611686018427387904) :
  CodeOk c0 ovFr (.loop ovA) (ovS a n d) ⟨.tt, [⟨.b (ovFits a n d), .exit 0, patch (ovS a n d) (ovO ((a * n / d : Nat) : Int) ((a * n % d : Nat) : Int))⟩, ⟨.b (!ovFits a n d), .ret, patch (ovS a n d) ovRet⟩]⟩ := by
 have z : a / 2 ^ 64 = 0 := Nat.div_eq_of_lt ha
 have hF : (ovU a n d).F (63, 0, 0) = bif ovFits a n d then (.exit 0, ovO ((a * n / d : Nat) : Int) ((a * n % d : Nat) : Int)) else (.ret, ovRet) := by
  have := ov_spec a n d ha hn hd hd' 64 (by decide) (by rw [z]; simp)
  rw [z] at this
  simp only [Nat.zero_mul, Nat.zero_div, Nat.zero_mod] at this
  exact this
 have h0 : oldsOk (ovS a n d).hp ((ovU a n d).S (63, 0, 0)).old = true := by kernel_rfl
 have h1 : (ovU a n d).I (63, 0, 0) := ⟨64, by decide, by rw [z]; simp, by rw [z]; simp⟩
 exact sum_two (run_sound c0u_ok 300) (ovU a n d) h1 ⟨_, ov_start a n d, rfl, rfl, rfl⟩ h0 (fun y hy => ⟨_, ov_run a n d y.1 y.2.1 y.2.2, ov_nd a n d ha hn hd hd' y hy⟩) hF
noncomputable def c0o (a n d : Nat) : Ctx := withLoops c0 [twoLoop 147 9 ovFr ovA (ovS a n d) (ovFits a n d) (.exit 0) (ovO ((a * n / d : Nat) : Int) ((a * n % d : Nat) : Int)) .ret ovRet]
theorem c0o_ok (a n d : Nat) (ha : a < 18446744073709551616) (hn : n <= 4611686018427387904) (hd : 1 <= d) (hd' : d <= 4611686018427387904) : CtxOk (c0o a n d) := withTwo_ok c0_ok (ov_loop a n d ha hn hd hd') (withNone_ok c0_ok)
def ovAt (a n d : Nat) : Prop := At ovFr ovFr ovA ovA (ovS a n d) (ovS a n d)
theorem over_run (a n d : Nat) : oneV ((run (c0o a n d) 300).call 147 [.int true .u64 a, .int true .u64 n, .int true .u64 d] ⟨[], 0, 1⟩) = some (.p (ovAt a n d),
  .tuple [.int true .u64 (bif !ovFits a n d then 0 else ((a * n / d : Nat) : Int)), .bool true (bif !ovFits a n d then false else decide (((a * n % d : Nat) : Int) > 0)), .bool true (bif !ovFits a n d then false else true)]) := by kernel_rfl
theorem over_ok : PureOk Tryz.prog 147 sOver := by
 refine num_ok (fun xs hk hN => ?_) ⟨_, Tryz.func147, rfl⟩
 obtain ⟨a, _, rfl, h1⟩ := kn hk; obtain ⟨n, _, rfl, h2⟩ := kn h1; obtain ⟨d, _, rfl, h3⟩ := kn h2; obtain rfl := k0 h3
 obtain ⟨p1, p2, p3, p4, p5, p6⟩ := of_decide_eq_true hN
 obtain ⟨a, rfl⟩ := Int.eq_ofNat_of_zero_le p1
 obtain ⟨n, rfl⟩ := Int.eq_ofNat_of_zero_le p3
 obtain ⟨d, rfl⟩ := Int.eq_ofNat_of_zero_le (show 0 <= d by omega)
 have e1 : (a : Int) * n / d = ((a * n / d : Nat) : Int) := by rw [Int.natCast_ediv, Int.natCast_mul]
 have e2 : (a : Int) * n % d = ((a * n % d : Nat) : Int) := by rw [Int.natCast_emod, Int.natCast_mul]
 have e3 : ovFit a n d = ovFits a n d := by unfold ovFit ovFits; rw [e1, Bool.eq_iff_iff, decide_eq_true_eq, decide_eq_true_eq]; generalize a * n / d = q; omega
 refine ⟨c0o a n d, 300, .p (ovAt a n d), c0o_ok a n d (by omega) (by omega) (by omega) (by omega), rfl, fun _ => rfl, rfl, (over_run a n d).trans ?_, ⟨rfl, rfl, rfl⟩⟩
 rw [<- e1, <- e2, <- e3]
 rfl
end
end Go.Proofs.YtjmhddncomglmaaGreatDoor.K
namespace Go.Proofs.YtjmhddncomglmaaGreatDoor.K
open Go Go.Eng Go.Ar
noncomputable section
noncomputable def tbl4 : List (FuncId × PSpec) := [(147, sOver)]
theorem tbl4_ok : TblOk Tryz.prog tbl4 := by
 intro x hx
 simp only [tbl4, List.mem_cons, List.not_mem_nil, or_false] at hx
 subst hx
 exact over_ok
noncomputable def c4 : Ctx := mkC Tryz.prog tbl4 ext
theorem c4_ok : CtxOk c4 := mkC_ok prog_ok tbl4_ok ext_ok
def ovIn (l : List Nu) : Prop := (match l with
 | [.n a, .n n, .n d] => decide (0 <= a /\ a < 18446744073709551616 /\ 0 <= n /\ n <= 4611686018427387904 /\ 1 <= d /\ d <= 4611686018427387904)
 | _ => false) = true
theorem rmulD_run (a b : Int) : oneV ((run c4 300).call 105 [.int true .i64 a, .int true .i64 b, .bool false false] ⟨[], 0, 1⟩) = some (.tt, .tuple [.int true .i64 (rMulV a b false), .bool true (rMulB a b false)]) := by kernel_rfl
theorem rmulU_run (a b : Int) : oneV ((run c4 300).call 105 [.int true .i64 a, .int true .i64 b, .bool false true] ⟨[], 0, 1⟩) = some (.tt, .tuple [.int true .i64 (rMulV a b true), .bool true (rMulB a b true)]) := by kernel_rfl
theorem rdivD_run (a b : Int) : oneV ((run c4 300).call 127 [.int true .i64 a, .int true .i64 b, .bool false false] ⟨[], 0, 1⟩) = some (.p (ovIn [.n 4294967296, .n (xSz a), .n (xSz b)]), .tuple [.int true .i64 (oV (4294967296 * xSz a) (xSz b) false (xNeg a b)), .bool true (oB (4294967296 * xSz a) (xSz b) false (xNeg a b))]) := by kernel_rfl
theorem rdivU_run (a b : Int) : oneV ((run c4 300).call 127 [.int true .i64 a, .int true .i64 b, .bool false true] ⟨[], 0, 1⟩) = some (.p (ovIn [.n 4294967296, .n (xSz a), .n (xSz b)]), .tuple [.int true .i64 (oV (4294967296 * xSz a) (xSz b) true (xNeg a b)), .bool true (oB (4294967296 * xSz a) (xSz b) true (xNeg a b))]) := by kernel_rfl
def rScN (a n d : Int) : Prop := (!rOkS a n d) = true -> ovIn [.n (xSz a), .n (xSz n), .n (IntKind.u64.wrap d)]
theorem rscD_run (a n d : Int) : oneV ((run c4 300).call 107 [.int true .i64 a, .int true .i64 n, .int true .i64 d] ⟨[], 0, 1⟩) = some (.p (rScN a n d), .tuple [.int true .i64 (rScV a n d false), .int true .i64 (rScE a n d false)]) := by kernel_rfl
theorem rscU_run (a n d : Int) : oneV ((run c4 300).call 108 [.int true .i64 a, .int true .i64 n, .int true .i64 d] ⟨[], 0, 1⟩) = some (.p (rScN a n d), .tuple [.int true .i64 (rScV a n d true), .int true .i64 (rScE a n d true)]) := by kernel_rfl
theorem ovIn_of {a n d : Int} (h : 0 <= a /\ a < 18446744073709551616 /\ 0 <= n /\ n <= 4611686018427387904 /\ 1 <= d /\ d <= 4611686018427387904) : ovIn [.n a, .n n, .n d] := decide_eq_true h
theorem rScN_all (a n d : Int) : rScN a n d := by
 intro h
 rw [rOkS_eq, Bool.not_not] at h
 simp only [okS, Bool.and_eq_true, decide_eq_true_eq] at h
 obtain ⟨ha, ⟨⟨n1, n2⟩, d1⟩, d2⟩ := h
 obtain ⟨a1, a2, a3⟩ := sz_of ha
 have e1 : xSz n = sg n n := xSz_eq (by omega) (by omega)
 have e2 := sg_cases n
 rw [a1, e1, u64w (n := d) (by omega) (by omega)]
 exact ovIn_of ⟨by omega, by omega, by omega, by omega, by omega, by omega⟩
theorem rmulD_ok : PureOk Tryz.prog 105 (sRMul false) := by
 refine num_ok (fun xs hk hN => ?_) ⟨_, Tryz.func105, rfl⟩
 obtain ⟨a, _, rfl, h1⟩ := kn hk; obtain ⟨b, _, rfl, h2⟩ := kn h1; obtain rfl := k0 h2
 have hN : (okF a && okF b) = true := hN
 simp only [Bool.and_eq_true] at hN
 obtain ⟨l1, l2⟩ := rMul_law hN.1 hN.2 false
 exact ⟨c4, 300, _, c4_ok, rfl, fun _ => rfl, rfl, (rmulD_run a b).trans (by rw [l1, l2]; rfl), trivial⟩
theorem rmulU_ok : PureOk Tryz.prog 105 (sRMul true) := by
 refine num_ok (fun xs hk hN => ?_) ⟨_, Tryz.func105, rfl⟩
 obtain ⟨a, _, rfl, h1⟩ := kn hk; obtain ⟨b, _, rfl, h2⟩ := kn h1; obtain rfl := k0 h2
 have hN : (okF a && okF b) = true := hN
 simp only [Bool.and_eq_true] at hN
 obtain ⟨l1, l2⟩ := rMul_law hN.1 hN.2 true
 exact ⟨c4, 300, _, c4_ok, rfl, fun _ => rfl, rfl, (rmulU_run a b).trans (by rw [l1, l2]; rfl), trivial⟩
theorem rdiv_in {a b : Int} (ha : okF a = true) (hb : okF b = true) (h0 : b ≠ 0) : ovIn [.n 4294967296, .n (xSz a), .n (xSz b)] := by
 obtain ⟨a1, a2, a3⟩ := sz_of ha
 obtain ⟨b1, b2, b3⟩ := sz_of hb
 have := sg_cases b
 rw [a1, b1]
 exact ovIn_of ⟨by omega, by omega, by omega, by omega, by omega, by omega⟩
theorem rdivD_ok : PureOk Tryz.prog 127 (sRDiv false) := by
 refine num_ok (fun xs hk hN => ?_) ⟨_, Tryz.func127, rfl⟩
 obtain ⟨a, _, rfl, h1⟩ := kn hk; obtain ⟨b, _, rfl, h2⟩ := kn h1; obtain rfl := k0 h2
 have hN : (okF a && (okF b && !(b == 0))) = true := hN
 simp only [Bool.and_eq_true, Bool.not_eq_true', beq_eq_false_iff_ne] at hN
 obtain ⟨l1, l2⟩ := rDiv_law hN.1 hN.2.1 hN.2.2 false
 rw [rDivV] at l1; rw [rDivB] at l2
 exact ⟨c4, 300, .p _, c4_ok, rfl, fun _ => rfl, rfl, (rdivD_run a b).trans (by rw [l1, l2]; rfl), rdiv_in hN.1 hN.2.1 hN.2.2⟩
theorem rdivU_ok : PureOk Tryz.prog 127 (sRDiv true) := by
 refine num_ok (fun xs hk hN => ?_) ⟨_, Tryz.func127, rfl⟩
 obtain ⟨a, _, rfl, h1⟩ := kn hk; obtain ⟨b, _, rfl, h2⟩ := kn h1; obtain rfl := k0 h2
 have hN : (okF a && (okF b && !(b == 0))) = true := hN
 simp only [Bool.and_eq_true, Bool.not_eq_true', beq_eq_false_iff_ne] at hN
 obtain ⟨l1, l2⟩ := rDiv_law hN.1 hN.2.1 hN.2.2 true
 rw [rDivV] at l1; rw [rDivB] at l2
 exact ⟨c4, 300, .p _, c4_ok, rfl, fun _ => rfl, rfl, (rdivU_run a b).trans (by rw [l1, l2]; rfl), rdiv_in hN.1 hN.2.1 hN.2.2⟩
theorem rscD_ok : PureOk Tryz.prog 107 (sRScale false) := by
 refine num_ok (fun xs hk _ => ?_) ⟨_, Tryz.func107, rfl⟩
 obtain ⟨a, _, rfl, h1⟩ := kn hk; obtain ⟨n, _, rfl, h2⟩ := kn h1; obtain ⟨d, _, rfl, h3⟩ := kn h2; obtain rfl := k0 h3
 obtain ⟨l1, l2⟩ := rSc_law a n d false
 exact ⟨c4, 300, .p _, c4_ok, rfl, fun _ => rfl, rfl, (rscD_run a n d).trans (by rw [l1, l2]; rfl), rScN_all a n d⟩
theorem rscU_ok : PureOk Tryz.prog 108 (sRScale true) := by
 refine num_ok (fun xs hk _ => ?_) ⟨_, Tryz.func108, rfl⟩
 obtain ⟨a, _, rfl, h1⟩ := kn hk; obtain ⟨n, _, rfl, h2⟩ := kn h1; obtain ⟨d, _, rfl, h3⟩ := kn h2; obtain rfl := k0 h3
 obtain ⟨l1, l2⟩ := rSc_law a n d true
 exact ⟨c4, 300, .p _, c4_ok, rfl, fun _ => rfl, rfl, (rscU_run a n d).trans (by rw [l1, l2]; rfl), rScN_all a n d⟩
def rsFr : AFr := ⟨129, none⟩
noncomputable def rsA : Code := loopOf Tryz.prog 129 0
def rsS (up : Bool) (a : Int) : St := ⟨[⟨0, .int true .i64 a⟩, ⟨0, .bool false up⟩, ⟨0, .tuple []⟩, ⟨0, .tuple []⟩, ⟨3, .int false .i64 0⟩, ⟨4, .int false .i64 0⟩, ⟨5, .int false .i64 0⟩, ⟨6, .int false .i64 42⟩] ++ blankT 42, [], ⟨[], 0, 7⟩⟩
def rsP (i root rest : Int) : Patch := ⟨deadT 8 42 ++ [(5, .int true .i64 root), (6, .int true .i64 rest), (7, .int true .i64 i)], [], []⟩
def rsU (a : Int) : Sum (Int × Int × Int) :=
 {
  S := fun y => rsP y.1 y.2.1 y.2.2
  I := fun y => -1 <= y.1 /\ y.1 <= 42
  μ := fun y => (y.1 + 1).toNat
  F := fun y => (.exit 0, rsO (rsF a (y.1 + 1).toNat y.1 y.2.1 y.2.2).1 (rsF a (y.1 + 1).toNat y.1 y.2.1 y.2.2).2)
  next := fun y => (IntKind.i64.wrap (y.1 - 1), rsRoot a y.1 y.2.1 y.2.2, rsRest a y.1 y.2.1 y.2.2)
  ids := []
  X := fun y _ => some (rsO y.2.1 y.2.2, []) }
def rsNd (a i root rest : Int) : Prop :=
 (decide (i >= 0) = true -> decide (IntKind.i64.wrap (2 * i) >= 32) = true -> 0 <= IntKind.u64.wrap (IntKind.i64.wrap (IntKind.i64.wrap (2 * i) - 32))) /\
 ((!decide (i >= 0)) = true -> (root = root /\ rest = rest) /\ (rsU a).F (i, root, rest) = (.exit 0, rsO root rest)) /\
 (decide (i >= 0) = true -> (rsRoot a i root rest = rsRoot a i root rest /\ rsRest a i root rest = rsRest a i root rest /\ IntKind.i64.wrap (i - 1) = IntKind.i64.wrap (i - 1)) /\
  (rsU a).I ((rsU a).next (i, root, rest)) /\ (rsU a).μ ((rsU a).next (i, root, rest)) < (rsU a).μ (i, root, rest) /\ (rsU a).F ((rsU a).next (i, root, rest)) = (rsU a).F (i, root, rest))
theorem rs_run (up : Bool) (a i root rest : Int) : chkR (rsS up a) ((rsU a).way (i, root, rest)) ((run c0 300).code rsFr rsA (patch (rsS up a) ((rsU a).S (i, root, rest)))) = some (.p (rsNd a i root rest)) := by kernel_rfl
theorem rs_start (up : Bool) (a : Int) : fit (rsS up a) (rsS up a) (patch (rsS up a) ((rsU a).S (42, 0, 0))) [] = some (.p ((0 : Int) = 0 /\ (0 : Int) = 0 /\ (42 : Int) = 42)) := by kernel_rfl
theorem rs_nd (a i root rest : Int) (h : -1 <= i /\ i <= 42) : rsNd a i root rest := by
 refine ⟨fun _ _ => (u64_range _).1, fun hi => ⟨⟨rfl, rfl⟩, ?_⟩, fun hi => ⟨⟨rfl, rfl, rfl⟩, ?_⟩⟩
 .have : i = -1 := by simp at hi; omega
  subst this
  rfl
 .have hi := of_decide_eq_true hi
  have e : IntKind.i64.wrap (i - 1) = i - 1 := i64w (by omega) (by omega)
  have e2 : (i + 1).toNat = (i - 1 + 1).toNat + 1 := by omega
  refine ⟨?_, ?_, ?_⟩
  .show -1 <= IntKind.i64.wrap (i - 1) /\ IntKind.i64.wrap (i - 1) <= 42
   rw [e]; omega
  .show (IntKind.i64.wrap (i - 1) + 1).toNat < (i + 1).toNat
   rw [e]; omega
  .show (Ex.exit 0, rsO (rsF a (IntKind.i64.wrap (i - 1) + 1).toNat (IntKind.i64.wrap (i - 1)) (rsRoot a i root rest) (rsRest a i root rest)).1 (rsF a (IntKind.i64.wrap (i - 1) + 1).toNat (IntKind.i64.wrap (i - 1)) (rsRoot a i root rest) (rsRest a i root rest)).2) = (Ex.exit 0, rsO (rsF a (i + 1).toNat i root rest).1 (rsF a (i + 1).toNat i root rest).2)
   rw [e2, rsF, e]
theorem rs_loop (up : Bool) (a : Int) : CodeOk c0 rsFr (.loop rsA) (rsS up a) ⟨.tt, [⟨.tt, .exit 0, patch (rsS up a) (rsO (rsF a 43 42 0 0).1 (rsF a 43 42 0 0).2)⟩]⟩ := by
 have hF : (rsU a).F (42, 0, 0) = (.exit 0, rsO (rsF a 43 42 0 0).1 (rsF a 43 42 0 0).2) := by
  show (Ex.exit 0, rsO (rsF a ((42 : Int) + 1).toNat 42 0 0).1 (rsF a ((42 : Int) + 1).toNat 42 0 0).2) = _
  rw [show ((42 : Int) + 1).toNat = 43 from by decide]
 have h0 : oldsOk (rsS up a).hp ((rsU a).S (42, 0, 0)).old = true := by kernel_rfl
 have h1 : (rsU a).I (42, 0, 0) := ⟨by decide, by decide⟩
 exact sum_one (run_sound c0_ok 300) (rsU a) h1 ⟨_, rs_start up a, rfl, rfl, rfl⟩ h0 (fun y hy => ⟨_, rs_run up a y.1 y.2.1 y.2.2, rs_nd a y.1 y.2.1 y.2.2 hy⟩) hF
noncomputable def c0s (up : Bool) (a : Int) : Ctx := withLoops c0 [oneLoop 129 7 rsFr rsA (rsS up a) (.exit 0) (rsO (rsF a 43 42 0 0).1 (rsF a 43 42 0 0).2)]
theorem c0s_ok (up : Bool) (a : Int) : CtxOk (c0s up a) := withLoop_ok c0_ok (rs_loop up a) (withNone_ok c0_ok)
def rsAt (up : Bool) (a : Int) : Prop := At rsFr rsFr rsA rsA (rsS up a) (rsS up a)
theorem rsqrtD_run (a : Int) : oneV ((run (c0s false a) 300).call 129 [.int true .i64 a, .bool false false] ⟨[], 0, 1⟩) = some (.p (rsAt false a), .int true .i64 (rsV a false)) := by kernel_rfl
theorem rsqrtU_run (a : Int) : oneV ((run (c0s true a) 300).call 129 [.int true .i64 a, .bool false true] ⟨[], 0, 1⟩) = some (.p (rsAt true a), .int true .i64 (rsV a true)) := by kernel_rfl
theorem rsqrtD_ok : PureOk Tryz.prog 129 (sRSqrt false) := by
 refine num_ok (fun xs hk hN => ?_) ⟨_, Tryz.func129, rfl⟩
 obtain ⟨a, _, rfl, h1⟩ := kn hk; obtain rfl := k0 h1
 exact ⟨c0s false a, 300, .p (rsAt false a), c0s_ok false a, rfl, fun _ => rfl, rfl, (rsqrtD_run a).trans (by rw [rs_law hN]; rfl), ⟨rfl, rfl, rfl⟩⟩
theorem rsqrtU_ok : PureOk Tryz.prog 129 (sRSqrt true) := by
 refine num_ok (fun xs hk hN => ?_) ⟨_, Tryz.func129, rfl⟩
 obtain ⟨a, _, rfl, h1⟩ := kn hk; obtain rfl := k0 h1
 exact ⟨c0s true a, 300, .p (rsAt true a), c0s_ok true a, rfl, fun _ => rfl, rfl, (rsqrtU_run a).trans (by rw [rs_law hN]; rfl), ⟨rfl, rfl, rfl⟩⟩
end
end Go.Proofs.YtjmhddncomglmaaGreatDoor.K
namespace Go.Proofs.YtjmhddncomglmaaGreatDoor.K
open Go Go.Eng Go.Ar
noncomputable section
noncomputable def tbl5 : List (FuncId × PSpec) := [(105, orS (sRMul false) (sRMul true)), (127, orS (sRDiv false) (sRDiv true)), (107, sRScale false), (108, sRScale true), (129, orS (sRSqrt false) (sRSqrt true))]
theorem tbl5_ok : TblOk Tryz.prog tbl5 := by
 intro x hx
 simp only [tbl5, List.mem_cons, List.not_mem_nil, or_false] at hx
 rcases hx with rfl | rfl | rfl | rfl | rfl
 .exact orS_ok rmulD_ok rmulU_ok
 .exact orS_ok rdivD_ok rdivU_ok
 .exact rscD_ok
 .exact rscU_ok
 .exact orS_ok rsqrtD_ok rsqrtU_ok
end
end Go.Proofs.YtjmhddncomglmaaGreatDoor.K
namespace Go.Proofs.YtjmhddncomglmaaGreatDoor.K
open Go Go.Eng Go.Ar
noncomputable section
def hintB (b : Bool) : Option AV := match b with
 | true => some (.bool false true)
 | false => some (.bool false false)
def pwH (K S : Nat) (c d : Nat) : Option AV := match Nat.beq d 5 with
 | true => match Nat.ble 19 c && Nat.blt c (32 + 12 * K) with
  | true => hintB (Nat.blt c (21 + 12 * K))
  | false => match Nat.ble S c && Nat.blt c (S + 12 + 12 * K) with
   | true => hintB (Nat.blt c (S + 2 + 12 * K))
   | false => none
 | false => none
noncomputable def cPw (K : Nat) : Ctx := { c0 with hint := pwH K (79 + 50 * K) }
theorem cPw_ok (K : Nat) : CtxOk (cPw K) := ⟨c0_ok.prog, c0_ok.con, c0_ok.ext, c0_ok.loop, c0_ok.two⟩
def ndD : Nat -> Int -> Prop
 | 0, v => decide (v > 0) = false
 | k + 1, v => decide (v > 0) = true /\ ndD k (IntKind.i64.wrap (v.tdiv 65536))
theorem pwD0 (v : Int) : oneV ((run (cPw 0) 900).call 181 [.int true .i64 v, .int false .i64 2, .bool false false] ⟨[], 0, 1⟩) = some (.p (ndD 0 v /\ ndD 0 v), .tuple [.int false .i64 0, .bool false true]) := by kernel_rfl
theorem pwD1 (v : Int) : oneV ((run (cPw 1) 900).call 181 [.int true .i64 v, .int false .i64 2, .bool false false] ⟨[], 0, 1⟩) = some (.p (ndD 1 v /\ ndD 1 v), .tuple [.int true .i64 (outP 1 v false), .bool true (decide (outP 1 v false <= 4503599627370496))]) := by kernel_rfl
theorem pwD2 (v : Int) : oneV ((run (cPw 2) 900).call 181 [.int true .i64 v, .int false .i64 2, .bool false false] ⟨[], 0, 1⟩) = some (.p (ndD 2 v /\ ndD 2 v), .tuple [.int true .i64 (bif fitP 2 v then outP 2 v false else 0), .bool true (bif fitP 2 v then decide (outP 2 v false <= 4503599627370496) else false)]) := by kernel_rfl
theorem pwD3 (v : Int) : oneV ((run (cPw 3) 900).call 181 [.int true .i64 v, .int false .i64 2, .bool false false] ⟨[], 0, 1⟩) = some (.p (ndD 3 v /\ ndD 3 v), .tuple [.int true .i64 (bif fitP 3 v then outP 3 v false else 0), .bool true (bif fitP 3 v then decide (outP 3 v false <= 4503599627370496) else false)]) := by kernel_rfl
theorem pwD4 (v : Int) : oneV ((run (cPw 4) 900).call 181 [.int true .i64 v, .int false .i64 2, .bool false false] ⟨[], 0, 1⟩) = some (.p (ndD 4 v /\ ndD 4 v), .tuple [.int true .i64 (bif fitP 4 v then outP 4 v false else 0), .bool true (bif fitP 4 v then decide (outP 4 v false <= 4503599627370496) else false)]) := by kernel_rfl
theorem pwU0 (v : Int) : oneV ((run (cPw 0) 900).call 181 [.int true .i64 v, .int false .i64 2, .bool false true] ⟨[], 0, 1⟩) = some (.p (ndD 0 v /\ ndD 0 v), .tuple [.int false .i64 0, .bool false true]) := by kernel_rfl
theorem pwU1 (v : Int) : oneV ((run (cPw 1) 900).call 181 [.int true .i64 v, .int false .i64 2, .bool false true] ⟨[], 0, 1⟩) = some (.p (ndD 1 v /\ ndD 1 v), .tuple [.int true .i64 (outP 1 v true), .bool true (decide (outP 1 v true <= 4503599627370496))]) := by kernel_rfl
theorem pwU2 (v : Int) : oneV ((run (cPw 2) 900).call 181 [.int true .i64 v, .int false .i64 2, .bool false true] ⟨[], 0, 1⟩) = some (.p (ndD 2 v /\ ndD 2 v), .tuple [.int true .i64 (bif fitP 2 v then outP 2 v true else 0), .bool true (bif fitP 2 v then decide (outP 2 v true <= 4503599627370496) else false)]) := by kernel_rfl
theorem pwU3 (v : Int) : oneV ((run (cPw 3) 900).call 181 [.int true .i64 v, .int false .i64 2, .bool false true] ⟨[], 0, 1⟩) = some (.p (ndD 3 v /\ ndD 3 v), .tuple [.int true .i64 (bif fitP 3 v then outP 3 v true else 0), .bool true (bif fitP 3 v then decide (outP 3 v true <= 4503599627370496) else false)]) := by kernel_rfl
theorem pwU4 (v : Int) : oneV ((run (cPw 4) 900).call 181 [.int true .i64 v, .int false .i64 2, .bool false true] ⟨[], 0, 1⟩) = some (.p (ndD 4 v /\ ndD 4 v), .tuple [.int true .i64 (bif fitP 4 v then outP 4 v true else 0), .bool true (bif fitP 4 v then decide (outP 4 v true <= 4503599627370496) else false)]) := by kernel_rfl
theorem nd0 {v : Int} (h : v = 0) : ndD 0 v := by subst h; rfl
theorem ndS {k : Nat} {v : Int} (h0 : 0 < v) (hb : v <= 4503599627370496) (h : ndD k (v / 65536)) : ndD (k + 1) v := by
 refine ⟨decide_eq_true h0, ?_⟩
 rw [Int.tdiv_eq_ediv_of_nonneg (by omega), i64w (by omega) (by omega)]
 exact h
theorem pick (v : Int) (h0 : 0 <= v) (ho : okF v = true) : 0 <= v /\
  ((ndD 0 v /\ True /\ (∀ up, pV v up = 0) /\ (∀ up, pB v up = true)) ∨
   (ndD 1 v /\ (∀ up, outP 1 v up = pV v up) /\ (∀ up, decide (pV v up <= 4503599627370496) = pB v up)) ∨
   (ndD 2 v /\ (∀ up, (bif fitP 2 v then outP 2 v up else 0) = pV v up) /\ (∀ up, (bif fitP 2 v then decide (outP 2 v up <= 4503599627370496) else false) = pB v up)) ∨
   (ndD 3 v /\ (∀ up, (bif fitP 3 v then outP 3 v up else 0) = pV v up) /\ (∀ up, (bif fitP 3 v then decide (outP 3 v up <= 4503599627370496) else false) = pB v up)) ∨
   (ndD 4 v /\ (∀ up, (bif fitP 4 v then outP 4 v up else 0) = pV v up) /\ (∀ up, (bif fitP 4 v then decide (outP 4 v up <= 4503599627370496) else false) = pB v up))) := by
 have hb := (okF_iff.1 ho).2
 refine ⟨h0, ?_⟩
 have big : ∀ k, 2 <= k -> v < 65536 ^ k -> (∀ up, (bif fitP k v then outP k v up else 0) = pV v up) /\ (∀ up, (bif fitP k v then decide (outP k v up <= 4503599627370496) else false) = pB v up) := by
  intro k hk h1
  obtain ⟨t, r, e, _, g, _, o⟩ := pw_core k (by omega) v h0 hb h1
  have hf : fitP k v = !pEarly v := by unfold fitP; rw [e]; exact g hk
  rw [hf]
  refine ⟨fun up => ?_, fun up => ?_⟩
  .unfold pV
   cases he : pEarly v with
   | true => rfl
   | false => rw [o he]; rfl
  .unfold pB
   cases he : pEarly v with
   | true => rfl
   | false => rw [o he]; rfl
 by_cases c0 : v = 0
 .subst c0
  exact .inl ⟨nd0 rfl, trivial, fun up => by cases up <;> rfl, fun up => by cases up <;> rfl⟩
 .by_cases c1 : v < 65536
  .obtain ⟨t, r, e, _, _, g, o⟩ := pw_core 1 (by omega) v h0 hb (by rw [Int.pow_one]; exact c1)
   obtain ⟨he, _⟩ := g rfl
   refine .inr (.inl ⟨ndS (by omega) hb (nd0 (by omega)), fun up => ?_, fun up => ?_⟩)
   .rw [o he]; unfold pV; rw [he]; rfl
   .unfold pV pB; rw [he]; rfl
  .by_cases c2 : v < 4294967296
   .exact .inr (.inr (.inl ⟨ndS (by omega) hb (ndS (by omega) (by omega) (nd0 (by omega))), big 2 (by decide) (by rw [show (65536 : Int) ^ 2 = 4294967296 by decide]; exact c2)⟩))
   .by_cases c3 : v < 281474976710656
    .exact .inr (.inr (.inr (.inl ⟨ndS (by omega) hb (ndS (by omega) (by omega) (ndS (by omega) (by omega) (nd0 (by omega)))), big 3 (by decide) (by rw [show (65536 : Int) ^ 3 = 281474976710656 by decide]; exact c3)⟩)))
    .exact .inr (.inr (.inr (.inr ⟨ndS (by omega) hb (ndS (by omega) (by omega) (ndS (by omega) (by omega) (ndS (by omega) (by omega) (nd0 (by omega))))), big 4 (by decide) (by rw [show (65536 : Int) ^ 4 = 18446744073709551616 by decide]; omega)⟩)))
def two' (x : Int) (b : Bool) : AV := .tuple [.int true .i64 x, .bool true b]
theorem rpowD_ok : PureOk Tryz.prog 181 (sRPow false) := by
 refine num_ok' (fun xs hk hN => ?_) ⟨_, Tryz.func181, rfl⟩
 obtain ⟨v, _, rfl, h1⟩ := kn hk; obtain rfl := k0 h1
 have hN : (decide (0 <= v) && okF v) = true := hN
 simp only [Bool.and_eq_true, decide_eq_true_eq] at hN
 obtain ⟨k1, k2⟩ := pick v hN.1 hN.2
 rcases k2 with ⟨e, r1, r2⟩ | ⟨e, r1, r2⟩ | ⟨e, r1, r2⟩ | ⟨e, r1, r2⟩ | ⟨e, r1, r2⟩
 .exact ⟨cPw 0, 900, .p (ndD 0 v /\ ndD 0 v), .tuple [.int false .i64 0, .bool false true], cPw_ok 0, rfl, fun _ => rfl, rfl, pwD0 v, ⟨e, e⟩, fun τ W h => by show VRel τ (two' _ _) W; rw [show (two' (pV v false) (pB v false)) = two' 0 true by rw [r2.1 false, r2.2 false]]; exact h⟩
 .exact ⟨cPw 1, 900, .p (ndD 1 v /\ ndD 1 v), two' (pV v false) (pB v false), cPw_ok 1, rfl, fun _ => rfl, rfl, (pwD1 v).trans (by rw [r1 false, r2 false]; rfl), ⟨e, e⟩, fun τ W h => h⟩
 .exact ⟨cPw 2, 900, .p (ndD 2 v /\ ndD 2 v), two' (pV v false) (pB v false), cPw_ok 2, rfl, fun _ => rfl, rfl, (pwD2 v).trans (by rw [r1 false, r2 false]; rfl), ⟨e, e⟩, fun τ W h => h⟩
 .exact ⟨cPw 3, 900, .p (ndD 3 v /\ ndD 3 v), two' (pV v false) (pB v false), cPw_ok 3, rfl, fun _ => rfl, rfl, (pwD3 v).trans (by rw [r1 false, r2 false]; rfl), ⟨e, e⟩, fun τ W h => h⟩
 .exact ⟨cPw 4, 900, .p (ndD 4 v /\ ndD 4 v), two' (pV v false) (pB v false), cPw_ok 4, rfl, fun _ => rfl, rfl, (pwD4 v).trans (by rw [r1 false, r2 false]; rfl), ⟨e, e⟩, fun τ W h => h⟩
theorem rpowU_ok : PureOk Tryz.prog 181 (sRPow true) := by
 refine num_ok' (fun xs hk hN => ?_) ⟨_, Tryz.func181, rfl⟩
 obtain ⟨v, _, rfl, h1⟩ := kn hk; obtain rfl := k0 h1
 have hN : (decide (0 <= v) && okF v) = true := hN
 simp only [Bool.and_eq_true, decide_eq_true_eq] at hN
 obtain ⟨k1, k2⟩ := pick v hN.1 hN.2
 rcases k2 with ⟨e, r1, r2⟩ | ⟨e, r1, r2⟩ | ⟨e, r1, r2⟩ | ⟨e, r1, r2⟩ | ⟨e, r1, r2⟩
 .exact ⟨cPw 0, 900, .p (ndD 0 v /\ ndD 0 v), .tuple [.int false .i64 0, .bool false true], cPw_ok 0, rfl, fun _ => rfl, rfl, pwU0 v, ⟨e, e⟩, fun τ W h => by show VRel τ (two' _ _) W; rw [show (two' (pV v true) (pB v true)) = two' 0 true by rw [r2.1 true, r2.2 true]]; exact h⟩
 .exact ⟨cPw 1, 900, .p (ndD 1 v /\ ndD 1 v), two' (pV v true) (pB v true), cPw_ok 1, rfl, fun _ => rfl, rfl, (pwU1 v).trans (by rw [r1 true, r2 true]; rfl), ⟨e, e⟩, fun τ W h => h⟩
 .exact ⟨cPw 2, 900, .p (ndD 2 v /\ ndD 2 v), two' (pV v true) (pB v true), cPw_ok 2, rfl, fun _ => rfl, rfl, (pwU2 v).trans (by rw [r1 true, r2 true]; rfl), ⟨e, e⟩, fun τ W h => h⟩
 .exact ⟨cPw 3, 900, .p (ndD 3 v /\ ndD 3 v), two' (pV v true) (pB v true), cPw_ok 3, rfl, fun _ => rfl, rfl, (pwU3 v).trans (by rw [r1 true, r2 true]; rfl), ⟨e, e⟩, fun τ W h => h⟩
 .exact ⟨cPw 4, 900, .p (ndD 4 v /\ ndD 4 v), two' (pV v true) (pB v true), cPw_ok 4, rfl, fun _ => rfl, rfl, (pwU4 v).trans (by rw [r1 true, r2 true]; rfl), ⟨e, e⟩, fun τ W h => h⟩
end
end Go.Proofs.YtjmhddncomglmaaGreatDoor.K
namespace Go.Proofs.YtjmhddncomglmaaGreatDoor.K
open Go Go.Eng Go.Ar
noncomputable section
noncomputable def tbl6 : List (FuncId × PSpec) := (181, orS (sRPow false) (sRPow true)) :: tbl5
theorem tbl6_ok : TblOk Tryz.prog tbl6 := fun x hx => by
 rcases List.mem_cons.1 hx with rfl | hx
 .exact orS_ok rpowD_ok rpowU_ok
 .exact tbl5_ok x hx
noncomputable def c6 : Ctx := mkC Tryz.prog tbl6 ext
theorem c6_ok : CtxOk c6 := mkC_ok prog_ok tbl6_ok ext_ok
end
end Go.Proofs.YtjmhddncomglmaaGreatDoor.K
namespace Go.Ar
open Go Go.Eng
theorem scE_eq {x n d : Int} (hx : okF x = true) (up : Bool) : scaleE x n d up = bif okR n d then fitE (rd (x * n) d up) else 2 := by
 unfold scaleE okS okR; rw [hx]; rfl
theorem scV_eq {x n d : Int} (hx : okF x = true) (up : Bool) : scaleV x n d up = bif okR n d then fitV (rd (x * n) d up) else 0 := by
 unfold scaleV okS okR; rw [hx]; rfl
theorem rd_mn {x y d : Int} (hd : 0 < d) : rd (mn x y) d false = mn (rd x d false) (rd y d false) := by
 have m := mn_le x y
 have k := mn_le (rd x d false) (rd y d false)
 by_cases h : y < x
 .have e : mn x y = y := by unfold mn; rw [decide_eq_true h]; rfl
  have := rd_lt_rd hd (Int.le_of_lt h) false
  rw [e]; omega
 .have e : mn x y = x := by unfold mn; rw [decide_eq_false h]; rfl
  have := rd_lt_rd hd (show x <= y by omega) false
  rw [e]; omega
theorem rd_mx {x y d : Int} (hd : 0 < d) : rd (mx x y) d true = mx (rd x d true) (rd y d true) := by
 have m := le_mx x y
 have k := le_mx (rd x d true) (rd y d true)
 by_cases h : x < y
 .have e : mx x y = y := by unfold mx; rw [decide_eq_true h]; rfl
  have := rd_lt_rd hd (Int.le_of_lt h) true
  rw [e]; omega
 .have e : mx x y = x := by unfold mx; rw [decide_eq_false h]; rfl
  have := rd_lt_rd hd (show y <= x by omega) true
  rw [e]; omega
theorem fitE_beq (v : Int) : (fitE v == 0) = okF v /\ (fitE v == 2) = false := by
 unfold fitE; cases okF v <;> exact ⟨rfl, rfl⟩
theorem rScaleS_eq (a b n d : Int) : rScaleS a b n d = scaleS a b n d := by
 unfold rScaleS scaleS
 rw [rR_eq]
 cases h : okSp a b with
 | false => simp [err]
 | true =>
  obtain ⟨ha, hb⟩ := okF_of_sp h
  unfold rSc3 rScBad rScL rScH
  rw [scE_eq ha, scE_eq ha, scE_eq hb, scE_eq hb, scV_eq ha, scV_eq ha, scV_eq hb, scV_eq hb]
  cases hr : okR n d with
  | false => simp [err]
  | true =>
   simp only [okR, Bool.and_eq_true, decide_eq_true_eq] at hr
   obtain ⟨⟨⟨n1, n2⟩, d1⟩, d2⟩ := hr
   have hd : 0 < d := by omega
   simp only [cond_true, Bool.not_true, cond_false]
   rw [(fitE_beq _).2, (fitE_beq _).1, (fitE_beq _).1, (fitE_beq _).1, (fitE_beq _).1, rd_mn hd, rd_mx hd]
   have o1 := rd_le (a * n) d hd
   have o2 := rd_le (b * n) d hd
   generalize rd (a * n) d false = A0 at *
   generalize rd (a * n) d true = A1 at *
   generalize rd (b * n) d false = B0 at *
   generalize rd (b * n) d true = B1 at *
   have m := mn_le A0 B0
   have k := le_mx A1 B1
   by_cases hall : okF A0 = true /\ okF B0 = true /\ okF A1 = true /\ okF B1 = true
   .obtain ⟨f1, f2, f3, f4⟩ := hall
    rw [fitV_ok f1, fitV_ok f2, fitV_ok f3, fitV_ok f4, ifmn_eq, ifmx_eq, rR_told (by omega), f1, f2, f3, f4]
    have g1 := okF_iff.1 f1; have g2 := okF_iff.1 f2; have g3 := okF_iff.1 f3; have g4 := okF_iff.1 f4
    have l : okF (mn A0 B0) = true := okF_iff.2 (by omega)
    have u : okF (mx A1 B1) = true := okF_iff.2 (by omega)
    unfold toldS
    rw [l, u]; rfl
   .have hbad : (okF (mn A0 B0) && okF (mx A1 B1)) = false := by
     cases hh : (okF (mn A0 B0) && okF (mx A1 B1)) with
     | false => rfl
     | true =>
      simp only [Bool.and_eq_true, okF_iff] at hh
      exact absurd ⟨okF_iff.2 (by omega), okF_iff.2 (by omega), okF_iff.2 (by omega), okF_iff.2 (by omega)⟩ hall
    unfold toldS
    rw [hbad]
    cases f1 : okF A0 <;> cases f2 : okF B0 <;> cases f3 : okF A1 <;> cases f4 : okF B1 <;> first | rfl | exact absurd ⟨f1, f2, f3, f4⟩ hall
end Go.Ar
namespace Go.Ar
open Go Go.Eng
end Go.Ar
namespace Go.Proofs.YtjmhddncomglmaaGreatDoor.K
open Go Go.Eng Go.Ar
noncomputable section
theorem rsc_run (a b n d : Int) : oneV ((run c6 300).call 68 [.agg [.int true .i64 a, .int true .i64 b], .int true .i64 n, .int true .i64 d] ⟨[], 0, 1⟩) = some (.tt, (outS (rScaleS a b n d)).av true) := by kernel_rfl
theorem rsc_ok : PureOk Tryz.prog 68 (sSc scaleS) := by
 refine num_ok (fun xs hk _ => ?_) ⟨_, Tryz.func68, rfl⟩
 obtain ⟨a, _, rfl, h1⟩ := kn hk; obtain ⟨b, _, rfl, h2⟩ := kn h1; obtain ⟨n, _, rfl, h3⟩ := kn h2; obtain ⟨d, _, rfl, h4⟩ := kn h3; obtain rfl := k0 h4
 exact ⟨c6, 300, _, c6_ok, rfl, fun _ => rfl, rfl, (rsc_run a b n d).trans (by rw [rScaleS_eq]), trivial⟩
end
end Go.Proofs.YtjmhddncomglmaaGreatDoor.K
namespace Go.Proofs.YtjmhddncomglmaaGreatDoor.K
open Go Go.Eng Go.Ar Go.Rd
noncomputable section
end
end Go.Proofs.YtjmhddncomglmaaGreatDoor.K
namespace Go.Rd
open Go Go.Eng Go.Ar
section
variable (a0 b0 a1 b1 a2 b2 a3 b3 x y : Int)
end
end Go.Rd
namespace Go.Proofs.YtjmhddncomglmaaGreatDoor.K
open Go Go.Eng Go.Ar Go.Rd
noncomputable section
end
end Go.Proofs.YtjmhddncomglmaaGreatDoor.K
namespace Go.Proofs.YtjmhddncomglmaaGreatDoor.K
open Go Go.Eng Go.Ar Go.Rd
noncomputable section
end
end Go.Proofs.YtjmhddncomglmaaGreatDoor.K
namespace Go.Rd
open Go Go.Eng Go.Ar
def vs (s : Sp) : Sp := ⟨s.lo, s.hi, 0⟩
def badS : Sp := ⟨1, 0, 0⟩
structure Reg (r : Sp) (c : Bool) (s : Sp) : Prop where
 eq : r = bif c then vs s else badS
 ri : c = true -> Ri s
theorem Reg.t {r s : Sp} {c : Bool} (h : Reg r c s) (hc : c = true) : r.lo = s.lo /\ r.hi = s.hi /\ Ri s := by
 have e := h.eq
 rw [hc] at e
 subst e
 exact ⟨rfl, rfl, h.ri hc⟩
theorem Reg.f {r s : Sp} {c : Bool} (h : Reg r c s) (hc : c = false) : r = badS := by
 have e := h.eq
 rw [hc] at e
 exact e
theorem Reg.cases {r s : Sp} {c : Bool} (h : Reg r c s) : (c = true /\ r.lo = s.lo /\ r.hi = s.hi /\ Ri s) ∨ (c = false /\ r = badS) := by
 cases c with
 | true => exact .inl ⟨rfl, h.t rfl⟩
 | false => exact .inr ⟨rfl, h.f rfl⟩
theorem Reg.to {r s t : Sp} {c : Bool} (h : Reg r c s) (e : c = true -> s.lo = t.lo /\ s.hi = t.hi) : Reg r c t := by
 rcases h.cases with ⟨rfl, h1, h2, h3⟩ | ⟨rfl, rfl⟩
 .obtain ⟨e1, e2⟩ := e rfl
  refine ⟨?_, fun _ => ⟨by rw [<- e1]; exact h3.lo, by rw [<- e1, <- e2]; exact h3.le, by rw [<- e2]; exact h3.hi⟩⟩
  have := h.eq
  rw [this]
  show vs s = vs t
  unfold vs
  rw [e1, e2]
 .exact ⟨rfl, fun h => by cases h⟩
end Go.Rd
namespace Go.Rd
open Go Go.Eng Go.Ar
section
variable (c k a0 a1 a2 a3 a b x y : Int)
end
section
variable {c k a0 a1 a2 a3 a b x y : Int} (hc : inL c) (hk : inK k) (hx : okSp a b = true) (hy : okSp x y = true)
variable (i0 : inL a0) (i1 : inL a1) (i2 : inL a2) (i3 : inL a3)
end
section
variable (c k l m a b x y : Int)
end
section
variable {c k l m a b x y : Int} (hc : inL c) (hk : inK k) (hl : inL l) (hm : inK m) (hx : okSp a b = true) (hy : okSp x y = true)
end
end Go.Rd
namespace Go.Proofs.YtjmhddncomglmaaGreatDoor.K
open Go Go.Eng Go.Ar Go.Rd
noncomputable section
end
end Go.Proofs.YtjmhddncomglmaaGreatDoor.K
namespace Go.Proofs.YtjmhddncomglmaaGreatDoor.K
open Go Go.Eng Go.Ar Go.Rd
noncomputable section
end
end Go.Proofs.YtjmhddncomglmaaGreatDoor.K
namespace Go.Rd
open Go Go.Eng Go.Ar
section
variable (c k a0 a1 a2 a3 a b x y : Int)
end
section
variable {c k a0 a1 a2 a3 a b x y : Int} (hc : inL c) (hk : inK k) (hx : okSp a b = true) (hy : okSp x y = true) (i0 : inL a0) (i1 : inL a1) (i2 : inL a2) (i3 : inL a3) (f : BaseF c k a b x y)
variable (u : z0 (u0 c k a b x y) = true)
end
section
variable {c k a0 a1 a2 a3 a b x y : Int} (hc : inL c) (hk : inK k) (hx : okSp a b = true) (hy : okSp x y = true) (i0 : inL a0) (i1 : inL a1) (i2 : inL a2) (i3 : inL a3)
end
section
variable (c k l m a b x y : Int)
end
section
variable {c k l m a b x y : Int} (hc : inL c) (hk : inK k) (hl : inL l) (hm : inK m) (hx : okSp a b = true) (hy : okSp x y = true) (f : BaseX c k l m a b x y)
end
section
variable {c k l m a b x y : Int} (hc : inL c) (hk : inK k) (hl : inL l) (hm : inK m) (hx : okSp a b = true) (hy : okSp x y = true)
end
end Go.Rd
namespace Go.Proofs.YtjmhddncomglmaaGreatDoor.K
open Go Go.Eng Go.Ar Go.Rd
noncomputable section
end
end Go.Proofs.YtjmhddncomglmaaGreatDoor.K
namespace Go.Proofs.YtjmhddncomglmaaGreatDoor.K
open Go Go.Eng Go.Ar Go.Rd Go.Vc
noncomputable section
theorem sneg_run (a b : Int) : oneV ((run c2 300).call 80 [.agg [.int true .i64 a, .int true .i64 b]] ⟨[], 0, 1⟩) = some (.tt, (outS (xNegS a b)).av true) := by kernel_rfl
theorem sneg_ok : PureOk Tryz.prog 80 (sUn negS) := by
 refine num_ok (fun xs hk _ => ?_) ⟨_, Tryz.func80, rfl⟩
 obtain ⟨a, _, rfl, h1⟩ := kn hk; obtain ⟨b, _, rfl, h2⟩ := kn h1; obtain rfl := k0 h2
 exact ⟨c2, 300, _, c2_ok, rfl, fun _ => rfl, rfl, (sneg_run a b).trans (by rw [xNegS_eq]), trivial⟩
def ckVF (F : VF) : PSpec := numSpec [shS] none fun
 | [.n a, .n b] => .n .i64 (F.ck a b)
 | _ => .u []
def tblVeP (F : VF) : List (FuncId × PSpec) := [(54, sBin F.ad), (114, sBin F.su), (90, sBin F.mu), (89, sBin F.di), (113, sUn F.sq), (79, sUn F.rt), (80, sUn F.ng), (111, ckVF F)]
theorem tblVeP_ok : TblOk Tryz.prog (tblVeP vf0) := by
 intro x hx
 simp only [tblVeP, List.mem_cons, List.not_mem_nil, or_false] at hx
 rcases hx with rfl | rfl | rfl | rfl | rfl | rfl | rfl | rfl
 .exact sadd_ok
 .exact ssub_ok
 .exact smul_ok
 .exact sdiv_ok
 .exact ssqr_ok
 .exact ssqrt_ok
 .exact sneg_ok
 .exact schk_ok
noncomputable def cVeP (F : VF) : Ctx := mkC Tryz.prog (tblVeP F) ext
theorem cVeP_ok : CtxOk (cVeP vf0) := mkC_ok prog_ok tblVeP_ok ext_ok
theorem vchk_run (F : VF) (v : Ve) : oneV ((run (cVeP F) 3000).call 46 [.agg v.cells] ⟨[], 0, 1⟩) = some (.p (uZ v = true -> (v.a = v.a /\ v.b = v.b) /\ (v.c = v.c /\ v.d = v.d) /\ v.e = v.e /\ v.f = v.f), (Tm.n .i64 (vC0 F v)).av true) := by kernel_rfl
end
end Go.Proofs.YtjmhddncomglmaaGreatDoor.K
namespace Go.Ht
open Go Go.Eng Go.Ar Go.Rd Go.Vc
inductive Tri (k b2 b5 : Bool) : Prop where
 | ok (h : k = true) (h2 : b2 = false) (h5 : b5 = false)
 | two (h : k = false) (h2 : b2 = true) (h5 : b5 = false)
 | five (h : k = false) (h2 : b2 = false) (h5 : b5 = true)
theorem tri_op (s : Sp) : (∃ v, op s = .ok v /\ v = ⟨s.lo, s.hi⟩ /\ ok0 s = true /\ bd q2 s = false /\ bd q6 s = false) ∨ (op s = .error 2 /\ ok0 s = false /\ bd q2 s = true /\ bd q6 s = false) ∨ (op s = .error 5 /\ ok0 s = false /\ bd q2 s = false /\ bd q6 s = true) := by
 unfold op ok0 bd q2 q6 why
 cases h : s.e == 0 with
 | true => exact .inl ⟨_, rfl, rfl, rfl, rfl, rfl⟩
 | false => cases h6 : s.e == 6 with
  | true => exact .inr (.inr ⟨rfl, rfl, rfl, rfl⟩)
  | false => exact .inr (.inl ⟨rfl, rfl, rfl, rfl⟩)
section
variable (F : HF) (S : Su) (ys : List Int) (p w : Ve) (t : Iv)
theorem tri_to (x y : Int) : (toP F p w ⟨x, y⟩ = .ok ⟨(p2 F p w x y).lo, (p2 F p w x y).hi, (p4 F p w x y).lo, (p4 F p w x y).hi, (p5 F p w x y).lo, (p5 F p w x y).hi⟩ /\ ptOk F p w x y = true /\ ptBad F p w q2 x y = false /\ ptBad F p w q6 x y = false) ∨
  (toP F p w ⟨x, y⟩ = .error 2 /\ ptOk F p w x y = false /\ ptBad F p w q2 x y = true /\ ptBad F p w q6 x y = false) ∨ (toP F p w ⟨x, y⟩ = .error 5 /\ ptOk F p w x y = false /\ ptBad F p w q2 x y = false /\ ptBad F p w q6 x y = true) := by
 unfold toP ptOk ptBad ptO ptB
 simp only [mul, add, bind, Except.bind, pure, Except.pure]
 rcases tri_op (F.mu x y w.a w.b) with ⟨v1, a1, rfl, a2, a3, a4⟩ | ⟨a1, a2, a3, a4⟩ | ⟨a1, a2, a3, a4⟩
 .rw [a1]; simp only []
  rcases tri_op (F.ad p.a p.b (F.mu x y w.a w.b).lo (F.mu x y w.a w.b).hi) with ⟨v2, b1, rfl, b2, b3, b4⟩ | ⟨b1, b2, b3, b4⟩ | ⟨b1, b2, b3, b4⟩
  .rw [b1]; simp only []
   rcases tri_op (F.mu x y w.c w.d) with ⟨v3, c1, rfl, c2, c3, c4⟩ | ⟨c1, c2, c3, c4⟩ | ⟨c1, c2, c3, c4⟩
   .rw [c1]; simp only []
    rcases tri_op (F.ad p.c p.d (F.mu x y w.c w.d).lo (F.mu x y w.c w.d).hi) with ⟨v4, d1, rfl, d2, d3, d4⟩ | ⟨d1, d2, d3, d4⟩ | ⟨d1, d2, d3, d4⟩
    .rw [d1]; simp only []
     rcases tri_op (F.mu x y w.e w.f) with ⟨v5, e1, rfl, e2, e3, e4⟩ | ⟨e1, e2, e3, e4⟩ | ⟨e1, e2, e3, e4⟩ <;>
     .rw [e1]; simp [p1, p2, p3, p4, p5, a2, a3, a4, b2, b3, b4, c2, c3, c4, d2, d3, d4, e2, e3, e4]
    all_goals (rw [d1]; simp [p1, p2, p3, p4, p5, a2, a3, a4, b2, b3, b4, c2, c3, c4, d2, d3, d4])
   all_goals (rw [c1]; simp [p1, p2, p3, p4, p5, a2, a3, a4, b2, b3, b4, c2, c3, c4])
  all_goals (rw [b1]; simp [p1, p2, p3, p4, p5, a2, a3, a4, b2, b3, b4])
 all_goals (rw [a1]; simp [p1, p2, p3, p4, p5, a2, a3, a4])
theorem bne_not {a b : Int} (h : (a == b) = true) : (a != b) = false := by rw [bne, h]; rfl
theorem bne_not' {a b : Int} (h : (a == b) = false) : (a != b) = true := by rw [bne, h]; rfl
theorem near_tri : (near F S ys p w t = .ok ⟨(nR F S ys p w t).lo, (nR F S ys p w t).hi⟩ /\ nC2 F S ys p w t = false /\ nC5 F S ys p w t = false) ∨ (near F S ys p w t = .error 2 /\ nC2 F S ys p w t = true) ∨ (near F S ys p w t = .error 5 /\ nC2 F S ys p w t = false /\ nC5 F S ys p w t = true) := by
 unfold near nC2 nC5 nC
 simp only [mul, sub, div, bind, Except.bind]
 rcases tri_op (F.md t.lo t.hi) with ⟨v0, m1, rfl, m2, m3, m4⟩ | ⟨m1, m2, m3, m4⟩ | ⟨m1, m2, m3, m4⟩
 .rw [m1]; simp only []
  have hu : (F.md t.lo t.hi).lo = nU F t := rfl
  rw [hu]
  rcases tri_to F p w (nU F t) (nU F t) with ⟨a1, a2, a3, a4⟩ | ⟨a1, a2, a3, a4⟩ | ⟨a1, a2, a3, a4⟩
  .rw [a1]; simp only []
   rcases tri_to F p w t.lo t.hi with ⟨b1, b2, b3, b4⟩ | ⟨b1, b2, b3, b4⟩ | ⟨b1, b2, b3, b4⟩
   .rw [show toP F p w t = _ from b1]; simp only []
    rcases tri_op (nZ F S ys p w t) with ⟨v3, c1, rfl, c2, c3, c4⟩ | ⟨c1, c2, c3, c4⟩ | ⟨c1, c2, c3, c4⟩
    .rw [show op (F.sg S ys _ _ _ _) = _ from c1]; simp only []
     rcases tri_op (nE F S ys p w t) with ⟨v4, d1, rfl, d2, d3, d4⟩ | ⟨d1, d2, d3, d4⟩ | ⟨d1, d2, d3, d4⟩
     .rw [show op (F.su (p5 F p w (nU F t) (nU F t)).lo _ _ _) = _ from d1]; simp only []
      have hv : ∀ i, F.sl S ys (p2 F p w t.lo t.hi).lo (p2 F p w t.lo t.hi).hi (p4 F p w t.lo t.hi).lo (p4 F p w t.lo t.hi).hi i = nV F S ys p w t i := fun _ => rfl
      simp only [hv]
      cases hs : nV F S ys p w t 4 == 0 with
      | false => simp [m2, a2, a3, a4, b2, b3, b4, c2, c3, c4, d2, d3, d4, bne_not' hs]
      | true =>
       simp only [cond_true, bne_not hs, Bool.not_false, Bool.true_and, Bool.false_or]
       rcases tri_op (nX F S ys p w t) with ⟨v5, e1, rfl, e2, e3, e4⟩ | ⟨e1, e2, e3, e4⟩ | ⟨e1, e2, e3, e4⟩
       .rw [show op (F.mu (nV F S ys p w t 0) _ _ _) = _ from e1]; simp only []
        rcases tri_op (nD1 F S ys p w t) with ⟨v6, f1, rfl, f2, f3, f4⟩ | ⟨f1, f2, f3, f4⟩ | ⟨f1, f2, f3, f4⟩
        .rw [show op (F.su w.e w.f _ _) = _ from f1]; simp only []
         rcases tri_op (nY F S ys p w t) with ⟨v7, g1, rfl, g2, g3, g4⟩ | ⟨g1, g2, g3, g4⟩ | ⟨g1, g2, g3, g4⟩
         .rw [show op (F.mu (nV F S ys p w t 2) _ _ _) = _ from g1]; simp only []
          rcases tri_op (nD F S ys p w t) with ⟨v8, h1, rfl, h2, h3, h4⟩ | ⟨h1, h2, h3, h4⟩ | ⟨h1, h2, h3, h4⟩
          .rw [show op (F.su (nD1 F S ys p w t).lo _ _ _) = _ from h1]; simp only []
           rcases tri_op (nQ F S ys p w t) with ⟨v9, i1, rfl, i2, i3, i4⟩ | ⟨i1, i2, i3, i4⟩ | ⟨i1, i2, i3, i4⟩
           .rw [show op (F.di _ _ _ _) = _ from i1]; simp only []
            rcases tri_op (nR F S ys p w t) with ⟨v9, j1, rfl, j2, j3, j4⟩ | ⟨j1, j2, j3, j4⟩ | ⟨j1, j2, j3, j4⟩ <;>
            .rw [show op (F.su (nU F t) (nU F t) _ _) = _ from j1]; simp [m2, a2, a3, a4, b2, b3, b4, c2, c3, c4, d2, d3, d4, e2, e3, e4, f2, f3, f4, g2, g3, g4, h2, h3, h4, i2, i3, i4, j2, j3, j4]
           all_goals (rw [show op (F.di _ _ _ _) = _ from i1]; simp [m2, a2, a3, a4, b2, b3, b4, c2, c3, c4, d2, d3, d4, e2, e3, e4, f2, f3, f4, g2, g3, g4, h2, h3, h4, i2, i3, i4])
          all_goals (rw [show op (F.su (nD1 F S ys p w t).lo _ _ _) = _ from h1]; simp [m2, a2, a3, a4, b2, b3, b4, c2, c3, c4, d2, d3, d4, e2, e3, e4, f2, f3, f4, g2, g3, g4, h2, h3, h4])
         all_goals (rw [show op (F.mu (nV F S ys p w t 2) _ _ _) = _ from g1]; simp [m2, a2, a3, a4, b2, b3, b4, c2, c3, c4, d2, d3, d4, e2, e3, e4, f2, f3, f4, g2, g3, g4])
        all_goals (rw [show op (F.su w.e w.f _ _) = _ from f1]; simp [m2, a2, a3, a4, b2, b3, b4, c2, c3, c4, d2, d3, d4, e2, e3, e4, f2, f3, f4])
       all_goals (rw [show op (F.mu (nV F S ys p w t 0) _ _ _) = _ from e1]; simp [m2, a2, a3, a4, b2, b3, b4, c2, c3, c4, d2, d3, d4, e2, e3, e4])
     all_goals (rw [show op (F.su (p5 F p w (nU F t) (nU F t)).lo _ _ _) = _ from d1]; simp [m2, a2, a3, a4, b2, b3, b4, c2, c3, c4, d2, d3, d4])
    all_goals (rw [show op (F.sg S ys _ _ _ _) = _ from c1]; simp [m2, a2, a3, a4, b2, b3, b4, c2, c3, c4])
   all_goals (rw [show toP F p w t = _ from b1]; simp [m2, a2, a3, a4, b2, b3, b4])
  all_goals (rw [a1]; simp [m2, a2, a3, a4])
 all_goals (rw [m1]; simp [m2, m3, m4, bd] at *; simp [m2, m3, m4])
def tryI : Except Int Iv -> Iv
 | .ok v => v
 | .error _ => ⟨0, 0⟩
def tryC : Except Int Iv -> Int
 | .ok _ => 0
 | .error c => c
def tryV (r : Except Int Iv) : AV := .tuple [.agg [.int true .i64 (tryI r).lo, .int true .i64 (tryI r).hi], .int true .i64 (tryC r)]
theorem nAv_eq : nAv F S ys p w t = tryV (near F S ys p w t) := by
 unfold nAv
 rcases near_tri F S ys p w t with ⟨h1, h2, h3⟩ | ⟨h1, h2⟩ | ⟨h1, h2, h3⟩
 .rw [h1, h2, h3]; rfl
 .rw [h1, h2]; rfl
 .rw [h1, h2, h3]; rfl
end
end Go.Ht
namespace Go.Proofs.YtjmhddncomglmaaGreatDoor.K
open Go Go.Eng Go.Ar Go.Rd Go.Vc Go.Ht
noncomputable section
theorem vchk_ok : PureOk Tryz.prog 46 (vcHF hf0) := by
 refine num_ok (fun xs hk _ => ?_) ⟨_, Tryz.func46, rfl⟩
 obtain ⟨a, _, rfl, h1⟩ := kn hk; obtain ⟨b, _, rfl, h2⟩ := kn h1; obtain ⟨c, _, rfl, h3⟩ := kn h2; obtain ⟨d, _, rfl, h4⟩ := kn h3; obtain ⟨e, _, rfl, h5⟩ := kn h4; obtain ⟨f, _, rfl, h6⟩ := kn h5; obtain rfl := k0 h6
 exact ⟨cVeP vf0, 3000, _, cVeP_ok, rfl, fun _ => rfl, rfl, vchk_run vf0 ⟨a, b, c, d, e, f⟩, fun _ => ⟨⟨rfl, rfl⟩, ⟨rfl, rfl⟩, rfl, rfl⟩⟩
theorem sscP_ok : PureOk Tryz.prog 112 (sScP scaleS) := by
 refine ⟨sscale_ok.fn, fun args nd v e hn σ A W hA cs => ?_⟩
 unfold sScP at e
 split at e
 .rename_i s a b n d hr
  cases e
  have hn : okSq a b n d := hn
  exact sscale_ok.run args .tt ((outS (scaleS a b n d)).av s) (by unfold sSc numSpec; rw [hr]; simp only [xScaleS_eq a b n d hn]) trivial σ A W hA cs
 .cases e
theorem slHF_0 : slHF hf0 = slpG := by kernel_rfl
theorem sgHF_0 : sgHF hf0 = sagA' := by kernel_rfl
theorem tblHtO_g : ∀ x ∈ tblHtO hf0, NOk Tryz.prog glob hG x.1 x.2 := by
 intro x hx
 simp only [tblHtO, List.mem_cons, List.not_mem_nil, or_false] at hx
 rcases hx with rfl | rfl | rfl | rfl | rfl | rfl | rfl | rfl | rfl | rfl
 .exact ((sneg_ok.g _ _).h).n
 .exact ((sadd_ok.g _ _).h).n
 .exact ((ssub_ok.g _ _).h).n
 .exact ((smul_ok.g _ _).h).n
 .exact ((sdiv_ok.g _ _).h).n
 .exact ((sscP_ok.g _ _).h).n
 .exact ((ssqr_ok.g _ _).h).n
 .exact ((ssqrt_ok.g _ _).h).n
 .exact ((smid_ok.g _ _).h).n
 .exact ((smeet_ok.g _ _).h).n
theorem tblHtP_g (b : Bool) : ∀ x ∈ tblHtP hf0 b, NOk Tryz.prog glob hG x.1 x.2 := fun x hx => by
 simp only [tblHtP, slHF_0, sgHF_0, List.mem_cons] at hx
 rcases hx with rfl | rfl | rfl | rfl | hx
 .cases b
  .exact chkC_ok rfl
  .exact chkC_ok rfl
 .exact sagG_ok
 .exact slpG_ok
 .exact ((vchk_ok.g _ _).h).n
 .exact tblHtO_g x hx
theorem cHtP_ok (b : Bool) : CtxOk (cHtP hf0 b) := mkN_ok prog_ok ext_ok (tblHtP_g b) fun _ h => by cases h
def solOf : List Nu -> Option (Ve × Ve × Su)
 | .n a :: .n b :: .n c :: .n d :: .n e :: .n f :: .n g :: .n h :: .n i :: .n j :: .n k :: .n l :: r => match suOf r with
  | some s => some (⟨a, b, c, d, e, f⟩, ⟨g, h, i, j, k, l⟩, s)
  | none => none
 | _ => none
def veN (v : Ve) : List Nu := [.n v.a, .n v.b, .n v.c, .n v.d, .n v.e, .n v.f]
theorem solOf_eq {xs : List Nu} {p w : Ve} {s : Su} (h : solOf xs = some (p, w, s)) : xs = veN p ++ (veN w ++ s.nus) := by
 unfold solOf at h
 split at h
 .split at h
  .rename_i hs
   cases h
   rw [suOf_eq hs]; rfl
  .cases h
 .cases h
def attV (F : HF) : List Nu -> Int -> List Int -> List (List Nu) -> Option (Prop × AV) := fun xs n ys ts => match solOf xs with
 | some (p, w, s) => match ts with
  | [[.n a, .n b]] => some (okF3 n ys /\ s.g.size < 1000000000, tryV (near F s ys p w ⟨a, b⟩))
  | _ => none
 | none => none
theorem sol_under (p w : Ve) (s : Su) : AV.underL hG.size (Sh.mkL solI (veN p ++ (veN w ++ s.nus))).1 = true := by kernel_rfl
abbrev bxT : List (List Sh) := [[.i .i64, .i .i64]]
theorem two_under (a b : Int) : boxesU hG.size bxT [[.n a, .n b]] = true := by kernel_rfl
theorem heap_eq (p w : Ve) (s : Su) (n : Int) (ys : List Int) (a b : Int) : heapB hG solI .i64 bxT (veN p ++ (veN w ++ s.nus)) n ys [[.n a, .n b]] = (((viewsH true hG [(.i64, ys)]).push0 (.cells (p.cells ++ (w.cells ++ (s.cells (.int true .i64 s.kd) ++ [.lslice hG.size n]))))).push0 (.cells [.ptr (hG.size + 1) 0])).push0 (.cells [.int true .i64 a, .int true .i64 b]) := by kernel_rfl
theorem try_num (r : Except Int Iv) : (tryV r).num = true := rfl
theorem try_tell (r : Except Int Iv) : tell (tryV r) (tryV r) := ⟨⟨⟨rfl, rfl⟩, ⟨rfl, rfl⟩, trivial⟩, ⟨rfl, rfl⟩, trivial⟩
def attS (F : HF) : NSpec := bSpec hG 85 solI .i64 bxT (attV F)
theorem att_ok : NOk Tryz.prog glob hG 83 (attS hf0) := by
 refine bsp_ok hG_ok hG_plain glob_lt (fun xs n ys ts p v e hp => ?_) ⟨_, Tryz.func83, rfl⟩
 unfold attV at e
 split at e
 .rename_i P w s hs
  split at e
  .rename_i a b
   cases e
   obtain rfl := solOf_eq hs
   refine ⟨fun h => ?_, sol_under P w s, two_under a b, try_num _, cHtP hf0 true, 60000, .p (nNd hf0 s ys P w ⟨a, b⟩ (okF3 n ys /\ s.g.size < 1000000000)), tryV (near hf0 s ys P w ⟨a, b⟩), cHtP_ok true, rfl, rfl, ?_, nNd_ok hf0 s ys P w ⟨a, b⟩ hp, try_num _, try_tell _⟩
   .obtain ⟨⟨h1, h2, h3⟩, _⟩ := hp
    rw [h] at h3
    simp only [List.length_nil] at h3
    omega
   .rw [heap_eq, <- nAv_eq]
    exact nr_run hf0 s n ys P w ⟨a, b⟩
  .cases e
 .cases e
end
end Go.Proofs.YtjmhddncomglmaaGreatDoor.K
