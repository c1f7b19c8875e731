/- What is proved: a law of surfaces returns true, whatever the input (part 14 of 21). No conditions beyond those of the row. -/
import Derived.Test.YtiigkjnhmipnfaaGreatDoorPH
import Derived.Test.YtiigkjnhmipnfaaGreatDoorPJ
import Derived.Test.YtiigkjnhmipnfaaGreatDoorPK
import Derived.Test.YtiigkjnhmipnfaaGreatDoorPM
set_option linter.unusedVariables false
set_option linter.unusedSimpArgs false
set_option linter.unusedSectionVars false
namespace Go.Proofs.YtiigkjnhmipnfaaGreatDoor.K
open Go Go.Eng Go.Ar Go.Rd
noncomputable section
theorem rsagE_ok (k : Int) : NOk Tryz.prog glob8 hG8 30 (lSpec hG8 [.s suI .i64, .n sS, .n sS] (sagE' k)) := by
 refine lSpec_weaken rsag_ok fun sz its p v bs e => ?_
 unfold sagE' at e
 split at e
 ·rename_i xs n ys a b x y
  split at e
  ·rename_i s hs
   cases e
   refine ⟨okF3 n ys ∧ s.g.size < 1000000000, sagA' s ys a b x y, by simp only [suV2, hs], fun hp => ⟨⟨hp.1, hp.2.1⟩, fun σ U hU => ?_⟩⟩
   unfold sagA' at hU
   rw [hp.2.2] at hU
   exact hU
  ·cases e
 ·cases e
def cRe (k : Int) : Ctx := mkN Tryz.prog glob8 hG8 [(30, lSpec hG8 [.s suI .i64, .n sS, .n sS] (sagE' k))] [] ext
theorem cRe_ok (k : Int) : CtxOk (cRe k) := by
 refine mkN_ok prog_ok ext_ok (fun x hx => ?_) (fun _ h => by cases h)
 simp only [List.mem_cons, List.not_mem_nil, or_false] at hx
 subst hx
 exact rsagE_ok k
def mid (s : Su) (n a b x y : Int) : Prop := s.k = s.k ∧ s.c = s.c ∧ (x = x ∧ y = y) ∧ (x = x ∧ y = y) ∧ (a = a ∧ b = b) ∧ same21 s n
def mid2 (s : Su) (n a b x y : Int) : Prop := s.k = s.k ∧ s.c = s.c ∧ (x = x ∧ y = y) ∧ (x = x ∧ y = y) ∧ (a = a ∧ b = b) ∧ s.c = s.c ∧ s.k = s.k ∧ s.l = s.l ∧ s.m = s.m ∧ s.f0 = s.f0 ∧ s.f1 = s.f1 ∧ s.o = s.o ∧ s.th = s.th ∧ s.g = s.g ∧ s.se = s.se ∧ s.ho = s.ho ∧ s.dx = s.dx ∧ s.dy = s.dy ∧ s.ax = s.ax ∧ s.ay = s.ay ∧ s.az = s.az ∧ n = n
def lx (s : Su) (n a b x y p q : Int) : Prop := asp s.a0 s.a1 s.a2 s.a3 = true → (x = x ∧ y = y) ∧ (eqS (jh a b x y) ∧ same21 s n ∧ eqS (jh a b x y) ∧ eqS (jd s.c s.k a b x y p q)) ∧ True ∧ (eqS (jh a b x y) ∧ eqS (jd s.c s.k a b x y p q)) ∧ eqS (jd s.c s.k a b x y p q) ∧ eqS (jd s.c s.k a b x y p q)
theorem lx_t (s : Su) (n a b x y p q : Int) : lx s n a b x y p q := fun _ => ⟨⟨rfl, rfl⟩, ⟨eqS_t _, same21_t s n, eqS_t _, eqS_t _⟩, trivial, ⟨eqS_t _, eqS_t _⟩, eqS_t _, eqS_t _⟩
def pz (s : Su) (n : Int) (ys : List Int) : Prop := okF3 n ys ∧ s.g.size < 1000000000
def jUx (s : Su) (a b x y : Int) : Sp := jU s.c s.k s.a0 s.a1 s.a2 s.a3 a b x y a b
def jUy (s : Su) (a b x y : Int) : Sp := jU s.c s.k s.a0 s.a1 s.a2 s.a3 a b x y x y
def rM1 (s : Su) (g n : Int) (ys : List Int) (a b x y : Int) : Prop := pz s n ys ∧ ((!t1 g) = true → s.k = s.k ∧ ((ld1 s a b x y ∧ lx s n a b x y a b) ∧ mid s n a b x y ∧ ld1 s a b x y ∧ lx s n a b x y x y) ∧ ((!badUV (jUx s a b x y) (jUy s a b x y)) = true → eqS (jUy s a b x y)))
theorem rM1_t {s : Su} {g n : Int} {ys : List Int} {a b x y : Int} (h : pz s n ys) : rM1 s g n ys a b x y := ⟨h, fun _ => ⟨rfl, ⟨⟨ld1_t s a b x y, lx_t s n a b x y a b⟩, ⟨rfl, rfl, ⟨rfl, rfl⟩, ⟨rfl, rfl⟩, ⟨rfl, rfl⟩, same21_t s n⟩, ld1_t s a b x y, lx_t s n a b x y x y⟩, fun _ => eqS_t _⟩⟩
def hqx (s : Su) (a b x y : Int) : Sp := hq9 s.c s.k s.l s.m a b x y a b s.l s.m
def hqy (s : Su) (a b x y : Int) : Sp := hq9 s.c s.k s.l s.m a b x y x y s.c s.k
def ly (s : Su) (a b x y p q n w : Int) : Prop := (eqS (hhr s.c s.k s.l s.m a b x y) ∧ eqS (hhr s.c s.k s.l s.m a b x y)) ∧ (eqS (hhr s.c s.k s.l s.m a b x y) ∧ eqS (hq4 s.c s.k s.l s.m a b x y p q n w) ∧ eqS (hhz s.c s.k s.l s.m a b x y)) ∧ eqS (hhr s.c s.k s.l s.m a b x y) ∧ eqS (hhr s.c s.k s.l s.m a b x y) ∧ eqS (hhr s.c s.k s.l s.m a b x y)
theorem ly_t (s : Su) (a b x y p q n w : Int) : ly s a b x y p q n w := ⟨⟨eqS_t _, eqS_t _⟩, ⟨eqS_t _, eqS_t _, eqS_t _⟩, eqS_t _, eqS_t _, eqS_t _⟩
def rM2 (s : Su) (g n : Int) (ys : List Int) (a b x y : Int) : Prop := pz s n ys ∧ ((!t1 g) = true → s.k = s.k ∧ ((ld2 s a b x y ∧ ly s a b x y a b s.l s.m) ∧ mid2 s n a b x y ∧ ld2 s a b x y ∧ ly s a b x y x y s.c s.k) ∧ ((!badUV (hqx s a b x y) (hqy s a b x y)) = true → eqS (hqy s a b x y)))
theorem rM2_t {s : Su} {g n : Int} {ys : List Int} {a b x y : Int} (h : pz s n ys) : rM2 s g n ys a b x y := ⟨h, fun _ => ⟨rfl, ⟨⟨ld2_t s a b x y, ly_t s a b x y _ _ _ _⟩, by unfold mid2; simp, ld2_t s a b x y, ly_t s a b x y _ _ _ _⟩, fun _ => eqS_t _⟩⟩
theorem rl_1 (s : Su) (n : Int) (ys : List Int) (a b x y : Int) : rw8 cRs 32 (s.cells (.int false .i64 1)) n ys a b x y = some (.p (rM1 s (sagG { s with kd := 1 } ys a b x y).e n ys a b x y), slR (sagG { s with kd := 1 } ys a b x y).e (badUV (jUx s a b x y) (jUy s a b x y)) (jUx s a b x y) (jUy s a b x y)) := by kernel_rfl
theorem rl_2 (s : Su) (n : Int) (ys : List Int) (a b x y : Int) : rw8 cRs 32 (s.cellsZ (.int false .i64 2)) n ys a b x y = some (.p (rM2 s (sagG { s with kd := 2, a0 := 0, a1 := 0, a2 := 0, a3 := 0 } ys a b x y).e n ys a b x y), slR (sagG { s with kd := 2, a0 := 0, a1 := 0, a2 := 0, a3 := 0 } ys a b x y).e (badUV (hqx s a b x y) (hqy s a b x y)) (hqx s a b x y) (hqy s a b x y)) := by kernel_rfl
theorem rl_4 (s : Su) (n : Int) (ys : List Int) (a b x y : Int) : rw8 (cRe 0) 32 (s.cells (.int false .i64 4)) n ys a b x y = some (.p (okF3 n ys ∧ s.g.size < 1000000000 ∧ sagG { s with kd := 4 } ys a b x y = ⟨0, 0, 0⟩), eV2 0) := by kernel_rfl
theorem rl_e5 (s : Su) (n : Int) (ys : List Int) (a b x y : Int) : rw8 (cRe 5) 32 (s.cells (.int true .i64 s.kd)) n ys a b x y = some (.p (okF3 n ys ∧ s.g.size < 1000000000 ∧ sagG s ys a b x y = ⟨0, 0, 5⟩), eV2 5) := by kernel_rfl
theorem rl_e20 (s : Su) (n : Int) (ys : List Int) (a b x y : Int) : rw8 (cRe 20) 32 (s.cells (.int true .i64 s.kd)) n ys a b x y = some (.p (okF3 n ys ∧ s.g.size < 1000000000 ∧ sagG s ys a b x y = ⟨0, 0, 20⟩), eV2 20) := by kernel_rfl
theorem rl_e110 (s : Su) (n : Int) (ys : List Int) (a b x y : Int) : rw8 (cRe 110) 32 (s.cells (.int true .i64 s.kd)) n ys a b x y = some (.p (okF3 n ys ∧ s.g.size < 1000000000 ∧ sagG s ys a b x y = ⟨0, 0, 110⟩), eV2 110) := by kernel_rfl
theorem su_kz {s : Su} (h : s.kd = 2) (h0 : s.a0 = 0 ∧ s.a1 = 0 ∧ s.a2 = 0 ∧ s.a3 = 0) : ({ s with kd := 2, a0 := 0, a1 := 0, a2 := 0, a3 := 0 } : Su) = s := by
 obtain ⟨h1, h2, h3, h4⟩ := h0
 cases s
 simp_all
theorem rslp_ok : NOk Tryz.prog glob8 hG8 32 (lSpec hG8 [.s suI .i64, .n sS, .n sS] (suV2 slpG)) := by
 refine su8_ok ⟨_, Tryz.func32, rfl⟩ fun s n ys a b x y hg ho => ?_
 cases hr : rightS s ys with
 | false =>
  have e : sagG s ys a b x y = ⟨0, 0, 110⟩ := by unfold sagG; rw [hr]; rfl
  exact ⟨cRe 110, s.cells (.int true .i64 s.kd), _, _, cRe_ok _, rfl, rfl, tell_kd ⟨rfl, rfl⟩, rl_e110 s n ys a b x y, rfl, ⟨ho, hg, e⟩, eV2_tell (by rw [e]) (by decide)⟩
 | true =>
  have bad : okXY a b x y = false → s.kd ≠ 3 → sagG s ys a b x y = ⟨0, 0, 20⟩ := fun h h3 => by unfold sagG; rw [hr, h, beq_eq_false_iff_ne.2 h3]; rfl
  have good : okXY a b x y = true → s.kd ≠ 3 → sagG s ys a b x y = sagK s a b x y := fun h h3 => by unfold sagG; rw [hr, h, beq_eq_false_iff_ne.2 h3]; rfl
  cases hx : okXY a b x y with
  | false =>
   by_cases h3 : s.kd = 3
   ·have e : sagG s ys a b x y = ⟨0, 0, 5⟩ := by unfold sagG; rw [hr, h3]; rfl
    exact ⟨cRe 5, s.cells (.int true .i64 s.kd), _, _, cRe_ok _, rfl, rfl, tell_kd ⟨rfl, rfl⟩, rl_e5 s n ys a b x y, rfl, ⟨ho, hg, e⟩, eV2_tell (by rw [e]) (by decide)⟩
   ·exact ⟨cRe 20, s.cells (.int true .i64 s.kd), _, _, cRe_ok _, rfl, rfl, tell_kd ⟨rfl, rfl⟩, rl_e20 s n ys a b x y, rfl, ⟨ho, hg, bad hx h3⟩, eV2_tell (by rw [bad hx h3]) (by decide)⟩
  | true =>
   have hh : okSp a b = true ∧ okSp x y = true := by simpa [okXY] using hx
   rcases right_kd hr with hk | hk | hk | hk
   ·have v := right_std hr
    have eg : sagG s ys a b x y = sagS s.c s.k s.a0 s.a1 s.a2 s.a3 a b x y := by rw [good hx (by omega)]; unfold sagK; rw [hk]; rfl
    have e : slpG s ys a b x y = sp2V (sagG s ys a b x y).e (slC s.c s.k s.a0 s.a1 s.a2 s.a3 a b x y) (slU s.c s.k s.a0 s.a1 s.a2 s.a3 a b x y) (slV s.c s.k s.a0 s.a1 s.a2 s.a3 a b x y) := by unfold slpG slpC slpU slpZ; rw [hk]; rfl
    refine ⟨cRs, s.cells (.int false .i64 1), _, _, cRs_ok, rfl, rfl, tell_kd ⟨rfl, hk⟩, rl_1 s n ys a b x y, rfl, rM1_t ⟨ho, hg⟩, ?_⟩
    rw [su_kd hk, e]
    exact slR_tell fun g => ref_slpS v.hc v.hk hh.1 hh.2 v.h0 v.h1 v.h2 v.h3 (by rw [← eg]; exact g)
   ·have v := right_bic hr
    have eg : sagG s ys a b x y = sagX s.c s.k s.l s.m a b x y := by rw [good hx (by omega)]; unfold sagK; rw [hk]; rfl
    have e : slpG s ys a b x y = sp2V (sagG s ys a b x y).e (slX s.c s.k s.l s.m a b x y) (b29 s.c s.k s.l s.m a b x y) (b25 s.c s.k s.l s.m a b x y) := by unfold slpG slpC slpU slpZ; rw [hk]; rfl
    refine ⟨cRs, s.cellsZ (.int false .i64 2), _, _, cRs_ok, rfl, rfl, tell_kz hk (right_noA hr hk), rl_2 s n ys a b x y, rfl, rM2_t ⟨ho, hg⟩, ?_⟩
    rw [su_kz hk (right_noA hr hk), e]
    exact slR_tell fun g => ref_slpX v.hc v.hk v.hl v.hm hh.1 hh.2 (by rw [← eg]; exact g)
   ·have e : sagG s ys a b x y = ⟨0, 0, 5⟩ := by unfold sagG; rw [hr, hk]; rfl
    exact ⟨cRe 5, s.cells (.int true .i64 s.kd), _, _, cRe_ok _, rfl, rfl, tell_kd ⟨rfl, rfl⟩, rl_e5 s n ys a b x y, rfl, ⟨ho, hg, e⟩, eV2_tell (by rw [e]) (by decide)⟩
   ·have eg : sagG s ys a b x y = ⟨0, 0, 0⟩ := by rw [good hx (by omega)]; unfold sagK; rw [hk]; rfl
    have e : slpG s ys a b x y = sp2V 0 true ⟨0, 0, 0⟩ ⟨0, 0, 0⟩ := by unfold slpG slpC slpU slpZ; rw [eg, hk]; rfl
    refine ⟨cRe 0, s.cells (.int false .i64 4), _, _, cRe_ok _, rfl, rfl, tell_kd ⟨rfl, hk⟩, rl_4 s n ys a b x y, rfl, ⟨ho, hg, by rw [su_kd hk]; exact eg⟩, ?_⟩
    rw [e]
    exact ⟨⟨⟨rfl, rfl⟩, ⟨rfl, rfl⟩, trivial⟩, ⟨⟨rfl, rfl⟩, ⟨rfl, rfl⟩, trivial⟩, ⟨rfl, rfl⟩, trivial⟩
end
end Go.Proofs.YtiigkjnhmipnfaaGreatDoor.K
namespace Go.Rd
open Go Go.Eng Go.Ar
structure Df where
 kd : Int
 c0 : Int
 c1 : Int
 k0 : Int
 k1 : Int
 a0 : Int
 a1 : Int
 a2 : Int
 a3 : Int
 p0 : Int
 p1 : Int
 o : Int
 th : Int
 gl : Int
 se : Int
 ho : Int
 e0 : Int
 e1 : Int
 e2 : Int
 e3 : Int
 e4 : Int
def Df.cells (d : Df) : List AV := [.int true .u8 d.kd, .int true .i16 d.c0, .int true .i16 d.c1, .int true .i16 d.k0, .int true .i16 d.k1, .int true .i8 d.a0, .int true .i8 d.a1, .int true .i8 d.a2, .int true .i8 d.a3, .int true .i8 d.p0, .int true .i8 d.p1, .int true .i8 d.o, .int true .i16 d.th, .int true .u8 d.gl, .int true .u8 d.se, .int true .u8 d.ho, .int true .i8 d.e0, .int true .i8 d.e1, .int true .i8 d.e2, .int true .i8 d.e3, .int true .i8 d.e4]
def drI : List Sh := [.i .u8, .i .i16, .i .i16, .i .i16, .i .i16, .i .i8, .i .i8, .i .i8, .i .i8, .i .i8, .i .i8, .i .i8, .i .i16, .i .u8, .i .u8, .i .u8, .i .i8, .i .i8, .i .i8, .i .i8, .i .i8]
def Df.nus (d : Df) : List Nu := [.n d.kd, .n d.c0, .n d.c1, .n d.k0, .n d.k1, .n d.a0, .n d.a1, .n d.a2, .n d.a3, .n d.p0, .n d.p1, .n d.o, .n d.th, .n d.gl, .n d.se, .n d.ho, .n d.e0, .n d.e1, .n d.e2, .n d.e3, .n d.e4]
def drOf : List Nu → Option Df
 | [.n kd, .n c0, .n c1, .n k0, .n k1, .n a0, .n a1, .n a2, .n a3, .n p0, .n p1, .n o, .n th, .n gl, .n se, .n ho, .n e0, .n e1, .n e2, .n e3, .n e4] => some ⟨kd, c0, c1, k0, k1, a0, a1, a2, a3, p0, p1, o, th, gl, se, ho, e0, e1, e2, e3, e4⟩
 | _ => none
theorem drOf_eq {xs : List Nu} {d : Df} (h : drOf xs = some d) : xs = d.nus := by
 unfold drOf at h
 split at h
 ·cases h; rfl
 ·cases h
def glB : Nat → ByteArray
 | 0 => ⟨#[]⟩
 | 1 => ⟨#[66, 75, 55]⟩
 | 2 => ⟨#[83, 70, 45, 49]⟩
 | 3 => ⟨#[77, 73, 82, 82, 79, 82]⟩
 | _ => ⟨#[102, 95, 50]⟩
abbrev W64 (n : Int) : Int := IntKind.i64.wrap n
section
variable (d : Df) (g : ByteArray)
def dS : Int := W64 (100000 * W64 d.se)
def dV : Bool := bif d.ho.tmod 4 == 1 then decide (dS d > 0) else false
def tw {α : Type} (b : Bool) (x : α) : α := bif b then x else x
def dC : Int := tw (dV d) (W64 (1000 * W64 d.c0))
def dK : Int := tw (dV d) (W64 (1000 * W64 (d.k0.tmod 3000)))
def dT : Int := tw (dV d) (W64 (1000 * W64 (d.th.tmod 20000)))
def dSe : Int := tw (dV d) (dS d)
def dHo : Int := bif dV d then W64 ((dS d).tdiv 4) else 0
def dsA : Su := ⟨1, dC d, dK d, 0, 0, 0, 0, 0, 0, 0, 0, 0, dT d, tw (dV d) g, dSe d, dHo d, 0, 0, 0, 0, 0⟩
def dsB : Su := ⟨1, dC d, dK d, 0, 0, W64 (1000 * W64 d.a0), W64 (1000 * W64 d.a1), W64 (1000 * W64 d.a2), W64 (1000 * W64 d.a3), 0, 0, 0, dT d, tw (dV d) g, dSe d, dHo d, 0, 0, 0, 0, 0⟩
def dsC : Su := ⟨2, dC d, dK d, W64 (1000 * W64 d.c1), W64 (1000 * W64 (d.k1.tmod 3000)), 0, 0, 0, 0, 0, 0, 0, dT d, tw (dV d) g, dSe d, dHo d, 0, 0, 0, 0, 0⟩
def dsD : Su := ⟨3, 0, 0, 0, 0, 0, 0, 0, 0, 0, 0, 0, dT d, ⟨#[]⟩, 0, 0, W64 (10000 * W64 d.e0), W64 (10000 * W64 d.e1), W64 (100000 * W64 d.e2), W64 (100000 * W64 d.e3), W64 (100000 * W64 d.e4)⟩
def dsE : Su := ⟨4, dC d, 0, 0, 0, 0, 0, 0, 0, 0, 0, 0, dT d, ⟨#[]⟩, dSe d, dHo d, 0, 0, 0, 0, 0⟩
def dM : Bool := !eqBytes (tw (dV d) g) ⟨#[77, 73, 82, 82, 79, 82]⟩
def dsF : Su := ⟨1, tw (dM d g) (dC d), tw (dM d g) (dK d), 0, 0, 0, 0, 0, 0, bif dM d g then W64 (1000 * W64 d.p0) else 0, bif dM d g then W64 (1000 * W64 d.p1) else 0, bif dM d g then W64 (d.o.tmod 4) else 0, tw (dM d g) (dT d), tw (dM d g) (tw (dV d) g), tw (dM d g) (dSe d), tw (dM d g) (dHo d), 0, 0, 0, 0, 0⟩
end
def film0 (z : Int) : List Int := [W64 (13000000 + W64 (50000 * W64 z)), (W64 z).tmod 7, W64 (1 + (W64 z).tmod 5)]
def filmsD : List Int → List Int
 | [] => []
 | [x] => film0 x
 | [x, y] => film0 x ++ film0 y
 | x :: y :: z :: _ => film0 x ++ (film0 y ++ film0 z)
def nfD : List Int → Nat
 | [] => 0
 | [_] => 1
 | [_, _] => 2
 | _ :: _ :: _ :: _ => 3
theorem nfD_len (zs : List Int) : (filmsD zs).length = 3 * nfD zs ∧ nfD zs ≤ 3 := by
 unfold filmsD nfD
 split <;> exact ⟨rfl, by decide⟩
def dsu (d : Df) : Su :=
 let g := glB ((W64 d.gl).tmod 5).toNat
 bif d.kd.tmod 8 == 4 then dsB d g else bif d.kd.tmod 8 == 5 then dsC d g else bif d.kd.tmod 8 == 6 then dsD d else bif d.kd.tmod 8 == 7 then (bif d.o.tmod 2 == 0 then dsE d else dsF d g) else dsA d g
def dys (d : Df) (zs : List Int) : List Int := bif d.kd.tmod 8 == 4 then filmsD zs else []
def dnf (d : Df) (zs : List Int) : Nat := bif d.kd.tmod 8 == 4 then nfD zs else 0
theorem dys_ok (d : Df) (zs : List Int) : (dys d zs).length = 3 * dnf d zs ∧ dnf d zs ≤ 3 := by
 unfold dys dnf
 cases d.kd.tmod 8 == 4 with
 | true => exact nfD_len zs
 | false => exact ⟨rfl, Nat.zero_le _⟩
theorem glB_len (n : Nat) : (glB n).size ≤ 6 := by
 unfold glB
 split <;> decide
theorem tw_eq {α : Type} (b : Bool) (x : α) : tw b x = x := by cases b <;> rfl
theorem dsu_g (d : Df) : (dsu d).g.size ≤ 6 := by
 unfold dsu
 cases d.kd.tmod 8 == 4 <;> cases d.kd.tmod 8 == 5 <;> cases d.kd.tmod 8 == 6 <;> cases d.kd.tmod 8 == 7 <;> cases d.o.tmod 2 == 0 <;> simp only [cond_true, cond_false, dsA, dsB, dsC, dsD, dsE, dsF, tw_eq] <;> first | exact glB_len _ | decide
def avA (s : Su) : List AV := [.int false .i64 1, .int true .i64 s.c, .int true .i64 s.k, .int false .i64 0, .int false .i64 0, .int false .i64 0, .int false .i64 0, .int false .i64 0, .int false .i64 0, .int false .i64 0, .int false .i64 0, .int false .i64 0, .int true .i64 s.th, .str true s.g, .int true .i64 s.se, .int true .i64 s.ho, .int false .i64 0, .int false .i64 0, .int false .i64 0, .int false .i64 0, .int false .i64 0]
def avB (s : Su) : List AV := [.int false .i64 1, .int true .i64 s.c, .int true .i64 s.k, .int false .i64 0, .int false .i64 0, .int true .i64 s.a0, .int true .i64 s.a1, .int true .i64 s.a2, .int true .i64 s.a3, .int false .i64 0, .int false .i64 0, .int false .i64 0, .int true .i64 s.th, .str true s.g, .int true .i64 s.se, .int true .i64 s.ho, .int false .i64 0, .int false .i64 0, .int false .i64 0, .int false .i64 0, .int false .i64 0]
def avC (s : Su) : List AV := [.int false .i64 2, .int true .i64 s.c, .int true .i64 s.k, .int true .i64 s.l, .int true .i64 s.m, .int false .i64 0, .int false .i64 0, .int false .i64 0, .int false .i64 0, .int false .i64 0, .int false .i64 0, .int false .i64 0, .int true .i64 s.th, .str true s.g, .int true .i64 s.se, .int true .i64 s.ho, .int false .i64 0, .int false .i64 0, .int false .i64 0, .int false .i64 0, .int false .i64 0]
def avD (s : Su) : List AV := [.int false .i64 3, .int false .i64 0, .int false .i64 0, .int false .i64 0, .int false .i64 0, .int false .i64 0, .int false .i64 0, .int false .i64 0, .int false .i64 0, .int false .i64 0, .int false .i64 0, .int false .i64 0, .int true .i64 s.th, .str false ⟨#[]⟩, .int false .i64 0, .int false .i64 0, .int true .i64 s.dx, .int true .i64 s.dy, .int true .i64 s.ax, .int true .i64 s.ay, .int true .i64 s.az]
def avE (s : Su) : List AV := [.int false .i64 4, .int true .i64 s.c, .int false .i64 0, .int false .i64 0, .int false .i64 0, .int false .i64 0, .int false .i64 0, .int false .i64 0, .int false .i64 0, .int false .i64 0, .int false .i64 0, .int false .i64 0, .int true .i64 s.th, .str false ⟨#[]⟩, .int true .i64 s.se, .int true .i64 s.ho, .int false .i64 0, .int false .i64 0, .int false .i64 0, .int false .i64 0, .int false .i64 0]
def avF (s : Su) : List AV := [.int false .i64 1, .int true .i64 s.c, .int true .i64 s.k, .int false .i64 0, .int false .i64 0, .int false .i64 0, .int false .i64 0, .int false .i64 0, .int false .i64 0, .int true .i64 s.f0, .int true .i64 s.f1, .int true .i64 s.o, .int true .i64 s.th, .str true s.g, .int true .i64 s.se, .int true .i64 s.ho, .int false .i64 0, .int false .i64 0, .int false .i64 0, .int false .i64 0, .int false .i64 0]
end Go.Rd
namespace Go.Proofs.YtiigkjnhmipnfaaGreatDoor.K
open Go Go.Eng Go.Ar Go.Rd
noncomputable section
def bA (b : Bool) : AV := match b with | true => .bool false true | false => .bool false false
def dHint (k : Nat) (od fl : Bool) (_ t : Nat) : Option AV := match Nat.beq t 50 with
 | true => some (bA (Nat.beq k 4))
 | false => match Nat.beq t 68 with
  | true => some (bA (Nat.beq k 5))
  | false => match Nat.beq t 84 with
   | true => some (bA (Nat.beq k 6))
   | false => match Nat.beq t 114 with
    | true => some (bA (Nat.beq k 7))
    | false => match Nat.beq t 118 with
     | true => some (bA od)
     | false => match Nat.beq t 10 && fl with
      | true => some (.bool false true)
      | false => none
noncomputable def cDr (k : Nat) (od fl : Bool) (g : Int) : Ctx := { mkG Tryz.prog glob hG [] ext with hint := dHint k od fl, hintT := fun c => match Nat.beq c 25 with | true => some (25, .int false .i64 g) | false => none }
theorem cDr_ok (k : Nat) (od fl : Bool) (g : Int) : CtxOk (cDr k od fl g) := by
 have co : CtxOk (mkG Tryz.prog glob hG [] ext) := mkG_ok prog_ok ext_ok fun _ h => by cases h
 exact ⟨co.prog, co.con, co.ext, co.loop, co.two⟩
def rd1 (C : Ctx) (d : Df) (coat : AV) (zs : List Int) : Option (Nd × List AV × Nat × List Int) := outL (hG.size + 1) hG.clock 2 .i64 ((run C 1000).call 15 [.agg (d.cells ++ [coat])] (viewsH false hG [(.u8, zs)]))
def co (n : Int) : AV := .pslice hG.size n.toNat false n
def dN (d : Df) (g : Int) : Prop := (W64 d.gl).tmod 5 = g ∧ d.se = d.se ∧ d.gl = d.gl ∧ d.th = d.th ∧ d.k0 = d.k0 ∧ d.c0 = d.c0
def nA (d : Df) (g : Int) : Prop := dN d g ∧ (d.kd.tmod 8 == 4) = false ∧ (d.kd.tmod 8 == 5) = false ∧ (d.kd.tmod 8 == 6) = false ∧ (d.kd.tmod 8 == 7) = false
def nC (d : Df) (g : Int) : Prop := dN d g ∧ (d.kd.tmod 8 == 4) = false ∧ (d.kd.tmod 8 == 5) = true
def nD (d : Df) (g : Int) : Prop := dN d g ∧ (d.kd.tmod 8 == 4) = false ∧ (d.kd.tmod 8 == 5) = false ∧ (d.kd.tmod 8 == 6) = true
def nE (d : Df) (g : Int) (b : Bool) : Prop := dN d g ∧ (d.kd.tmod 8 == 4) = false ∧ (d.kd.tmod 8 == 5) = false ∧ (d.kd.tmod 8 == 6) = false ∧ (d.kd.tmod 8 == 7) = true ∧ (d.o.tmod 2 == 0) = b
def nB (d : Df) (g : Int) : Prop := dN d g ∧ (d.kd.tmod 8 == 4) = true
def nB3 (d : Df) (g n : Int) : Prop := dN d g ∧ (d.kd.tmod 8 == 4) = true ∧ decide (0 < n) = true ∧ decide (1 < n) = true ∧ decide (2 < n) = true ∧ decide (3 < n) = true
end
end Go.Proofs.YtiigkjnhmipnfaaGreatDoor.K
namespace Go.Rd
open Go Go.Eng Go.Ar
structure Bn where
 wh : Int
 at' : Int
 n : Int
 t : ByteArray
def Bn.cells (b : Bn) : List AV := [.int true .u8 b.wh, .int true .u8 b.at', .int true .i64 b.n, .str true b.t]
def bnI : List Sh := [.i .u8, .i .u8, .i .i64, .str]
def Bn.nus (b : Bn) : List Nu := [.n b.wh, .n b.at', .n b.n, .s b.t]
def bnOf : List Nu → Option Bn
 | [.n wh, .n a, .n n, .s t] => some ⟨wh, a, n, t⟩
 | _ => none
theorem bnOf_eq {xs : List Nu} {b : Bn} (h : bnOf xs = some b) : xs = b.nus := by
 unfold bnOf at h
 split at h
 ·cases h; rfl
 ·cases h
def bT (b : Bn) : ByteArray := b.t.extract (Int.toNat 0) (if (40 : Int) < (b.t.size : Int) then (40 : Int) else (b.t.size : Int)).toNat
def bsuW (b : Bn) (s : Su) : Nat → Nat → Su
 | 0, _ => { s with kd := b.n }
 | 1, _ => { s with c := b.n }
 | 2, _ => { s with k := b.n }
 | 3, _ => { s with l := b.n }
 | 4, _ => { s with m := b.n }
 | 5, 0 => { s with a0 := b.n }
 | 5, 1 => { s with a1 := b.n }
 | 5, 2 => { s with a2 := b.n }
 | 5, 3 => { s with a3 := b.n }
 | 6, 0 => { s with f0 := b.n }
 | 6, 1 => { s with f1 := b.n }
 | 7, _ => { s with o := b.n }
 | 8, _ => { s with th := b.n }
 | 9, _ => { s with g := bT b }
 | 10, _ => { s with se := b.n }
 | 11, _ => { s with ho := b.n }
 | 12, 0 => { s with dx := b.n }
 | 12, 1 => { s with dy := b.n }
 | 12, 2 => { s with ax := b.n }
 | 12, 3 => { s with ay := b.n }
 | 12, 4 => { s with az := b.n }
 | _, _ => s
def fillB : Nat → List Int
 | 0 => []
 | k + 1 => 15000000 :: 0 :: 1 :: fillB k
def bysW (b : Bn) (zs : List Int) (n : Nat) : Nat → Nat → List Int
 | 13, 0 => zs ++ [b.n, 1, 1]
 | 13, 1 => zs ++ [15000000, b.n, 1]
 | 13, 2 => zs ++ [15000000, 1, b.n]
 | 14, a => zs ++ fillB (8 + a - n)
 | _, _ => zs
def bnfW (n : Nat) : Nat → Nat → Nat
 | 13, _ => n + 1
 | 14, a => n + (8 + a - n)
 | _, _ => n
def andR : Nat → Prop → Prop
 | 0, p => p
 | k + 1, p => p ∧ andR k p
theorem andR_of {p : Prop} (h : p) : ∀ k, andR k p
 | 0 => h
 | k + 1 => ⟨h, andR_of h k⟩
def bNdW (b : Bn) (n : Nat) : Nat → Nat → Prop
 | 5, a => b.wh.tmod 16 = 5 ∧ (W64 b.at').tmod 4 = a
 | 6, a => b.wh.tmod 16 = 6 ∧ (W64 b.at').tmod 2 = a
 | 9, _ => b.wh.tmod 16 = 9 ∧ (0 : Int) ≤ 0 ∧ 0 ≤ (if (40 : Int) < (b.t.size : Int) then (40 : Int) else (b.t.size : Int)) ∧ (if (40 : Int) < (b.t.size : Int) then (40 : Int) else (b.t.size : Int)) ≤ (b.t.size : Int)
 | 12, a => b.wh.tmod 16 = 12 ∧ (W64 b.at').tmod 5 = a
 | 13, a => b.wh.tmod 16 = 13 ∧ (W64 b.at').tmod 3 = a
 | 14, a => b.wh.tmod 16 = 14 ∧ andR (8 + a - n) ((W64 b.at').tmod 2 = a)
 | w, _ => b.wh.tmod 16 = w
def bIx : Nat → Nat
 | 5 => 4
 | 6 => 2
 | 12 => 5
 | 13 => 3
 | 14 => 2
 | _ => 1
def Bn.w (b : Bn) : Nat := (b.wh.tmod 16).toNat
def Bn.a (b : Bn) : Nat := ((W64 b.at').tmod (bIx b.w)).toNat
def bsu (b : Bn) (s : Su) : Su := bsuW b s b.w b.a
def bys (b : Bn) (n : Nat) (zs : List Int) : List Int := bysW b zs n b.w b.a
def bnf (b : Bn) (n : Nat) : Nat := bnfW n b.w b.a
theorem bIx_pos (w : Nat) : 0 < bIx w := by unfold bIx; split <;> decide
theorem fillB_len : ∀ k, (fillB k).length = 3 * k
 | 0 => rfl
 | k + 1 => by simp only [fillB, List.length_cons, fillB_len k]; omega
structure Bn.ok (b : Bn) : Prop where
 w0 : 0 ≤ b.wh
 w1 : b.wh ≤ 255
 a0 : 0 ≤ b.at'
 a1 : b.at' ≤ 255
theorem Bn.ok.case {b : Bn} (h : b.ok) : b.w < 16 ∧ b.wh.tmod 16 = (b.w : Int) := by
 obtain ⟨h0, h1, -, -⟩ := h
 unfold Bn.w
 rw [Int.tmod_eq_emod_of_nonneg h0]
 omega
theorem Bn.ok.ix {b : Bn} (h : b.ok) : b.a < bIx b.w ∧ (W64 b.at').tmod (bIx b.w) = (b.a : Int) := by
 obtain ⟨-, -, h0, h1⟩ := h
 have w : W64 b.at' = b.at' := Go.Ar.i64w (by omega) (by omega)
 have p := bIx_pos b.w
 unfold Bn.a
 rw [w, Int.tmod_eq_emod_of_nonneg h0]
 have h2 : (0 : Int) < (bIx b.w : Int) := by omega
 have h3 := Int.emod_lt_of_pos b.at' h2
 have h4 := Int.emod_nonneg b.at' (show (bIx b.w : Int) ≠ 0 by omega)
 omega
theorem Bn.ok.nd {b : Bn} (h : b.ok) (n : Nat) : bNdW b n b.w b.a := by
 obtain ⟨h1, h2⟩ := h.case
 obtain ⟨h3, h4⟩ := h.ix
 revert h1 h2 h3 h4
 generalize b.w = w
 generalize b.a = a
 intro h1 h2 h3 h4
 unfold bNdW
 split
 ·exact ⟨h2, h4⟩
 ·exact ⟨h2, h4⟩
 ·refine ⟨h2, Int.le_refl _, ?_, ?_⟩ <;> split <;> omega
 ·exact ⟨h2, h4⟩
 ·exact ⟨h2, h4⟩
 ·exact ⟨h2, andR_of h4 _⟩
 ·exact h2
theorem bys_ok (b : Bn) (n : Nat) (zs : List Int) (hz : zs.length = 3 * n) (hn : n ≤ 9) (hb : b.ok) : (bys b n zs).length = 3 * bnf b n ∧ bnf b n ≤ 10 := by
 have h3 := hb.ix.1
 unfold bys bnf
 revert h3
 generalize b.w = w
 generalize b.a = a
 intro h3
 by_cases h13 : w = 13
 ·subst h13
  have : a < 3 := h3
  rcases a with _ | _ | _ | a
  ·simp only [bysW, bnfW, List.length_append, List.length_cons, List.length_nil]; omega
  ·simp only [bysW, bnfW, List.length_append, List.length_cons, List.length_nil]; omega
  ·simp only [bysW, bnfW, List.length_append, List.length_cons, List.length_nil]; omega
  ·omega
 ·by_cases h14 : w = 14
  ·subst h14
   have : a < 2 := h3
   simp only [bysW, bnfW, List.length_append, fillB_len]
   omega
  ·have e1 : bysW b zs n w a = zs := by
    unfold bysW; split <;> first | rfl | exact absurd rfl h13 | exact absurd rfl h14
   have e2 : bnfW n w a = n := by
    unfold bnfW; split <;> first | rfl | exact absurd rfl h13 | exact absurd rfl h14
   rw [e1, e2]
   omega
theorem bT_len (b : Bn) : (bT b).size ≤ 40 := by
 unfold bT
 rw [ByteArray.size_extract]
 split <;> omega
theorem bsu_g (b : Bn) (s : Su) : (bsu b s).g.size ≤ max 40 s.g.size := by
 have := bT_len b
 unfold bsu bsuW
 split <;> first | exact Nat.le_max_right _ _ | exact Nat.le_trans this (Nat.le_max_left _ _)
end Go.Rd
namespace Go.Proofs.YtiigkjnhmipnfaaGreatDoor.K
open Go Go.Eng Go.Ar Go.Rd
noncomputable section
def bHint (w : Int) (a : Int) (_ t : Nat) : Option AV := match Nat.beq t 18 with
 | true => some (.int false .u8 w)
 | false => match Nat.beq t 47 || (Nat.beq t 55 || Nat.beq t 132) with
  | true => some (.int false .i64 a)
  | false => none
def bHintT (a : Int) (c : Nat) : Option (Nat × AV) := match Nat.beq c 56 with
 | true => some (99, .int false .i64 a)
 | false => match Nat.beq c 64 with
  | true => some (120, .int false .i64 a)
  | false => none
noncomputable def cBn (w a : Int) : Ctx := { mkG Tryz.prog glob hG [] ext with hint := bHint w a, hintT := bHintT a }
theorem cBn_ok (w a : Int) : CtxOk (cBn w a) := by
 have co : CtxOk (mkG Tryz.prog glob hG [] ext) := mkG_ok prog_ok ext_ok fun _ h => by cases h
 exact ⟨co.prog, co.con, co.ext, co.loop, co.two⟩
def rb1 (C : Ctx) (b : Bn) (s : Su) (n : Nat) (zs : List Int) : Option (Nd × List AV × Nat × List Int) := outL (hG.size + 1) hG.clock 2 .i64 ((run C 1000).call 16 [.agg b.cells, .agg (s.ini ++ [co n])] (viewsH false hG [(.i64, zs)]))
end
end Go.Proofs.YtiigkjnhmipnfaaGreatDoor.K
namespace Go.Proofs.YtiigkjnhmipnfaaGreatDoor.K
open Go Go.Eng Go.Ar Go.Rd
noncomputable section
def bRun (b : Bn) (s : Su) (x : Nat → Int) (w a n : Nat) : Prop := rb1 (cBn w a) b s n (spinF (3 * n) 0 x) = some (.p (bNdW b n w a), (bsuW b s w a).ini, bnfW n w a, bysW b (spinF (3 * n) 0 x) n w a)
theorem bn_0_0 (b : Bn) (s : Su) (x : Nat → Int) : ∀ n : Nat, n < 4 → bRun b s x 0 0 n := fun n hn => match n, hn with
 | 0, _ => by unfold bRun; kernel_rfl
 | 1, _ => by unfold bRun; kernel_rfl
 | 2, _ => by unfold bRun; kernel_rfl
 | 3, _ => by unfold bRun; kernel_rfl
theorem bn_1_0 (b : Bn) (s : Su) (x : Nat → Int) : ∀ n : Nat, n < 4 → bRun b s x 1 0 n := fun n hn => match n, hn with
 | 0, _ => by unfold bRun; kernel_rfl
 | 1, _ => by unfold bRun; kernel_rfl
 | 2, _ => by unfold bRun; kernel_rfl
 | 3, _ => by unfold bRun; kernel_rfl
theorem bn_2_0 (b : Bn) (s : Su) (x : Nat → Int) : ∀ n : Nat, n < 4 → bRun b s x 2 0 n := fun n hn => match n, hn with
 | 0, _ => by unfold bRun; kernel_rfl
 | 1, _ => by unfold bRun; kernel_rfl
 | 2, _ => by unfold bRun; kernel_rfl
 | 3, _ => by unfold bRun; kernel_rfl
theorem bn_3_0 (b : Bn) (s : Su) (x : Nat → Int) : ∀ n : Nat, n < 4 → bRun b s x 3 0 n := fun n hn => match n, hn with
 | 0, _ => by unfold bRun; kernel_rfl
 | 1, _ => by unfold bRun; kernel_rfl
 | 2, _ => by unfold bRun; kernel_rfl
 | 3, _ => by unfold bRun; kernel_rfl
theorem bn_4_0 (b : Bn) (s : Su) (x : Nat → Int) : ∀ n : Nat, n < 4 → bRun b s x 4 0 n := fun n hn => match n, hn with
 | 0, _ => by unfold bRun; kernel_rfl
 | 1, _ => by unfold bRun; kernel_rfl
 | 2, _ => by unfold bRun; kernel_rfl
 | 3, _ => by unfold bRun; kernel_rfl
theorem bn_5_0 (b : Bn) (s : Su) (x : Nat → Int) : ∀ n : Nat, n < 4 → bRun b s x 5 0 n := fun n hn => match n, hn with
 | 0, _ => by unfold bRun; kernel_rfl
 | 1, _ => by unfold bRun; kernel_rfl
 | 2, _ => by unfold bRun; kernel_rfl
 | 3, _ => by unfold bRun; kernel_rfl
theorem bn_5_1 (b : Bn) (s : Su) (x : Nat → Int) : ∀ n : Nat, n < 4 → bRun b s x 5 1 n := fun n hn => match n, hn with
 | 0, _ => by unfold bRun; kernel_rfl
 | 1, _ => by unfold bRun; kernel_rfl
 | 2, _ => by unfold bRun; kernel_rfl
 | 3, _ => by unfold bRun; kernel_rfl
theorem bn_5_2 (b : Bn) (s : Su) (x : Nat → Int) : ∀ n : Nat, n < 4 → bRun b s x 5 2 n := fun n hn => match n, hn with
 | 0, _ => by unfold bRun; kernel_rfl
 | 1, _ => by unfold bRun; kernel_rfl
 | 2, _ => by unfold bRun; kernel_rfl
 | 3, _ => by unfold bRun; kernel_rfl
theorem bn_5_3 (b : Bn) (s : Su) (x : Nat → Int) : ∀ n : Nat, n < 4 → bRun b s x 5 3 n := fun n hn => match n, hn with
 | 0, _ => by unfold bRun; kernel_rfl
 | 1, _ => by unfold bRun; kernel_rfl
 | 2, _ => by unfold bRun; kernel_rfl
 | 3, _ => by unfold bRun; kernel_rfl
theorem bn_6_0 (b : Bn) (s : Su) (x : Nat → Int) : ∀ n : Nat, n < 4 → bRun b s x 6 0 n := fun n hn => match n, hn with
 | 0, _ => by unfold bRun; kernel_rfl
 | 1, _ => by unfold bRun; kernel_rfl
 | 2, _ => by unfold bRun; kernel_rfl
 | 3, _ => by unfold bRun; kernel_rfl
theorem bn_6_1 (b : Bn) (s : Su) (x : Nat → Int) : ∀ n : Nat, n < 4 → bRun b s x 6 1 n := fun n hn => match n, hn with
 | 0, _ => by unfold bRun; kernel_rfl
 | 1, _ => by unfold bRun; kernel_rfl
 | 2, _ => by unfold bRun; kernel_rfl
 | 3, _ => by unfold bRun; kernel_rfl
theorem bn_7_0 (b : Bn) (s : Su) (x : Nat → Int) : ∀ n : Nat, n < 4 → bRun b s x 7 0 n := fun n hn => match n, hn with
 | 0, _ => by unfold bRun; kernel_rfl
 | 1, _ => by unfold bRun; kernel_rfl
 | 2, _ => by unfold bRun; kernel_rfl
 | 3, _ => by unfold bRun; kernel_rfl
theorem bn_8_0 (b : Bn) (s : Su) (x : Nat → Int) : ∀ n : Nat, n < 4 → bRun b s x 8 0 n := fun n hn => match n, hn with
 | 0, _ => by unfold bRun; kernel_rfl
 | 1, _ => by unfold bRun; kernel_rfl
 | 2, _ => by unfold bRun; kernel_rfl
 | 3, _ => by unfold bRun; kernel_rfl
theorem bn_9_0 (b : Bn) (s : Su) (x : Nat → Int) : ∀ n : Nat, n < 4 → bRun b s x 9 0 n := fun n hn => match n, hn with
 | 0, _ => by unfold bRun; kernel_rfl
 | 1, _ => by unfold bRun; kernel_rfl
 | 2, _ => by unfold bRun; kernel_rfl
 | 3, _ => by unfold bRun; kernel_rfl
theorem bn_10_0 (b : Bn) (s : Su) (x : Nat → Int) : ∀ n : Nat, n < 4 → bRun b s x 10 0 n := fun n hn => match n, hn with
 | 0, _ => by unfold bRun; kernel_rfl
 | 1, _ => by unfold bRun; kernel_rfl
 | 2, _ => by unfold bRun; kernel_rfl
 | 3, _ => by unfold bRun; kernel_rfl
theorem bn_11_0 (b : Bn) (s : Su) (x : Nat → Int) : ∀ n : Nat, n < 4 → bRun b s x 11 0 n := fun n hn => match n, hn with
 | 0, _ => by unfold bRun; kernel_rfl
 | 1, _ => by unfold bRun; kernel_rfl
 | 2, _ => by unfold bRun; kernel_rfl
 | 3, _ => by unfold bRun; kernel_rfl
theorem bn_12_0 (b : Bn) (s : Su) (x : Nat → Int) : ∀ n : Nat, n < 4 → bRun b s x 12 0 n := fun n hn => match n, hn with
 | 0, _ => by unfold bRun; kernel_rfl
 | 1, _ => by unfold bRun; kernel_rfl
 | 2, _ => by unfold bRun; kernel_rfl
 | 3, _ => by unfold bRun; kernel_rfl
theorem bn_12_1 (b : Bn) (s : Su) (x : Nat → Int) : ∀ n : Nat, n < 4 → bRun b s x 12 1 n := fun n hn => match n, hn with
 | 0, _ => by unfold bRun; kernel_rfl
 | 1, _ => by unfold bRun; kernel_rfl
 | 2, _ => by unfold bRun; kernel_rfl
 | 3, _ => by unfold bRun; kernel_rfl
theorem bn_12_2 (b : Bn) (s : Su) (x : Nat → Int) : ∀ n : Nat, n < 4 → bRun b s x 12 2 n := fun n hn => match n, hn with
 | 0, _ => by unfold bRun; kernel_rfl
 | 1, _ => by unfold bRun; kernel_rfl
 | 2, _ => by unfold bRun; kernel_rfl
 | 3, _ => by unfold bRun; kernel_rfl
theorem bn_12_3 (b : Bn) (s : Su) (x : Nat → Int) : ∀ n : Nat, n < 4 → bRun b s x 12 3 n := fun n hn => match n, hn with
 | 0, _ => by unfold bRun; kernel_rfl
 | 1, _ => by unfold bRun; kernel_rfl
 | 2, _ => by unfold bRun; kernel_rfl
 | 3, _ => by unfold bRun; kernel_rfl
theorem bn_12_4 (b : Bn) (s : Su) (x : Nat → Int) : ∀ n : Nat, n < 4 → bRun b s x 12 4 n := fun n hn => match n, hn with
 | 0, _ => by unfold bRun; kernel_rfl
 | 1, _ => by unfold bRun; kernel_rfl
 | 2, _ => by unfold bRun; kernel_rfl
 | 3, _ => by unfold bRun; kernel_rfl
theorem bn_13_0 (b : Bn) (s : Su) (x : Nat → Int) : ∀ n : Nat, n < 4 → bRun b s x 13 0 n := fun n hn => match n, hn with
 | 0, _ => by unfold bRun; kernel_rfl
 | 1, _ => by unfold bRun; kernel_rfl
 | 2, _ => by unfold bRun; kernel_rfl
 | 3, _ => by unfold bRun; kernel_rfl
theorem bn_13_1 (b : Bn) (s : Su) (x : Nat → Int) : ∀ n : Nat, n < 4 → bRun b s x 13 1 n := fun n hn => match n, hn with
 | 0, _ => by unfold bRun; kernel_rfl
 | 1, _ => by unfold bRun; kernel_rfl
 | 2, _ => by unfold bRun; kernel_rfl
 | 3, _ => by unfold bRun; kernel_rfl
theorem bn_13_2 (b : Bn) (s : Su) (x : Nat → Int) : ∀ n : Nat, n < 4 → bRun b s x 13 2 n := fun n hn => match n, hn with
 | 0, _ => by unfold bRun; kernel_rfl
 | 1, _ => by unfold bRun; kernel_rfl
 | 2, _ => by unfold bRun; kernel_rfl
 | 3, _ => by unfold bRun; kernel_rfl
theorem bn_14_0 (b : Bn) (s : Su) (x : Nat → Int) : ∀ n : Nat, n < 4 → bRun b s x 14 0 n := fun n hn => match n, hn with
 | 0, _ => by unfold bRun; kernel_rfl
 | 1, _ => by unfold bRun; kernel_rfl
 | 2, _ => by unfold bRun; kernel_rfl
 | 3, _ => by unfold bRun; kernel_rfl
theorem bn_14_1 (b : Bn) (s : Su) (x : Nat → Int) : ∀ n : Nat, n < 4 → bRun b s x 14 1 n := fun n hn => match n, hn with
 | 0, _ => by unfold bRun; kernel_rfl
 | 1, _ => by unfold bRun; kernel_rfl
 | 2, _ => by unfold bRun; kernel_rfl
 | 3, _ => by unfold bRun; kernel_rfl
theorem bn_15_0 (b : Bn) (s : Su) (x : Nat → Int) : ∀ n : Nat, n < 4 → bRun b s x 15 0 n := fun n hn => match n, hn with
 | 0, _ => by unfold bRun; kernel_rfl
 | 1, _ => by unfold bRun; kernel_rfl
 | 2, _ => by unfold bRun; kernel_rfl
 | 3, _ => by unfold bRun; kernel_rfl
theorem bn_run (b : Bn) (s : Su) (x : Nat → Int) (n : Nat) (hn : n < 4) (w a : Nat) (hw : w < 16) (ha : a < bIx w) : bRun b s x w a n := by
 rcases w with _ | _ | _ | _ | _ | _ | _ | _ | _ | _ | _ | _ | _ | _ | _ | _ | w
 ·rcases a with _ | a
  ·exact bn_0_0 b s x n hn
  ·exact absurd (show a + 1 < 1 from ha) (by omega)
 ·rcases a with _ | a
  ·exact bn_1_0 b s x n hn
  ·exact absurd (show a + 1 < 1 from ha) (by omega)
 ·rcases a with _ | a
  ·exact bn_2_0 b s x n hn
  ·exact absurd (show a + 1 < 1 from ha) (by omega)
 ·rcases a with _ | a
  ·exact bn_3_0 b s x n hn
  ·exact absurd (show a + 1 < 1 from ha) (by omega)
 ·rcases a with _ | a
  ·exact bn_4_0 b s x n hn
  ·exact absurd (show a + 1 < 1 from ha) (by omega)
 ·rcases a with _ | _ | _ | _ | a
  ·exact bn_5_0 b s x n hn
  ·exact bn_5_1 b s x n hn
  ·exact bn_5_2 b s x n hn
  ·exact bn_5_3 b s x n hn
  ·exact absurd (show a + 4 < 4 from ha) (by omega)
 ·rcases a with _ | _ | a
  ·exact bn_6_0 b s x n hn
  ·exact bn_6_1 b s x n hn
  ·exact absurd (show a + 2 < 2 from ha) (by omega)
 ·rcases a with _ | a
  ·exact bn_7_0 b s x n hn
  ·exact absurd (show a + 1 < 1 from ha) (by omega)
 ·rcases a with _ | a
  ·exact bn_8_0 b s x n hn
  ·exact absurd (show a + 1 < 1 from ha) (by omega)
 ·rcases a with _ | a
  ·exact bn_9_0 b s x n hn
  ·exact absurd (show a + 1 < 1 from ha) (by omega)
 ·rcases a with _ | a
  ·exact bn_10_0 b s x n hn
  ·exact absurd (show a + 1 < 1 from ha) (by omega)
 ·rcases a with _ | a
  ·exact bn_11_0 b s x n hn
  ·exact absurd (show a + 1 < 1 from ha) (by omega)
 ·rcases a with _ | _ | _ | _ | _ | a
  ·exact bn_12_0 b s x n hn
  ·exact bn_12_1 b s x n hn
  ·exact bn_12_2 b s x n hn
  ·exact bn_12_3 b s x n hn
  ·exact bn_12_4 b s x n hn
  ·exact absurd (show a + 5 < 5 from ha) (by omega)
 ·rcases a with _ | _ | _ | a
  ·exact bn_13_0 b s x n hn
  ·exact bn_13_1 b s x n hn
  ·exact bn_13_2 b s x n hn
  ·exact absurd (show a + 3 < 3 from ha) (by omega)
 ·rcases a with _ | _ | a
  ·exact bn_14_0 b s x n hn
  ·exact bn_14_1 b s x n hn
  ·exact absurd (show a + 2 < 2 from ha) (by omega)
 ·rcases a with _ | a
  ·exact bn_15_0 b s x n hn
  ·exact absurd (show a + 1 < 1 from ha) (by omega)
 ·exact absurd hw (by omega)
end
end Go.Proofs.YtiigkjnhmipnfaaGreatDoor.K
namespace Go.Proofs.YtiigkjnhmipnfaaGreatDoor.K
open Go Go.Eng Go.Ar Go.Rd
noncomputable section
theorem dr_A0 (d : Df) : ∀ g : Nat, g < 5 → rd1 (cDr 1 false false g) d (co 0) [] = some (.p (nA d g), avA (dsA d (glB g)), 0, []) := fun g hg => match g, hg with
 | 0, _ => by kernel_rfl
 | 1, _ => by kernel_rfl
 | 2, _ => by kernel_rfl
 | 3, _ => by kernel_rfl
 | 4, _ => by kernel_rfl
theorem dr_A1 (d : Df) (n x : Int) (zs : List Int) : ∀ g : Nat, g < 5 → rd1 (cDr 1 false false g) d (co n) (x :: zs) = some (.p (nA d g), avA (dsA d (glB g)), 0, []) := fun g hg => match g, hg with
 | 0, _ => by kernel_rfl
 | 1, _ => by kernel_rfl
 | 2, _ => by kernel_rfl
 | 3, _ => by kernel_rfl
 | 4, _ => by kernel_rfl
theorem dr_C0 (d : Df) : ∀ g : Nat, g < 5 → rd1 (cDr 5 false false g) d (co 0) [] = some (.p (nC d g), avC (dsC d (glB g)), 0, []) := fun g hg => match g, hg with
 | 0, _ => by kernel_rfl
 | 1, _ => by kernel_rfl
 | 2, _ => by kernel_rfl
 | 3, _ => by kernel_rfl
 | 4, _ => by kernel_rfl
theorem dr_C1 (d : Df) (n x : Int) (zs : List Int) : ∀ g : Nat, g < 5 → rd1 (cDr 5 false false g) d (co n) (x :: zs) = some (.p (nC d g), avC (dsC d (glB g)), 0, []) := fun g hg => match g, hg with
 | 0, _ => by kernel_rfl
 | 1, _ => by kernel_rfl
 | 2, _ => by kernel_rfl
 | 3, _ => by kernel_rfl
 | 4, _ => by kernel_rfl
theorem dr_D0 (d : Df) : ∀ g : Nat, g < 5 → rd1 (cDr 6 false false g) d (co 0) [] = some (.p (nD d g), avD (dsD d), 0, []) := fun g hg => match g, hg with
 | 0, _ => by kernel_rfl
 | 1, _ => by kernel_rfl
 | 2, _ => by kernel_rfl
 | 3, _ => by kernel_rfl
 | 4, _ => by kernel_rfl
theorem dr_D1 (d : Df) (n x : Int) (zs : List Int) : ∀ g : Nat, g < 5 → rd1 (cDr 6 false false g) d (co n) (x :: zs) = some (.p (nD d g), avD (dsD d), 0, []) := fun g hg => match g, hg with
 | 0, _ => by kernel_rfl
 | 1, _ => by kernel_rfl
 | 2, _ => by kernel_rfl
 | 3, _ => by kernel_rfl
 | 4, _ => by kernel_rfl
theorem dr_E0 (d : Df) : ∀ g : Nat, g < 5 → rd1 (cDr 7 true false g) d (co 0) [] = some (.p (nE d g true), avE (dsE d), 0, []) := fun g hg => match g, hg with
 | 0, _ => by kernel_rfl
 | 1, _ => by kernel_rfl
 | 2, _ => by kernel_rfl
 | 3, _ => by kernel_rfl
 | 4, _ => by kernel_rfl
theorem dr_E1 (d : Df) (n x : Int) (zs : List Int) : ∀ g : Nat, g < 5 → rd1 (cDr 7 true false g) d (co n) (x :: zs) = some (.p (nE d g true), avE (dsE d), 0, []) := fun g hg => match g, hg with
 | 0, _ => by kernel_rfl
 | 1, _ => by kernel_rfl
 | 2, _ => by kernel_rfl
 | 3, _ => by kernel_rfl
 | 4, _ => by kernel_rfl
theorem dr_F0 (d : Df) : ∀ g : Nat, g < 5 → rd1 (cDr 7 false false g) d (co 0) [] = some (.p (nE d g false), avF (dsF d (glB g)), 0, []) := fun g hg => match g, hg with
 | 0, _ => by kernel_rfl
 | 1, _ => by kernel_rfl
 | 2, _ => by kernel_rfl
 | 3, _ => by kernel_rfl
 | 4, _ => by kernel_rfl
theorem dr_F1 (d : Df) (n x : Int) (zs : List Int) : ∀ g : Nat, g < 5 → rd1 (cDr 7 false false g) d (co n) (x :: zs) = some (.p (nE d g false), avF (dsF d (glB g)), 0, []) := fun g hg => match g, hg with
 | 0, _ => by kernel_rfl
 | 1, _ => by kernel_rfl
 | 2, _ => by kernel_rfl
 | 3, _ => by kernel_rfl
 | 4, _ => by kernel_rfl
theorem dr_B0 (d : Df) : ∀ g : Nat, g < 5 → rd1 (cDr 4 false false g) d (co 0) [] = some (.p (nB d g), avB (dsB d (glB g)), 0, []) := fun g hg => match g, hg with
 | 0, _ => by kernel_rfl
 | 1, _ => by kernel_rfl
 | 2, _ => by kernel_rfl
 | 3, _ => by kernel_rfl
 | 4, _ => by kernel_rfl
theorem dr_B1 (d : Df) (x : Int) : ∀ g : Nat, g < 5 → rd1 (cDr 4 false false g) d (co 1) [x] = some (.p (nB d g), avB (dsB d (glB g)), 1, film0 x) := fun g hg => match g, hg with
 | 0, _ => by kernel_rfl
 | 1, _ => by kernel_rfl
 | 2, _ => by kernel_rfl
 | 3, _ => by kernel_rfl
 | 4, _ => by kernel_rfl
theorem dr_B2 (d : Df) (x y : Int) : ∀ g : Nat, g < 5 → rd1 (cDr 4 false false g) d (co 2) [x, y] = some (.p (nB d g), avB (dsB d (glB g)), 2, film0 x ++ film0 y) := fun g hg => match g, hg with
 | 0, _ => by kernel_rfl
 | 1, _ => by kernel_rfl
 | 2, _ => by kernel_rfl
 | 3, _ => by kernel_rfl
 | 4, _ => by kernel_rfl
theorem dr_B3e (d : Df) (x y z : Int) : ∀ g : Nat, g < 5 → rd1 (cDr 4 false false g) d (co 3) [x, y, z] = some (.p (nB d g), avB (dsB d (glB g)), 3, film0 x ++ (film0 y ++ film0 z)) := fun g hg => match g, hg with
 | 0, _ => by kernel_rfl
 | 1, _ => by kernel_rfl
 | 2, _ => by kernel_rfl
 | 3, _ => by kernel_rfl
 | 4, _ => by kernel_rfl
theorem dr_B3 (d : Df) (x y z n : Int) (zs : List Int) : ∀ g : Nat, g < 5 → rd1 (cDr 4 false true g) d (.pslice hG.size 3 true n) (x :: y :: z :: zs) = some (.p (nB3 d g n), avB (dsB d (glB g)), 3, film0 x ++ (film0 y ++ film0 z)) := fun g hg => match g, hg with
 | 0, _ => by kernel_rfl
 | 1, _ => by kernel_rfl
 | 2, _ => by kernel_rfl
 | 3, _ => by kernel_rfl
 | 4, _ => by kernel_rfl
end
end Go.Proofs.YtiigkjnhmipnfaaGreatDoor.K
namespace Go.Proofs.YtiigkjnhmipnfaaGreatDoor.K
open Go Go.Eng Go.Ar Go.Rd
noncomputable section
def draftV : Nat → List Itm → Option (Prop × AV × List ABody) := fun sz its => match its with
 | [.s xs n zs] => match drOf xs with
  | some d => some (n = zs.length ∧ 0 ≤ d.gl ∧ d.gl ≤ 255, .agg ((dsu d).ini ++ [.lslice sz (dnf d zs)]), [.rows .i64 (dys d zs)])
  | none => none
 | _ => none
theorem dcells_t (d : Df) : tellL d.cells d.cells := by
 repeat' first
  | exact trivial
  | refine ⟨⟨rfl, rfl⟩, ?_⟩
theorem tell_dr (d : Df) (n : Int) (zs : List Int) (coat : AV) (h : tell (.pslice hG.size n.toNat false n) coat) : tellL (mkA false hG.size [.s drI .u8] [.s d.nus n zs]) [.agg (d.cells ++ [coat])] := by
 have e : mkA false hG.size [.s drI .u8] [.s d.nus n zs] = [.agg (d.cells ++ [.pslice hG.size n.toNat false n])] := rfl
 rw [e]
 exact ⟨tellL_app (dcells_t d) ⟨h, trivial⟩, trivial⟩
theorem tellS (s : Su) : tellL s.ini s.ini := by
 repeat' first
  | exact trivial
  | refine ⟨⟨rfl, rfl⟩, ?_⟩
  | refine ⟨rfl, ?_⟩
theorem tavA (d : Df) (g : ByteArray) : tellL (avA (dsA d g)) (dsA d g).ini := by
 repeat' first
  | exact trivial
  | refine ⟨⟨rfl, rfl⟩, ?_⟩
  | refine ⟨rfl, ?_⟩
theorem tavB (d : Df) (g : ByteArray) : tellL (avB (dsB d g)) (dsB d g).ini := by
 repeat' first
  | exact trivial
  | refine ⟨⟨rfl, rfl⟩, ?_⟩
  | refine ⟨rfl, ?_⟩
theorem tavC (d : Df) (g : ByteArray) : tellL (avC (dsC d g)) (dsC d g).ini := by
 repeat' first
  | exact trivial
  | refine ⟨⟨rfl, rfl⟩, ?_⟩
  | refine ⟨rfl, ?_⟩
theorem tavD (d : Df) : tellL (avD (dsD d)) (dsD d).ini := by
 repeat' first
  | exact trivial
  | refine ⟨⟨rfl, rfl⟩, ?_⟩
  | refine ⟨rfl, ?_⟩
theorem tavE (d : Df) : tellL (avE (dsE d)) (dsE d).ini := by
 repeat' first
  | exact trivial
  | refine ⟨⟨rfl, rfl⟩, ?_⟩
  | refine ⟨rfl, ?_⟩
theorem tavF (d : Df) (g : ByteArray) : tellL (avF (dsF d g)) (dsF d g).ini := by
 repeat' first
  | exact trivial
  | refine ⟨⟨rfl, rfl⟩, ?_⟩
  | refine ⟨rfl, ?_⟩
set_option maxRecDepth 4000 in
theorem draft_ok : NOk Tryz.prog glob hG 15 (lSpec hG [.s drI .u8] draftV) := by
 refine lsp_ok false hG_ok hG_plain glob_lt (fun sz its p v bs e hp => ?_) ⟨_, Tryz.func15, rfl⟩
 unfold draftV at e
 split at e
 ·rename_i xs n zs
  split at e
  ·rename_i d hs
   cases e
   obtain ⟨hn, hg0, hg1⟩ := hp
   obtain rfl := drOf_eq hs
   have w : W64 d.gl = d.gl := Go.Ar.i64w (by omega) (by omega)
   have hgl : (W64 d.gl).tmod 5 = (((W64 d.gl).tmod 5).toNat : Int) ∧ ((W64 d.gl).tmod 5).toNat < 5 := by
    rw [w, Int.tmod_eq_emod_of_nonneg hg0]
    omega
   obtain ⟨hg, hlt⟩ := hgl
   obtain ⟨G, hGe⟩ : ∃ G, ((W64 d.gl).tmod 5).toNat = G := ⟨_, rfl⟩
   rw [hGe] at hg hlt
   have hN : dN d (G : Int) := ⟨hg, rfl, rfl, rfl, rfl, rfl⟩
   clear w hg0 hg1
   refine ⟨⟨fun h0 => by rw [hn, h0]; rfl, trivial⟩, rfl, ?_⟩
   have fin : ∀ {C : Ctx} {coat : AV} {nd : Nd} {init : List AV} {k : Nat} {ys : List Int} (co : CtxOk C) (hP : C.P = Tryz.prog) (hG' : C.glob = glob) (hco : tell (.pslice hG.size n.toNat false n) coat) (hr : rd1 C d coat zs = some (nd, init, k, ys)) (hnum : AV.numL init = true) (hnd : nd.val) (ht : tellL init (dsu d).ini) (hk : (dnf d zs : Int) = k) (hy : dys d zs = ys),
     ∃ (C : Ctx) (n' : Nat) (ar : List AV) (nd0 : Nd) (v0 : AV) (k : Hp), CtxOk C ∧ C.P = Tryz.prog ∧ C.glob = glob ∧ tellL (mkA false hG.size [.s drI .u8] [.s d.nus n zs]) ar ∧
      (run C n').call 15 ar (viewsH false hG (lists [.s drI .u8] [.s d.nus n zs])) = some ⟨nd0, [⟨.tt, v0, k⟩]⟩ ∧ v0.isPanic = false ∧ nd0.val ∧ allOld hG.clock (dropN (k.size - (viewsH false hG (lists [.s drI .u8] [.s d.nus n zs])).size) k.blks) = true ∧ Tells (viewsH false hG (lists [.s drI .u8] [.s d.nus n zs])).size k v0 sz (.agg ((dsu d).ini ++ [.lslice sz (dnf d zs)])) [.rows .i64 (dys d zs)] := by
    intro C coat nd init k ys co hP hG' hco hr hnum hnd ht hk hy
    obtain ⟨v0, q, h1, h2, h3, h4⟩ := outL_tells hr hnum
    exact ⟨C, 1000, [.agg (d.cells ++ [coat])], nd, v0, q, co, hP, hG', tell_dr d n zs coat hco, h1, h2, hnd, h3, h4 sz _ _ _ ht hk hy⟩
   have same : tell (.pslice hG.size n.toNat false n) (co n) := ⟨rfl, Nat.le_refl _, rfl⟩
   cases h4 : d.kd.tmod 8 == 4 with
   | true =>
    have ed : dsu d = dsB d (glB G) := by unfold dsu; rw [h4, hGe]; rfl
    have ef : dnf d zs = nfD zs := by unfold dnf; rw [h4]; rfl
    have ey : dys d zs = filmsD zs := by unfold dys; rw [h4]; rfl
    have tt : tellL (avB (dsB d (glB G))) (dsu d).ini := by rw [ed]; exact tavB d _
    rcases zs with _ | ⟨x, _ | ⟨y, _ | ⟨z, _ | ⟨t, r⟩⟩⟩⟩
    ·obtain rfl : n = 0 := hn
     exact fin (cDr_ok 4 false false G) rfl rfl same (dr_B0 d G hlt) rfl ⟨hN, h4⟩ tt (by rw [ef]; rfl) ey
    ·obtain rfl : n = 1 := hn
     exact fin (cDr_ok 4 false false G) rfl rfl same (dr_B1 d x G hlt) rfl ⟨hN, h4⟩ tt (by rw [ef]; rfl) ey
    ·obtain rfl : n = 2 := hn
     exact fin (cDr_ok 4 false false G) rfl rfl same (dr_B2 d x y G hlt) rfl ⟨hN, h4⟩ tt (by rw [ef]; rfl) ey
    ·obtain rfl : n = 3 := hn
     exact fin (cDr_ok 4 false false G) rfl rfl same (dr_B3e d x y z G hlt) rfl ⟨hN, h4⟩ tt (by rw [ef]; rfl) ey
    ·have h0 : 4 ≤ n := by rw [hn]; simp only [List.length_cons]; omega
     exact fin (cDr_ok 4 false true G) rfl rfl (show tell _ (.pslice hG.size 3 true n) from ⟨rfl, by omega, rfl⟩) (dr_B3 d x y z n (t :: r) G hlt) rfl ⟨hN, h4, decide_eq_true (by omega), decide_eq_true (by omega), decide_eq_true (by omega), decide_eq_true (by omega)⟩ tt (by rw [ef]; rfl) ey
   | false =>
    have ef : dnf d zs = 0 := by unfold dnf; rw [h4]; rfl
    have ey : dys d zs = [] := by unfold dys; rw [h4]; rfl
    have ef' : (dnf d zs : Int) = (0 : Nat) := by rw [ef]
    have fin2 : ∀ {C : Ctx} {nd : Nd} {init : List AV} (cok : CtxOk C) (hP : C.P = Tryz.prog) (hG' : C.glob = glob) (h0 : rd1 C d (co 0) [] = some (nd, init, 0, [])) (h1 : ∀ x r, rd1 C d (co n) (x :: r) = some (nd, init, 0, [])) (hnum : AV.numL init = true) (hnd : nd.val) (ht : tellL init (dsu d).ini), _ := fun {C nd init} cok hP hG' h0 h1 hnum hnd ht =>
     fin (C := C) (nd := nd) (init := init) cok hP hG' same (by
      cases hz : zs with
      | nil => rw [show n = 0 by rw [hn, hz]; rfl]; exact h0
      | cons x r => exact h1 x r) hnum hnd ht ef' ey
    cases h5 : d.kd.tmod 8 == 5 with
    | true =>
     have ed : dsu d = dsC d (glB G) := by unfold dsu; rw [h4, h5, hGe]; rfl
     exact fin2 (cDr_ok 5 false false G) rfl rfl (dr_C0 d G hlt) (fun x r => dr_C1 d n x r G hlt) rfl ⟨hN, h4, h5⟩ (by rw [ed]; exact tavC d _)
    | false =>
     cases h6 : d.kd.tmod 8 == 6 with
     | true =>
      have ed : dsu d = dsD d := by unfold dsu; rw [h4, h5, h6]; rfl
      exact fin2 (cDr_ok 6 false false G) rfl rfl (dr_D0 d G hlt) (fun x r => dr_D1 d n x r G hlt) rfl ⟨hN, h4, h5, h6⟩ (by rw [ed]; exact tavD d)
     | false =>
      cases h7 : d.kd.tmod 8 == 7 with
      | true =>
       cases ho : d.o.tmod 2 == 0 with
       | true =>
        have ed : dsu d = dsE d := by unfold dsu; rw [h4, h5, h6, h7, ho]; rfl
        exact fin2 (cDr_ok 7 true false G) rfl rfl (dr_E0 d G hlt) (fun x r => dr_E1 d n x r G hlt) rfl ⟨hN, h4, h5, h6, h7, ho⟩ (by rw [ed]; exact tavE d)
       | false =>
        have ed : dsu d = dsF d (glB G) := by unfold dsu; rw [h4, h5, h6, h7, ho, hGe]; rfl
        exact fin2 (cDr_ok 7 false false G) rfl rfl (dr_F0 d G hlt) (fun x r => dr_F1 d n x r G hlt) rfl ⟨hN, h4, h5, h6, h7, ho⟩ (by rw [ed]; exact tavF d _)
      | false =>
       have ed : dsu d = dsA d (glB G) := by unfold dsu; rw [h4, h5, h6, h7, hGe]; rfl
       exact fin2 (cDr_ok 1 false false G) rfl rfl (dr_A0 d G hlt) (fun x r => dr_A1 d n x r G hlt) rfl ⟨hN, h4, h5, h6, h7⟩ (by rw [ed]; exact tavA d _)
  ·cases e
 ·cases e
end
end Go.Proofs.YtiigkjnhmipnfaaGreatDoor.K
namespace Go.Proofs.YtiigkjnhmipnfaaGreatDoor.K
open Go Go.Eng Go.Ar Go.Rd
noncomputable section
abbrev bnP : List Pa := [.n (.a bnI), .s suI .i64]
def bendV : Nat → List Itm → Option (Prop × AV × List ABody) := fun sz its => match its with
 | [.n xs, .s ys n zs] => match bnOf xs, suOf ys with
  | some b, some s => some (b.ok ∧ okF3 n zs ∧ n ≤ 3, .agg ((bsu b s).ini ++ [.lslice sz (bnf b n.toNat)]), [.rows .i64 (bys b n.toNat zs)])
  | _, _ => none
 | _ => none
theorem tellS' (b : Bn) : tellL b.cells b.cells := by
 repeat' first
  | exact trivial
  | refine ⟨⟨rfl, rfl⟩, ?_⟩
  | refine ⟨rfl, ?_⟩
theorem bend_ok : NOk Tryz.prog glob hG 16 (lSpec hG bnP bendV) := by
 refine lsp_ok false hG_ok hG_plain glob_lt (fun sz its p v bs e hp => ?_) ⟨_, Tryz.func16, rfl⟩
 unfold bendV at e
 split at e
 ·rename_i xs ys n zs
  split at e
  ·rename_i b s hb hs
   cases e
   obtain ⟨ok, hf, h3⟩ := hp
   obtain rfl := bnOf_eq hb
   obtain rfl := suOf_eq hs
   obtain ⟨k, x, hk, rfl, rfl⟩ := okF3_of hf
   refine ⟨⟨fun h0 => ?_, trivial⟩, rfl, ?_⟩
   ·have : (spinF (3 * k) 0 x).length = 3 * k := by
     have := hf.2.2
     simpa using this
    rw [h0] at this
    simp only [List.length_nil] at this
    omega
   have r := bn_run b s x k (by omega) b.w b.a ok.case.1 ok.ix.1
   unfold bRun rb1 at r
   have hnum : AV.numL (bsuW b s b.w b.a).ini = true := rfl
   obtain ⟨v0, q, h1, h2, h3, h4⟩ := outL_tells r hnum
   refine ⟨cBn b.w b.a, 1000, [.agg b.cells, .agg (s.ini ++ [co k])], _, v0, q, cBn_ok _ _, rfl, rfl, ?_, h1, h2, ok.nd k, h3, ?_⟩
   ·exact ⟨tellS' b, tellL_app (tellS s) ⟨⟨rfl, Nat.le_refl _, rfl⟩, trivial⟩, trivial⟩
   ·exact h4 sz _ _ _ (tellS (bsuW b s b.w b.a)) rfl rfl
  ·cases e
 ·cases e
end
end Go.Proofs.YtiigkjnhmipnfaaGreatDoor.K
