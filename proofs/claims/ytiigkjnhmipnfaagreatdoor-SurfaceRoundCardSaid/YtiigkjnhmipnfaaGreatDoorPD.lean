/- What is proved: that SurfaceRound returns true: a part of the proof (part 4 of 13). No conditions beyond those of the row. -/
import Derived.Test.YtiigkjnhmipnfaaGreatDoorPC
import Derived.Laws.BitsLemmas
set_option linter.unusedVariables false
set_option linter.unusedSimpArgs false
set_option linter.unusedSectionVars false
/- Fixed-point numbers: what the texts of package fix reckon, and what it is. No program. -/
namespace Go.Ar
open Go

def two64 : Int := 18446744073709551616

/-! ### What it is -/

def okF (a : Int) : Bool := decide (-4503599627370496 ≤ a) && decide (a ≤ 4503599627370496)

/-- n / d rounded down or up. -/
def rd (n d : Int) (up : Bool) : Int := bif up then -(-n / d) else n / d

def fitV (v : Int) : Int := bif okF v then v else 0
def fitE (v : Int) : Int := bif okF v then 0 else 6

def mulV (a b : Int) (up : Bool) : Int := bif okF a && okF b then fitV (rd (a * b) 4294967296 up) else 0
def mulE (a b : Int) (up : Bool) : Int := bif okF a && okF b then fitE (rd (a * b) 4294967296 up) else 2

/-- The sign of b times a. -/
def sg (a b : Int) : Int := bif decide (b < 0) then -a else a

def divV (a b : Int) (up : Bool) : Int := bif okF a && okF b then (bif b == 0 then 0 else fitV (rd (sg (a * 4294967296) b) (sg b b) up)) else 0
def divE (a b : Int) (up : Bool) : Int := bif okF a && okF b then (bif b == 0 then 7 else fitE (rd (sg (a * 4294967296) b) (sg b b) up)) else 2

def okS (a n d : Int) : Bool := okF a && (decide (-4611686018427387904 ≤ n) && decide (n ≤ 4611686018427387904) && decide (1 ≤ d) && decide (d ≤ 4611686018427387904))
def scaleV (a n d : Int) (up : Bool) : Int := bif okS a n d then fitV (rd (a * n) d up) else 0
def scaleE (a n d : Int) (up : Bool) : Int := bif okS a n d then fitE (rd (a * n) d up) else 2

/-! ### What the texts reckon -/

def xC (a : Int) : Int := bif bif decide (a < -4503599627370496) then true else decide (a > 4503599627370496) then 2 else 0
def xAll (a b : Int) : Int := bif !(xC a != 0) && !(xC b != 0) then 0 else bif xC a != 0 then xC a else xC b
def xSz (a : Int) : Int := bif decide (a < 0) then IntKind.u64.wrap (IntKind.u64.wrap (IntKind.i64.wrap (0 - IntKind.i64.wrap (a + 1))) + 1) else IntKind.u64.wrap a
def xHi (p : Int) : Int := p / two64
def xLo (p : Int) : Int := p % two64
def xNo (p d : Int) : Bool := decide (xHi p ≥ d)
def xN (p d : Int) (up neg : Bool) : Int := bif xNo p d then 0 else
  bif bif !(up == neg) then decide ((xHi p * two64 + xLo p) % d > 0) else false then IntKind.u64.wrap ((xHi p * two64 + xLo p) / d + 1) else (xHi p * two64 + xLo p) / d
def xBig (p d : Int) (up neg : Bool) : Bool := bif !(bif xNo p d then false else true) then true else decide (xN p d up neg > 4503599627370496)
def xV (p d : Int) (up neg : Bool) : Int := bif xBig p d up neg then 0 else bif neg then IntKind.i64.wrap (0 - IntKind.i64.wrap (xN p d up neg)) else IntKind.i64.wrap (xN p d up neg)
def xE (p d : Int) (up neg : Bool) : Int := bif xBig p d up neg then 6 else 0
def xNeg (a b : Int) : Bool := !(decide (a < 0) == decide (b < 0))
def xIn (a b : Int) : Prop := decide (0 ≤ a ∧ a < 18446744073709551616 ∧ 0 ≤ b ∧ b < 18446744073709551616) = true
def xDiv (p d : Int) : Prop := decide (0 ≤ xHi p ∧ xHi p < d ∧ d < 18446744073709551616 ∧ 0 ≤ xLo p ∧ xLo p < 18446744073709551616) = true

theorem i64w {n : Int} (h0 : -9223372036854775808 ≤ n) (h1 : n < 9223372036854775808) : IntKind.i64.wrap n = n := by rw [IntKind.wrap_i64]; omega
theorem u64w {n : Int} (h0 : 0 ≤ n) (h1 : n < 18446744073709551616) : IntKind.u64.wrap n = n := by rw [IntKind.wrap_u64]; omega

theorem xSz_eq {a : Int} (h0 : -9223372036854775808 ≤ a) (h1 : a < 9223372036854775808) : xSz a = sg a a := by
  unfold xSz sg
  by_cases h : a < 0
  · simp only [h, decide_true, cond_true]
    rw [i64w (n := a + 1) (by omega) (by omega), i64w (n := 0 - (a + 1)) (by omega) (by omega), u64w (n := 0 - (a + 1)) (by omega) (by omega), u64w (by omega) (by omega)]
    omega
  · simp only [h, decide_false, cond_false]
    rw [u64w (by omega) (by omega)]

theorem sg_nonneg (a : Int) : 0 ≤ sg a a := by
  unfold sg
  by_cases h : a < 0
  · simp only [h, decide_true, cond_true]; omega
  · simp only [h, decide_false, cond_false]; omega

theorem okF_iff {a : Int} : okF a = true ↔ -4503599627370496 ≤ a ∧ a ≤ 4503599627370496 := by simp [okF]
theorem okF_false {a : Int} : okF a = false ↔ a < -4503599627370496 ∨ 4503599627370496 < a := by
  rw [← Bool.not_eq_true, okF_iff]; omega

theorem xC_eq (a : Int) : xC a = bif okF a then 0 else 2 := by
  unfold xC
  cases h : okF a with
  | true =>
    have := okF_iff.1 h
    simp [show ¬ a < -4503599627370496 by omega, show ¬ a > 4503599627370496 by omega]
  | false =>
    rcases okF_false.1 h with h | h
    · simp [h]
    · simp [show ¬ a < -4503599627370496 by omega, h]

theorem xAll_eq (a b : Int) : xAll a b = bif okF a && okF b then 0 else 2 := by
  unfold xAll
  rw [xC_eq, xC_eq]
  cases okF a <;> cases okF b <;> rfl

/-- Minus a number over another one. -/
theorem neg_div {p d : Int} (hd : 0 < d) : -p / d = -(p / d) - (if 0 < p % d then 1 else 0) := by
  have h1 := Int.mul_ediv_add_emod p d
  have h2 := Int.emod_nonneg p (show d ≠ 0 by omega)
  have h3 := Int.emod_lt_of_pos p hd
  split
  · have h4 : (-p) / d = -(p / d) - 1 ∧ (-p) % d = d - p % d := by
      rw [Int.ediv_emod_unique hd]
      refine ⟨?_, by omega, by omega⟩
      rw [Int.mul_sub, Int.mul_neg]
      omega
    exact h4.1
  · have : p % d = 0 := by omega
    have h4 : (-p) / d = -(p / d) ∧ (-p) % d = 0 := by
      rw [Int.ediv_emod_unique hd]
      refine ⟨?_, by omega, by omega⟩
      rw [Int.mul_neg]
      omega
    omega

theorem xN_eq {p d : Int} (hp : 0 ≤ p) (hp' : p < 340282366920938463463374607431768211456) (hd : 0 < d) (hd' : d < 18446744073709551616) (up neg : Bool) (n : Int) (hn : n = bif neg then -p else p) (hx : p < 18446744073709551615 * d ∨ (!(up == neg)) = false) :
    xV p d up neg = fitV (rd n d up) ∧ xE p d up neg = fitE (rd n d up) ∧ (xNo p d = false → xDiv p d) := by
  have e1 : xHi p * two64 + xLo p = p := by unfold xHi xLo; have := Int.mul_ediv_add_emod p two64; rw [Int.mul_comm] at this; exact this
  have l0 : 0 ≤ xLo p := Int.emod_nonneg p (by decide)
  have l1 : xLo p < 18446744073709551616 := Int.emod_lt_of_pos p (by decide)
  have h0 : 0 ≤ xHi p := Int.ediv_nonneg hp (by decide)
  have q0 : 0 ≤ p / d := Int.ediv_nonneg hp (by omega)
  have r0 := Int.emod_nonneg p (show d ≠ 0 by omega)
  have rv : rd n d up = bif neg then -(p / d + (if (!(up == neg)) = true ∧ 0 < p % d then 1 else 0)) else p / d + (if (!(up == neg)) = true ∧ 0 < p % d then 1 else 0) := by
    subst hn
    unfold rd
    cases neg <;> cases up <;> simp [neg_div hd] <;> split <;> omega
  by_cases hno : xHi p ≥ d
  · -- the quotient does not fit
    have e2 : xNo p d = true := by simp [xNo, hno]
    have big : 18446744073709551616 ≤ p / d := by
      rw [Int.le_ediv_iff_mul_le hd]
      have h2 : d * two64 ≤ xHi p * two64 := Int.mul_le_mul_of_nonneg_right hno (by decide)
      have h3 : (18446744073709551616 : Int) * d = d * two64 := by rw [Int.mul_comm]; rfl
      omega
    have hb : xBig p d up neg = true := by simp [xBig, e2]
    have hf : okF (rd n d up) = false := by
      rw [okF_false, rv]
      cases neg <;> simp <;> split <;> omega
    refine ⟨by simp [xV, hb, fitV, hf], by simp [xE, hb, fitE, hf], fun h => by rw [e2] at h; cases h⟩
  · have e2 : xNo p d = false := by simp [xNo]; omega
    have hlt : p < d * 18446744073709551616 := by
      have h2 : (xHi p + 1) * two64 ≤ d * two64 := Int.mul_le_mul_of_nonneg_right (by omega) (by decide)
      rw [Int.add_mul] at h2
      unfold two64 at *
      omega
    have q1 : p / d < 18446744073709551616 := by
      rw [Int.ediv_lt_iff_lt_mul hd]
      rw [Int.mul_comm]; exact hlt
    have ex : xV p d up neg = fitV (rd n d up) ∧ xE p d up neg = fitE (rd n d up) := by
      have hN : xN p d up neg = p / d + (if (!(up == neg)) = true ∧ 0 < p % d then 1 else 0) := by
        unfold xN
        rw [e2, e1]
        cases hu : !(up == neg) with
        | false => simp
        | true =>
          by_cases hr : 0 < p % d
          · simp only [cond_true, cond_false, hr, decide_true, gt_iff_lt, and_self, if_true]
            rw [u64w (by omega)]
            have : p / d ≠ 18446744073709551615 := by
              intro hq
              have h5 : p / d * d ≤ p := Int.ediv_mul_le p (by omega)
              rw [hq] at h5
              rcases hx with hx | hx
              · omega
              · rw [hu] at hx; cases hx
            omega
          · simp [hr]
      generalize hk : p / d + (if (!(up == neg)) = true ∧ 0 < p % d then 1 else 0) = k at hN rv
      have k0 : 0 ≤ k := by rw [← hk]; split <;> omega
      unfold xV xE xBig
      rw [e2, hN, rv]
      by_cases hb : k > 4503599627370496
      · have hf : okF (bif neg then -k else k) = false := by
          rw [okF_false]
          cases neg <;> simp <;> omega
        simp [hb, fitV, fitE, hf]
      · have hf : okF (bif neg then -k else k) = true := by
          rw [okF_iff]
          cases neg <;> simp <;> omega
        simp only [hb, decide_false, cond_true, cond_false, Bool.not_true, fitV, fitE, hf]
        refine ⟨?_, trivial⟩
        rw [i64w (n := k) (by omega) (by omega), i64w (n := 0 - k) (by omega) (by omega)]
        cases neg <;> simp
    refine ⟨ex.1, ex.2, fun _ => ?_⟩
    unfold xDiv
    rw [decide_eq_true_eq]
    exact ⟨h0, by omega, hd', l0, l1⟩

/-- A quotient that is far too great: rounded one of the two ways it is refused. -/
theorem xE_far {p d : Int} (hp : 0 ≤ p) (hd : 0 < d) (hd' : d < 18446744073709551616) (neg : Bool) (n : Int) (hn : n = bif neg then -p else p) (hx : 18446744073709551615 * d ≤ p) :
    xE p d neg neg = 6 ∧ (∀ up, fitE (rd n d up) = 6) ∧ (xNo p d = false → xDiv p d) := by
  have e1 : xHi p * two64 + xLo p = p := by unfold xHi xLo; have := Int.mul_ediv_add_emod p two64; rw [Int.mul_comm] at this; exact this
  have l0 : 0 ≤ xLo p := Int.emod_nonneg p (by decide)
  have l1 : xLo p < 18446744073709551616 := Int.emod_lt_of_pos p (by decide)
  have h0 : 0 ≤ xHi p := Int.ediv_nonneg hp (by decide)
  have q0 : 18446744073709551615 ≤ p / d := by rw [Int.le_ediv_iff_mul_le hd]; exact hx
  refine ⟨?_, fun up => ?_, fun h => ?_⟩
  · unfold xE xBig xN
    cases h : xNo p d with
    | true => simp
    | false =>
      rw [e1]
      simp only [beq_self_eq_true, Bool.not_true, Bool.not_false, cond_true, cond_false]
      rw [decide_eq_true (by omega)]; rfl
  · have hf : okF (rd n d up) = false := by
      rw [okF_false]
      subst hn
      unfold rd
      cases neg <;> cases up <;> simp [neg_div hd] <;> (try split) <;> omega
    simp [fitE, hf]
  · unfold xDiv
    rw [decide_eq_true_eq]
    refine ⟨h0, ?_, hd', l0, l1⟩
    simp [xNo] at h
    omega

/-! ### The functions -/

def xMulV (a b : Int) (up : Bool) : Int := bif xAll a b != 0 then 0 else xV (xSz a * xSz b) 4294967296 up (xNeg a b)
def xMulE (a b : Int) (up : Bool) : Int := bif xAll a b != 0 then xAll a b else xE (xSz a * xSz b) 4294967296 up (xNeg a b)
def xMulN (a b : Int) : Prop := (!(xAll a b != 0)) = true → b = b ∧ xIn (xSz a) (xSz b) ∧ ((!xNo (xSz a * xSz b) 4294967296) = true → xDiv (xSz a * xSz b) 4294967296)
def xDivV (a b : Int) (up : Bool) : Int := bif xAll a b != 0 then 0 else bif b == 0 then 0 else xV (xSz a * 4294967296) (xSz b) up (xNeg a b)
def xDivE (a b : Int) (up : Bool) : Int := bif xAll a b != 0 then xAll a b else bif b == 0 then 7 else xE (xSz a * 4294967296) (xSz b) up (xNeg a b)
def xDivN (a b : Int) : Prop := (!(xAll a b != 0)) = true → (!(b == 0)) = true → b = b ∧ xIn (xSz a) 4294967296 ∧ b = b ∧ ((!xNo (xSz a * 4294967296) (xSz b)) = true → xDiv (xSz a * 4294967296) (xSz b))
def xOkS (a n d : Int) : Bool := bif xC a != 0 then true else bif decide (n < -4611686018427387904) then true else bif decide (n > 4611686018427387904) then true else bif decide (d < 1) then true else decide (d > 4611686018427387904)
def xScV (a n d : Int) (up : Bool) : Int := bif xOkS a n d then 0 else xV (xSz a * xSz n) (IntKind.u64.wrap d) up (xNeg a n)
def xScE (a n d : Int) (up : Bool) : Int := bif xOkS a n d then 2 else xE (xSz a * xSz n) (IntKind.u64.wrap d) up (xNeg a n)
def xScN (a n d : Int) : Prop := (!xOkS a n d) = true → (d = d ∧ n = n) ∧ d = d ∧ xIn (xSz a) (xSz n) ∧ d = d ∧ ((!xNo (xSz a * xSz n) (IntKind.u64.wrap d)) = true → xDiv (xSz a * xSz n) (IntKind.u64.wrap d))

theorem sg_cases (a : Int) : (a < 0 ∧ sg a a = -a) ∨ (0 ≤ a ∧ sg a a = a) := by
  unfold sg
  by_cases h : a < 0
  · left; simp [h]
  · right; simp [h]; omega

theorem xNeg_mul (a b : Int) : a * b = bif xNeg a b then -(sg a a * sg b b) else sg a a * sg b b := by
  unfold xNeg sg
  by_cases h : a < 0 <;> by_cases k : b < 0 <;> simp [h, k, Int.neg_mul, Int.mul_neg]

theorem xDiv_all {p d : Int} (hp : 0 ≤ p) (hd' : d < 18446744073709551616) (h : xNo p d = false) : xDiv p d := by
  unfold xDiv
  rw [decide_eq_true_eq]
  simp [xNo] at h
  exact ⟨Int.ediv_nonneg hp (by decide), by omega, hd', Int.emod_nonneg p (by decide), Int.emod_lt_of_pos p (by decide)⟩

theorem xAll_ok {a b : Int} (h : (!(xAll a b != 0)) = true) : okF a = true ∧ okF b = true := by
  rw [xAll_eq] at h
  cases ha : okF a <;> cases hb : okF b <;> simp [ha, hb] at h ⊢

theorem xIn_of {a b : Int} (ha : 0 ≤ a) (ha' : a < 18446744073709551616) (hb : 0 ≤ b) (hb' : b < 18446744073709551616) : xIn a b := by
  unfold xIn; rw [decide_eq_true_eq]; exact ⟨ha, ha', hb, hb'⟩

theorem sz_of {a : Int} (h : okF a = true) : xSz a = sg a a ∧ 0 ≤ sg a a ∧ sg a a ≤ 4503599627370496 := by
  have h := okF_iff.1 h
  refine ⟨xSz_eq (by omega) (by omega), sg_nonneg a, ?_⟩
  rcases sg_cases a with ⟨_, e⟩ | ⟨_, e⟩ <;> omega

theorem xMul_need (a b : Int) : xMulN a b := by
  intro h
  obtain ⟨ha, hb⟩ := xAll_ok h
  obtain ⟨a1, a2, a3⟩ := sz_of ha
  obtain ⟨b1, b2, b3⟩ := sz_of hb
  rw [a1, b1]
  refine ⟨rfl, xIn_of a2 (by omega) b2 (by omega), fun hn => ?_⟩
  exact xDiv_all (Int.mul_nonneg a2 b2) (by decide) (by simpa using hn)

theorem xDiv_need (a b : Int) : xDivN a b := by
  intro h h0
  obtain ⟨ha, hb⟩ := xAll_ok h
  obtain ⟨a1, a2, a3⟩ := sz_of ha
  obtain ⟨b1, b2, b3⟩ := sz_of hb
  rw [a1, b1]
  refine ⟨rfl, xIn_of a2 (by omega) (by omega) (by omega), rfl, fun hn => ?_⟩
  exact xDiv_all (by omega) (by omega) (by simpa using hn)

theorem xOkS_eq (a n d : Int) : xOkS a n d = !okS a n d := by
  unfold xOkS okS
  rw [xC_eq]
  rw [Bool.eq_iff_iff]
  cases okF a with
  | false => simp
  | true =>
    simp only [cond_true, bne_self_eq_false, cond_false, Bool.true_and, Bool.not_eq_true', Bool.and_eq_false_iff, decide_eq_false_iff_not]
    by_cases h1 : n < -4611686018427387904
    · simp [h1]
    · by_cases h2 : n > 4611686018427387904
      · simp [h1, h2]
      · by_cases h3 : d < 1
        · simp [h1, h2, h3]
        · simp [h1, h2, h3] <;> omega

theorem xSc_need (a n d : Int) : xScN a n d := by
  intro h
  rw [xOkS_eq, Bool.not_not] at h
  simp only [okS, Bool.and_eq_true, decide_eq_true_eq] at h
  obtain ⟨ha, ⟨⟨n1, n2⟩, d1⟩, d2⟩ := h
  obtain ⟨a1, a2, a3⟩ := sz_of ha
  have e1 : xSz n = sg n n := xSz_eq (by omega) (by omega)
  have e2 := sg_cases n
  rw [a1, e1, u64w (n := d) (by omega) (by omega)]
  refine ⟨⟨rfl, rfl⟩, rfl, xIn_of a2 (by omega) (by omega) (by omega), rfl, fun hn => ?_⟩
  exact xDiv_all (Int.mul_nonneg a2 (by omega)) (by omega) (by simpa using hn)

/-- What is rounded both ways: whether it is refused, and what it is. -/
theorem pair_law {p d : Int} (hp : 0 ≤ p) (hp' : p < 340282366920938463463374607431768211456) (hd : 0 < d) (hd' : d < 18446744073709551616) (neg : Bool) (n : Int) (hn : n = bif neg then -p else p) :
    ((xE p d false neg = 0 ∧ xE p d true neg = 0) ↔ (fitE (rd n d false) = 0 ∧ fitE (rd n d true) = 0)) ∧
    (fitE (rd n d false) = 0 → fitE (rd n d true) = 0 → xV p d false neg = rd n d false ∧ xV p d true neg = rd n d true) := by
  by_cases hx : p < 18446744073709551615 * d
  · obtain ⟨f1, f2, _⟩ := xN_eq hp hp' hd hd' false neg n hn (.inl hx)
    obtain ⟨t1, t2, _⟩ := xN_eq hp hp' hd hd' true neg n hn (.inl hx)
    rw [f2, t2, f1, t1]
    refine ⟨Iff.rfl, fun h1 h2 => ?_⟩
    unfold fitE at h1 h2
    unfold fitV
    cases e1 : okF (rd n d false) <;> cases e2 : okF (rd n d true) <;> simp_all
  · obtain ⟨h1, h2, _⟩ := xE_far hp hd hd' neg n hn (by omega)
    refine ⟨⟨fun ⟨h3, h4⟩ => ?_, fun ⟨h3, _⟩ => ?_⟩, fun h3 => ?_⟩
    · cases neg <;> omega
    · rw [h2] at h3; omega
    · rw [h2] at h3; omega

theorem fitE_cases (v : Int) : (fitE v = 0 ∧ okF v = true ∧ fitV v = v) ∨ (fitE v = 6 ∧ okF v = false ∧ fitV v = 0) := by
  unfold fitE fitV
  cases okF v <;> simp

/-! ### Square roots -/

def sqQ (i r : Int) : Int := IntKind.u64.wrap ↑(BitVec.ofInt IntKind.u64.bits r ||| BitVec.ofInt IntKind.u64.bits (IntKind.u64.wrap (1 * 2 ^ min (IntKind.i64.wrap (42 - i)).toNat IntKind.u64.bits))).toNat
def sqLe (H L t : Int) : Bool := bif decide (xHi (t * t) < H) then true else bif xHi (t * t) == H then decide (xLo (t * t) ≤ L) else false
def sqStep (H L i r : Int) : Int := bif sqLe H L (sqQ i r) then sqQ i r else r
def sqFin (H L : Int) : Nat → Int → Int → Int
  | 0, _, r => r
  | n + 1, i, r => sqFin H L n (IntKind.i64.wrap (i + 1)) (sqStep H L i r)

theorem u64_range (n : Int) : 0 ≤ IntKind.u64.wrap n ∧ IntKind.u64.wrap n < 18446744073709551616 := by
  rw [IntKind.wrap_u64]; omega

end Go.Ar

/- Square roots: what the texts reckon is the root, rounded. No program. -/
namespace Go.Ar
open Go

theorem sqQ_eq (i k : Nat) (hi : i ≤ 42) (hr : 2 ^ (43 - i) * k < 2 ^ 43) : sqQ (i : Int) ((2 ^ (43 - i) * k : Nat) : Int) = ((2 ^ (43 - i) * k + 2 ^ (42 - i) : Nat) : Int) := by
  have e1 : IntKind.i64.wrap (42 - (i : Int)) = ((42 - i : Nat) : Int) := by rw [i64w (by omega) (by omega)]; omega
  have e2 : min (((42 - i : Nat) : Int)).toNat IntKind.u64.bits = 42 - i := by
    rw [Int.toNat_natCast]; exact Nat.min_eq_left (Nat.le_trans (Nat.sub_le _ _) (by decide))
  have p1 : 2 ^ (42 - i) ≤ 2 ^ 42 := Nat.pow_le_pow_right (by decide) (by omega)
  have e3 : IntKind.u64.wrap (1 * 2 ^ (42 - i)) = ((2 ^ (42 - i) : Nat) : Int) := by
    rw [Int.one_mul, show (2 : Int) ^ (42 - i) = ((2 ^ (42 - i) : Nat) : Int) from (Int.natCast_pow 2 _).symm]
    generalize 2 ^ (42 - i) = P at p1
    exact u64w (by omega) (by omega)
  unfold sqQ
  rw [e1, e2, e3]
  rw [Go.Eng.dOr_eq _ _ (by omega) (by omega)]
  congr 1
  rw [← Nat.two_pow_add_eq_or_of_lt (Nat.pow_lt_pow_right (by decide) (by omega)) k]

theorem lex_iff (t n : Nat) (ht : t < 18446744073709551616) : sqLe (xHi (n : Int)) (xLo (n : Int)) (t : Int) = decide (t * t ≤ n) := by
  unfold sqLe xHi xLo two64
  have e1 : ((t : Int) * t) / 18446744073709551616 = ((t * t / 18446744073709551616 : Nat) : Int) := by rw [Int.natCast_ediv, Int.natCast_mul]; rfl
  have e2 : ((t : Int) * t) % 18446744073709551616 = ((t * t % 18446744073709551616 : Nat) : Int) := by rw [Int.natCast_emod, Int.natCast_mul]; rfl
  have e3 : (n : Int) / 18446744073709551616 = ((n / 18446744073709551616 : Nat) : Int) := by rw [Int.natCast_ediv]; rfl
  have e4 : (n : Int) % 18446744073709551616 = ((n % 18446744073709551616 : Nat) : Int) := by rw [Int.natCast_emod]; rfl
  rw [e1, e2, e3, e4]
  generalize t * t = m
  rw [Bool.eq_iff_iff]
  by_cases h1 : m / 18446744073709551616 < n / 18446744073709551616
  · have : ((m / 18446744073709551616 : Nat) : Int) < ((n / 18446744073709551616 : Nat) : Int) := by omega
    simp only [this, decide_true, cond_true, true_iff, decide_eq_true_eq]
    omega
  · have : ¬ ((m / 18446744073709551616 : Nat) : Int) < ((n / 18446744073709551616 : Nat) : Int) := by omega
    simp only [this, decide_false, cond_false, decide_eq_true_eq]
    by_cases h2 : m / 18446744073709551616 = n / 18446744073709551616
    · rw [h2]
      simp only [beq_self_eq_true, cond_true, decide_eq_true_eq]
      omega
    · have : (((m / 18446744073709551616 : Nat) : Int) == ((n / 18446744073709551616 : Nat) : Int)) = false := by
        rw [beq_eq_false_iff_ne]; omega
      rw [this]
      simp only [cond_false, Bool.false_eq_true, false_iff]
      omega

/-- The loop. -/
theorem sqFin_spec (n : Nat) : ∀ (m i k : Nat), i + m = 43 → 2 ^ (43 - i) * k < 2 ^ 43 → (2 ^ (43 - i) * k) * (2 ^ (43 - i) * k) ≤ n → n < (2 ^ (43 - i) * k + 2 ^ (43 - i)) * (2 ^ (43 - i) * k + 2 ^ (43 - i)) →
    ∃ r : Nat, sqFin (xHi (n : Int)) (xLo (n : Int)) m (i : Int) ((2 ^ (43 - i) * k : Nat) : Int) = (r : Int) ∧ r * r ≤ n ∧ n < (r + 1) * (r + 1) ∧ r < 2 ^ 43
  | 0, i, k, hi, h1, h2, h3 => by
    have : i = 43 := by omega
    subst this
    exact ⟨2 ^ (43 - 43) * k, rfl, h2, h3, h1⟩
  | m + 1, i, k, hi, h1, h2, h3 => by
    have p : 2 ^ (43 - i) = 2 * 2 ^ (43 - (i + 1)) := by
      rw [show 43 - i = (43 - (i + 1)) + 1 by omega, Nat.pow_succ]; omega
    have e1 : IntKind.i64.wrap ((i : Int) + 1) = ((i + 1 : Nat) : Int) := by rw [i64w (by omega) (by omega)]; omega
    have e2 := sqQ_eq i k (by omega) h1
    rw [show 42 - i = 43 - (i + 1) by omega] at e2
    simp only [sqFin]
    rw [e1]
    unfold sqStep
    rw [e2]
    generalize hq : 2 ^ (43 - (i + 1)) = q at *
    have hq1 : 1 ≤ q := by rw [← hq]; exact Nat.one_le_two_pow
    have hb : 2 ^ (43 - i) * k + q < 2 ^ 43 := by
      rw [p]
      have h4 : 2 ^ (43 - i) * (2 ^ i) = 2 ^ 43 := by rw [← Nat.pow_add]; congr 1; omega
      rw [p] at h4
      have : k < 2 ^ i := by
        rw [p, ← h4] at h1
        exact Nat.lt_of_mul_lt_mul_left h1
      have h5 : 2 * q * (k + 1) ≤ 2 * q * 2 ^ i := Nat.mul_le_mul_left _ this
      rw [h4, Nat.mul_add] at h5
      omega
    rw [lex_iff _ n (by omega)]
    by_cases h : (2 ^ (43 - i) * k + q) * (2 ^ (43 - i) * k + q) ≤ n
    · rw [decide_eq_true h, cond_true]
      have hk : 2 ^ (43 - i) * k + q = q * (2 * k + 1) := by rw [p, Nat.mul_add, Nat.mul_one, ← Nat.mul_assoc, Nat.mul_comm q 2]
      have hs : q * (2 * k + 1) + q = 2 ^ (43 - i) * k + 2 ^ (43 - i) := by rw [← hk, p]; omega
      rw [hk] at h hb ⊢
      have := sqFin_spec n m (i + 1) (2 * k + 1) (by omega) (by rw [hq]; exact hb) (by rw [hq]; exact h) (by rw [hq, hs]; exact h3)
      rw [hq] at this
      exact this
    · rw [decide_eq_false h, cond_false]
      have hk : 2 ^ (43 - i) * k = q * (2 * k) := by rw [p, ← Nat.mul_assoc, Nat.mul_comm q 2]
      rw [hk] at h h1 h2 ⊢
      have := sqFin_spec n m (i + 1) (2 * k) (by omega) (by rw [hq]; exact h1) (by rw [hq]; exact h2) (by rw [hq]; omega)
      rw [hq] at this
      exact this

/-- The root of a, in units: its square is at most a One, and that of the next one above. -/
theorem sq_spec (a : Nat) (ha : a ≤ 4503599627370496) : ∃ r : Nat, sqFin (xHi (IntKind.u64.wrap a * 4294967296)) (xLo (IntKind.u64.wrap a * 4294967296)) 43 0 0 = (r : Int) ∧ r * r ≤ a * 4294967296 ∧ a * 4294967296 < (r + 1) * (r + 1) ∧ r < 2 ^ 43 := by
  rw [u64w (n := (a : Int)) (by omega) (by omega)]
  have := sqFin_spec (a * 4294967296) 43 0 0 rfl (by decide) (by omega) (by simp; omega)
  simpa using this

theorem root_unique {n r s : Nat} (h1 : r * r ≤ n) (h2 : n < (r + 1) * (r + 1)) (h3 : s * s ≤ n) (h4 : n < (s + 1) * (s + 1)) : r = s := by
  rcases Nat.lt_trichotomy r s with h | h | h
  · have := Nat.mul_le_mul (show r + 1 ≤ s from h) (show r + 1 ≤ s from h); omega
  · exact h
  · have := Nat.mul_le_mul (show s + 1 ≤ r from h) (show s + 1 ≤ r from h); omega

/-! ### The functions -/

def sqP2 (a : Int) : Int := IntKind.u64.wrap a * 4294967296
def sqR (a : Int) : Int := sqFin (xHi (sqP2 a)) (xLo (sqP2 a)) 43 0 0
def sqBad (a : Int) : Bool := bif xC a != 0 then true else decide (a < 0)
def sqUp (a : Int) : Int := bif !(sqR a * sqR a / two64 == xHi (sqP2 a) && (sqR a * sqR a % two64 == xLo (sqP2 a) && true)) then IntKind.u64.wrap (sqR a + 1) else sqR a
def xSqV (a : Int) (up : Bool) : Int := bif sqBad a then 0 else bif decide ((bif up then sqUp a else sqR a) > 4503599627370496) then 0 else IntKind.i64.wrap (bif up then sqUp a else sqR a)
def xSqE (a : Int) (up : Bool) : Int := bif sqBad a then 2 else bif decide ((bif up then sqUp a else sqR a) > 4503599627370496) then 6 else 0

/-- The root of a number, rounded down or up. -/
def rtV (a : Int) (up : Bool) : Int := bif up && !(sqR a * sqR a == a * 4294967296) then sqR a + 1 else sqR a
def sqOk (a : Int) : Bool := okF a && decide (0 ≤ a)
def sqrtV (a : Int) (up : Bool) : Int := bif sqOk a then rtV a up else 0
def sqrtE (a : Int) : Int := bif sqOk a then 0 else 2

theorem sqBad_eq (a : Int) : sqBad a = !sqOk a := by
  unfold sqBad sqOk
  rw [xC_eq]
  cases okF a with
  | false => simp
  | true => by_cases h : a < 0 <;> simp [h] <;> omega

theorem sqR_spec {a : Int} (h : sqOk a = true) : 0 ≤ sqR a ∧ sqR a * sqR a ≤ a * 4294967296 ∧ a * 4294967296 < (sqR a + 1) * (sqR a + 1) ∧ sqR a < 8796093022208 := by
  simp only [sqOk, Bool.and_eq_true, decide_eq_true_eq] at h
  obtain ⟨h1, h2⟩ := h
  have h1 := okF_iff.1 h1
  obtain ⟨r, e, r1, r2, r3⟩ := sq_spec a.toNat (by omega)
  rw [Int.toNat_of_nonneg h2] at e
  have e : sqR a = r := e
  rw [e]
  have c1 : ((r * r : Nat) : Int) = (r : Int) * r := Int.natCast_mul r r
  have c2 : (((r + 1) * (r + 1) : Nat) : Int) = ((r : Int) + 1) * (r + 1) := by rw [Int.natCast_mul]; rfl
  refine ⟨by omega, by omega, by omega, by omega⟩

theorem xSq_law (a : Int) (up : Bool) : xSqV a up = sqrtV a up ∧ xSqE a up = sqrtE a := by
  unfold xSqV xSqE sqrtV sqrtE
  rw [sqBad_eq]
  cases h : sqOk a with
  | false => simp
  | true =>
    obtain ⟨r0, r1, r2, r3⟩ := sqR_spec h
    simp only [sqOk, Bool.and_eq_true, decide_eq_true_eq] at h
    obtain ⟨h1, h2⟩ := h
    have h1 := okF_iff.1 h1
    have key : (bif up then sqUp a else sqR a) = rtV a up := by
      cases up with
      | false => rfl
      | true =>
        have e0 : sqP2 a = a * 4294967296 := by unfold sqP2; rw [u64w (by omega) (by omega)]
        have : (sqR a * sqR a / two64 == xHi (sqP2 a) && (sqR a * sqR a % two64 == xLo (sqP2 a) && true)) = (sqR a * sqR a == a * 4294967296) := by
          rw [e0]
          unfold xHi xLo two64
          rw [Bool.eq_iff_iff]
          simp only [Bool.and_true, Bool.and_eq_true, beq_iff_eq]
          omega
        unfold sqUp rtV
        rw [this, u64w (by omega) (by omega)]
        rfl
    rw [key]
    have hb : 0 ≤ rtV a up ∧ rtV a up ≤ 8796093022208 := by
      unfold rtV
      cases up && !(sqR a * sqR a == a * 4294967296) <;> simp <;> omega
    simp only [Bool.not_true, cond_false, cond_true]
    rw [decide_eq_false (by omega), i64w (by omega) (by omega)]
    exact ⟨rfl, rfl⟩

end Go.Ar

/- Intervals: what the texts of package span reckon, and what it is. No program. -/
namespace Go.Ar
open Go

/-- A result: an interval and an error. -/
structure Sp where
  lo : Int
  hi : Int
  e : Int

def err (e : Int) : Sp := ⟨0, 0, e⟩
def okSp (a b : Int) : Bool := decide (-4503599627370496 ≤ a) && (decide (a ≤ b) && decide (b ≤ 4503599627370496))
def toldS (lo hi : Int) : Sp := bif okF lo && okF hi then ⟨lo, hi, 0⟩ else err 6
def mn (a b : Int) : Int := bif decide (b < a) then b else a
def mx (a b : Int) : Int := bif decide (a < b) then b else a
def both (a b c d : Int) (r : Sp) : Sp := bif okSp a b && okSp c d then r else err 20

def addS (a b c d : Int) : Sp := both a b c d (toldS (a + c) (b + d))
def subS (a b c d : Int) : Sp := both a b c d (toldS (a - d) (b - c))
def negS (a b : Int) : Sp := bif okSp a b then ⟨-b, -a, 0⟩ else err 20
/-- The hull of what an operation gives at the corners. -/
def hull4 (F : Int → Int → Bool → Int) (a b c d : Int) : Sp :=
  toldS (mn (mn (mn (F a c false) (F a d false)) (F b c false)) (F b d false)) (mx (mx (mx (F a c true) (F a d true)) (F b c true)) (F b d true))
def mF (x y : Int) (up : Bool) : Int := rd (x * y) 4294967296 up
def dF (x y : Int) (up : Bool) : Int := rd (sg (x * 4294967296) y) (sg y y) up
def mulS (a b c d : Int) : Sp := both a b c d (hull4 mF a b c d)
def divS (a b c d : Int) : Sp := both a b c d (bif decide (c ≤ 0) && decide (0 ≤ d) then err 7 else hull4 dF a b c d)
/-- The absolute value. -/
def abL (a b : Int) : Int := mx (mx a (-b)) 0
def abH (a b : Int) : Int := mx b (-a)
def sqrS (a b : Int) : Sp := bif okSp a b then toldS (rd (abL a b * abL a b) 4294967296 false) (rd (abH a b * abH a b) 4294967296 true) else err 20
def sqrtS (a b : Int) : Sp := bif okSp a b then (bif decide (a < 0) then err 2 else ⟨rtV a false, rtV b true, 0⟩) else err 20
def okR (n d : Int) : Bool := decide (-4611686018427387904 ≤ n) && decide (n ≤ 4611686018427387904) && decide (1 ≤ d) && decide (d ≤ 4611686018427387904)
def scaleS (a b n d : Int) : Sp := bif okSp a b then (bif okR n d then toldS (rd (mn (a * n) (b * n)) d false) (rd (mx (a * n) (b * n)) d true) else err 2) else err 20

/-! ### What the texts reckon -/

def xCS (a b : Int) : Int := bif bif decide (a < -4503599627370496) then true else bif decide (a > b) then true else decide (b > 4503599627370496) then 20 else 0
def xAll2 (a b c d : Int) : Int := bif !(xCS a b != 0) && !(xCS c d != 0) then 0 else bif xCS a b != 0 then xCS a b else xCS c d
def xTb (l h : Int) : Bool := bif decide (l < -4503599627370496) then true else decide (h > 4503599627370496)
def xTold (g l h : Int) : Sp := ⟨bif g != 0 then 0 else bif xTb l h then 0 else l, bif g != 0 then 0 else bif xTb l h then 0 else h, bif g != 0 then g else bif xTb l h then 6 else 0⟩
def xAddS (a b c d : Int) : Sp := xTold (xAll2 a b c d) (IntKind.i64.wrap (a + c)) (IntKind.i64.wrap (b + d))
def xSubS (a b c d : Int) : Sp := xTold (xAll2 a b c d) (IntKind.i64.wrap (a - d)) (IntKind.i64.wrap (b - c))
def xSqrtS (a b : Int) : Sp :=
  ⟨bif xCS a b != 0 then 0 else bif decide (a < 0) then 0 else bif xTb (xSqV a false) (xSqV b true) then 0 else xSqV a false,
   bif xCS a b != 0 then 0 else bif decide (a < 0) then 0 else bif xTb (xSqV a false) (xSqV b true) then 0 else xSqV b true,
   bif xCS a b != 0 then xCS a b else bif decide (a < 0) then 2 else bif xTb (xSqV a false) (xSqV b true) then 6 else 0⟩

/-! The corners, one after the other. -/
def tL (low lo : Int) : Int := bif decide (low < lo) then low else lo
def tH (low lo hi : Int) : Int := bif decide (low < lo) then hi else hi
def nL (low high lo hi : Int) : Int := bif decide (high > tH low lo hi) then tL low lo else tL low lo
def nH (low high lo hi : Int) : Int := bif decide (high > tH low lo hi) then high else tH low lo hi
def l1 (V : Int → Int → Bool → Int) (a c d : Int) : Int := nL (V a d false) (V a d true) (V a c false) (V a c true)
def h1 (V : Int → Int → Bool → Int) (a c d : Int) : Int := nH (V a d false) (V a d true) (V a c false) (V a c true)
def l2 (V : Int → Int → Bool → Int) (a b c d : Int) : Int := nL (V b c false) (V b c true) (l1 V a c d) (h1 V a c d)
def h2 (V : Int → Int → Bool → Int) (a b c d : Int) : Int := nH (V b c false) (V b c true) (l1 V a c d) (h1 V a c d)
def l3 (V : Int → Int → Bool → Int) (a b c d : Int) : Int := nL (V b d false) (V b d true) (l2 V a b c d) (h2 V a b c d)
def h3 (V : Int → Int → Bool → Int) (a b c d : Int) : Int := nH (V b d false) (V b d true) (l2 V a b c d) (h2 V a b c d)
def bad2 (E : Int → Int → Bool → Int) (x y : Int) : Bool := bif E x y false != 0 then true else E x y true != 0
def ok4 (E : Int → Int → Bool → Int) (a b c d : Int) : Bool := (!bad2 E a c && !bad2 E a d) && (!bad2 E b c && !bad2 E b d)
def bL (V E : Int → Int → Bool → Int) (a b c d : Int) : Int := bif ok4 E a b c d then (bif xTb (l3 V a b c d) (h3 V a b c d) then 0 else l3 V a b c d) else 0
def bH (V E : Int → Int → Bool → Int) (a b c d : Int) : Int := bif ok4 E a b c d then (bif xTb (l3 V a b c d) (h3 V a b c d) then 0 else h3 V a b c d) else 0
def bE (V E : Int → Int → Bool → Int) (a b c d : Int) : Int := bif ok4 E a b c d then (bif xTb (l3 V a b c d) (h3 V a b c d) then 6 else 0) else 6
def xMulS (a b c d : Int) : Sp := ⟨bif xAll2 a b c d != 0 then 0 else bL xMulV xMulE a b c d, bif xAll2 a b c d != 0 then 0 else bH xMulV xMulE a b c d, bif xAll2 a b c d != 0 then xAll2 a b c d else bE xMulV xMulE a b c d⟩
def xZ (c d : Int) : Bool := bif decide (c ≤ 0) then decide (d ≥ 0) else false
def xDivS (a b c d : Int) : Sp := ⟨bif xAll2 a b c d != 0 then 0 else bif xZ c d then 0 else bL xDivV xDivE a b c d, bif xAll2 a b c d != 0 then 0 else bif xZ c d then 0 else bH xDivV xDivE a b c d,
  bif xAll2 a b c d != 0 then xAll2 a b c d else bif xZ c d then 7 else bE xDivV xDivE a b c d⟩

/-! ### Scale: as the text has it (far above the limits it differs from scaleS) -/
def xsA (a b n : Int) : Int := bif decide (n < 0) then IntKind.i64.wrap (0 - b) else a
def xsB (a b n : Int) : Int := bif decide (n < 0) then IntKind.i64.wrap (0 - a) else b
def xsN (n : Int) : Int := bif decide (n < 0) then IntKind.i64.wrap (0 - n) else n
def xsOk (n : Int) : Bool := bif decide (n < 0) then !decide (n < -4611686018427387904) else true
def xsBad (a b n d : Int) : Bool := bif xScE (xsA a b n) (xsN n) d false != 0 then true else xScE (xsB a b n) (xsN n) d true != 0
def xScaleS (a b n d : Int) : Sp :=
  ⟨bif xCS a b != 0 then 0 else bif xsOk n then (bif xsBad a b n d then 0 else xScV (xsA a b n) (xsN n) d false) else 0,
   bif xCS a b != 0 then 0 else bif xsOk n then (bif xsBad a b n d then 0 else xScV (xsB a b n) (xsN n) d true) else 0,
   bif xCS a b != 0 then xCS a b else bif xsOk n then (bif xsBad a b n d then (if xScE (xsB a b n) (xsN n) d true > xScE (xsA a b n) (xsN n) d false then xScE (xsB a b n) (xsN n) d true else xScE (xsA a b n) (xsN n) d false) else 0) else 2⟩

/-! ### The laws -/

theorem okSp_iff {a b : Int} : okSp a b = true ↔ -4503599627370496 ≤ a ∧ a ≤ b ∧ b ≤ 4503599627370496 := by simp [okSp]
theorem xCS_eq (a b : Int) : xCS a b = bif okSp a b then 0 else 20 := by
  unfold xCS
  cases h : okSp a b with
  | true =>
    have := okSp_iff.1 h
    simp [show ¬ a < -4503599627370496 by omega, show ¬ a > b by omega, show ¬ b > 4503599627370496 by omega]
  | false =>
    have : ¬ (-4503599627370496 ≤ a ∧ a ≤ b ∧ b ≤ 4503599627370496) := fun k => by rw [okSp_iff.2 k] at h; cases h
    by_cases h1 : a < -4503599627370496
    · simp [h1]
    · by_cases h2 : a > b
      · simp [h1, h2]
      · simp [h1, h2, show b > 4503599627370496 by omega]

theorem xAll2_eq (a b c d : Int) : xAll2 a b c d = bif okSp a b && okSp c d then 0 else 20 := by
  unfold xAll2
  rw [xCS_eq, xCS_eq]
  cases okSp a b <;> cases okSp c d <;> rfl

theorem xTb_eq {l h : Int} (k : l ≤ h) : xTb l h = !(okF l && okF h) := by
  unfold xTb okF
  rw [Bool.eq_iff_iff]
  by_cases h1 : l < -4503599627370496
  · simp [h1] <;> omega
  · simp [h1] <;> omega

theorem xTold_eq (a b c d l h : Int) (k : okSp a b = true → okSp c d = true → l ≤ h) : xTold (xAll2 a b c d) l h = both a b c d (toldS l h) := by
  unfold xTold both
  rw [xAll2_eq]
  cases h1 : okSp a b with
  | false => simp [err]
  | true =>
    cases h2 : okSp c d with
    | false => simp [err]
    | true =>
      rw [xTb_eq (k h1 h2)]
      unfold toldS
      cases okF l && okF h <;> simp [err]

theorem xAddS_eq (a b c d : Int) : xAddS a b c d = addS a b c d := by
  unfold xAddS addS
  rw [xTold_eq]
  · unfold both
    cases h1 : okSp a b <;> cases h2 : okSp c d <;> try rfl
    have := okSp_iff.1 h1; have := okSp_iff.1 h2
    rw [i64w (by omega) (by omega), i64w (by omega) (by omega)]
  · intro h1 h2
    have := okSp_iff.1 h1; have := okSp_iff.1 h2
    rw [i64w (by omega) (by omega), i64w (by omega) (by omega)]; omega

theorem xSubS_eq (a b c d : Int) : xSubS a b c d = subS a b c d := by
  unfold xSubS subS
  rw [xTold_eq]
  · unfold both
    cases h1 : okSp a b <;> cases h2 : okSp c d <;> try rfl
    have := okSp_iff.1 h1; have := okSp_iff.1 h2
    rw [i64w (by omega) (by omega), i64w (by omega) (by omega)]
  · intro h1 h2
    have := okSp_iff.1 h1; have := okSp_iff.1 h2
    rw [i64w (by omega) (by omega), i64w (by omega) (by omega)]; omega

theorem rtV_range {a : Int} (h : sqOk a = true) (up : Bool) : 0 ≤ rtV a up ∧ rtV a up ≤ 8796093022208 := by
  obtain ⟨r0, r1, r2, r3⟩ := sqR_spec h
  unfold rtV
  cases up && !(sqR a * sqR a == a * 4294967296) <;> simp <;> omega

theorem xSqrtS_eq (a b : Int) : xSqrtS a b = sqrtS a b := by
  unfold xSqrtS sqrtS
  rw [xCS_eq]
  cases h1 : okSp a b with
  | false => simp [err]
  | true =>
    have h := okSp_iff.1 h1
    by_cases h2 : a < 0
    · simp [h2, err]
    · have ha : sqOk a = true := by simp [sqOk, okF]; omega
      have hb : sqOk b = true := by simp [sqOk, okF]; omega
      have ra := rtV_range ha false
      have rb := rtV_range hb true
      rw [(xSq_law a false).1, (xSq_law b true).1]
      unfold sqrtV
      rw [ha, hb]
      have ht : xTb (rtV a false) (rtV b true) = false := by
        unfold xTb
        rw [decide_eq_false (by omega), decide_eq_false (by omega)]; rfl
      simp [h2, ht]

theorem nL_eq (low high lo hi : Int) : nL low high lo hi = mn lo low := by
  unfold nL tL mn
  cases decide (high > tH low lo hi) <;> rfl
theorem nH_eq (low high lo hi : Int) : nH low high lo hi = mx hi high := by
  unfold nH tH mx
  cases decide (low < lo) <;> rfl

theorem mn_le (a b : Int) : mn a b ≤ a ∧ mn a b ≤ b ∧ (mn a b = a ∨ mn a b = b) := by
  unfold mn
  by_cases h : b < a <;> simp [h] <;> omega
theorem le_mx (a b : Int) : a ≤ mx a b ∧ b ≤ mx a b ∧ (mx a b = a ∨ mx a b = b) := by
  unfold mx
  by_cases h : a < b <;> simp [h] <;> omega

theorem rd_le (n d : Int) (hd : 0 < d) : rd n d false ≤ rd n d true := by
  unfold rd
  simp only [cond_true, cond_false]
  have h1 := Int.mul_ediv_add_emod n d
  have h2 := Int.emod_nonneg n (show d ≠ 0 by omega)
  have h3 := Int.emod_lt_of_pos n hd
  have := neg_div (p := n) hd
  rw [this]; split <;> omega

/-- Where an operation is refused at a corner just if one of its rounded values is too great, the corners' hull is what it should be. -/
theorem hull_law (V E F : Int → Int → Bool → Int) (a b c d : Int) (hF : ∀ x y, (x = a ∨ x = b) → (y = c ∨ y = d) → F x y false ≤ F x y true)
    (hE : ∀ x y, (x = a ∨ x = b) → (y = c ∨ y = d) → (bad2 E x y = !(okF (F x y false) && okF (F x y true)) ∧ (bad2 E x y = false → V x y false = F x y false ∧ V x y true = F x y true))) :
    (⟨bL V E a b c d, bH V E a b c d, bE V E a b c d⟩ : Sp) = hull4 F a b c d := by
  obtain ⟨e1, v1⟩ := hE a c (.inl rfl) (.inl rfl)
  obtain ⟨e2, v2⟩ := hE a d (.inl rfl) (.inr rfl)
  obtain ⟨e3, v3⟩ := hE b c (.inr rfl) (.inl rfl)
  obtain ⟨e4, v4⟩ := hE b d (.inr rfl) (.inr rfl)
  have f1 := hF a c (.inl rfl) (.inl rfl)
  have f2 := hF a d (.inl rfl) (.inr rfl)
  have f3 := hF b c (.inr rfl) (.inl rfl)
  have f4 := hF b d (.inr rfl) (.inr rfl)
  unfold bL bH bE
  cases hk : ok4 E a b c d with
  | false =>
    -- one of them is too great
    have : (okF (mn (mn (mn (F a c false) (F a d false)) (F b c false)) (F b d false)) && okF (mx (mx (mx (F a c true) (F a d true)) (F b c true)) (F b d true))) = false := by
      cases hh : okF (mn (mn (mn (F a c false) (F a d false)) (F b c false)) (F b d false)) && okF (mx (mx (mx (F a c true) (F a d true)) (F b c true)) (F b d true)) with
      | false => rfl
      | true =>
        simp only [Bool.and_eq_true, okF_iff] at hh
        have m1 := mn_le (F a c false) (F a d false); have m2 := mn_le (mn (F a c false) (F a d false)) (F b c false); have m3 := mn_le (mn (mn (F a c false) (F a d false)) (F b c false)) (F b d false)
        have n1 := le_mx (F a c true) (F a d true); have n2 := le_mx (mx (F a c true) (F a d true)) (F b c true); have n3 := le_mx (mx (mx (F a c true) (F a d true)) (F b c true)) (F b d true)
        have g : ∀ x y, F x y false ≤ F x y true → -4503599627370496 ≤ F x y false → F x y true ≤ 4503599627370496 → (okF (F x y false) && okF (F x y true)) = true := by
          intro x y k1 k2 k3
          rw [Bool.and_eq_true, okF_iff, okF_iff]; omega
        unfold ok4 at hk
        rw [e1, e2, e3, e4, g a c f1 (by omega) (by omega), g a d f2 (by omega) (by omega), g b c f3 (by omega) (by omega), g b d f4 (by omega) (by omega)] at hk
        cases hk
    unfold hull4 toldS
    rw [this]; rfl
  | true =>
    unfold ok4 at hk
    simp only [Bool.and_eq_true, Bool.not_eq_true'] at hk
    obtain ⟨⟨k1, k2⟩, k3, k4⟩ := hk
    obtain ⟨a1, a2⟩ := v1 k1; obtain ⟨b1, b2⟩ := v2 k2; obtain ⟨c1, c2⟩ := v3 k3; obtain ⟨d1, d2⟩ := v4 k4
    have el : l3 V a b c d = mn (mn (mn (F a c false) (F a d false)) (F b c false)) (F b d false) := by
      unfold l3 l2 l1; rw [nL_eq, nL_eq, nL_eq, a1, b1, c1, d1]
    have eh : h3 V a b c d = mx (mx (mx (F a c true) (F a d true)) (F b c true)) (F b d true) := by
      unfold h3 h2 h1; rw [nH_eq, nH_eq, nH_eq, a2, b2, c2, d2]
    rw [el, eh]
    have m1 := mn_le (F a c false) (F a d false); have m2 := mn_le (mn (F a c false) (F a d false)) (F b c false); have m3 := mn_le (mn (mn (F a c false) (F a d false)) (F b c false)) (F b d false)
    have n1 := le_mx (F a c true) (F a d true); have n2 := le_mx (mx (F a c true) (F a d true)) (F b c true); have n3 := le_mx (mx (mx (F a c true) (F a d true)) (F b c true)) (F b d true)
    rw [xTb_eq (by omega)]
    unfold hull4 toldS
    simp only [cond_true]
    cases okF (mn (mn (mn (F a c false) (F a d false)) (F b c false)) (F b d false)) && okF (mx (mx (mx (F a c true) (F a d true)) (F b c true)) (F b d true)) <;> rfl

/-! ### Products and quotients -/

theorem bad2_of {e f : Int → Int → Bool → Int} {F : Int → Int → Bool → Int} {x y : Int} (h : (e x y false = 0 ∧ e x y true = 0) ↔ (fitE (F x y false) = 0 ∧ fitE (F x y true) = 0)) : bad2 e x y = !(okF (F x y false) && okF (F x y true)) := by
  unfold bad2
  rcases fitE_cases (F x y false) with ⟨p1, p2, _⟩ | ⟨p1, p2, _⟩ <;> rcases fitE_cases (F x y true) with ⟨q1, q2, _⟩ | ⟨q1, q2, _⟩ <;> rw [p1, q1] at h <;> rw [p2, q2]
  · have := h.2 ⟨rfl, rfl⟩; simp [this.1, this.2]
  all_goals
    simp only [Bool.and_true, Bool.and_false, Bool.not_false, Bool.false_and]
    by_cases h0 : e x y false = 0
    · by_cases h1 : e x y true = 0
      · have := h.1 ⟨h0, h1⟩; omega
      · simp [h0, h1]
    · simp [h0]

theorem mul_corner {x y : Int} (hx : okF x = true) (hy : okF y = true) : bad2 xMulE x y = !(okF (mF x y false) && okF (mF x y true)) ∧ (bad2 xMulE x y = false → xMulV x y false = mF x y false ∧ xMulV x y true = mF x y true) := by
  obtain ⟨a1, a2, a3⟩ := sz_of hx
  obtain ⟨b1, b2, b3⟩ := sz_of hy
  have hb : sg x x * sg y y ≤ 4503599627370496 * 4503599627370496 := Int.mul_le_mul a3 b3 b2 (by decide)
  obtain ⟨p1, p2⟩ := pair_law (p := sg x x * sg y y) (d := 4294967296) (Int.mul_nonneg a2 b2) (by omega) (by decide) (by decide) (xNeg x y) (x * y) (xNeg_mul x y)
  have e0 : xAll x y = 0 := by rw [xAll_eq, hx, hy]; rfl
  have eE : ∀ up, xMulE x y up = xE (sg x x * sg y y) 4294967296 up (xNeg x y) := fun up => by unfold xMulE; rw [e0, a1, b1]; rfl
  have eV : ∀ up, xMulV x y up = xV (sg x x * sg y y) 4294967296 up (xNeg x y) := fun up => by unfold xMulV; rw [e0, a1, b1]; rfl
  have key := bad2_of (e := xMulE) (f := xMulE) (F := mF) (x := x) (y := y) (by rw [eE, eE]; exact p1)
  refine ⟨key, fun h => ?_⟩
  rw [key] at h
  simp only [Bool.not_eq_false', Bool.and_eq_true] at h
  rw [eV, eV]
  refine p2 ?_ ?_
  · unfold fitE; rw [show rd (x * y) 4294967296 false = mF x y false from rfl, h.1]; rfl
  · unfold fitE; rw [show rd (x * y) 4294967296 true = mF x y true from rfl, h.2]; rfl

theorem okF_of_sp {a b : Int} (h : okSp a b = true) : okF a = true ∧ okF b = true := by
  have := okSp_iff.1 h
  exact ⟨okF_iff.2 (by omega), okF_iff.2 (by omega)⟩

theorem xMulS_eq (a b c d : Int) : xMulS a b c d = mulS a b c d := by
  unfold xMulS mulS both
  rw [xAll2_eq]
  cases h1 : okSp a b with
  | false => simp [err]
  | true =>
    cases h2 : okSp c d with
    | false => simp [err]
    | true =>
      obtain ⟨ha, hb⟩ := okF_of_sp h1
      obtain ⟨hc, hd⟩ := okF_of_sp h2
      rw [← hull_law xMulV xMulE mF a b c d (fun x y _ _ => rd_le _ _ (by decide)) fun x y hx hy => mul_corner (by rcases hx with rfl | rfl <;> assumption) (by rcases hy with rfl | rfl <;> assumption)]
      rfl

theorem xNeg_div (a b : Int) : sg (a * 4294967296) b = bif xNeg a b then -(sg a a * 4294967296) else sg a a * 4294967296 := by
  unfold xNeg sg
  by_cases h : a < 0 <;> by_cases k : b < 0 <;> simp [h, k, Int.neg_mul]

theorem div_corner {x y : Int} (hx : okF x = true) (hy : okF y = true) (h0 : y ≠ 0) : bad2 xDivE x y = !(okF (dF x y false) && okF (dF x y true)) ∧ (bad2 xDivE x y = false → xDivV x y false = dF x y false ∧ xDivV x y true = dF x y true) := by
  obtain ⟨a1, a2, a3⟩ := sz_of hx
  obtain ⟨b1, b2, b3⟩ := sz_of hy
  have hpos : 0 < sg y y := by rcases sg_cases y with ⟨_, e⟩ | ⟨_, e⟩ <;> omega
  obtain ⟨p1, p2⟩ := pair_law (p := sg x x * 4294967296) (d := sg y y) (by omega) (by omega) hpos (by omega) (xNeg x y) (sg (x * 4294967296) y) (xNeg_div x y)
  have e0 : xAll x y = 0 := by rw [xAll_eq, hx, hy]; rfl
  have e00 : (y == 0) = false := by simp [h0]
  have eE : ∀ up, xDivE x y up = xE (sg x x * 4294967296) (sg y y) up (xNeg x y) := fun up => by unfold xDivE; rw [e0, a1, b1, e00]; rfl
  have eV : ∀ up, xDivV x y up = xV (sg x x * 4294967296) (sg y y) up (xNeg x y) := fun up => by unfold xDivV; rw [e0, a1, b1, e00]; rfl
  have key := bad2_of (e := xDivE) (f := xDivE) (F := dF) (x := x) (y := y) (by rw [eE, eE]; exact p1)
  refine ⟨key, fun h => ?_⟩
  rw [key] at h
  simp only [Bool.not_eq_false', Bool.and_eq_true] at h
  rw [eV, eV]
  refine p2 ?_ ?_
  · unfold fitE; rw [show rd (sg (x * 4294967296) y) (sg y y) false = dF x y false from rfl, h.1]; rfl
  · unfold fitE; rw [show rd (sg (x * 4294967296) y) (sg y y) true = dF x y true from rfl, h.2]; rfl

theorem xZ_eq (c d : Int) : xZ c d = (decide (c ≤ 0) && decide (0 ≤ d)) := by
  unfold xZ
  by_cases h : c ≤ 0 <;> simp [h]

theorem xDivS_eq (a b c d : Int) : xDivS a b c d = divS a b c d := by
  unfold xDivS divS both
  rw [xAll2_eq, xZ_eq]
  cases h1 : okSp a b with
  | false => simp [err]
  | true =>
    cases h2 : okSp c d with
    | false => simp [err]
    | true =>
      cases h3 : (decide (c ≤ 0) && decide (0 ≤ d)) with
      | true => simp [err]
      | false =>
        obtain ⟨ha, hb⟩ := okF_of_sp h1
        obtain ⟨hc, hd⟩ := okF_of_sp h2
        have h2 := okSp_iff.1 h2
        have nz : ∀ y, (y = c ∨ y = d) → y ≠ 0 := by
          intro y hy h0
          simp only [Bool.and_eq_false_iff, decide_eq_false_iff_not] at h3
          rcases hy with rfl | rfl <;> omega
        rw [← hull_law xDivV xDivE dF a b c d (fun x y _ hy => rd_le _ _ (by have := nz y hy; rcases sg_cases y with ⟨_, e⟩ | ⟨_, e⟩ <;> omega))
          fun x y hx hy => div_corner (by rcases hx with rfl | rfl <;> assumption) (by rcases hy with rfl | rfl <;> assumption) (nz y hy)]
        rfl

end Go.Ar

/- Squares and scaled intervals. No program. -/
namespace Go.Ar
open Go

/-! ### Squares -/

def pwS (v : Int) : Int := IntKind.u64.wrap (if IntKind.i64.wrap (0 - v) > v then IntKind.i64.wrap (0 - v) else v)
def pw2 (v : Int) : Int := 1 * pwS v
def pw3 (v : Int) : Int := pw2 v % two64
def pw4 (v : Int) : Int := pw3 v + 0 + 0
def pw5 (v : Int) : Int := pw4 v % 18446744073709551616
def pw6 (v : Int) : Int := pw5 v * pwS v
def pw7 (v : Int) : Int := pw6 v % two64
def pw8 (v : Int) : Int := IntKind.u64.wrap (pw2 v / two64 + pw4 v / 18446744073709551616)
def pw9 (v : Int) : Int := pw8 v * pwS v
def pw10 (v : Int) : Int := pw9 v % two64
def pw11 (v : Int) : Int := pw7 v + 0 + 0
def pw12 (v : Int) : Int := IntKind.u64.wrap (pw6 v / two64 + pw11 v / 18446744073709551616)
def pw13 (v : Int) : Int := pw10 v + pw12 v + 0
def pw14 (v : Int) : Int := pw13 v % 18446744073709551616
def pw15 : Int := 2 ^ min (Int.ofNat 32).toNat IntKind.u64.bits
def pw16 (v : Int) : Bool := decide ((pw14 v).fdiv pw15 > 0)
def pw17 (v : Int) : Int := IntKind.u64.wrap (pw9 v / two64 + pw13 v / 18446744073709551616)
def pw18 (v : Int) : Bool := decide (pw17 v > 0)
def pw19 (v : Int) : Int := pw11 v % 18446744073709551616
def pw20 (v : Int) : Int := bif pw16 v then 0 else bif pw18 v then 0 else
  IntKind.u64.wrap ↑(BitVec.ofInt IntKind.u64.bits ((pw19 v).fdiv pw15) ||| BitVec.ofInt IntKind.u64.bits (IntKind.u64.wrap (pw14 v * pw15))).toNat
def pw21 (v : Int) : Int := IntKind.u64.wrap ↑(BitVec.ofInt IntKind.u64.bits (pw19 v) &&& BitVec.ofInt IntKind.u64.bits 4294967295).toNat
def pwBig (v : Int) : Bool := bif !(bif pw16 v then false else bif pw18 v then false else true) then true else decide (pw20 v > 4503599627370496)
def pwD (v : Int) : Int := bif pwBig v then 0 else IntKind.i64.wrap (pw20 v)
def pwU (v : Int) : Int := bif pwBig v then 0 else bif bif pw16 v then false else bif pw18 v then false else decide (pw21 v > 0) then IntKind.i64.wrap (IntKind.i64.wrap (pw20 v) + 1) else IntKind.i64.wrap (pw20 v)
def pwE (v : Int) : Int := bif pwBig v then 6 else 0
def xAdd (x y : Int) : Prop := decide (0 ≤ x ∧ 0 ≤ y ∧ (0 : Int) ≤ 0 ∧ (0 : Int) ≤ 1) = true
def pwN (v : Int) : Prop := (xIn 1 (pwS v) ∧ xAdd (pw3 v) 0) ∧ (xIn (pw5 v) (pwS v) ∧ xAdd (pw7 v) 0) ∧ xIn (pw8 v) (pwS v) ∧ xAdd (pw10 v) (pw12 v)

/-- What it is, for a fixed-point number. -/
def sqD (v : Int) : Int := bif decide (v * v / 4294967296 > 4503599627370496) then 0 else rd (v * v) 4294967296 false
def sqU (v : Int) : Int := bif decide (v * v / 4294967296 > 4503599627370496) then 0 else rd (v * v) 4294967296 true
def sqE (v : Int) : Int := bif decide (v * v / 4294967296 > 4503599627370496) then 6 else 0

theorem pwS_eq {v : Int} (h : okF v = true) : pwS v = sg v v := by
  have h := okF_iff.1 h
  unfold pwS
  rw [i64w (n := 0 - v) (by omega) (by omega)]
  rcases sg_cases v with ⟨h1, e⟩ | ⟨h1, e⟩ <;> rw [e] <;> split <;> rw [u64w (by omega) (by omega)] <;> omega

theorem and32 (n : Nat) (h : n < 18446744073709551616) : IntKind.u64.wrap ↑(BitVec.ofInt IntKind.u64.bits (n : Int) &&& BitVec.ofInt IntKind.u64.bits 4294967295).toNat = ((n % 4294967296 : Nat) : Int) := Go.Eng.dLow_eq n h

theorem pw_law {v : Int} (h : okF v = true) : pwD v = sqD v ∧ pwU v = sqU v ∧ pwE v = sqE v ∧ pwN v := by
  obtain ⟨_, s1, s2⟩ := sz_of h
  have e1 := pwS_eq h
  have es : v * v = sg v v * sg v v := by
    rcases sg_cases v with ⟨_, e⟩ | ⟨_, e⟩ <;> rw [e]
    rw [Int.neg_mul, Int.mul_neg, Int.neg_neg]
  have hq : sg v v * sg v v ≤ 4503599627370496 * 4503599627370496 := Int.mul_le_mul s2 s2 s1 (by decide)
  have hq0 : 0 ≤ sg v v * sg v v := Int.mul_nonneg s1 s1
  have q2 : pw2 v = sg v v := by unfold pw2; rw [e1]; omega
  have q3 : pw3 v = sg v v := by unfold pw3 two64; rw [q2]; omega
  have q4 : pw4 v = sg v v := by unfold pw4; rw [q3]; omega
  have q5 : pw5 v = sg v v := by unfold pw5; rw [q4]; omega
  have q6 : pw6 v = sg v v * sg v v := by unfold pw6; rw [q5, e1]
  have q8 : pw8 v = 0 := by unfold pw8 two64; rw [q2, q4, u64w] <;> omega
  have q9 : pw9 v = 0 := by unfold pw9; rw [q8]; omega
  have q10 : pw10 v = 0 := by unfold pw10 two64; rw [q9]; rfl
  generalize hP : sg v v * sg v v = P at *
  have q7 : pw7 v = P % 18446744073709551616 := by unfold pw7 two64; rw [q6]
  have q11 : pw11 v = P % 18446744073709551616 := by unfold pw11; rw [q7]; omega
  have q12 : pw12 v = P / 18446744073709551616 := by unfold pw12 two64; rw [q6, q11, u64w] <;> omega
  have q13 : pw13 v = P / 18446744073709551616 := by unfold pw13; rw [q10, q12]; omega
  have q14 : pw14 v = P / 18446744073709551616 := by unfold pw14; rw [q13]; omega
  have q15 : pw15 = 4294967296 := by decide
  have q16 : pw16 v = decide (4294967296 ≤ P / 18446744073709551616) := by
    unfold pw16
    rw [q14, q15, Int.fdiv_eq_ediv_of_nonneg _ (by decide)]
    rw [Bool.eq_iff_iff]; simp only [decide_eq_true_eq]; omega
  have q17 : pw17 v = 0 := by unfold pw17 two64; rw [q9, q13, u64w] <;> omega
  have q18 : pw18 v = false := by unfold pw18; rw [q17]; rfl
  have q19 : pw19 v = P % 18446744073709551616 := by unfold pw19; rw [q11]; omega
  have nd : pwN v := by
    unfold pwN
    rw [e1, q3, q5, q7, q8, q10, q12]
    refine ⟨⟨xIn_of (by omega) (by omega) (by omega) (by omega), ?_⟩, ⟨xIn_of (by omega) (by omega) (by omega) (by omega), ?_⟩, xIn_of (by omega) (by omega) (by omega) (by omega), ?_⟩ <;> unfold xAdd <;> rw [decide_eq_true_eq] <;> omega
  have e21 : pw21 v = P % 4294967296 := by
    unfold pw21
    rw [q19]
    obtain ⟨n, hn⟩ := Int.eq_ofNat_of_zero_le (show 0 ≤ P % 18446744073709551616 by omega)
    rw [hn, and32 n (by omega)]
    omega
  have big : pwBig v = decide (v * v / 4294967296 > 4503599627370496) ∧ (pwBig v = false → pw20 v = P / 4294967296 ∧ pw16 v = false) := by
    unfold pwBig
    rw [q18, q16]
    by_cases hb : 4294967296 ≤ P / 18446744073709551616
    · refine ⟨?_, fun h => by simp [hb] at h⟩
      rw [es]
      simp [hb]; omega
    · have hor : pw20 v = P / 4294967296 := by
        unfold pw20
        rw [q16, q18, q19, q14, q15, decide_eq_false hb]
        simp only [cond_false]
        rw [Int.fdiv_eq_ediv_of_nonneg _ (by decide), u64w (n := P / 18446744073709551616 * 4294967296) (by omega) (by omega)]
        obtain ⟨n, hn⟩ := Int.eq_ofNat_of_zero_le (show 0 ≤ P % 18446744073709551616 / 4294967296 by omega)
        obtain ⟨m, hm⟩ := Int.eq_ofNat_of_zero_le (show 0 ≤ P / 18446744073709551616 by omega)
        rw [hn, hm, show (m : Int) * 4294967296 = ((m * 4294967296 : Nat) : Int) by omega, Go.Eng.dOr_eq _ _ (by omega) (by omega)]
        have : n ||| m * 4294967296 = m * 4294967296 + n := by
          rw [Nat.or_comm, Nat.mul_comm]
          exact (Nat.two_pow_add_eq_or_of_lt (i := 32) (show n < 2 ^ 32 by omega) m).symm
        rw [this]
        omega
      rw [hor, decide_eq_false hb, es]
      exact ⟨rfl, fun _ => ⟨rfl, rfl⟩⟩
  obtain ⟨b1, b2⟩ := big
  refine ⟨?_, ?_, ?_, nd⟩
  · unfold pwD sqD
    cases hb : pwBig v with
    | true => rw [← b1, hb]; rfl
    | false =>
      rw [← b1, hb, (b2 hb).1, es]
      rw [hb] at b1
      have b1 := of_decide_eq_false b1.symm
      rw [es] at b1
      simp only [cond_false]
      rw [i64w (by omega) (by omega)]; rfl
  · unfold pwU sqU
    cases hb : pwBig v with
    | true => rw [← b1, hb]; rfl
    | false =>
      obtain ⟨b3, b4⟩ := b2 hb
      rw [← b1, hb, b3, b4, q18, e21, es]
      rw [hb] at b1
      have b1 := of_decide_eq_false b1.symm
      rw [es] at b1
      simp only [cond_false]
      rw [i64w (n := P / 4294967296) (by omega) (by omega), i64w (n := P / 4294967296 + 1) (by omega) (by omega)]
      unfold rd
      simp only [cond_true]
      by_cases hr : P % 4294967296 > 0
      · rw [decide_eq_true hr]; simp only [cond_true]; omega
      · rw [decide_eq_false hr]; simp only [cond_false]; omega
  · unfold pwE sqE; rw [b1]

end Go.Ar

/- Squares and scaled intervals: the functions of package span. No program. -/
namespace Go.Ar
open Go

def xaM (a b : Int) : Int := if IntKind.i64.wrap (0 - b) > a then IntKind.i64.wrap (0 - b) else a
def xaL0 (a b : Int) : Int := if 0 > xaM a b then 0 else xaM a b
def xaH0 (a b : Int) : Int := if IntKind.i64.wrap (0 - a) > b then IntKind.i64.wrap (0 - a) else b
def xaL (a b : Int) : Int := bif xCS a b != 0 then 0 else bif xTb (xaL0 a b) (xaH0 a b) then 0 else xaL0 a b
def xaH (a b : Int) : Int := bif xCS a b != 0 then 0 else bif xTb (xaL0 a b) (xaH0 a b) then 0 else xaH0 a b
def xsqBad (a b : Int) : Bool := bif sqE (xaL a b) != 0 then true else sqE (xaH a b) != 0
def xSqrS (a b : Int) : Sp :=
  ⟨bif xCS a b != 0 then 0 else bif xsqBad a b then 0 else bif xTb (sqD (xaL a b)) (sqU (xaH a b)) then 0 else sqD (xaL a b),
   bif xCS a b != 0 then 0 else bif xsqBad a b then 0 else bif xTb (sqD (xaL a b)) (sqU (xaH a b)) then 0 else sqU (xaH a b),
   bif xCS a b != 0 then xCS a b else bif xsqBad a b then 6 else bif xTb (sqD (xaL a b)) (sqU (xaH a b)) then 6 else 0⟩
def xSqrN (a b : Int) : Prop := (!(xCS a b != 0)) = true → okF (xaL a b) = true ∧ okF (xaH a b) = true

theorem xa_eq {a b : Int} (h : okSp a b = true) : xaL a b = abL a b ∧ xaH a b = abH a b ∧ 0 ≤ abL a b ∧ abL a b ≤ abH a b ∧ abH a b ≤ 4503599627370496 := by
  have k := okSp_iff.1 h
  have l0 : xaL0 a b = abL a b := by
    unfold xaL0 xaM abL mx
    rw [i64w (by omega) (by omega)]
    by_cases h1 : a < -b
    · rw [if_pos (show 0 - b > a by omega), decide_eq_true h1]
      simp only [cond_true]
      by_cases h2 : -b < 0
      · rw [if_pos (by omega), decide_eq_true h2]; rfl
      · rw [if_neg (by omega), decide_eq_false h2]; simp only [cond_false]; omega
    · rw [if_neg (show ¬ 0 - b > a by omega), decide_eq_false h1]
      simp only [cond_false]
      by_cases h2 : a < 0
      · rw [if_pos (by omega), decide_eq_true h2]; rfl
      · rw [if_neg (by omega), decide_eq_false h2]; rfl
  have h0 : xaH0 a b = abH a b := by
    unfold xaH0 abH mx
    rw [i64w (by omega) (by omega)]
    by_cases h1 : b < -a
    · rw [if_pos (show 0 - a > b by omega), decide_eq_true h1]; simp only [cond_true]; omega
    · rw [if_neg (show ¬ 0 - a > b by omega), decide_eq_false h1]; rfl
  have bl : 0 ≤ abL a b ∧ abL a b ≤ abH a b ∧ abH a b ≤ 4503599627370496 := by
    unfold abL abH
    have m1 := le_mx a (-b); have m2 := le_mx (mx a (-b)) 0; have m3 := le_mx b (-a)
    omega
  have ht : xTb (abL a b) (abH a b) = false := by
    unfold xTb; rw [decide_eq_false (by omega), decide_eq_false (by omega)]; rfl
  unfold xaL xaH
  rw [l0, h0, ht, xCS_eq, h]
  exact ⟨rfl, rfl, bl⟩

theorem xSqrN_all (a b : Int) : xSqrN a b := by
  intro h
  rw [xCS_eq] at h
  cases k : okSp a b with
  | false => rw [k] at h; cases h
  | true =>
    obtain ⟨e1, e2, b1, b2, b3⟩ := xa_eq k
    rw [e1, e2, okF_iff, okF_iff]; omega

theorem xSqrS_eq (a b : Int) : xSqrS a b = sqrS a b := by
  unfold xSqrS sqrS
  rw [xCS_eq]
  cases h : okSp a b with
  | false => simp [err]
  | true =>
    obtain ⟨e1, e2, b1, b2, b3⟩ := xa_eq h
    unfold xsqBad
    rw [e1, e2]
    have q : abL a b * abL a b ≤ abH a b * abH a b := Int.mul_le_mul b2 b2 b1 (by omega)
    have q0 : 0 ≤ abL a b * abL a b := Int.mul_nonneg b1 b1
    unfold sqE sqD sqU toldS
    generalize hP : abL a b * abL a b = P at *
    generalize hQ : abH a b * abH a b = Q at *
    have u1 : rd P 4294967296 false = P / 4294967296 := rfl
    have u2 : rd Q 4294967296 true = Q / 4294967296 + (if 0 < Q % 4294967296 then 1 else 0) := by
      unfold rd; simp only [cond_true]; rw [neg_div (by decide)]; omega
    have okl : okF (rd P 4294967296 false) = !decide (P / 4294967296 > 4503599627370496) := by
      rw [u1]; unfold okF
      rw [decide_eq_true (show (-4503599627370496 : Int) ≤ P / 4294967296 by omega), Bool.true_and, Bool.eq_iff_iff]
      simp only [decide_eq_true_eq, Bool.not_eq_true', decide_eq_false_iff_not]; omega
    cases hp : decide (P / 4294967296 > 4503599627370496) with
    | true => rw [okl, hp]; simp [err]
    | false =>
      have hp' := of_decide_eq_false hp
      cases hq : decide (Q / 4294967296 > 4503599627370496) with
      | true =>
        have hq' := of_decide_eq_true hq
        have : okF (rd Q 4294967296 true) = false := by rw [okF_false, u2]; split <;> omega
        rw [this]; simp [err]
      | false =>
        have hq' := of_decide_eq_false hq
        simp only [cond_false, cond_true, bne_self_eq_false]
        rw [xTb_eq (by rw [u1, u2]; split <;> omega)]
        cases okF (rd P 4294967296 false) && okF (rd Q 4294967296 true) <;> simp [err]

/-! ### Scale -/

theorem rd_lt_rd {n m d : Int} (hd : 0 < d) (h : n ≤ m) (up : Bool) : rd n d up ≤ rd m d up := by
  unfold rd
  cases up with
  | false => exact Int.ediv_le_ediv hd h
  | true =>
    have := Int.ediv_le_ediv hd (show -m ≤ -n by omega)
    simp only [cond_true]; omega

theorem sc_law {x n d : Int} (hx : okF x = true) (hn : 0 ≤ n) (hr : okR n d = true) (hb : sg x x * n < 18446744073709551615 * d) (up : Bool) : xScV x n d up = fitV (rd (x * n) d up) ∧ xScE x n d up = fitE (rd (x * n) d up) := by
  obtain ⟨a1, a2, a3⟩ := sz_of hx
  simp only [okR, Bool.and_eq_true, decide_eq_true_eq] at hr
  obtain ⟨⟨⟨n1, n2⟩, d1⟩, d2⟩ := hr
  have en : xSz n = n := by rw [xSz_eq (by omega) (by omega)]; rcases sg_cases n with ⟨_, e⟩ | ⟨_, e⟩ <;> omega
  have esn : sg n n = n := by rcases sg_cases n with ⟨_, e⟩ | ⟨_, e⟩ <;> omega
  have ed : IntKind.u64.wrap d = d := u64w (by omega) (by omega)
  have ok : xOkS x n d = false := by
    rw [xOkS_eq]; unfold okS; rw [hx, decide_eq_true n1, decide_eq_true n2, decide_eq_true d1, decide_eq_true d2]; rfl
  have hm : sg x x * n ≤ 4503599627370496 * 4611686018427387904 := Int.mul_le_mul a3 n2 hn (by decide)
  obtain ⟨v, e, _⟩ := xN_eq (p := sg x x * n) (d := d) (Int.mul_nonneg a2 hn) (by omega) (by omega) (by omega) up (xNeg x n) (x * n) (by have := xNeg_mul x n; rw [esn] at this; exact this) (.inl hb)
  unfold xScV xScE
  rw [ok, a1, en, ed]
  exact ⟨v, e⟩

theorem sc_bad {x n d : Int} (h : okR n d = false) (up : Bool) : xScE x n d up = 2 := by
  unfold xScE
  have : xOkS x n d = true := by
    rw [xOkS_eq]; unfold okS okR at *; rw [h, Bool.and_false]; rfl
  rw [this]; rfl

theorem xScaleS_eq (a b n d : Int) (hb : okSp a b = true → okR n d = true → abH a b * sg n n < 18446744073709551615 * d) : xScaleS a b n d = scaleS a b n d := by
  unfold xScaleS scaleS
  rw [xCS_eq]
  cases h : okSp a b with
  | false => simp [err]
  | true =>
    have k := okSp_iff.1 h
    cases hr : okR n d with
    | false =>
      have hx : xsOk n = true → xsBad a b n d = true ∧ xScE (xsA a b n) (xsN n) d false = 2 ∧ xScE (xsB a b n) (xsN n) d true = 2 := by
        intro ho
        have hr2 : okR (xsN n) d = false := by
          unfold xsN
          by_cases hn : n < 0
          · simp only [xsOk, hn, decide_true, cond_true, Bool.not_eq_true', decide_eq_false_iff_not] at ho
            rw [decide_eq_true hn, cond_true, i64w (by omega) (by omega)]
            simp only [okR, Bool.and_eq_false_iff, decide_eq_false_iff_not] at hr ⊢
            omega
          · rw [decide_eq_false hn]; exact hr
        have e1 := sc_bad (x := xsA a b n) hr2 false
        have e2 := sc_bad (x := xsB a b n) hr2 true
        exact ⟨by unfold xsBad; rw [e1]; rfl, e1, e2⟩
      cases ho : xsOk n with
      | false => simp [err]
      | true =>
        obtain ⟨h1, h2, h3⟩ := hx ho
        simp [h1, h2, h3, err]
    | true =>
      have hb := hb h hr
      have hr' := hr
      simp only [okR, Bool.and_eq_true, decide_eq_true_eq] at hr'
      obtain ⟨⟨⟨n1, n2⟩, d1⟩, d2⟩ := hr'
      have ho : xsOk n = true := by
        unfold xsOk
        by_cases hn : n < 0
        · rw [decide_eq_true hn, decide_eq_false (by omega)]; rfl
        · rw [decide_eq_false hn]; rfl
      have m3 := le_mx b (-a)
      -- the sizes
      have core : ∀ (x y m : Int), 0 ≤ m → m ≤ 4611686018427387904 → okF x = true → okF y = true → x ≤ y → sg x x ≤ abH a b → sg y y ≤ abH a b → abH a b * m < 18446744073709551615 * d →
          (⟨bif (bif xScE x m d false != 0 then true else xScE y m d true != 0) then 0 else xScV x m d false, bif (bif xScE x m d false != 0 then true else xScE y m d true != 0) then 0 else xScV y m d true,
            bif (bif xScE x m d false != 0 then true else xScE y m d true != 0) then (if xScE y m d true > xScE x m d false then xScE y m d true else xScE x m d false) else 0⟩ : Sp) = toldS (rd (x * m) d false) (rd (y * m) d true) := by
        intro x y m m0 m1 hx hy hxy sx sy hbm
        have hr2 : okR m d = true := by simp [okR]; omega
        have bx : sg x x * m < 18446744073709551615 * d := Int.lt_of_le_of_lt (Int.mul_le_mul_of_nonneg_right sx m0) hbm
        have by' : sg y y * m < 18446744073709551615 * d := Int.lt_of_le_of_lt (Int.mul_le_mul_of_nonneg_right sy m0) hbm
        obtain ⟨v1, e1⟩ := sc_law hx m0 hr2 bx false
        obtain ⟨v2, e2⟩ := sc_law hy m0 hr2 by' true
        rw [v1, e1, v2, e2]
        unfold toldS
        rcases fitE_cases (rd (x * m) d false) with ⟨p1, p2, p3⟩ | ⟨p1, p2, p3⟩ <;> rcases fitE_cases (rd (y * m) d true) with ⟨q1, q2, q3⟩ | ⟨q1, q2, q3⟩ <;> rw [p1, p2, p3, q1, q2, q3] <;> rfl
      unfold xsBad
      rw [ho]
      simp only [bne_self_eq_false, cond_false, cond_true]
      by_cases hn : n < 0
      · have ea : xsA a b n = -b := by unfold xsA; rw [decide_eq_true hn, cond_true, i64w (by omega) (by omega)]; omega
        have eb : xsB a b n = -a := by unfold xsB; rw [decide_eq_true hn, cond_true, i64w (by omega) (by omega)]; omega
        have en : xsN n = -n := by unfold xsN; rw [decide_eq_true hn, cond_true, i64w (by omega) (by omega)]; omega
        have esn : sg n n = -n := by rcases sg_cases n with ⟨_, e⟩ | ⟨_, e⟩ <;> omega
        rw [esn] at hb
        rw [ea, eb, en]
        rw [core (-b) (-a) (-n) (by omega) (by omega) (okF_iff.2 (by omega)) (okF_iff.2 (by omega)) (by omega)
          (by unfold abH; rcases sg_cases (-b) with ⟨_, e⟩ | ⟨_, e⟩ <;> omega) (by unfold abH; rcases sg_cases (-a) with ⟨_, e⟩ | ⟨_, e⟩ <;> omega) hb]
        have hmul : b * n ≤ a * n := Int.mul_le_mul_of_nonpos_right k.2.1 (by omega)
        have e1 : mn (a * n) (b * n) = b * n := by
          unfold mn; by_cases h2 : b * n < a * n
          · rw [decide_eq_true h2]; rfl
          · rw [decide_eq_false h2]; simp only [cond_false]; omega
        have e2 : mx (a * n) (b * n) = a * n := by
          unfold mx; rw [decide_eq_false (by omega)]; rfl
        rw [e1, e2, Int.neg_mul_neg, Int.neg_mul_neg]
      · have ea : xsA a b n = a := by unfold xsA; rw [decide_eq_false hn]; rfl
        have eb : xsB a b n = b := by unfold xsB; rw [decide_eq_false hn]; rfl
        have en : xsN n = n := by unfold xsN; rw [decide_eq_false hn]; rfl
        have esn : sg n n = n := by rcases sg_cases n with ⟨_, e⟩ | ⟨_, e⟩ <;> omega
        rw [esn] at hb
        rw [ea, eb, en]
        rw [core a b n (by omega) n2 (okF_iff.2 (by omega)) (okF_iff.2 (by omega)) k.2.1
          (by unfold abH; rcases sg_cases a with ⟨_, e⟩ | ⟨_, e⟩ <;> omega) (by unfold abH; rcases sg_cases b with ⟨_, e⟩ | ⟨_, e⟩ <;> omega) hb]
        have hmul : a * n ≤ b * n := Int.mul_le_mul_of_nonneg_right k.2.1 (by omega)
        have e1 : mn (a * n) (b * n) = a * n := by
          unfold mn; rw [decide_eq_false (by omega)]; rfl
        have e2 : mx (a * n) (b * n) = b * n := by
          unfold mx; by_cases h2 : a * n < b * n
          · rw [decide_eq_true h2]; rfl
          · rw [decide_eq_false h2]; simp only [cond_false]; omega
        rw [e1, e2]

end Go.Ar

/- Enclosures: what the operations of spans keep. No program. -/
namespace Go.Rd
open Go Go.Eng Go.Ar

/-- A span that is right and within ±M. -/
structure Bd (s : Sp) (M : Int) : Prop where
  e : s.e = 0
  lo : -M ≤ s.lo
  le : s.lo ≤ s.hi
  hi : s.hi ≤ M
/-- N / D lies in the span. -/
structure En (s : Sp) (N D : Int) : Prop where
  lo : s.lo * D ≤ N
  hi : N ≤ s.hi * D

theorem rd_f {n d : Int} (hd : 0 < d) : rd n d false * d ≤ n ∧ n < rd n d false * d + d := by
  have h1 := Int.mul_ediv_add_emod n d
  have h2 := Int.emod_nonneg n (show d ≠ 0 by omega)
  have h3 := Int.emod_lt_of_pos n hd
  show n / d * d ≤ n ∧ n < n / d * d + d
  rw [Int.mul_comm] at h1
  omega
theorem rd_t {n d : Int} (hd : 0 < d) : n ≤ rd n d true * d ∧ rd n d true * d < n + d := by
  have := rd_f (n := -n) hd
  have e : rd n d true = -(rd (-n) d false) := rfl
  rw [e, Int.neg_mul]
  omega
theorem rd_le_of {n d M : Int} (hd : 0 < d) (h : n ≤ M * d) : rd n d true ≤ M := by
  have := (rd_t (n := n) hd).2
  rcases Int.lt_or_le M (rd n d true) with c | c
  · have : (M + 1) * d ≤ rd n d true * d := Int.mul_le_mul_of_nonneg_right (by omega) (by omega)
    rw [Int.add_mul] at this
    omega
  · exact c
theorem le_rd_of {n d M : Int} (hd : 0 < d) (h : M * d ≤ n) : M ≤ rd n d false := by
  have := (rd_f (n := n) hd).2
  rcases Int.lt_or_le (rd n d false) M with c | c
  · have : (rd n d false + 1) * d ≤ M * d := Int.mul_le_mul_of_nonneg_right (by omega) (by omega)
    rw [Int.add_mul] at this
    omega
  · exact c

/-- The product of numbers within bounds. -/
theorem mul_bd {a n M L : Int} (h1 : -M ≤ a) (h2 : a ≤ M) (h3 : -L ≤ n) (h4 : n ≤ L) : -(M * L) ≤ a * n ∧ a * n ≤ M * L := by
  have k1 := Int.mul_nonneg (show 0 ≤ M - a by omega) (show 0 ≤ L - n by omega)
  have k2 := Int.mul_nonneg (show 0 ≤ M + a by omega) (show 0 ≤ L + n by omega)
  have k3 := Int.mul_nonneg (show 0 ≤ M - a by omega) (show 0 ≤ L + n by omega)
  have k4 := Int.mul_nonneg (show 0 ≤ M + a by omega) (show 0 ≤ L - n by omega)
  constructor <;> grind

/-- N between two numbers, times n. -/
theorem mid_mul {a b N D n l h : Int} (_hD : 0 < D) (h1 : a * D ≤ N) (h2 : N ≤ b * D) (l1 : l ≤ a * n) (l2 : l ≤ b * n) (u1 : a * n ≤ h) (u2 : b * n ≤ h) : l * D ≤ N * n ∧ N * n ≤ h * D := by
  have m1 := Int.mul_le_mul_of_nonneg_right l1 (show 0 ≤ D by omega)
  have m2 := Int.mul_le_mul_of_nonneg_right l2 (show 0 ≤ D by omega)
  have m3 := Int.mul_le_mul_of_nonneg_right u1 (show 0 ≤ D by omega)
  have m4 := Int.mul_le_mul_of_nonneg_right u2 (show 0 ≤ D by omega)
  rcases Int.le_total 0 n with c | c
  · have q1 := Int.mul_le_mul_of_nonneg_right h1 c
    have q2 := Int.mul_le_mul_of_nonneg_right h2 c
    constructor <;> grind
  · have q1 := Int.mul_le_mul_of_nonpos_right h1 c
    have q2 := Int.mul_le_mul_of_nonpos_right h2 c
    constructor <;> grind

theorem scale_op {s : Sp} {n d M L M' : Int} (h : Bd s M) (hM : M ≤ 4503599627370496) (hn : -L ≤ n ∧ n ≤ L) (hL : L ≤ 4611686018427387904) (hd : 1 ≤ d) (hd' : d ≤ 4611686018427387904) (hb : M * L ≤ M' * d) (hM' : M' ≤ 4503599627370496) (hbig : M * L < 18446744073709551615 * d) :
    Bd (xScaleS s.lo s.hi n d) M' ∧ (xScaleS s.lo s.hi n d).lo = rd (mn (s.lo * n) (s.hi * n)) d false ∧ (xScaleS s.lo s.hi n d).hi = rd (mx (s.lo * n) (s.hi * n)) d true := by
  obtain ⟨_, h1, h2, h3⟩ := h
  have ha := mul_bd (n := n) (L := L) h1 (show s.lo ≤ M by omega) hn.1 hn.2
  have hb' := mul_bd (n := n) (L := L) (show -M ≤ s.hi by omega) h3 hn.1 hn.2
  have hx : xScaleS s.lo s.hi n d = scaleS s.lo s.hi n d := xScaleS_eq _ _ _ _ fun _ _ => by
    have q : 0 ≤ abH s.lo s.hi ∧ abH s.lo s.hi ≤ M := by
      have := le_mx s.hi (-s.lo); unfold abH; omega
    have q' : 0 ≤ sg n n ∧ sg n n ≤ L := by
      unfold sg; cases hh : decide (n < 0) <;> simp at hh ⊢ <;> omega
    have := Int.mul_le_mul q.2 q'.2 q'.1 (by omega)
    omega
  have o1 : okSp s.lo s.hi = true := okSp_iff.2 (by omega)
  have o2 : okR n d = true := by simp [okR]; omega
  rw [hx]
  unfold scaleS
  rw [o1, o2, cond_true, cond_true]
  have m := mn_le (s.lo * n) (s.hi * n)
  have k := le_mx (s.lo * n) (s.hi * n)
  have l1 : -M' ≤ rd (mn (s.lo * n) (s.hi * n)) d false := le_rd_of (by omega) (by rw [Int.neg_mul]; omega)
  have l2 : rd (mx (s.lo * n) (s.hi * n)) d true ≤ M' := rd_le_of (by omega) (by omega)
  have l3 := rd_le (mn (s.lo * n) (s.hi * n)) d (by omega)
  have l4 := rd_lt_rd (n := mn (s.lo * n) (s.hi * n)) (m := mx (s.lo * n) (s.hi * n)) (d := d) (by omega) (by omega) true
  unfold toldS
  rw [okF_iff.2 (by omega), okF_iff.2 (by omega)]
  exact ⟨⟨rfl, l1, Int.le_trans l3 l4, l2⟩, rfl, rfl⟩

theorem scale_en {s r : Sp} {n d N D : Int} (hD : 0 < D) (hd : 0 < d) (h : En s N D) (e1 : r.lo = rd (mn (s.lo * n) (s.hi * n)) d false) (e2 : r.hi = rd (mx (s.lo * n) (s.hi * n)) d true) : En r (N * n) (D * d) := by
  have m := mn_le (s.lo * n) (s.hi * n)
  have k := le_mx (s.lo * n) (s.hi * n)
  have f := (rd_f (n := mn (s.lo * n) (s.hi * n)) hd).1
  have t := (rd_t (n := mx (s.lo * n) (s.hi * n)) hd).1
  rw [← e1] at f; rw [← e2] at t
  have := mid_mul (n := n) hD h.lo h.hi (l := r.lo * d) (h := r.hi * d) (by omega) (by omega) (by omega) (by omega)
  refine ⟨?_, ?_⟩
  · have := this.1; grind
  · have := this.2; grind

end Go.Rd

/- Enclosures, continued: sums, squares, roots, quotients. No program. -/
namespace Go.Rd
open Go Go.Eng Go.Ar

theorem add_op {s t : Sp} {M N : Int} (h : Bd s M) (k : Bd t N) (hM : M + N ≤ 4503599627370496) (hp : 0 ≤ M ∧ 0 ≤ N) :
    Bd (addS s.lo s.hi t.lo t.hi) (M + N) ∧ (addS s.lo s.hi t.lo t.hi).lo = s.lo + t.lo ∧ (addS s.lo s.hi t.lo t.hi).hi = s.hi + t.hi := by
  obtain ⟨_, a1, a2, a3⟩ := h
  obtain ⟨_, b1, b2, b3⟩ := k
  unfold addS both toldS
  rw [okSp_iff.2 (by omega), okSp_iff.2 (by omega), okF_iff.2 (by omega), okF_iff.2 (by omega)]
  exact ⟨⟨rfl, show -(M + N) ≤ s.lo + t.lo by omega, show s.lo + t.lo ≤ s.hi + t.hi by omega, show s.hi + t.hi ≤ M + N by omega⟩, rfl, rfl⟩
theorem sub_op {s t : Sp} {M N : Int} (h : Bd s M) (k : Bd t N) (hM : M + N ≤ 4503599627370496) (hp : 0 ≤ M ∧ 0 ≤ N) :
    Bd (subS s.lo s.hi t.lo t.hi) (M + N) ∧ (subS s.lo s.hi t.lo t.hi).lo = s.lo - t.hi ∧ (subS s.lo s.hi t.lo t.hi).hi = s.hi - t.lo := by
  obtain ⟨_, a1, a2, a3⟩ := h
  obtain ⟨_, b1, b2, b3⟩ := k
  unfold subS both toldS
  rw [okSp_iff.2 (by omega), okSp_iff.2 (by omega), okF_iff.2 (by omega), okF_iff.2 (by omega)]
  exact ⟨⟨rfl, show -(M + N) ≤ s.lo - t.hi by omega, show s.lo - t.hi ≤ s.hi - t.lo by omega, show s.hi - t.lo ≤ M + N by omega⟩, rfl, rfl⟩
theorem add_en {s t r : Sp} {N N' D : Int} (h : En s N D) (k : En t N' D) (e1 : r.lo = s.lo + t.lo) (e2 : r.hi = s.hi + t.hi) : En r (N + N') D := by
  obtain ⟨a, b⟩ := h; obtain ⟨c, d⟩ := k
  constructor
  · rw [e1, Int.add_mul]; omega
  · rw [e2, Int.add_mul]; omega
theorem sub_en {s t r : Sp} {N N' D : Int} (h : En s N D) (k : En t N' D) (e1 : r.lo = s.lo - t.hi) (e2 : r.hi = s.hi - t.lo) : En r (N - N') D := by
  obtain ⟨a, b⟩ := h; obtain ⟨c, d⟩ := k
  constructor
  · rw [e1, Int.sub_mul]; omega
  · rw [e2, Int.sub_mul]; omega

/-- Two spans that hold one number meet. -/
theorem en_meet {s t : Sp} {N D : Int} (hD : 0 < D) (h : En s N D) (k : En t N D) : s.lo ≤ t.hi := by
  rcases Int.lt_or_le t.hi s.lo with c | c
  · have := Int.mul_le_mul_of_nonneg_right (show t.hi + 1 ≤ s.lo by omega) (show 0 ≤ D by omega)
    rw [Int.add_mul] at this
    have := h.lo; have := k.hi
    omega
  · exact c

/-- The square of a point. -/
theorem sqr_pt {n : Int} (hn : -32768 ≤ n ∧ n ≤ 32767) : sqrS (n * 16777216) (n * 16777216) = ⟨n * n * 65536, n * n * 65536, 0⟩ := by
  have q := mul_bd (a := n) (n := n) (M := 32768) (L := 32768) (by omega) (by omega) (by omega) (by omega)
  have q0 : 0 ≤ n * n := by
    rcases Int.le_total 0 n with c | c
    · exact Int.mul_nonneg c c
    · exact Int.mul_nonneg_of_nonpos_of_nonpos c c
  have h1 := le_mx (n * 16777216) (-(n * 16777216))
  have h2 := le_mx (mx (n * 16777216) (-(n * 16777216))) 0
  have e : ∀ v : Int, v = n * 16777216 ∨ v = -(n * 16777216) → v * v = n * n * 65536 * 4294967296 := by
    rintro v (rfl | rfl) <;> grind
  have eL : abL (n * 16777216) (n * 16777216) * abL (n * 16777216) (n * 16777216) = n * n * 65536 * 4294967296 := e _ (by unfold abL; omega)
  have eH : abH (n * 16777216) (n * 16777216) * abH (n * 16777216) (n * 16777216) = n * n * 65536 * 4294967296 := e _ (by unfold abH; omega)
  unfold sqrS
  rw [okSp_iff.2 (by omega), eL, eH, cond_true]
  have r1 : rd (n * n * 65536 * 4294967296) 4294967296 false = n * n * 65536 := Int.mul_ediv_cancel _ (by decide)
  have r2 : rd (n * n * 65536 * 4294967296) 4294967296 true = n * n * 65536 := by
    show -(-(n * n * 65536 * 4294967296) / 4294967296) = _
    rw [← Int.neg_mul, Int.mul_ediv_cancel _ (by decide), Int.neg_neg]
  rw [r1, r2]
  unfold toldS
  rw [okF_iff.2 (by omega)]
  rfl

theorem le_of_sq {a b : Int} (hb : 0 ≤ b) (h : a * a ≤ b * b) : a ≤ b := by
  rcases Int.lt_or_le b a with c | c
  · have := Int.mul_le_mul (show b + 1 ≤ a by omega) (show b + 1 ≤ a by omega) (show 0 ≤ b + 1 by omega) (show 0 ≤ a by omega)
    rw [Int.add_mul, Int.mul_add] at this
    omega
  · exact c
theorem lt_of_sq {a b : Int} (hb : 0 ≤ b) (h : a * a < b * b) : a < b := by
  rcases Int.lt_or_le a b with c | c
  · exact c
  · have := Int.mul_le_mul c c hb (Int.le_trans hb c)
    omega

theorem rtV_t {a : Int} (h : sqOk a = true) : 0 ≤ rtV a true ∧ a * 4294967296 ≤ rtV a true * rtV a true ∧ (rtV a true = sqR a ∨ rtV a true = sqR a + 1 ∧ sqR a * sqR a < a * 4294967296) := by
  obtain ⟨q0, q1, q2, _⟩ := sqR_spec h
  unfold rtV
  cases hh : sqR a * sqR a == a * 4294967296 with
  | true =>
    have := of_decide_eq_true (show decide (sqR a * sqR a = a * 4294967296) = true from hh)
    exact ⟨q0, by show _ ≤ sqR a * sqR a; omega, .inl rfl⟩
  | false =>
    have := of_decide_eq_false (show decide (sqR a * sqR a = a * 4294967296) = false from hh)
    exact ⟨by show 0 ≤ sqR a + 1; omega, by show _ ≤ (sqR a + 1) * (sqR a + 1); omega, .inr ⟨rfl, by omega⟩⟩

/-- Roots. -/
theorem sqrt_op {s : Sp} {M K : Int} (h : Bd s M) (h0 : 0 ≤ s.lo) (hM : M ≤ 4503599627370496) (hK : 0 ≤ K ∧ M * 4294967296 ≤ K * K) :
    Bd (sqrtS s.lo s.hi) K ∧ (sqrtS s.lo s.hi).lo * (sqrtS s.lo s.hi).lo ≤ s.lo * 4294967296 ∧ s.hi * 4294967296 ≤ (sqrtS s.lo s.hi).hi * (sqrtS s.lo s.hi).hi ∧ 0 ≤ (sqrtS s.lo s.hi).lo ∧
    s.lo * 4294967296 < ((sqrtS s.lo s.hi).lo + 1) * ((sqrtS s.lo s.hi).lo + 1) := by
  obtain ⟨_, a1, a2, a3⟩ := h
  have s1 : sqOk s.lo = true := by unfold sqOk; rw [okF_iff.2 (by omega)]; simpa using h0
  have s2 : sqOk s.hi = true := by unfold sqOk; rw [okF_iff.2 (by omega)]; simpa using (show 0 ≤ s.hi by omega)
  obtain ⟨u0, u1, u2, _⟩ := sqR_spec s1
  obtain ⟨v0, v1, v2, _⟩ := sqR_spec s2
  obtain ⟨w0, w1, w2⟩ := rtV_t s2
  unfold sqrtS
  rw [okSp_iff.2 (by omega), decide_eq_false (show ¬ s.lo < 0 by omega), cond_true, cond_false]
  have f : rtV s.lo false = sqR s.lo := rfl
  rw [f]
  have i1 : sqR s.lo ≤ rtV s.hi true := le_of_sq w0 (by omega)
  have i2 : rtV s.hi true ≤ K := by
    rcases w2 with w2 | ⟨w2, w3⟩
    · rw [w2]; exact le_of_sq hK.1 (by omega)
    · have := lt_of_sq (a := sqR s.hi) hK.1 (by omega)
      omega
  exact ⟨⟨rfl, show -K ≤ sqR s.lo by omega, i1, i2⟩, u1, w1, u0, u2⟩

end Go.Rd

/- Enclosures, continued: products and quotients. No program. -/
namespace Go.Rd
open Go Go.Eng Go.Ar

theorem mn4 (p q r s : Int) : mn (mn (mn p q) r) s ≤ p ∧ mn (mn (mn p q) r) s ≤ q ∧ mn (mn (mn p q) r) s ≤ r ∧ mn (mn (mn p q) r) s ≤ s ∧ (∀ m, m ≤ p → m ≤ q → m ≤ r → m ≤ s → m ≤ mn (mn (mn p q) r) s) := by
  have h1 := mn_le p q
  have h2 := mn_le (mn p q) r
  have h3 := mn_le (mn (mn p q) r) s
  refine ⟨by omega, by omega, by omega, by omega, fun m _ _ _ _ => by omega⟩
theorem mx4 (p q r s : Int) : p ≤ mx (mx (mx p q) r) s ∧ q ≤ mx (mx (mx p q) r) s ∧ r ≤ mx (mx (mx p q) r) s ∧ s ≤ mx (mx (mx p q) r) s ∧ (∀ m, p ≤ m → q ≤ m → r ≤ m → s ≤ m → mx (mx (mx p q) r) s ≤ m) := by
  have h1 := le_mx p q
  have h2 := le_mx (mx p q) r
  have h3 := le_mx (mx (mx p q) r) s
  refine ⟨by omega, by omega, by omega, by omega, fun m _ _ _ _ => by omega⟩

/-- The hull of four results within bounds. -/
theorem hull_op {F : Int → Int → Bool → Int} {a b c d M' : Int} (hM' : M' ≤ 4503599627370496)
    (hl : ∀ x y, (x = a ∨ x = b) → (y = c ∨ y = d) → -M' ≤ F x y false ∧ F x y false ≤ F x y true ∧ F x y true ≤ M') :
    Bd (hull4 F a b c d) M' ∧ ∀ x y, (x = a ∨ x = b) → (y = c ∨ y = d) → (hull4 F a b c d).lo ≤ F x y false ∧ F x y true ≤ (hull4 F a b c d).hi := by
  have h1 := hl a c (.inl rfl) (.inl rfl)
  have h2 := hl a d (.inl rfl) (.inr rfl)
  have h3 := hl b c (.inr rfl) (.inl rfl)
  have h4 := hl b d (.inr rfl) (.inr rfl)
  unfold hull4
  obtain ⟨m1, m2, m3, m4, m5⟩ := mn4 (F a c false) (F a d false) (F b c false) (F b d false)
  obtain ⟨k1, k2, k3, k4, k5⟩ := mx4 (F a c true) (F a d true) (F b c true) (F b d true)
  have l := m5 (-M') h1.1 h2.1 h3.1 h4.1
  have u := k5 M' h1.2.2 h2.2.2 h3.2.2 h4.2.2
  generalize mn (mn (mn (F a c false) (F a d false)) (F b c false)) (F b d false) = lo at *
  generalize mx (mx (mx (F a c true) (F a d true)) (F b c true)) (F b d true) = hi at *
  unfold toldS
  rw [okF_iff.2 (by omega), okF_iff.2 (by omega)]
  refine ⟨⟨rfl, l, show lo ≤ hi by omega, u⟩, ?_⟩
  rintro x y (rfl | rfl) (rfl | rfl)
  · exact ⟨m1, k1⟩
  · exact ⟨m2, k2⟩
  · exact ⟨m3, k3⟩
  · exact ⟨m4, k4⟩

theorem mul_op {s t : Sp} {M N M' : Int} (h : Bd s M) (k : Bd t N) (hM : M ≤ 4503599627370496) (hN : N ≤ 4503599627370496) (hM' : M' ≤ 4503599627370496)
    (hb : ∀ x y, (x = s.lo ∨ x = s.hi) → (y = t.lo ∨ y = t.hi) → -(M' * 4294967296) ≤ x * y ∧ x * y ≤ M' * 4294967296) :
    Bd (mulS s.lo s.hi t.lo t.hi) M' ∧ ∀ x y, (x = s.lo ∨ x = s.hi) → (y = t.lo ∨ y = t.hi) → (mulS s.lo s.hi t.lo t.hi).lo * 4294967296 ≤ x * y ∧ x * y ≤ (mulS s.lo s.hi t.lo t.hi).hi * 4294967296 := by
  obtain ⟨_, a1, a2, a3⟩ := h
  obtain ⟨_, b1, b2, b3⟩ := k
  have e : mulS s.lo s.hi t.lo t.hi = hull4 mF s.lo s.hi t.lo t.hi := by
    unfold mulS both
    rw [okSp_iff.2 (by omega), okSp_iff.2 (by omega)]
    rfl
  rw [e]
  obtain ⟨q1, q2⟩ := hull_op (F := mF) (a := s.lo) (b := s.hi) (c := t.lo) (d := t.hi) hM' fun x y hx hy => by
    have := hb x y hx hy
    exact ⟨le_rd_of (by decide) (by omega), rd_le _ _ (by decide), rd_le_of (by decide) (by omega)⟩
  refine ⟨q1, fun x y hx hy => ?_⟩
  have := q2 x y hx hy
  have f : mF x y false * 4294967296 ≤ x * y := (rd_f (n := x * y) (d := 4294967296) (by decide)).1
  have g : x * y ≤ mF x y true * 4294967296 := (rd_t (n := x * y) (d := 4294967296) (by decide)).1
  omega

theorem mul_en {s t r : Sp} {N D V E : Int} (hD : 0 < D) (hE : 0 < E) (h : En s N D) (k : En t V E)
    (c : ∀ x y, (x = s.lo ∨ x = s.hi) → (y = t.lo ∨ y = t.hi) → r.lo * 4294967296 ≤ x * y ∧ x * y ≤ r.hi * 4294967296) :
    En r (N * V) (4294967296 * (D * E)) := by
  have c1 := c s.lo t.lo (.inl rfl) (.inl rfl)
  have c2 := c s.hi t.lo (.inr rfl) (.inl rfl)
  have c3 := c s.lo t.hi (.inl rfl) (.inr rfl)
  have c4 := c s.hi t.hi (.inr rfl) (.inr rfl)
  have p := mid_mul (n := t.lo) hD h.lo h.hi c1.1 c2.1 c1.2 c2.2
  have q := mid_mul (n := t.hi) hD h.lo h.hi c3.1 c4.1 c3.2 c4.2
  have z := mid_mul (a := t.lo) (b := t.hi) (N := V) (D := E) (n := N) (l := r.lo * 4294967296 * D) (h := r.hi * 4294967296 * D) hE k.lo k.hi (by rw [Int.mul_comm t.lo]; exact p.1) (by rw [Int.mul_comm t.hi]; exact q.1) (by rw [Int.mul_comm t.lo]; exact p.2) (by rw [Int.mul_comm t.hi]; exact q.2)
  constructor
  · have := z.1; grind
  · have := z.2; grind

theorem div_op {s t : Sp} {M N M' c : Int} (h : Bd s M) (k : Bd t N) (hM : M ≤ 4503599627370496) (hN : N ≤ 4503599627370496) (hM' : M' ≤ 4503599627370496) (hc : 0 < c ∧ c ≤ t.lo)
    (hb : M * 4294967296 ≤ M' * c) (h0 : 0 ≤ M') :
    Bd (divS s.lo s.hi t.lo t.hi) M' ∧ ∀ x y, (x = s.lo ∨ x = s.hi) → (y = t.lo ∨ y = t.hi) → (divS s.lo s.hi t.lo t.hi).lo * y ≤ x * 4294967296 ∧ x * 4294967296 ≤ (divS s.lo s.hi t.lo t.hi).hi * y := by
  obtain ⟨_, a1, a2, a3⟩ := h
  obtain ⟨_, b1, b2, b3⟩ := k
  have e : divS s.lo s.hi t.lo t.hi = hull4 dF s.lo s.hi t.lo t.hi := by
    unfold divS both
    rw [okSp_iff.2 (by omega), okSp_iff.2 (by omega), decide_eq_false (show ¬ t.lo ≤ 0 by omega)]
    rfl
  rw [e]
  have dd : ∀ x y up, (y = t.lo ∨ y = t.hi) → dF x y up = rd (x * 4294967296) y up := fun x y up hy => by
    unfold dF sg
    rw [decide_eq_false (show ¬ y < 0 by omega)]
    rfl
  obtain ⟨q1, q2⟩ := hull_op (F := dF) (a := s.lo) (b := s.hi) (c := t.lo) (d := t.hi) hM' fun x y hx hy => by
    rw [dd x y false hy, dd x y true hy]
    have hy' : c ≤ y := by omega
    have := Int.mul_le_mul_of_nonneg_left hy' h0
    exact ⟨le_rd_of (by omega) (by rw [Int.neg_mul]; omega), rd_le _ _ (by omega), rd_le_of (by omega) (by omega)⟩
  refine ⟨q1, fun x y hx hy => ?_⟩
  have := q2 x y hx hy
  rw [dd x y false hy, dd x y true hy] at this
  have hy' : 0 ≤ y := by omega
  have f := rd_f (n := x * 4294967296) (d := y) (by omega)
  have g := rd_t (n := x * 4294967296) (d := y) (by omega)
  have m1 := Int.mul_le_mul_of_nonneg_right this.1 hy'
  have m2 := Int.mul_le_mul_of_nonneg_right this.2 hy'
  omega

/-- (As products: r holds N 2^32 E / (D V).) -/
theorem div_en {s t r : Sp} {N D V E : Int} (hD : 0 < D) (hE : 0 < E) (h : En s N D) (k : En t V E)
    (c : ∀ x y, (x = s.lo ∨ x = s.hi) → (y = t.lo ∨ y = t.hi) → r.lo * y ≤ x * 4294967296 ∧ x * 4294967296 ≤ r.hi * y) :
    En r (N * 4294967296 * E) (D * V) := by
  have c1 := c s.lo t.lo (.inl rfl) (.inl rfl)
  have c2 := c s.hi t.hi (.inr rfl) (.inr rfl)
  have c3 := c s.lo t.hi (.inl rfl) (.inr rfl)
  have c4 := c s.hi t.lo (.inr rfl) (.inl rfl)
  have z1 := (mid_mul (a := t.lo) (b := t.hi) (N := V) (D := E) (n := r.lo) (l := mn (t.lo * r.lo) (t.hi * r.lo)) (h := s.lo * 4294967296) hE k.lo k.hi (mn_le _ _).1 (mn_le _ _).2.1 (by rw [Int.mul_comm]; exact c1.1) (by rw [Int.mul_comm]; exact c3.1)).2
  have z2 := (mid_mul (a := t.lo) (b := t.hi) (N := V) (D := E) (n := r.hi) (l := s.hi * 4294967296) (h := mx (t.lo * r.hi) (t.hi * r.hi)) hE k.lo k.hi (by rw [Int.mul_comm t.lo]; exact c4.2) (by rw [Int.mul_comm t.hi]; exact c2.2) (le_mx _ _).1 (le_mx _ _).2.1).1
  constructor
  · have m1 := Int.mul_le_mul_of_nonneg_right z1 (show 0 ≤ D by omega)
    have m2 := Int.mul_le_mul_of_nonneg_right h.lo (show 0 ≤ 4294967296 * E by omega)
    grind
  · have m1 := Int.mul_le_mul_of_nonneg_right z2 (show 0 ≤ D by omega)
    have m2 := Int.mul_le_mul_of_nonneg_right h.hi (show 0 ≤ 4294967296 * E by omega)
    grind

end Go.Rd

/- The contracts of package fix and of what compares with it, as data. No program. -/
namespace Go.Ar
open Go Go.Eng
noncomputable section

def two (a b : Int) : Tm := .u [.n .i64 a, .n .i64 b]
def sMul (up : Bool) : PSpec := numSpec [.i .i64, .i .i64] none fun
  | [.n a, .n b] => two (xMulV a b up) (xMulE a b up)
  | _ => .u []
def sDiv (up : Bool) : PSpec := numSpec [.i .i64, .i .i64] none fun
  | [.n a, .n b] => two (xDivV a b up) (xDivE a b up)
  | _ => .u []
def sScale (up : Bool) : PSpec := numSpec [.i .i64, .i .i64, .i .i64] none fun
  | [.n a, .n n, .n d] => two (xScV a n d up) (xScE a n d up)
  | _ => .u []
def sSqrt (up : Bool) : PSpec := numSpec [.i .i64] none fun
  | [.n a] => two (xSqV a up) (xSqE a up)
  | _ => .u []

end
end Go.Ar

/- What the text of the reference's long division reckons. No program. -/
namespace Go.Ar
open Go Go.Eng

/-! ### monocleref01.over: a n / d, bit by bit -/

def ovBit (a i : Int) : Bool := (a.fdiv (2 ^ min (IntKind.u64.wrap i).toNat IntKind.u64.bits)).tmod 2 == 1
def ovR0 (a n d i r : Int) : Int := bif ovBit a i then IntKind.u64.wrap (IntKind.u64.wrap (2 * r) + n.tmod d) else IntKind.u64.wrap (2 * r)
def ovQ0 (a n d i q : Int) : Int := bif ovBit a i then IntKind.u64.wrap (IntKind.u64.wrap (2 * q) + IntKind.u64.wrap (n.tdiv d)) else IntKind.u64.wrap (2 * q)
def ovG1 (a n d i r : Int) : Bool := decide (ovR0 a n d i r ≥ d)
def ovR1 (a n d i r : Int) : Int := IntKind.u64.wrap (ovR0 a n d i r - d)
def ovG2 (a n d i r : Int) : Bool := decide (ovR1 a n d i r ≥ d)
def ovR2 (a n d i r : Int) : Int := IntKind.u64.wrap (ovR1 a n d i r - d)
def ovG3 (a n d i r : Int) : Bool := decide (ovR2 a n d i r ≥ d)
def ovQ1 (a n d i q : Int) : Int := IntKind.u64.wrap (ovQ0 a n d i q + 1)
def ovQ (a n d i q r : Int) : Int := bif !ovG1 a n d i r then ovQ0 a n d i q else bif !ovG2 a n d i r then ovQ1 a n d i q else IntKind.u64.wrap (ovQ1 a n d i q + 1)
def ovR (a n d i r : Int) : Int := bif !ovG1 a n d i r then ovR0 a n d i r else bif !ovG2 a n d i r then ovR1 a n d i r else ovR2 a n d i r
def ovBig (a n d i q r : Int) : Bool := decide (ovQ a n d i q r > 4503599627370496)

def ovO (q r : Int) : Patch := ⟨deadT 12 37 ++ [(9, .int true .u64 q), (10, .int true .u64 r), (11, .any false)], [], []⟩
def ovRet : Patch := ⟨deadT 9 40 ++ [(6, .int false .u64 0), (7, .bool false false), (8, .bool false false)], [], []⟩
def ovF (a n d : Int) : Nat → Int → Int → Int → Ex × Patch
  | 0, _, q, r => (.exit 0, ovO q r)
  | k + 1, i, q, r => bif ovBig a n d i q r then (.ret, ovRet) else ovF a n d k (IntKind.i64.wrap (i - 1)) (ovQ a n d i q r) (ovR a n d i r)

/-- One bit more. -/
theorem ov_step (a n d k : Nat) (ha : a < 18446744073709551616) (hn : n ≤ 4611686018427387904) (hd : 1 ≤ d) (hd' : d ≤ 4611686018427387904) (hk : k ≤ 63) (hq : a / 2 ^ (k + 1) * n / d ≤ 4503599627370496) :
    ovQ a n d k ((a / 2 ^ (k + 1) * n / d : Nat) : Int) ((a / 2 ^ (k + 1) * n % d : Nat) : Int) = ((a / 2 ^ k * n / d : Nat) : Int) ∧ ovR a n d k ((a / 2 ^ (k + 1) * n % d : Nat) : Int) = ((a / 2 ^ k * n % d : Nat) : Int) ∧
    0 ≤ IntKind.u64.wrap (k : Int) ∧ (ovG1 a n d k ((a / 2 ^ (k + 1) * n % d : Nat) : Int) = true → ovG2 a n d k ((a / 2 ^ (k + 1) * n % d : Nat) : Int) = true → ovG3 a n d k ((a / 2 ^ (k + 1) * n % d : Nat) : Int) = true → False) := by
  have hA : a / 2 ^ k = 2 * (a / 2 ^ (k + 1)) + a / 2 ^ k % 2 := by
    rw [Nat.pow_succ, ← Nat.div_div_eq_div_mul]; omega
  have bit : ovBit a k = decide (a / 2 ^ k % 2 = 1) := by
    unfold ovBit
    rw [u64w (by omega) (by omega), Int.toNat_natCast, Nat.min_eq_left (Nat.le_trans hk (by decide))]
    rw [show (2 : Int) ^ k = ((2 ^ k : Nat) : Int) from (Int.natCast_pow 2 k).symm, Int.fdiv_eq_ediv_of_nonneg _ (Int.natCast_nonneg _), ← Int.natCast_ediv]
    rw [Int.tmod_eq_emod_of_nonneg (Int.natCast_nonneg _), Bool.eq_iff_iff, beq_iff_eq, decide_eq_true_eq]
    omega
  generalize hA1 : a / 2 ^ (k + 1) = A at *
  generalize hA0 : a / 2 ^ k = B at *
  have hd0 : 0 < d := by omega
  have r0 : A * n % d < d := Nat.mod_lt _ hd0
  have m0 : n % d < d := Nat.mod_lt _ hd0
  have n0 : n / d ≤ n := Nat.div_le_self n d
  have e1 := Nat.div_add_mod (A * n) d
  have e2 := Nat.div_add_mod n d
  generalize hqq : A * n / d = q at *
  generalize hrr : A * n % d = r at *
  have tq : (n : Int).tdiv d = ((n / d : Nat) : Int) := by rw [Int.tdiv_eq_ediv_of_nonneg (Int.natCast_nonneg _), ← Int.natCast_ediv]
  have tr : (n : Int).tmod d = ((n % d : Nat) : Int) := by rw [Int.tmod_eq_emod_of_nonneg (Int.natCast_nonneg _), ← Int.natCast_emod]
  generalize hnd : n / d = u at *
  generalize hnm : n % d = w at *
  -- the rest and the quotient ahead of the subtractions
  obtain ⟨R, hR⟩ : ∃ R, R = 2 * r + (if B % 2 = 1 then w else 0) := ⟨_, rfl⟩
  obtain ⟨Q, hQ⟩ : ∃ Q, Q = 2 * q + (if B % 2 = 1 then u else 0) := ⟨_, rfl⟩
  have hR3 : R < 3 * d := by rw [hR]; split <;> omega
  have hBn : B * n = d * Q + R := by
    rcases Nat.mod_two_eq_zero_or_one B with h | h
    · rw [h] at hA
      rw [hQ, hR, h, hA]
      simp only [Nat.zero_ne_one, if_false, Nat.add_zero]
      rw [Nat.mul_assoc, ← e1, Nat.mul_add, Nat.mul_left_comm]
    · rw [h] at hA
      rw [hQ, hR, h, hA]
      simp only [if_true]
      rw [Nat.add_mul, Nat.mul_assoc, ← e1, Nat.mul_add, Nat.mul_left_comm 2 d q, Nat.mul_add, Nat.one_mul]
      omega
  have eR : ovR0 a n d k (r : Int) = (R : Int) := by
    unfold ovR0
    rw [bit, tr, u64w (n := 2 * (r : Int)) (by omega) (by omega)]
    rcases Nat.mod_two_eq_zero_or_one B with h | h
    · simp only [h, Nat.zero_ne_one, decide_false, cond_false]; rw [hR, h]; simp
    · simp only [h, decide_true, cond_true]; rw [u64w (by omega) (by omega), hR, h]; simp
  have eQ : ovQ0 a n d k (q : Int) = (Q : Int) := by
    unfold ovQ0
    rw [bit, tq, u64w (n := 2 * (q : Int)) (by omega) (by omega), u64w (n := (u : Int)) (by omega) (by omega)]
    rcases Nat.mod_two_eq_zero_or_one B with h | h
    · simp only [h, Nat.zero_ne_one, decide_false, cond_false]; rw [hQ, h]; simp
    · simp only [h, decide_true, cond_true]; rw [u64w (by omega) (by omega), hQ, h]; simp
  have hQ2 : Q ≤ 4611686018427387904 + 9007199254740992 := by rw [hQ]; split <;> omega
  have g1 : ovG1 a n d k (r : Int) = decide (d ≤ R) := by
    unfold ovG1; rw [eR, Bool.eq_iff_iff, decide_eq_true_eq, decide_eq_true_eq]; omega
  have q1 : ovQ1 a n d k (q : Int) = ((Q + 1 : Nat) : Int) := by unfold ovQ1; rw [eQ, u64w (by omega) (by omega)]; omega
  have uniq : ∀ j s : Nat, s < d → R = j * d + s → B * n / d = Q + j ∧ B * n % d = s := by
    intro j s hs hj
    have : B * n = s + d * (Q + j) := by rw [hBn, hj, Nat.mul_add, Nat.mul_comm j d]; omega
    rw [this, Nat.add_mul_div_left _ _ hd0, Nat.add_mul_mod_self_left, Nat.div_eq_of_lt hs, Nat.mod_eq_of_lt hs]
    omega
  by_cases c1 : d ≤ R
  · have r1 : ovR1 a n d k (r : Int) = ((R - d : Nat) : Int) := by unfold ovR1; rw [eR, u64w (by omega) (by omega)]; omega
    have g2 : ovG2 a n d k (r : Int) = decide (d ≤ R - d) := by
      unfold ovG2; rw [r1, Bool.eq_iff_iff, decide_eq_true_eq, decide_eq_true_eq]; omega
    by_cases c2 : d ≤ R - d
    · have r2 : ovR2 a n d k (r : Int) = ((R - d - d : Nat) : Int) := by unfold ovR2; rw [r1, u64w (by omega) (by omega)]; omega
      obtain ⟨u1, u2⟩ := uniq 2 (R - d - d) (by omega) (by omega)
      refine ⟨?_, ?_, by rw [u64w (by omega) (by omega)]; omega, fun _ _ h => ?_⟩
      · unfold ovQ; rw [g1, g2, decide_eq_true c1, decide_eq_true c2, q1, u1]
        simp only [Bool.not_true, cond_false]
        rw [u64w (by omega) (by omega)]; omega
      · unfold ovR; rw [g1, g2, decide_eq_true c1, decide_eq_true c2, r2, u2]; rfl
      · unfold ovG3 at h; rw [r2, decide_eq_true_eq] at h; omega
    · obtain ⟨u1, u2⟩ := uniq 1 (R - d) (by omega) (by omega)
      refine ⟨?_, ?_, by rw [u64w (by omega) (by omega)]; omega, fun _ h _ => ?_⟩
      · unfold ovQ; rw [g1, g2, decide_eq_true c1, decide_eq_false c2, q1, u1]; rfl
      · unfold ovR; rw [g1, g2, decide_eq_true c1, decide_eq_false c2, r1, u2]; rfl
      · rw [g2, decide_eq_true_eq] at h; omega
  · obtain ⟨u1, u2⟩ := uniq 0 R (by omega) (by omega)
    refine ⟨?_, ?_, by rw [u64w (by omega) (by omega)]; omega, fun h _ _ => ?_⟩
    · unfold ovQ; rw [g1, decide_eq_false c1, eQ, u1]; rfl
    · unfold ovR; rw [g1, decide_eq_false c1, eR, u2]; rfl
    · rw [g1, decide_eq_true_eq] at h; omega

/-- All of them. -/
theorem ov_spec (a n d : Nat) (ha : a < 18446744073709551616) (hn : n ≤ 4611686018427387904) (hd : 1 ≤ d) (hd' : d ≤ 4611686018427387904) : ∀ k, k ≤ 64 → a / 2 ^ k * n / d ≤ 4503599627370496 →
    ovF a n d k ((k : Int) - 1) ((a / 2 ^ k * n / d : Nat) : Int) ((a / 2 ^ k * n % d : Nat) : Int) = bif decide (a * n / d ≤ 4503599627370496) then (.exit 0, ovO ((a * n / d : Nat) : Int) ((a * n % d : Nat) : Int)) else (.ret, ovRet)
  | 0, _, hq => by
    rw [Nat.pow_zero, Nat.div_one] at hq ⊢
    rw [decide_eq_true hq]; rfl
  | k + 1, hk, hq => by
    obtain ⟨s1, s2, _, _⟩ := ov_step a n d k ha hn hd hd' (by omega) hq
    have e : ((k + 1 : Nat) : Int) - 1 = (k : Int) := by omega
    rw [e]
    simp only [ovF]
    unfold ovBig
    rw [s1, s2]
    have mono : a / 2 ^ k * n / d ≤ a * n / d := Nat.div_le_div_right (Nat.mul_le_mul_right n (Nat.div_le_self a _))
    by_cases h : a / 2 ^ k * n / d ≤ 4503599627370496
    · rw [decide_eq_false (by omega), cond_false, show IntKind.i64.wrap ((k : Int) - 1) = (k : Int) - 1 from i64w (by omega) (by omega)]
      exact ov_spec a n d ha hn hd hd' k (by omega) h
    · rw [decide_eq_true (by omega), cond_true, decide_eq_false (by omega)]; rfl

end Go.Ar

/- What the texts of the reference's fixed-point numbers reckon, and what it is. No program. -/
namespace Go.Ar
open Go Go.Eng

theorem rd_sign {p d : Int} (hd : 0 < d) (up neg : Bool) : rd (bif neg then -p else p) d up = bif neg then -(p / d + (if (!(up == neg)) = true ∧ 0 < p % d then 1 else 0)) else p / d + (if (!(up == neg)) = true ∧ 0 < p % d then 1 else 0) := by
  unfold rd
  cases neg <;> cases up <;> simp [neg_div hd] <;> split <;> omega

/-! ### Behind the long division -/

def oNo (p d : Int) : Bool := !decide (p / d ≤ 4503599627370496)
def oQ (p d : Int) : Int := bif oNo p d then 0 else p / d
def oRest (p d : Int) : Bool := bif oNo p d then false else decide (p % d > 0)
def oK (p d : Int) (up neg : Bool) : Int := bif bif oRest p d then !(up == neg) else false then IntKind.u64.wrap (oQ p d + 1) else oQ p d
def oV (p d : Int) (up neg : Bool) : Int := bif !(bif oNo p d then false else true) then 0 else bif decide (oK p d up neg > 4503599627370496) then 0 else bif neg then IntKind.i64.wrap (0 - IntKind.i64.wrap (oK p d up neg)) else IntKind.i64.wrap (oK p d up neg)
def oB (p d : Int) (up neg : Bool) : Bool := bif !(bif oNo p d then false else true) then false else bif decide (oK p d up neg > 4503599627370496) then false else true

theorem put_law {k : Int} (h0 : 0 ≤ k) (h1 : k ≤ 9223372036854775807) (neg : Bool) (v : Int) (hv : v = bif neg then -k else k) :
    (bif decide (k > 4503599627370496) then 0 else bif neg then IntKind.i64.wrap (0 - IntKind.i64.wrap k) else IntKind.i64.wrap k) = fitV v ∧ (bif decide (k > 4503599627370496) then false else true) = okF v := by
  subst hv
  by_cases hb : k > 4503599627370496
  · have hf : okF (bif neg then -k else k) = false := by
      rw [okF_false]; cases neg <;> simp <;> omega
    simp [hb, fitV, hf]
  · have hf : okF (bif neg then -k else k) = true := by
      rw [okF_iff]; cases neg <;> simp <;> omega
    simp only [hb, decide_false, cond_false, fitV, hf, cond_true]
    refine ⟨?_, trivial⟩
    rw [i64w (n := k) (by omega) (by omega), i64w (n := 0 - k) (by omega) (by omega)]
    cases neg <;> simp

theorem o_law {p d : Int} (hp : 0 ≤ p) (hd : 0 < d) (up neg : Bool) (n : Int) (hn : n = bif neg then -p else p) : oV p d up neg = fitV (rd n d up) ∧ oB p d up neg = okF (rd n d up) := by
  have q0 : 0 ≤ p / d := Int.ediv_nonneg hp (by omega)
  have rv := rd_sign (p := p) hd up neg
  rw [← hn] at rv
  by_cases hno : p / d ≤ 4503599627370496
  · have e : oNo p d = false := by simp [oNo, hno]
    have hk : oK p d up neg = p / d + (if (!(up == neg)) = true ∧ 0 < p % d then 1 else 0) := by
      unfold oK oRest oQ
      rw [e]
      simp only [cond_false]
      cases hu : !(up == neg) with
      | false => cases decide (p % d > 0) <;> simp
      | true =>
        by_cases hr : p % d > 0
        · rw [decide_eq_true hr]
          simp only [cond_true, true_and]
          rw [if_pos (by omega), u64w (by omega) (by omega)]
        · rw [decide_eq_false hr]
          simp only [cond_false, true_and]
          rw [if_neg (by omega)]; omega
    have hb : 0 ≤ oK p d up neg ∧ oK p d up neg ≤ 9223372036854775807 := by rw [hk]; split <;> omega
    have := put_law hb.1 hb.2 neg (rd n d up) (by rw [rv, hk])
    unfold oV oB
    rw [e]
    exact this
  · have e : oNo p d = true := by simp [oNo, hno]
    have hf : okF (rd n d up) = false := by rw [okF_false, rv]; cases neg <;> simp <;> split <;> omega
    unfold oV oB fitV
    rw [e, hf]; exact ⟨rfl, rfl⟩

/-! ### The product in four parts -/

def rmA (x : Int) : Int := IntKind.u64.wrap (x.tdiv 67108864)
def rmL (x : Int) : Int := x.tmod 67108864
def rmH (x y : Int) : Int := IntKind.u64.wrap (rmA x * rmA y)
def rmM (x y : Int) : Int := IntKind.u64.wrap (IntKind.u64.wrap (rmA x * rmL y) + IntKind.u64.wrap (rmL x * rmA y))
def rmR (x y : Int) : Int := IntKind.u64.wrap (IntKind.u64.wrap ((rmM x y).tmod 64 * 67108864) + IntKind.u64.wrap (rmL x * rmL y))
def rmN (x y : Int) : Int := IntKind.u64.wrap (IntKind.u64.wrap (IntKind.u64.wrap (rmH x y * 1048576) + IntKind.u64.wrap ((rmM x y).tdiv 64)) + IntKind.u64.wrap ((rmR x y).tdiv 4294967296))
def rmK (x y : Int) (up neg : Bool) : Int := bif bif decide ((rmR x y).tmod 4294967296 > 0) then !(up == neg) else false then IntKind.u64.wrap (rmN x y + 1) else rmN x y
def rMulV (a b : Int) (up : Bool) : Int := bif decide (rmH (xSz a) (xSz b) ≥ 8589934592) then 0 else bif decide (rmK (xSz a) (xSz b) up (xNeg a b) > 4503599627370496) then 0 else
  bif xNeg a b then IntKind.i64.wrap (0 - IntKind.i64.wrap (rmK (xSz a) (xSz b) up (xNeg a b))) else IntKind.i64.wrap (rmK (xSz a) (xSz b) up (xNeg a b))
def rMulB (a b : Int) (up : Bool) : Bool := bif decide (rmH (xSz a) (xSz b) ≥ 8589934592) then false else bif decide (rmK (xSz a) (xSz b) up (xNeg a b) > 4503599627370496) then false else true

theorem rMul_law {a b : Int} (ha : okF a = true) (hb : okF b = true) (up : Bool) : rMulV a b up = fitV (mF a b up) ∧ rMulB a b up = okF (mF a b up) := by
  obtain ⟨a1, a2, a3⟩ := sz_of ha
  obtain ⟨b1, b2, b3⟩ := sz_of hb
  have hs := xNeg_mul a b
  unfold rMulV rMulB mF
  rw [a1, b1]
  generalize sg a a = x at *
  generalize sg b b = y at *
  -- the parts
  have tx : x.tdiv 67108864 = x / 67108864 := Int.tdiv_eq_ediv_of_nonneg a2
  have ty : y.tdiv 67108864 = y / 67108864 := Int.tdiv_eq_ediv_of_nonneg b2
  have mx' : x.tmod 67108864 = x % 67108864 := Int.tmod_eq_emod_of_nonneg a2
  have my' : y.tmod 67108864 = y % 67108864 := Int.tmod_eq_emod_of_nonneg b2
  obtain ⟨xh, hxh⟩ : ∃ xh, xh = x / 67108864 := ⟨_, rfl⟩
  obtain ⟨xl, hxl⟩ : ∃ xl, xl = x % 67108864 := ⟨_, rfl⟩
  obtain ⟨yh, hyh⟩ : ∃ yh, yh = y / 67108864 := ⟨_, rfl⟩
  obtain ⟨yl, hyl⟩ : ∃ yl, yl = y % 67108864 := ⟨_, rfl⟩
  have eAx : rmA x = xh := by unfold rmA; rw [tx, u64w (by omega) (by omega)]; exact hxh.symm
  have eAy : rmA y = yh := by unfold rmA; rw [ty, u64w (by omega) (by omega)]; exact hyh.symm
  have eLx : rmL x = xl := by unfold rmL; rw [mx']; exact hxl.symm
  have eLy : rmL y = yl := by unfold rmL; rw [my']; exact hyl.symm
  have bx : 0 ≤ xh ∧ xh ≤ 67108864 := by omega
  have by' : 0 ≤ yh ∧ yh ≤ 67108864 := by omega
  have bxl : 0 ≤ xl ∧ xl ≤ 67108863 := by omega
  have byl : 0 ≤ yl ∧ yl ≤ 67108863 := by omega
  have p1 : xh * yh ≤ 67108864 * 67108864 := Int.mul_le_mul bx.2 by'.2 by'.1 (by decide)
  have p2 : xh * yl ≤ 67108864 * 67108863 := Int.mul_le_mul bx.2 byl.2 byl.1 (by decide)
  have p3 : xl * yh ≤ 67108863 * 67108864 := Int.mul_le_mul bxl.2 by'.2 by'.1 (by decide)
  have p4 : xl * yl ≤ 67108863 * 67108863 := Int.mul_le_mul bxl.2 byl.2 byl.1 (by decide)
  have z1 : 0 ≤ xh * yh := Int.mul_nonneg bx.1 by'.1
  have z2 : 0 ≤ xh * yl := Int.mul_nonneg bx.1 byl.1
  have z3 : 0 ≤ xl * yh := Int.mul_nonneg bxl.1 by'.1
  have z4 : 0 ≤ xl * yl := Int.mul_nonneg bxl.1 byl.1
  have hP : x * y = xh * yh * 4503599627370496 + (xh * yl + xl * yh) * 67108864 + xl * yl := by
    have ex : x = xh * 67108864 + xl := by omega
    have ey : y = yh * 67108864 + yl := by omega
    rw [ex, ey, Int.add_mul, Int.mul_add, Int.mul_add]
    have c1 : xh * 67108864 * (yh * 67108864) = xh * yh * 4503599627370496 := by
      rw [Int.mul_assoc, Int.mul_left_comm 67108864 yh, ← Int.mul_assoc]
      rfl
    have c2 : xh * 67108864 * yl = xh * yl * 67108864 := by rw [Int.mul_assoc, Int.mul_comm 67108864 yl, ← Int.mul_assoc]
    have c3 : xl * (yh * 67108864) = xl * yh * 67108864 := by rw [Int.mul_assoc]
    rw [c1, c2, c3, Int.add_mul]
    omega
  have eH : rmH x y = xh * yh := by unfold rmH; rw [eAx, eAy, u64w (by omega) (by omega)]
  have eM : rmM x y = xh * yl + xl * yh := by
    unfold rmM; rw [eAx, eAy, eLx, eLy, u64w (n := xh * yl) (by omega) (by omega), u64w (n := xl * yh) (by omega) (by omega), u64w (by omega) (by omega)]
  obtain ⟨hi, hhi⟩ : ∃ hi, hi = xh * yh := ⟨_, rfl⟩
  obtain ⟨mid, hmid⟩ : ∃ mid, mid = xh * yl + xl * yh := ⟨_, rfl⟩
  obtain ⟨low, hlow⟩ : ∃ low, low = xl * yl := ⟨_, rfl⟩
  rw [← hhi, ← hmid, ← hlow] at hP
  rw [← hhi] at eH p1 z1
  rw [← hmid] at eM
  have bm : 0 ≤ mid ∧ mid ≤ 67108864 * 67108863 + 67108863 * 67108864 := by omega
  have bl : 0 ≤ low ∧ low ≤ 67108863 * 67108863 := by omega
  have eR : rmR x y = mid % 64 * 67108864 + low := by
    unfold rmR
    rw [eM, eLx, eLy, ← hlow, Int.tmod_eq_emod_of_nonneg bm.1, u64w (n := mid % 64 * 67108864) (by omega) (by omega), u64w (n := low) (by omega) (by omega), u64w (by omega) (by omega)]
  obtain ⟨left, hleft⟩ : ∃ left, left = mid % 64 * 67108864 + low := ⟨_, rfl⟩
  rw [← hleft] at eR
  have bleft : 0 ≤ left ∧ left < 9007199254740992 := by omega
  have hp0 : 0 ≤ x * y := by omega
  have hdiv : x * y / 4294967296 = hi * 1048576 + mid / 64 + left / 4294967296 := by omega
  have hmod : x * y % 4294967296 = left % 4294967296 := by omega
  have rv := rd_sign (p := x * y) (d := 4294967296) (by decide) up (xNeg a b)
  rw [← hs] at rv
  rw [eH]
  by_cases hbig : hi ≥ 8589934592
  · have hf : okF (rd (a * b) 4294967296 up) = false := by
      rw [okF_false, rv, hdiv]
      cases xNeg a b <;> simp <;> split <;> omega
    rw [decide_eq_true hbig]
    simp [fitV, hf]
  · rw [decide_eq_false hbig]
    simp only [cond_false]
    have eN : rmN x y = hi * 1048576 + mid / 64 + left / 4294967296 := by
      unfold rmN
      rw [eH, eM, eR, Int.tdiv_eq_ediv_of_nonneg bm.1, Int.tdiv_eq_ediv_of_nonneg bleft.1]
      rw [u64w (n := hi * 1048576) (by omega) (by omega), u64w (n := mid / 64) (by omega) (by omega), u64w (n := left / 4294967296) (by omega) (by omega), u64w (n := hi * 1048576 + mid / 64) (by omega) (by omega), u64w (by omega) (by omega)]
    have hk : rmK x y up (xNeg a b) = x * y / 4294967296 + (if (!(up == xNeg a b)) = true ∧ 0 < x * y % 4294967296 then 1 else 0) := by
      unfold rmK
      rw [eN, eR, hdiv, hmod, Int.tmod_eq_emod_of_nonneg bleft.1]
      cases hu : !(up == xNeg a b) with
      | false => cases decide (left % 4294967296 > 0) <;> simp
      | true =>
        by_cases hr : left % 4294967296 > 0
        · rw [decide_eq_true hr]
          simp only [cond_true, true_and]
          rw [if_pos (by omega), u64w (by omega) (by omega)]
        · rw [decide_eq_false hr]
          simp only [cond_false, true_and]
          rw [if_neg (by omega)]; omega
    have hb : 0 ≤ rmK x y up (xNeg a b) ∧ rmK x y up (xNeg a b) ≤ 9223372036854775807 := by rw [hk, hdiv]; split <;> omega
    exact put_law hb.1 hb.2 (xNeg a b) _ (by rw [rv, hk])

/-! ### The root, two bits at a time -/

def rs2 (a i : Int) : Int := bif decide (IntKind.i64.wrap (2 * i) ≥ 32) then (a.fdiv (2 ^ min (IntKind.u64.wrap (IntKind.i64.wrap (IntKind.i64.wrap (2 * i) - 32))).toNat IntKind.i64.bits)).tmod 4 else 0
def rs6 (a i rest : Int) : Int := IntKind.i64.wrap (IntKind.i64.wrap (4 * rest) + rs2 a i)
def rs8 (root : Int) : Int := IntKind.i64.wrap (IntKind.i64.wrap (4 * root) + 1)
def rsG (a i root rest : Int) : Bool := decide (rs6 a i rest ≥ rs8 root)
def rsRoot (a i root rest : Int) : Int := bif rsG a i root rest then IntKind.i64.wrap (IntKind.i64.wrap (2 * root) + 1) else IntKind.i64.wrap (2 * root)
def rsRest (a i root rest : Int) : Int := bif rsG a i root rest then IntKind.i64.wrap (rs6 a i rest - rs8 root) else rs6 a i rest
def rsO (root rest : Int) : Patch := ⟨deadT 7 43 ++ [(5, .int true .i64 root), (6, .int true .i64 rest)], [], []⟩
def rsF (a : Int) : Nat → Int → Int → Int → Int × Int
  | 0, _, root, rest => (root, rest)
  | k + 1, i, root, rest => rsF a k (IntKind.i64.wrap (i - 1)) (rsRoot a i root rest) (rsRest a i root rest)

theorem rs_two (a k : Nat) (ha : a ≤ 4503599627370496) (hk : k ≤ 42) : rs2 a k = ((a * 4294967296 / 4 ^ k % 4 : Nat) : Int) := by
  unfold rs2
  rw [i64w (n := 2 * (k : Int)) (by omega) (by omega)]
  by_cases h : 16 ≤ k
  · rw [decide_eq_true (by omega), cond_true, i64w (n := 2 * (k : Int) - 32) (by omega) (by omega), u64w (by omega) (by omega)]
    rw [show (2 * (k : Int) - 32).toNat = 2 * (k - 16) by omega, Nat.min_eq_left (Nat.le_trans (show 2 * (k - 16) ≤ 64 by omega) (by decide))]
    rw [show (2 : Int) ^ (2 * (k - 16)) = ((4 ^ (k - 16) : Nat) : Int) from (Int.natCast_pow 2 (2 * (k - 16))).symm.trans (by rw [Nat.pow_mul])]
    rw [Int.fdiv_eq_ediv_of_nonneg _ (Int.natCast_nonneg _), ← Int.natCast_ediv, Int.tmod_eq_emod_of_nonneg (Int.natCast_nonneg _)]
    have : a * 4294967296 / 4 ^ k = a / 4 ^ (k - 16) := by
      rw [show 4 ^ k = 4294967296 * 4 ^ (k - 16) by rw [show (4294967296 : Nat) = 4 ^ 16 by decide, ← Nat.pow_add]; congr 1; omega]
      rw [← Nat.div_div_eq_div_mul, Nat.mul_div_cancel _ (by decide)]
    rw [this]
    omega
  · rw [decide_eq_false (by omega), cond_false]
    have : a * 4294967296 / 4 ^ k = a * 4 ^ (16 - k) := by
      rw [show (4294967296 : Nat) = 4 ^ (16 - k) * 4 ^ k by rw [← Nat.pow_add, show 16 - k + k = 16 by omega]]
      rw [← Nat.mul_assoc, Nat.mul_div_cancel _ (Nat.pow_pos (by decide))]
    rw [this, show 16 - k = (15 - k) + 1 by omega, Nat.pow_succ, ← Nat.mul_assoc, Nat.mul_mod_left]
    rfl

theorem rs_step (a k P root : Nat) (ha : a ≤ 4503599627370496) (hk : k ≤ 42) (hP : P = a * 4294967296 / 4 ^ (k + 1)) (h1 : root * root ≤ P) (h2 : P < (root + 1) * (root + 1)) (h3 : root ≤ 8796093022208) :
    ∃ root' : Nat, rsRoot a k root ((P - root * root : Nat) : Int) = (root' : Int) ∧ rsRest a k root ((P - root * root : Nat) : Int) = ((a * 4294967296 / 4 ^ k - root' * root' : Nat) : Int) ∧ root' * root' ≤ a * 4294967296 / 4 ^ k ∧ a * 4294967296 / 4 ^ k < (root' + 1) * (root' + 1) := by
  have hQ : a * 4294967296 / 4 ^ k = 4 * P + a * 4294967296 / 4 ^ k % 4 := by
    rw [hP, Nat.pow_succ, ← Nat.div_div_eq_div_mul]; omega
  have t2 := rs_two a k ha hk
  generalize a * 4294967296 / 4 ^ k = Q at *
  have hrest : P - root * root ≤ 2 * root := by
    rw [Nat.add_mul, Nat.mul_add] at h2; omega
  generalize hR : P - root * root = R at *
  have e6 : rs6 a k (R : Int) = ((4 * R + Q % 4 : Nat) : Int) := by
    unfold rs6; rw [t2, i64w (n := 4 * (R : Int)) (by omega) (by omega), i64w (by omega) (by omega)]; omega
  have e8 : rs8 (root : Int) = ((4 * root + 1 : Nat) : Int) := by
    unfold rs8; rw [i64w (n := 4 * (root : Int)) (by omega) (by omega), i64w (by omega) (by omega)]; omega
  have g : rsG a k root (R : Int) = decide (4 * root + 1 ≤ 4 * R + Q % 4) := by
    unfold rsG; rw [e6, e8, Bool.eq_iff_iff, decide_eq_true_eq, decide_eq_true_eq]; omega
  have sq0 : (2 * root) * (2 * root) = 4 * (root * root) := by rw [Nat.mul_mul_mul_comm]
  have sq1 : (2 * root + 1) * (2 * root + 1) = 4 * (root * root) + 4 * root + 1 := by rw [Nat.add_mul, Nat.mul_add, sq0]; omega
  have sq2 : (2 * root + 1 + 1) * (2 * root + 1 + 1) = 4 * (root * root) + 8 * root + 4 := by rw [Nat.add_mul, Nat.mul_add, sq1]; omega
  have exp : (root + 1) * (root + 1) = root * root + 2 * root + 1 := by rw [Nat.add_mul, Nat.mul_add]; omega
  rw [exp] at h2
  generalize root * root = S at *
  by_cases c : 4 * root + 1 ≤ 4 * R + Q % 4
  · refine ⟨2 * root + 1, ?_, ?_, by omega, by omega⟩
    · unfold rsRoot; rw [g, decide_eq_true c, cond_true, i64w (n := 2 * (root : Int)) (by omega) (by omega), i64w (by omega) (by omega)]; omega
    · unfold rsRest; rw [g, decide_eq_true c, cond_true, e6, e8, i64w (by omega) (by omega)]; omega
  · refine ⟨2 * root, ?_, ?_, by omega, by omega⟩
    · unfold rsRoot; rw [g, decide_eq_false c, cond_false, i64w (by omega) (by omega)]; omega
    · unfold rsRest; rw [g, decide_eq_false c, cond_false, e6]; omega

/-- The reference's root is the root. -/
theorem rs_spec (a : Nat) (ha : a ≤ 4503599627370496) : ∀ k root : Nat, k ≤ 43 → root * root ≤ a * 4294967296 / 4 ^ k → a * 4294967296 / 4 ^ k < (root + 1) * (root + 1) →
    ∃ r : Nat, rsF a k ((k : Int) - 1) (root : Int) ((a * 4294967296 / 4 ^ k - root * root : Nat) : Int) = ((r : Int), ((a * 4294967296 - r * r : Nat) : Int)) ∧ r * r ≤ a * 4294967296 ∧ a * 4294967296 < (r + 1) * (r + 1)
  | 0, root, _, h1, h2 => by
    rw [Nat.pow_zero, Nat.div_one] at h1 h2 ⊢
    exact ⟨root, by rw [rsF], h1, h2⟩
  | k + 1, root, hk, h1, h2 => by
    have hr : root ≤ 8796093022208 := by
      rcases Nat.lt_or_ge 8796093022208 root with h | h
      · have h0 : 8796093022209 ≤ root := by omega
        have h3 : 8796093022209 * 8796093022209 ≤ root * root := Nat.mul_le_mul h0 h0
        have h4 : a * 4294967296 / 4 ^ (k + 1) ≤ a * 4294967296 := Nat.div_le_self _ _
        omega
      · exact h
    obtain ⟨root', s1, s2, s3, s4⟩ := rs_step a k _ root ha (by omega) rfl h1 h2 hr
    have e : ((k + 1 : Nat) : Int) - 1 = (k : Int) := by omega
    rw [e]
    rw [rsF]
    rw [s1, s2, show IntKind.i64.wrap ((k : Int) - 1) = (k : Int) - 1 from i64w (by omega) (by omega)]
    exact rs_spec a ha k root' (by omega) s3 s4

def rsV (a : Int) (up : Bool) : Int := bif bif up then decide ((rsF a 43 42 0 0).2 > 0) else false then IntKind.i64.wrap ((rsF a 43 42 0 0).1 + 1) else (rsF a 43 42 0 0).1
theorem z43 (n : Nat) (h : n ≤ 4503599627370496) : n * 4294967296 / 4 ^ 43 = 0 := Nat.div_eq_of_lt (by have : (4 : Nat) ^ 43 = 77371252455336267181195264 := by decide
                                                                                                       omega)
theorem rs_end (n : Nat) (h : n ≤ 4503599627370496) : ∃ r : Nat, rsF n 43 42 0 0 = ((r : Int), ((n * 4294967296 - r * r : Nat) : Int)) ∧ r * r ≤ n * 4294967296 ∧ n * 4294967296 < (r + 1) * (r + 1) := by
  have z := z43 n h
  obtain ⟨r, e, k1, k2⟩ := rs_spec n h 43 0 (by decide) (by rw [z]; decide) (by rw [z]; decide)
  rw [z, show ((43 : Nat) : Int) - 1 = 42 by decide, Nat.mul_zero, Nat.sub_zero, Int.natCast_zero] at e
  exact ⟨r, e, k1, k2⟩
theorem rs_law {a : Int} (h : sqOk a = true) (up : Bool) : rsV a up = rtV a up := by
  obtain ⟨r0, r1, r2, r3⟩ := sqR_spec h
  simp only [sqOk, Bool.and_eq_true, decide_eq_true_eq] at h
  have h1 := okF_iff.1 h.1
  obtain ⟨n, rfl⟩ := Int.eq_ofNat_of_zero_le h.2
  obtain ⟨r, e, k1, k2⟩ := rs_end n (by omega)
  obtain ⟨s, hs⟩ := Int.eq_ofNat_of_zero_le r0
  rw [hs] at r1 r2 r3
  have c1 : ((s * s : Nat) : Int) = (s : Int) * s := Int.natCast_mul s s
  have c2 : (((s + 1) * (s + 1) : Nat) : Int) = ((s : Int) + 1) * (s + 1) := by rw [Int.natCast_mul]; rfl
  have hrs : r = s := root_unique k1 k2 (by omega) (by omega)
  subst hrs
  obtain ⟨w, hw⟩ : ∃ w : Nat, w = n * 4294967296 - r * r := ⟨_, rfl⟩
  rw [← hw] at e
  have hw2 : decide ((w : Int) > 0) = !((r : Int) * r == (n : Int) * 4294967296) := by
    rw [Bool.eq_iff_iff, decide_eq_true_eq, Bool.not_eq_true', beq_eq_false_iff_ne]
    constructor
    · intro h5 h6; omega
    · intro h5; omega
  rw [rsV, rtV, e, hs]
  rw [hw2]
  cases up with
  | false => rfl
  | true =>
    cases hb : ((r : Int) * r == (n : Int) * 4294967296) with
    | true => rfl
    | false =>
      simp only [cond_true, Bool.true_and, Bool.not_false]
      exact i64w (by omega) (by omega)

/-! ### The functions of the reference -/

def rRt (x : Int) : Bool := bif decide (x ≥ -4503599627370496) then decide (x ≤ 4503599627370496) else false
def rOkS (a n d : Int) : Bool := bif !rRt a then true else bif decide (n < -4611686018427387904) then true else bif decide (n > 4611686018427387904) then true else bif decide (d < 1) then true else decide (d > 4611686018427387904)
def rScF (a n d : Int) (up : Bool) : Bool := bif !oB (xSz a * xSz n) (IntKind.u64.wrap d) up (xNeg a n) then true else !rRt (oV (xSz a * xSz n) (IntKind.u64.wrap d) up (xNeg a n))
def rScV (a n d : Int) (up : Bool) : Int := bif rOkS a n d then 0 else bif rScF a n d up then 0 else oV (xSz a * xSz n) (IntKind.u64.wrap d) up (xNeg a n)
def rScE (a n d : Int) (up : Bool) : Int := bif rOkS a n d then 2 else bif rScF a n d up then 6 else 0

theorem rRt_eq (x : Int) : rRt x = okF x := by
  unfold rRt okF
  by_cases h : x ≥ -4503599627370496
  · rw [decide_eq_true h]; rfl
  · rw [decide_eq_false h]; rfl

theorem rOkS_eq (a n d : Int) : rOkS a n d = !okS a n d := by
  have := xOkS_eq a n d
  unfold rOkS
  unfold xOkS at this
  rw [rRt_eq]
  rw [xC_eq] at this
  rw [← this]
  cases okF a <;> rfl

theorem okF_fitV (v : Int) : okF (fitV v) = true := by
  unfold fitV
  cases h : okF v with
  | true => exact h
  | false => rfl

theorem rSc_law (a n d : Int) (up : Bool) : rScV a n d up = scaleV a n d up ∧ rScE a n d up = scaleE a n d up := by
  unfold rScV rScE scaleV scaleE rScF
  rw [rOkS_eq]
  cases h : okS a n d with
  | false => exact ⟨rfl, rfl⟩
  | true =>
    simp only [okS, Bool.and_eq_true, decide_eq_true_eq] at h
    obtain ⟨ha, ⟨⟨n1, n2⟩, d1⟩, d2⟩ := h
    obtain ⟨a1, a2, a3⟩ := sz_of ha
    have e1 : xSz n = sg n n := xSz_eq (by omega) (by omega)
    have e2 := sg_nonneg n
    rw [a1, e1, u64w (n := d) (by omega) (by omega)]
    obtain ⟨v, b⟩ := o_law (p := sg a a * sg n n) (d := d) (Int.mul_nonneg a2 e2) (by omega) up (xNeg a n) (a * n) (xNeg_mul a n)
    rw [v, b, rRt_eq, okF_fitV]
    unfold fitV fitE
    cases okF (rd (a * n) d up) <;> exact ⟨rfl, rfl⟩

def rDivV (a b : Int) (up : Bool) : Int := oV (4294967296 * xSz a) (xSz b) up (xNeg a b)
def rDivB (a b : Int) (up : Bool) : Bool := oB (4294967296 * xSz a) (xSz b) up (xNeg a b)

theorem rDiv_law {a b : Int} (ha : okF a = true) (hb : okF b = true) (h0 : b ≠ 0) (up : Bool) : rDivV a b up = fitV (dF a b up) ∧ rDivB a b up = okF (dF a b up) := by
  obtain ⟨a1, a2, a3⟩ := sz_of ha
  obtain ⟨b1, b2, b3⟩ := sz_of hb
  have hpos : 0 < sg b b := by rcases sg_cases b with ⟨_, e⟩ | ⟨_, e⟩ <;> omega
  unfold rDivV rDivB
  rw [a1, b1, Int.mul_comm]
  exact o_law (by omega) hpos up (xNeg a b) _ (xNeg_div a b)

end Go.Ar

/- Squares in the reference: digits to the base 2^16. No program. -/
namespace Go.Ar
open Go Go.Eng

def pN (o x y c : Int) : Int := IntKind.i64.wrap (IntKind.i64.wrap (o + IntKind.i64.wrap (x * y)) + c)
/-- One row of a product, added to what is there. -/
def rowP (x : Int) : List Int → List Int → Int → List Int
  | y :: ys, o :: os, c => (pN o x y c).tmod 65536 :: rowP x ys os (IntKind.i64.wrap ((pN o x y c).tdiv 65536))
  | [], _ :: os, c => c :: os
  | _, [], _ => []
def prodP : List Int → List Int → List Int → List Int
  | x :: xs, ys, out => match rowP x ys out 0 with
    | o :: os => o :: prodP xs ys os
    | [] => []
  | [], _, out => out
def dgP : Nat → Int → List Int
  | 0, _ => []
  | k + 1, v => v.tmod 65536 :: dgP k (IntKind.i64.wrap (v.tdiv 65536))
def zeroP : Nat → List Int
  | 0 => []
  | k + 1 => 0 :: zeroP k
def pwL (k : Nat) (v : Int) : List Int := prodP (prodP [1] (dgP k v) (zeroP (1 + k))) (dgP k v) (zeroP (1 + k + k))
def nxP (o x : Int) : Int := IntKind.i64.wrap (IntKind.i64.wrap (o * 65536) + x)
def topV : List Int → Int → Int
  | [], o => o
  | x :: xs, o => topV xs (nxP o x)
def topG : List Int → Int → Bool
  | [], _ => true
  | x :: xs, o => match xs with
    | [] => !decide (o > 68719476736)
    | _ :: _ => !decide (o > 68719476736) && topG xs (nxP o x)
def topL (k : Nat) (v : Int) : List Int := ((pwL k v).drop 2).reverse
def lowP (l : List Int) : Bool := match l with
  | a :: b :: _ => bif decide (a > 0) then true else decide (b > 0)
  | _ => false
def outP (k : Nat) (v : Int) (up : Bool) : Int := match topL k v with
  | [] => 0
  | t :: r => bif (bif up then lowP (pwL k v) else false) then IntKind.i64.wrap (topV r (nxP 0 t) + 1) else topV r (nxP 0 t)
def fitP (k : Nat) (v : Int) : Bool := match topL k v with
  | [] => true
  | t :: r => topG r (nxP 0 t)

/-! ### Values -/

def valP : List Int → Int
  | [] => 0
  | x :: l => x + 65536 * valP l
def digP (l : List Int) : Prop := ∀ x ∈ l, 0 ≤ x ∧ x < 65536

theorem digP_cons {x : Int} {l : List Int} : digP (x :: l) ↔ (0 ≤ x ∧ x < 65536) ∧ digP l := by simp [digP]
theorem valP_nonneg : ∀ {l : List Int}, digP l → 0 ≤ valP l
  | [], _ => by simp [valP]
  | x :: l, h => by
    have h := digP_cons.1 h
    have := valP_nonneg h.2
    simp only [valP]; omega

theorem pN_eq {o x y c : Int} (ho : 0 ≤ o ∧ o < 65536) (hx : 0 ≤ x ∧ x < 65536) (hy : 0 ≤ y ∧ y < 65536) (hc : 0 ≤ c ∧ c < 65536) : pN o x y c = o + x * y + c ∧ 0 ≤ x * y ∧ x * y ≤ 65535 * 65535 := by
  have h1 : 0 ≤ x * y := Int.mul_nonneg hx.1 hy.1
  have h2 : x * y ≤ 65535 * 65535 := Int.mul_le_mul (by omega) (by omega) hy.1 (by decide)
  unfold pN
  rw [i64w (n := x * y) (by omega) (by omega), i64w (n := o + x * y) (by omega) (by omega), i64w (by omega) (by omega)]
  exact ⟨rfl, h1, h2⟩

theorem row_law {x : Int} (hx : 0 ≤ x ∧ x < 65536) : ∀ (ys out : List Int) (c : Int), digP ys → digP out → (0 ≤ c ∧ c < 65536) → ys.length < out.length → (∀ j, ys.length ≤ j → ∀ z, out[j]? = some z → z = 0) →
    digP (rowP x ys out c) ∧ (rowP x ys out c).length = out.length ∧ valP (rowP x ys out c) = valP out + x * valP ys + c ∧ ∀ j, ys.length + 1 ≤ j → ∀ z, (rowP x ys out c)[j]? = some z → z = 0
  | ys, [], c, _, _, _, h, _ => by simp at h
  | [], o :: os, c, _, ho, hc, _, hz => by
    have ho := digP_cons.1 ho
    have h0 : o = 0 := hz 0 (Nat.le_refl _) o rfl
    subst h0
    refine ⟨digP_cons.2 ⟨hc, ho.2⟩, rfl, by simp only [rowP, valP]; omega, fun j hj z hjz => ?_⟩
    cases j with
    | zero => simp at hj
    | succ j => exact hz (j + 1) (Nat.zero_le _) z hjz
  | y :: ys, o :: os, c, hy, ho, hc, hl, hz => by
    have hy := digP_cons.1 hy
    have ho := digP_cons.1 ho
    obtain ⟨e, p0, p1⟩ := pN_eq ho.1 hx hy.1 hc
    have n0 : 0 ≤ pN o x y c := by omega
    have n1 : pN o x y c < 4294967296 := by omega
    have em : (pN o x y c).tmod 65536 = pN o x y c % 65536 := Int.tmod_eq_emod_of_nonneg n0
    have ed : IntKind.i64.wrap ((pN o x y c).tdiv 65536) = pN o x y c / 65536 := by
      rw [Int.tdiv_eq_ediv_of_nonneg n0, i64w (by omega) (by omega)]
    obtain ⟨i1, i2, i3, i4⟩ := row_law hx ys os (pN o x y c / 65536) hy.2 ho.2 (by omega) (by simpa using hl) fun j hj z hjz => hz (j + 1) (by simp; omega) z (by simpa using hjz)
    simp only [rowP]
    rw [em, ed]
    refine ⟨digP_cons.2 ⟨by omega, i1⟩, by simp [i2], ?_, fun j hj z hjz => ?_⟩
    · simp only [valP]
      rw [i3, e]
      have h5 : x * (y + 65536 * valP ys) = x * y + 65536 * (x * valP ys) := by rw [Int.mul_add, Int.mul_left_comm]
      rw [h5]
      generalize x * valP ys = A
      omega
    · cases j with
      | zero => simp at hj
      | succ j => exact i4 j (by simp at hj; omega) z (by simpa using hjz)

theorem prod_law : ∀ (xs ys out : List Int), digP xs → digP ys → digP out → out.length = xs.length + ys.length → (∀ j, ys.length ≤ j → ∀ z, out[j]? = some z → z = 0) →
    digP (prodP xs ys out) ∧ (prodP xs ys out).length = out.length ∧ valP (prodP xs ys out) = valP out + valP xs * valP ys
  | [], ys, out, _, _, ho, _, _ => ⟨ho, rfl, by simp [prodP, valP]⟩
  | x :: xs, ys, out, hx, hy, ho, hl, hz => by
    have hx := digP_cons.1 hx
    obtain ⟨r1, r2, r3, r4⟩ := row_law hx.1 ys out 0 hy ho (by omega) (by simp at hl; omega) hz
    simp only [prodP]
    cases hr : rowP x ys out 0 with
    | nil => rw [hr] at r2; simp at r2 hl; omega
    | cons o os =>
      rw [hr] at r1 r2 r3 r4
      have r1 := digP_cons.1 r1
      obtain ⟨i1, i2, i3⟩ := prod_law xs ys os hx.2 hy r1.2 (by simp at r2 hl; omega) fun j hj z hjz => r4 (j + 1) (by omega) z (by simpa using hjz)
      refine ⟨digP_cons.2 ⟨r1.1, i1⟩, by simp at r2 ⊢; omega, ?_⟩
      simp only [valP] at r3 ⊢
      rw [i3, Int.add_mul, Int.mul_add, Int.mul_assoc]
      omega

theorem zero_law : ∀ k, digP (zeroP k) ∧ (zeroP k).length = k ∧ valP (zeroP k) = 0 ∧ ∀ (j : Nat) z, (zeroP k)[j]? = some z → z = 0
  | 0 => ⟨fun x h => (by cases h), rfl, rfl, fun j z h => (by simp [zeroP] at h)⟩
  | k + 1 => by
    obtain ⟨h1, h2, h3, h4⟩ := zero_law k
    refine ⟨digP_cons.2 ⟨by omega, h1⟩, by simp [zeroP, h2], by simp [zeroP, valP, h3], fun j z h => ?_⟩
    cases j with
    | zero => simp [zeroP] at h; exact h.symm
    | succ j => exact h4 j z (by simpa [zeroP] using h)

theorem dg_law : ∀ (k : Nat) (v : Int), 0 ≤ v → v < 9223372036854775808 → v < 65536 ^ k → digP (dgP k v) ∧ (dgP k v).length = k ∧ valP (dgP k v) = v
  | 0, v, h0, _, h1 => by
    rw [Int.pow_zero] at h1
    exact ⟨fun x h => (by cases h), rfl, by simp only [dgP, valP]; omega⟩
  | k + 1, v, h0, hb, h1 => by
    have ed : IntKind.i64.wrap (v.tdiv 65536) = v / 65536 := by rw [Int.tdiv_eq_ediv_of_nonneg h0, i64w (by omega) (by omega)]
    obtain ⟨i1, i2, i3⟩ := dg_law k (v / 65536) (by omega) (by omega) (by rw [Int.pow_succ] at h1; omega)
    simp only [dgP]
    rw [ed, Int.tmod_eq_emod_of_nonneg h0]
    exact ⟨digP_cons.2 ⟨by omega, i1⟩, by simp [i2], by simp only [valP, i3]; omega⟩

theorem pwL_law (k : Nat) (v : Int) (h0 : 0 ≤ v) (hb : v < 9223372036854775808) (h1 : v < 65536 ^ k) : digP (pwL k v) ∧ (pwL k v).length = 1 + k + k ∧ valP (pwL k v) = v * v := by
  obtain ⟨d1, d2, d3⟩ := dg_law k v h0 hb h1
  obtain ⟨z1, z2, z3, z4⟩ := zero_law (1 + k)
  obtain ⟨y1, y2, y3, y4⟩ := zero_law (1 + k + k)
  obtain ⟨p1, p2, p3⟩ := prod_law [1] (dgP k v) (zeroP (1 + k)) (digP_cons.2 ⟨by omega, fun x h => by cases h⟩) d1 z1 (by simp [z2, d2]) fun j _ z h => z4 j z h
  obtain ⟨q1, q2, q3⟩ := prod_law _ (dgP k v) (zeroP (1 + k + k)) p1 d1 y1 (by rw [p2, z2, d2, y2]) fun j _ z h => y4 j z h
  refine ⟨q1, by rw [pwL, q2, y2], ?_⟩
  rw [pwL, q3, p3, y3, z3, d3]
  simp [valP]

/-- From the top. -/
def tvP : List Int → Int → Int
  | [], o => o
  | x :: xs, o => tvP xs (o * 65536 + x)

theorem tv_mono : ∀ {l : List Int} {o : Int}, digP l → 0 ≤ o → o ≤ tvP l o ∧ (l ≠ [] → o ≤ tvP l o / 65536)
  | [], o, _, h => ⟨by simp [tvP], fun h => absurd rfl h⟩
  | x :: l, o, hd, h => by
    have hd := digP_cons.1 hd
    obtain ⟨i1, i2⟩ := tv_mono (l := l) (o := o * 65536 + x) hd.2 (by omega)
    simp only [tvP]
    exact ⟨by omega, fun _ => by omega⟩

theorem top_law : ∀ {l : List Int} {o : Int}, digP l → 0 ≤ o → l ≠ [] → topG l o = decide (tvP l o / 65536 ≤ 68719476736) ∧ (topG l o = true → topV l o = tvP l o)
  | [], o, _, _, h => absurd rfl h
  | [x], o, hd, h, _ => by
    have hd := digP_cons.1 hd
    have e : (o * 65536 + x) / 65536 = o := by omega
    have hs : topG [x] o = !decide (o > 68719476736) := rfl
    have ht : tvP [x] o = o * 65536 + x := rfl
    have hv : topV [x] o = nxP o x := rfl
    rw [hs, ht, hv]
    refine ⟨by rw [Bool.eq_iff_iff, Bool.not_eq_true', decide_eq_false_iff_not, decide_eq_true_eq]; omega, fun hg => ?_⟩
    rw [Bool.not_eq_true', decide_eq_false_iff_not] at hg
    unfold nxP
    rw [i64w (n := o * 65536) (by omega) (by omega), i64w (by omega) (by omega)]
  | x :: y :: l, o, hd, h, _ => by
    have hd := digP_cons.1 hd
    have m := tv_mono (l := x :: y :: l) (o := o) (digP_cons.2 hd) h
    have hstep : topG (x :: y :: l) o = (!decide (o > 68719476736) && topG (y :: l) (nxP o x)) := rfl
    have hv : topV (x :: y :: l) o = topV (y :: l) (nxP o x) := rfl
    have ht : tvP (x :: y :: l) o = tvP (y :: l) (o * 65536 + x) := rfl
    by_cases c : o > 68719476736
    · have m2 := m.2 (by simp)
      rw [hstep, decide_eq_true c]
      refine ⟨?_, fun hg => by simp at hg⟩
      rw [decide_eq_false (by omega)]; rfl
    · have e : nxP o x = o * 65536 + x := by
        unfold nxP; rw [i64w (n := o * 65536) (by omega) (by omega), i64w (by omega) (by omega)]
      obtain ⟨i1, i2⟩ := top_law (l := y :: l) (o := o * 65536 + x) hd.2 (by omega) (by simp)
      rw [hstep, hv, ht, e, decide_eq_false c]
      exact ⟨by rw [i1]; rfl, fun hg => i2 (by simpa using hg)⟩

theorem tv_append : ∀ (l : List Int) (x o : Int), tvP (l ++ [x]) o = tvP l o * 65536 + x
  | [], x, o => rfl
  | y :: l, x, o => by simp only [List.cons_append, tvP]; exact tv_append l x _

theorem tv_rev : ∀ l : List Int, tvP l.reverse 0 = valP l
  | [] => rfl
  | x :: l => by rw [List.reverse_cons, tv_append, tv_rev l]; simp only [valP]; omega

/-- The square of a number, as the reference has it. -/
def pEarly (v : Int) : Bool := decide (v * v / 4294967296 / 65536 > 68719476736)
def pV (v : Int) (up : Bool) : Int := bif pEarly v then 0 else rd (v * v) 4294967296 up
def pB (v : Int) (up : Bool) : Bool := bif pEarly v then false else decide (rd (v * v) 4294967296 up ≤ 4503599627370496)

theorem pw_core (k : Nat) (hk : 1 ≤ k) (v : Int) (h0 : 0 ≤ v) (hb : v ≤ 4503599627370496) (h1 : v < 65536 ^ k) : ∃ t r, topL k v = t :: r ∧ (r = [] → k = 1) ∧
    (2 ≤ k → topG r (nxP 0 t) = !pEarly v) ∧ (k = 1 → pEarly v = false ∧ r = []) ∧ (pEarly v = false → ∀ up, outP k v up = rd (v * v) 4294967296 up) := by
  obtain ⟨l1, l2, l3⟩ := pwL_law k v h0 (by omega) h1
  match hL : pwL k v, l1, l2, l3 with
  | [], _, l2, _ => simp at l2; omega
  | [_], _, l2, _ => simp at l2; omega
  | a :: b :: l, l1, l2, l3 =>
    have a1 := digP_cons.1 l1
    have b1 := digP_cons.1 a1.2
    simp only [valP] at l3
    have hl : l.length = 2 * k - 1 := by simp at l2; omega
    have hT : topL k v = l.reverse := by unfold topL; rw [hL]; rfl
    have hq : v * v / 4294967296 = valP l ∧ v * v % 4294967296 = a + 65536 * b := by
      have := valP_nonneg b1.2
      generalize v * v = P at l3 ⊢
      omega
    have hd : digP l.reverse := fun x hx => b1.2 x (List.mem_reverse.1 hx)
    cases hr : l.reverse with
    | nil =>
      have : l.length = 0 := by rw [← List.length_reverse, hr]; rfl
      omega
    | cons t r =>
      have hlen : r.length = 2 * k - 2 := by have := congrArg List.length hr; simp at this; omega
      rw [hr] at hd
      have hd := digP_cons.1 hd
      have tv := tv_rev l
      rw [hr] at tv
      simp only [tvP] at tv
      have e0 : nxP 0 t = 0 * 65536 + t := by
        unfold nxP; rw [i64w (n := 0 * 65536) (by omega) (by omega), i64w (by omega) (by omega)]
      have low : lowP (a :: b :: l) = decide (0 < v * v % 4294967296) := by
        have hlow : lowP (a :: b :: l) = (bif decide (a > 0) then true else decide (b > 0)) := rfl
        rw [hlow, hq.2]
        by_cases ha : a > 0
        · rw [decide_eq_true ha, cond_true, decide_eq_true (by omega)]
        · rw [decide_eq_false ha, cond_false, Bool.eq_iff_iff, decide_eq_true_eq, decide_eq_true_eq]; omega
      have out : (r ≠ [] → topG r (nxP 0 t) = true) → valP l / 65536 ≤ 68719476736 → ∀ up, outP k v up = rd (v * v) 4294967296 up := by
        intro hg hle up
        have ht : topV r (nxP 0 t) = valP l := by
          by_cases hn : r = []
          · subst hn
            rw [e0]; exact tv
          · have := (top_law (l := r) (o := nxP 0 t) hd.2 (by rw [e0]; omega) hn).2 (hg hn)
            rw [this, e0, tv]
        unfold outP
        rw [hT, hr]
        simp only
        rw [ht, hL, low]
        have hv := valP_nonneg b1.2
        unfold rd
        cases up with
        | false => simp [hq.1]
        | true =>
          simp only [cond_true]
          have := neg_div (p := v * v) (d := 4294967296) (by decide)
          rw [this, hq.1]
          by_cases hm : 0 < v * v % 4294967296
          · rw [decide_eq_true hm, cond_true, if_pos hm, i64w (by omega) (by omega)]; omega
          · rw [decide_eq_false hm, cond_false, if_neg hm]; omega
      refine ⟨t, r, by rw [hT, hr], fun h => ?_, fun h2 => ?_, fun h1 => ⟨?_, ?_⟩, fun he up => ?_⟩
      · subst h; simp at hlen; omega
      · have hn : r ≠ [] := by intro h; subst h; simp at hlen; omega
        have := (top_law (l := r) (o := nxP 0 t) hd.2 (by rw [e0]; omega) hn).1
        rw [this, e0, tv]
        unfold pEarly
        rw [hq.1, Bool.eq_iff_iff, decide_eq_true_eq, Bool.not_eq_true', decide_eq_false_iff_not]; omega
      · subst h1
        unfold pEarly
        rw [decide_eq_false]
        rw [Int.pow_one] at h1
        have : v * v ≤ 65535 * 65535 := Int.mul_le_mul (by omega) (by omega) h0 (by decide)
        generalize v * v = P at this ⊢
        omega
      · subst h1; exact List.length_eq_zero_iff.1 (by omega)
      · unfold pEarly at he
        rw [hq.1, decide_eq_false_iff_not] at he
        refine out (fun hn => ?_) (by omega) up
        have := (top_law (l := r) (o := nxP 0 t) hd.2 (by rw [e0]; omega) hn).1
        rw [this, e0, tv, decide_eq_true (by omega)]

end Go.Ar

/- The contracts of package span and of what compares with it, as data. No program. -/
namespace Go.Ar
open Go Go.Eng
noncomputable section

def shS : Sh := .a [.i .i64, .i .i64]
def outS (s : Sp) : Tm := .u [.a [.n .i64 s.lo, .n .i64 s.hi], .n .i64 s.e]
def sBin (F : Int → Int → Int → Int → Sp) : PSpec := numSpec [shS, shS] none fun
  | [.n a, .n b, .n c, .n d] => outS (F a b c d)
  | _ => .u []
def sUn (F : Int → Int → Sp) : PSpec := numSpec [shS] none fun
  | [.n a, .n b] => outS (F a b)
  | _ => .u []
def sSc (F : Int → Int → Int → Int → Sp) : PSpec := numSpec [shS, .i .i64, .i .i64] none fun
  | [.n a, .n b, .n n, .n d] => outS (F a b n d)
  | _ => .u []
def chkS (a b : Int) : Int := bif okSp a b then 0 else 20
def sChk : PSpec := numSpec [shS] none fun
  | [.n a, .n b] => .n .i64 (chkS a b)
  | _ => .u []
def sPow : PSpec := numSpec [.i .i64, .c (.int false .i64 2)] (some fun
  | [.n v] => okF v
  | _ => false) fun
  | [.n v] => .u [.n .i64 (sqD v), .n .i64 (sqU v), .n .i64 (sqE v)]
  | _ => .u []

/-! ### What the references do -/

def ovFit (a n d : Int) : Bool := decide (a * n / d ≤ 4503599627370496)
def sOver : PSpec := numSpec [.i .u64, .i .u64, .i .u64] (some fun
  | [.n a, .n n, .n d] => decide (0 ≤ a ∧ a < 18446744073709551616 ∧ 0 ≤ n ∧ n ≤ 4611686018427387904 ∧ 1 ≤ d ∧ d ≤ 4611686018427387904)
  | _ => false) fun
  | [.n a, .n n, .n d] => .u [.n .u64 (bif !ovFit a n d then 0 else a * n / d), .t (bif !ovFit a n d then false else decide (a * n % d > 0)), .t (bif !ovFit a n d then false else true)]
  | _ => .u []

def sRMul (up : Bool) : PSpec := numSpec [.i .i64, .i .i64, .c (.bool false up)] (some fun
  | [.n a, .n b] => okF a && okF b
  | _ => false) fun
  | [.n a, .n b] => .u [.n .i64 (fitV (mF a b up)), .t (okF (mF a b up))]
  | _ => .u []
def sRDiv (up : Bool) : PSpec := numSpec [.i .i64, .i .i64, .c (.bool false up)] (some fun
  | [.n a, .n b] => okF a && (okF b && !(b == 0))
  | _ => false) fun
  | [.n a, .n b] => .u [.n .i64 (fitV (dF a b up)), .t (okF (dF a b up))]
  | _ => .u []
def sRSqrt (up : Bool) : PSpec := numSpec [.i .i64, .c (.bool false up)] (some fun
  | [.n a] => sqOk a
  | _ => false) fun
  | [.n a] => .n .i64 (rtV a up)
  | _ => .u []
def sRScale (up : Bool) : PSpec := numSpec [.i .i64, .i .i64, .i .i64] none fun
  | [.n a, .n n, .n d] => two (scaleV a n d up) (scaleE a n d up)
  | _ => .u []

def sRPow (up : Bool) : PSpec := numSpec [.i .i64, .c (.int false .i64 2), .c (.bool false up)] (some fun
  | [.n v] => decide (0 ≤ v) && okF v
  | _ => false) fun
  | [.n v] => .u [.n .i64 (pV v up), .t (pB v up)]
  | _ => .u []

/-- One contract or another. -/
def orS (s t : PSpec) : PSpec := fun args => match s args with
  | some x => some x
  | none => t args
theorem orS_ok {P : Program} {f : FuncId} {s t : PSpec} (hs : PureOk P f s) (ht : PureOk P f t) : PureOk P f (orS s t) := by
  refine ⟨hs.fn, fun args nd v e => ?_⟩
  unfold orS at e
  split at e
  · rename_i x hx
    cases e
    exact hs.run args nd v hx
  · exact ht.run args nd v e

end
end Go.Ar

/- Printed by gen.py: what surface.Sag and surface.Slope reckon on plain standard and biconic surfaces where no operation errs. No program. -/
namespace Go.Rd
open Go Go.Eng Go.Ar

def okCK (c k : Int) : Prop := (-1000000000 ≤ c ∧ c ≤ 1000000000) ∧ (-100000000 ≤ k ∧ k ≤ 100000000)
def s0 (c k a b d e : Int) : Sp := (sqrS a b)
def s1 (c k a b d e : Int) : Sp := (sqrS d e)
def s2 (c k a b d e : Int) : Sp := (addS (s0 c k a b d e).lo (s0 c k a b d e).hi (s1 c k a b d e).lo (s1 c k a b d e).hi)
def s3 (c k a b d e : Int) : Sp := (xScaleS (s2 c k a b d e).lo (s2 c k a b d e).hi c 1000000000)
def s4 (c k a b d e : Int) : Sp := (xScaleS (s3 c k a b d e).lo (s3 c k a b d e).hi c 1000000000)
def s5 (c k a b d e : Int) : Sp := (xScaleS (s4 c k a b d e).lo (s4 c k a b d e).hi (IntKind.i64.wrap (1000000 + k)) 1000000)
def s6 (c k a b d e : Int) : Sp := (subS 4294967296 4294967296 (s5 c k a b d e).lo (s5 c k a b d e).hi)
def s7 (c k a b d e : Int) : Sp := (sqrtS (s6 c k a b d e).lo (s6 c k a b d e).hi)
def s8 (c k a b d e : Int) : Sp := (addS (s3 c k a b d e).lo (s3 c k a b d e).hi 0 0)
def s9 (c k a b d e : Int) : Sp := (addS 4294967296 4294967296 (s7 c k a b d e).lo (s7 c k a b d e).hi)
def s10 (c k a b d e : Int) : Sp := (divS (s8 c k a b d e).lo (s8 c k a b d e).hi (s9 c k a b d e).lo (s9 c k a b d e).hi)
def s11 (c k a b d e : Int) : Sp := (xScaleS d e c 1000000000)
def s12 (c k a b d e : Int) : Sp := (divS (s11 c k a b d e).lo (s11 c k a b d e).hi (s7 c k a b d e).lo (s7 c k a b d e).hi)
def s13 (c k a b d e : Int) : Sp := (xScaleS a b c 1000000000)
def s14 (c k a b d e : Int) : Sp := (divS (s13 c k a b d e).lo (s13 c k a b d e).hi (s7 c k a b d e).lo (s7 c k a b d e).hi)
def b0 (c k l m a b d e : Int) : Sp := (sqrS a b)
def b1 (c k l m a b d e : Int) : Sp := (xScaleS (b0 c k l m a b d e).lo (b0 c k l m a b d e).hi l 1000000000)
def b2 (c k l m a b d e : Int) : Sp := (sqrS d e)
def b3 (c k l m a b d e : Int) : Sp := (xScaleS (b2 c k l m a b d e).lo (b2 c k l m a b d e).hi c 1000000000)
def b4 (c k l m a b d e : Int) : Sp := (xScaleS (b1 c k l m a b d e).lo (b1 c k l m a b d e).hi l 1000000000)
def b5 (c k l m a b d e : Int) : Sp := (xScaleS (b3 c k l m a b d e).lo (b3 c k l m a b d e).hi c 1000000000)
def b6 (c k l m a b d e : Int) : Sp := (xScaleS (b4 c k l m a b d e).lo (b4 c k l m a b d e).hi (IntKind.i64.wrap (1000000 + m)) 1000000)
def b7 (c k l m a b d e : Int) : Sp := (xScaleS (b5 c k l m a b d e).lo (b5 c k l m a b d e).hi (IntKind.i64.wrap (1000000 + k)) 1000000)
def b8 (c k l m a b d e : Int) : Sp := (addS (b6 c k l m a b d e).lo (b6 c k l m a b d e).hi (b7 c k l m a b d e).lo (b7 c k l m a b d e).hi)
def b9 (c k l m a b d e : Int) : Sp := (subS 4294967296 4294967296 (b8 c k l m a b d e).lo (b8 c k l m a b d e).hi)
def b10 (c k l m a b d e : Int) : Sp := (sqrtS (b9 c k l m a b d e).lo (b9 c k l m a b d e).hi)
def b11 (c k l m a b d e : Int) : Sp := (addS (b1 c k l m a b d e).lo (b1 c k l m a b d e).hi (b3 c k l m a b d e).lo (b3 c k l m a b d e).hi)
def b12 (c k l m a b d e : Int) : Sp := (addS 4294967296 4294967296 (b10 c k l m a b d e).lo (b10 c k l m a b d e).hi)
def b13 (c k l m a b d e : Int) : Sp := (divS (b11 c k l m a b d e).lo (b11 c k l m a b d e).hi (b12 c k l m a b d e).lo (b12 c k l m a b d e).hi)
def b14 (c k l m a b d e : Int) : Sp := (xScaleS a b l 1000000000)
def b15 (c k l m a b d e : Int) : Sp := (xScaleS (b14 c k l m a b d e).lo (b14 c k l m a b d e).hi l 1000000000)
def b16 (c k l m a b d e : Int) : Sp := (xScaleS (b15 c k l m a b d e).lo (b15 c k l m a b d e).hi (IntKind.i64.wrap (1000000 + m)) 1000000)
def b17 (c k l m a b d e : Int) : Sp := (divS (b16 c k l m a b d e).lo (b16 c k l m a b d e).hi (b10 c k l m a b d e).lo (b10 c k l m a b d e).hi)
def b18 (c k l m a b d e : Int) : Sp := (xScaleS d e c 1000000000)
def b19 (c k l m a b d e : Int) : Sp := (xScaleS (b18 c k l m a b d e).lo (b18 c k l m a b d e).hi c 1000000000)
def b20 (c k l m a b d e : Int) : Sp := (xScaleS (b19 c k l m a b d e).lo (b19 c k l m a b d e).hi (IntKind.i64.wrap (1000000 + k)) 1000000)
def b21 (c k l m a b d e : Int) : Sp := (divS (b20 c k l m a b d e).lo (b20 c k l m a b d e).hi (b10 c k l m a b d e).lo (b10 c k l m a b d e).hi)
def b22 (c k l m a b d e : Int) : Sp := (mulS (b13 c k l m a b d e).lo (b13 c k l m a b d e).hi (b21 c k l m a b d e).lo (b21 c k l m a b d e).hi)
def b23 (c k l m a b d e : Int) : Sp := (xScaleS (b18 c k l m a b d e).lo (b18 c k l m a b d e).hi 2 1)
def b24 (c k l m a b d e : Int) : Sp := (addS (b23 c k l m a b d e).lo (b23 c k l m a b d e).hi (b22 c k l m a b d e).lo (b22 c k l m a b d e).hi)
def b25 (c k l m a b d e : Int) : Sp := (divS (b24 c k l m a b d e).lo (b24 c k l m a b d e).hi (b12 c k l m a b d e).lo (b12 c k l m a b d e).hi)
def b26 (c k l m a b d e : Int) : Sp := (mulS (b13 c k l m a b d e).lo (b13 c k l m a b d e).hi (b17 c k l m a b d e).lo (b17 c k l m a b d e).hi)
def b27 (c k l m a b d e : Int) : Sp := (xScaleS (b14 c k l m a b d e).lo (b14 c k l m a b d e).hi 2 1)
def b28 (c k l m a b d e : Int) : Sp := (addS (b27 c k l m a b d e).lo (b27 c k l m a b d e).hi (b26 c k l m a b d e).lo (b26 c k l m a b d e).hi)
def b29 (c k l m a b d e : Int) : Sp := (divS (b28 c k l m a b d e).lo (b28 c k l m a b d e).hi (b12 c k l m a b d e).lo (b12 c k l m a b d e).hi)
structure PsagSF (c k a b d e : Int) : Prop where
  h0 : okCK c k
  h1 : okSp a b = true
  h2 : okSp d e = true
  h3 : (s0 c k a b d e).e = 0
  h4 : (s1 c k a b d e).e = 0
  h5 : (s2 c k a b d e).e = 0
  h6 : (s3 c k a b d e).e = 0
  h7 : (s4 c k a b d e).e = 0
  h8 : (s5 c k a b d e).e = 0
  h9 : (s6 c k a b d e).e = 0
  h10 : decide ((s6 c k a b d e).lo ≤ 0) = true
structure PsagSG (c k a b d e : Int) : Prop where
  h0 : okCK c k
  h1 : okSp a b = true
  h2 : okSp d e = true
  h3 : (s0 c k a b d e).e = 0
  h4 : (s1 c k a b d e).e = 0
  h5 : (s2 c k a b d e).e = 0
  h6 : (s3 c k a b d e).e = 0
  h7 : (s4 c k a b d e).e = 0
  h8 : (s5 c k a b d e).e = 0
  h9 : (s6 c k a b d e).e = 0
  h10 : decide ((s6 c k a b d e).lo ≤ 0) = false
  h11 : (s7 c k a b d e).e = 0
  h12 : (s8 c k a b d e).e = 0
  h13 : (s9 c k a b d e).e = 0
  h14 : (s10 c k a b d e).e = 0
structure PsagBF (c k l m a b d e : Int) : Prop where
  h0 : okCK c k
  h1 : okCK l m
  h2 : okSp a b = true
  h3 : okSp d e = true
  h4 : (b0 c k l m a b d e).e = 0
  h5 : (b1 c k l m a b d e).e = 0
  h6 : (b2 c k l m a b d e).e = 0
  h7 : (b3 c k l m a b d e).e = 0
  h8 : (b4 c k l m a b d e).e = 0
  h9 : (b6 c k l m a b d e).e = 0
  h10 : (b5 c k l m a b d e).e = 0
  h11 : (b7 c k l m a b d e).e = 0
  h12 : (b8 c k l m a b d e).e = 0
  h13 : (b9 c k l m a b d e).e = 0
  h14 : decide ((b9 c k l m a b d e).lo ≤ 0) = true
structure PsagBG (c k l m a b d e : Int) : Prop where
  h0 : okCK c k
  h1 : okCK l m
  h2 : okSp a b = true
  h3 : okSp d e = true
  h4 : (b0 c k l m a b d e).e = 0
  h5 : (b1 c k l m a b d e).e = 0
  h6 : (b2 c k l m a b d e).e = 0
  h7 : (b3 c k l m a b d e).e = 0
  h8 : (b4 c k l m a b d e).e = 0
  h9 : (b6 c k l m a b d e).e = 0
  h10 : (b5 c k l m a b d e).e = 0
  h11 : (b7 c k l m a b d e).e = 0
  h12 : (b8 c k l m a b d e).e = 0
  h13 : (b9 c k l m a b d e).e = 0
  h14 : decide ((b9 c k l m a b d e).lo ≤ 0) = false
  h15 : (b10 c k l m a b d e).e = 0
  h16 : (b11 c k l m a b d e).e = 0
  h17 : (b12 c k l m a b d e).e = 0
  h18 : (b13 c k l m a b d e).e = 0
structure PslopeS (c k a b d e : Int) : Prop where
  h0 : okCK c k
  h1 : okSp a b = true
  h2 : okSp d e = true
  h3 : (s0 c k a b d e).e = 0
  h4 : (s1 c k a b d e).e = 0
  h5 : (s2 c k a b d e).e = 0
  h6 : (s3 c k a b d e).e = 0
  h7 : (s4 c k a b d e).e = 0
  h8 : (s5 c k a b d e).e = 0
  h9 : (s6 c k a b d e).e = 0
  h10 : decide ((s6 c k a b d e).lo ≤ 0) = false
  h11 : (s7 c k a b d e).e = 0
  h12 : (s8 c k a b d e).e = 0
  h13 : (s9 c k a b d e).e = 0
  h14 : (s10 c k a b d e).e = 0
  h15 : (s13 c k a b d e).e = 0
  h16 : (s14 c k a b d e).e = 0
  h17 : (s11 c k a b d e).e = 0
  h18 : (s12 c k a b d e).e = 0
structure PslopeB (c k l m a b d e : Int) : Prop where
  h0 : okCK c k
  h1 : okCK l m
  h2 : okSp a b = true
  h3 : okSp d e = true
  h4 : (b0 c k l m a b d e).e = 0
  h5 : (b1 c k l m a b d e).e = 0
  h6 : (b2 c k l m a b d e).e = 0
  h7 : (b3 c k l m a b d e).e = 0
  h8 : (b4 c k l m a b d e).e = 0
  h9 : (b6 c k l m a b d e).e = 0
  h10 : (b5 c k l m a b d e).e = 0
  h11 : (b7 c k l m a b d e).e = 0
  h12 : (b8 c k l m a b d e).e = 0
  h13 : (b9 c k l m a b d e).e = 0
  h14 : decide ((b9 c k l m a b d e).lo ≤ 0) = false
  h15 : (b10 c k l m a b d e).e = 0
  h16 : (b11 c k l m a b d e).e = 0
  h17 : (b12 c k l m a b d e).e = 0
  h18 : (b13 c k l m a b d e).e = 0
  h19 : (b14 c k l m a b d e).e = 0
  h20 : (b15 c k l m a b d e).e = 0
  h21 : (b16 c k l m a b d e).e = 0
  h22 : (b17 c k l m a b d e).e = 0
  h23 : (b27 c k l m a b d e).e = 0
  h24 : (b26 c k l m a b d e).e = 0
  h25 : (b28 c k l m a b d e).e = 0
  h26 : (b29 c k l m a b d e).e = 0
  h27 : (b18 c k l m a b d e).e = 0
  h28 : (b19 c k l m a b d e).e = 0
  h29 : (b20 c k l m a b d e).e = 0
  h30 : (b21 c k l m a b d e).e = 0
  h31 : (b23 c k l m a b d e).e = 0
  h32 : (b22 c k l m a b d e).e = 0
  h33 : (b24 c k l m a b d e).e = 0
  h34 : (b25 c k l m a b d e).e = 0
end Go.Rd
namespace Go.Rd
open Go Go.Eng Go.Ar
/-- The law's numbers. -/
def cc (n : Int) : Int := IntKind.i64.wrap (1000 * IntKind.i64.wrap n)
def kk (n : Int) : Int := IntKind.i64.wrap (1000 * IntKind.i64.wrap (n.tmod 3000))
def pp (n : Int) : Int := IntKind.i64.wrap (IntKind.i64.wrap n * 16777216)
def meet (u v : Sp) : Bool := bif decide (u.lo > v.hi) then true else decide (v.lo > u.hi)
/-- What the law answers if all is known. -/
def roundB (c k x y : Int) : Bool :=
  bif meet (s10 c k x x y y) (b13 c k c k x x y y) then false else
  bif (bif decide ((s14 c k x x y y).lo > (b29 c k c k x x y y).hi) then true else bif decide ((b29 c k c k x x y y).lo > (s14 c k x x y y).hi) then true else meet (s12 c k x x y y) (b25 c k c k x x y y)) then false else true
end Go.Rd

/- The law's numbers, and what is reckoned before the domain's test. No program. -/
namespace Go.Rd
open Go Go.Eng Go.Ar

theorem cc_eq {c : Int} (h : -32768 ≤ c ∧ c ≤ 32767) : cc c = 1000 * c := by
  unfold cc; rw [i64w (n := c) (by omega) (by omega), i64w (by omega) (by omega)]
theorem pp_eq {c : Int} (h : -32768 ≤ c ∧ c ≤ 32767) : pp c = c * 16777216 := by
  unfold pp; rw [i64w (n := c) (by omega) (by omega), i64w (by omega) (by omega)]
theorem tm_range (k : Int) : -2999 ≤ k.tmod 3000 ∧ k.tmod 3000 ≤ 2999 := by
  have h1 := Int.tmod_lt_of_pos k (show (0 : Int) < 3000 by decide)
  have h2 := Int.tmod_lt_of_pos (-k) (show (0 : Int) < 3000 by decide)
  rw [Int.neg_tmod] at h2
  omega
theorem kk_range (k : Int) : -2999000 ≤ kk k ∧ kk k ≤ 2999000 := by
  have h := tm_range k
  unfold kk; rw [i64w (n := k.tmod 3000) (by omega) (by omega), i64w (by omega) (by omega)]
  omega

/-- What is known of the law's numbers. -/
structure Nums (C K x y : Int) : Prop where
  c1 : -32768000 ≤ C
  c2 : C ≤ 32768000
  k1 : -2999000 ≤ K
  k2 : K ≤ 2999000
  x1 : -32768 ≤ x
  x2 : x ≤ 32767
  y1 : -32768 ≤ y
  y2 : y ≤ 32767

theorem sq_bd {x : Int} (h : -32768 ≤ x ∧ x ≤ 32767) : 0 ≤ x * x * 65536 ∧ x * x * 65536 ≤ 70368744177664 := by
  have q := mul_bd (a := x) (n := x) (M := 32768) (L := 32768) (by omega) (by omega) (by omega) (by omega)
  have q0 : 0 ≤ x * x := by
    rcases Int.le_total 0 x with c | c
    · exact Int.mul_nonneg c c
    · exact Int.mul_nonneg_of_nonpos_of_nonpos c c
  omega


theorem wrapG {C K x y : Int} (n : Nums C K x y) : IntKind.i64.wrap (1000000 + K) = 1000000 + K := i64w (by have := n.k1; omega) (by have := n.k2; omega)
theorem okSpX {C K x y : Int} (n : Nums C K x y) : okSp (x * 16777216) (x * 16777216) = true := okSp_iff.2 (by have := n.x1; have := n.x2; omega)
theorem okSpY {C K x y : Int} (n : Nums C K x y) : okSp (y * 16777216) (y * 16777216) = true := okSp_iff.2 (by have := n.y1; have := n.y2; omega)
theorem okN {C K x y : Int} (n : Nums C K x y) : okCK C K := by have := n.c1; have := n.c2; have := n.k1; have := n.k2; exact ⟨by omega, by omega⟩

theorem S0 {C K x y : Int} (n : Nums C K x y) : s0 C K (x * 16777216) (x * 16777216) (y * 16777216) (y * 16777216) = ⟨x * x * 65536, x * x * 65536, 0⟩ := sqr_pt ⟨n.x1, n.x2⟩
theorem S1 {C K x y : Int} (n : Nums C K x y) : s1 C K (x * 16777216) (x * 16777216) (y * 16777216) (y * 16777216) = ⟨y * y * 65536, y * y * 65536, 0⟩ := sqr_pt ⟨n.y1, n.y2⟩
theorem S0b {C K x y : Int} (n : Nums C K x y) : Bd (s0 C K (x * 16777216) (x * 16777216) (y * 16777216) (y * 16777216)) 70368744177664 ∧ En (s0 C K (x * 16777216) (x * 16777216) (y * 16777216) (y * 16777216)) (x * x * 65536) 1 := by
  have := sq_bd ⟨n.x1, n.x2⟩
  rw [S0 n]
  exact ⟨⟨rfl, show -_ ≤ x * x * 65536 by omega, Int.le_refl _, this.2⟩, show x * x * 65536 * 1 ≤ _ by omega, show _ ≤ x * x * 65536 * 1 by omega⟩
theorem S1b {C K x y : Int} (n : Nums C K x y) : Bd (s1 C K (x * 16777216) (x * 16777216) (y * 16777216) (y * 16777216)) 70368744177664 ∧ En (s1 C K (x * 16777216) (x * 16777216) (y * 16777216) (y * 16777216)) (y * y * 65536) 1 := by
  have := sq_bd ⟨n.y1, n.y2⟩
  rw [S1 n]
  exact ⟨⟨rfl, show -_ ≤ y * y * 65536 by omega, Int.le_refl _, this.2⟩, show y * y * 65536 * 1 ≤ _ by omega, show _ ≤ y * y * 65536 * 1 by omega⟩
theorem S2 {C K x y : Int} (n : Nums C K x y) : Bd (s2 C K (x * 16777216) (x * 16777216) (y * 16777216) (y * 16777216)) 140737488355328 ∧ En (s2 C K (x * 16777216) (x * 16777216) (y * 16777216) (y * 16777216)) (x * x * 65536 + y * y * 65536) 1 := by
  obtain ⟨a, b, c⟩ := add_op (S0b n).1 (S1b n).1 (by omega) (by omega)
  exact ⟨a, add_en (S0b n).2 (S1b n).2 b c⟩
theorem S3 {C K x y : Int} (n : Nums C K x y) : Bd (s3 C K (x * 16777216) (x * 16777216) (y * 16777216) (y * 16777216)) 4611686018428 ∧ En (s3 C K (x * 16777216) (x * 16777216) (y * 16777216) (y * 16777216)) ((x * x * 65536 + y * y * 65536) * C) (1 * 1000000000) := by
  obtain ⟨a, b, c⟩ := scale_op (n := C) (d := 1000000000) (L := 32768000) (M' := 4611686018428) (S2 n).1 (by omega) ⟨n.c1, n.c2⟩ (by omega) (by omega) (by omega) (by omega) (by omega) (by omega)
  exact ⟨a, scale_en (by omega) (by omega) (S2 n).2 b c⟩
theorem S4 {C K x y : Int} (n : Nums C K x y) : Bd (s4 C K (x * 16777216) (x * 16777216) (y * 16777216) (y * 16777216)) 151115727452 ∧ En (s4 C K (x * 16777216) (x * 16777216) (y * 16777216) (y * 16777216)) ((x * x * 65536 + y * y * 65536) * C * C) (1 * 1000000000 * 1000000000) := by
  obtain ⟨a, b, c⟩ := scale_op (n := C) (d := 1000000000) (L := 32768000) (M' := 151115727452) (S3 n).1 (by omega) ⟨n.c1, n.c2⟩ (by omega) (by omega) (by omega) (by omega) (by omega) (by omega)
  exact ⟨a, scale_en (by omega) (by omega) (S3 n).2 b c⟩
theorem S5 {C K x y : Int} (n : Nums C K x y) : Bd (s5 C K (x * 16777216) (x * 16777216) (y * 16777216) (y * 16777216)) 604311794081 ∧ En (s5 C K (x * 16777216) (x * 16777216) (y * 16777216) (y * 16777216)) ((x * x * 65536 + y * y * 65536) * C * C * (1000000 + K)) (1 * 1000000000 * 1000000000 * 1000000) := by
  have k1 := n.k1; have k2 := n.k2
  obtain ⟨a, b, c⟩ := scale_op (n := 1000000 + K) (d := 1000000) (L := 3999000) (M' := 604311794081) (S4 n).1 (by omega) (by omega) (by omega) (by omega) (by omega) (by omega) (by omega) (by omega)
  have e : s5 C K (x * 16777216) (x * 16777216) (y * 16777216) (y * 16777216) = xScaleS (s4 C K (x * 16777216) (x * 16777216) (y * 16777216) (y * 16777216)).lo (s4 C K (x * 16777216) (x * 16777216) (y * 16777216) (y * 16777216)).hi (1000000 + K) 1000000 := by
    show xScaleS _ _ (IntKind.i64.wrap (1000000 + K)) _ = _; rw [wrapG n]
  rw [e]
  exact ⟨a, scale_en (by omega) (by omega) (S4 n).2 b c⟩
def oneS : Sp := ⟨4294967296, 4294967296, 0⟩
theorem one_bd : Bd oneS 4294967296 := ⟨rfl, by decide, by decide, by decide⟩
theorem one_en (D : Int) : En oneS (4294967296 * D) D := ⟨Int.le_refl _, Int.le_refl _⟩
theorem S6 {C K x y : Int} (n : Nums C K x y) : Bd (s6 C K (x * 16777216) (x * 16777216) (y * 16777216) (y * 16777216)) 608606761377 ∧ En (s6 C K (x * 16777216) (x * 16777216) (y * 16777216) (y * 16777216)) (4294967296 * (1 * 1000000000 * 1000000000 * 1000000) - (x * x * 65536 + y * y * 65536) * C * C * (1000000 + K)) (1 * 1000000000 * 1000000000 * 1000000) := by
  obtain ⟨a, b, c⟩ := sub_op one_bd (S5 n).1 (by omega) (by omega)
  exact ⟨a, sub_en (one_en _) (S5 n).2 b c⟩
end Go.Rd


/- What is reckoned before the domain's test: the biconic surface. No program. -/
namespace Go.Rd
open Go Go.Eng Go.Ar
theorem B0b {C K x y : Int} (n : Nums C K x y) : Bd (b0 C K C K (x * 16777216) (x * 16777216) (y * 16777216) (y * 16777216)) 70368744177664 ∧ En (b0 C K C K (x * 16777216) (x * 16777216) (y * 16777216) (y * 16777216)) (x * x * 65536) 1 := S0b n
theorem B2b {C K x y : Int} (n : Nums C K x y) : Bd (b2 C K C K (x * 16777216) (x * 16777216) (y * 16777216) (y * 16777216)) 70368744177664 ∧ En (b2 C K C K (x * 16777216) (x * 16777216) (y * 16777216) (y * 16777216)) (y * y * 65536) 1 := S1b n
theorem B1 {C K x y : Int} (n : Nums C K x y) : Bd (b1 C K C K (x * 16777216) (x * 16777216) (y * 16777216) (y * 16777216)) 2305843009214 ∧ En (b1 C K C K (x * 16777216) (x * 16777216) (y * 16777216) (y * 16777216)) (x * x * 65536 * C) (1 * 1000000000) := by
  obtain ⟨a, b, c⟩ := scale_op (n := C) (d := 1000000000) (L := 32768000) (M' := 2305843009214) (B0b n).1 (by omega) ⟨n.c1, n.c2⟩ (by omega) (by omega) (by omega) (by omega) (by omega) (by omega)
  exact ⟨a, scale_en (by omega) (by omega) (B0b n).2 b c⟩
theorem B3 {C K x y : Int} (n : Nums C K x y) : Bd (b3 C K C K (x * 16777216) (x * 16777216) (y * 16777216) (y * 16777216)) 2305843009214 ∧ En (b3 C K C K (x * 16777216) (x * 16777216) (y * 16777216) (y * 16777216)) (y * y * 65536 * C) (1 * 1000000000) := by
  obtain ⟨a, b, c⟩ := scale_op (n := C) (d := 1000000000) (L := 32768000) (M' := 2305843009214) (B2b n).1 (by omega) ⟨n.c1, n.c2⟩ (by omega) (by omega) (by omega) (by omega) (by omega) (by omega)
  exact ⟨a, scale_en (by omega) (by omega) (B2b n).2 b c⟩
theorem B4 {C K x y : Int} (n : Nums C K x y) : Bd (b4 C K C K (x * 16777216) (x * 16777216) (y * 16777216) (y * 16777216)) 75557863726 ∧ En (b4 C K C K (x * 16777216) (x * 16777216) (y * 16777216) (y * 16777216)) (x * x * 65536 * C * C) (1 * 1000000000 * 1000000000) := by
  obtain ⟨a, b, c⟩ := scale_op (n := C) (d := 1000000000) (L := 32768000) (M' := 75557863726) (B1 n).1 (by omega) ⟨n.c1, n.c2⟩ (by omega) (by omega) (by omega) (by omega) (by omega) (by omega)
  exact ⟨a, scale_en (by omega) (by omega) (B1 n).2 b c⟩
theorem B5 {C K x y : Int} (n : Nums C K x y) : Bd (b5 C K C K (x * 16777216) (x * 16777216) (y * 16777216) (y * 16777216)) 75557863726 ∧ En (b5 C K C K (x * 16777216) (x * 16777216) (y * 16777216) (y * 16777216)) (y * y * 65536 * C * C) (1 * 1000000000 * 1000000000) := by
  obtain ⟨a, b, c⟩ := scale_op (n := C) (d := 1000000000) (L := 32768000) (M' := 75557863726) (B3 n).1 (by omega) ⟨n.c1, n.c2⟩ (by omega) (by omega) (by omega) (by omega) (by omega) (by omega)
  exact ⟨a, scale_en (by omega) (by omega) (B3 n).2 b c⟩
theorem B6 {C K x y : Int} (n : Nums C K x y) : Bd (b6 C K C K (x * 16777216) (x * 16777216) (y * 16777216) (y * 16777216)) 302155897041 ∧ En (b6 C K C K (x * 16777216) (x * 16777216) (y * 16777216) (y * 16777216)) (x * x * 65536 * C * C * (1000000 + K)) (1 * 1000000000 * 1000000000 * 1000000) := by
  have k1 := n.k1; have k2 := n.k2
  obtain ⟨a, b, c⟩ := scale_op (n := 1000000 + K) (d := 1000000) (L := 3999000) (M' := 302155897041) (B4 n).1 (by omega) (by omega) (by omega) (by omega) (by omega) (by omega) (by omega) (by omega)
  have e : b6 C K C K (x * 16777216) (x * 16777216) (y * 16777216) (y * 16777216) = xScaleS (b4 C K C K (x * 16777216) (x * 16777216) (y * 16777216) (y * 16777216)).lo (b4 C K C K (x * 16777216) (x * 16777216) (y * 16777216) (y * 16777216)).hi (1000000 + K) 1000000 := by
    show xScaleS _ _ (IntKind.i64.wrap (1000000 + K)) _ = _; rw [wrapG n]
  rw [e]
  exact ⟨a, scale_en (by omega) (by omega) (B4 n).2 b c⟩
theorem B7 {C K x y : Int} (n : Nums C K x y) : Bd (b7 C K C K (x * 16777216) (x * 16777216) (y * 16777216) (y * 16777216)) 302155897041 ∧ En (b7 C K C K (x * 16777216) (x * 16777216) (y * 16777216) (y * 16777216)) (y * y * 65536 * C * C * (1000000 + K)) (1 * 1000000000 * 1000000000 * 1000000) := by
  have k1 := n.k1; have k2 := n.k2
  obtain ⟨a, b, c⟩ := scale_op (n := 1000000 + K) (d := 1000000) (L := 3999000) (M' := 302155897041) (B5 n).1 (by omega) (by omega) (by omega) (by omega) (by omega) (by omega) (by omega) (by omega)
  have e : b7 C K C K (x * 16777216) (x * 16777216) (y * 16777216) (y * 16777216) = xScaleS (b5 C K C K (x * 16777216) (x * 16777216) (y * 16777216) (y * 16777216)).lo (b5 C K C K (x * 16777216) (x * 16777216) (y * 16777216) (y * 16777216)).hi (1000000 + K) 1000000 := by
    show xScaleS _ _ (IntKind.i64.wrap (1000000 + K)) _ = _; rw [wrapG n]
  rw [e]
  exact ⟨a, scale_en (by omega) (by omega) (B5 n).2 b c⟩
theorem B8 {C K x y : Int} (n : Nums C K x y) : Bd (b8 C K C K (x * 16777216) (x * 16777216) (y * 16777216) (y * 16777216)) 604311794082 ∧ En (b8 C K C K (x * 16777216) (x * 16777216) (y * 16777216) (y * 16777216)) ((x * x * 65536 + y * y * 65536) * C * C * (1000000 + K)) (1 * 1000000000 * 1000000000 * 1000000) := by
  obtain ⟨a, b, c⟩ := add_op (B6 n).1 (B7 n).1 (by omega) (by omega)
  have := add_en (B6 n).2 (B7 n).2 b c
  rw [← Int.add_mul, ← Int.add_mul, ← Int.add_mul] at this
  exact ⟨a, this⟩
theorem B9 {C K x y : Int} (n : Nums C K x y) : Bd (b9 C K C K (x * 16777216) (x * 16777216) (y * 16777216) (y * 16777216)) 608606761378 ∧ En (b9 C K C K (x * 16777216) (x * 16777216) (y * 16777216) (y * 16777216)) (4294967296 * (1 * 1000000000 * 1000000000 * 1000000) - (x * x * 65536 + y * y * 65536) * C * C * (1000000 + K)) (1 * 1000000000 * 1000000000 * 1000000) := by
  obtain ⟨a, b, c⟩ := sub_op one_bd (B8 n).1 (by omega) (by omega)
  exact ⟨a, sub_en (one_en _) (B8 n).2 b c⟩
/-- The numerators meet: both are T. -/
theorem B11 {C K x y : Int} (n : Nums C K x y) : Bd (b11 C K C K (x * 16777216) (x * 16777216) (y * 16777216) (y * 16777216)) 4611686018428 ∧ En (b11 C K C K (x * 16777216) (x * 16777216) (y * 16777216) (y * 16777216)) ((x * x * 65536 + y * y * 65536) * C) (1 * 1000000000) := by
  obtain ⟨a, b, c⟩ := add_op (B1 n).1 (B3 n).1 (by omega) (by omega)
  have := add_en (B1 n).2 (B3 n).2 b c
  rw [← Int.add_mul] at this
  exact ⟨a, this⟩
theorem S8 {C K x y : Int} (n : Nums C K x y) : Bd (s8 C K (x * 16777216) (x * 16777216) (y * 16777216) (y * 16777216)) 4611686018428 ∧ En (s8 C K (x * 16777216) (x * 16777216) (y * 16777216) (y * 16777216)) ((x * x * 65536 + y * y * 65536) * C) (1 * 1000000000) := by
  have z : Bd (⟨0, 0, 0⟩ : Sp) 0 := ⟨rfl, by decide, by decide, by decide⟩
  obtain ⟨a, b, c⟩ := add_op (S3 n).1 z (by omega) (by omega)
  have := add_en (N' := 0) (S3 n).2 (t := ⟨0, 0, 0⟩) ⟨by show (0 : Int) * _ ≤ 0; omega, by show (0 : Int) ≤ 0 * _; omega⟩ b c
  rw [Int.add_zero] at this
  exact ⟨a, this⟩

/-! ### Outside of the domain -/
theorem outS {C K x y : Int} (n : Nums C K x y) (h : (s6 C K (x * 16777216) (x * 16777216) (y * 16777216) (y * 16777216)).lo ≤ 0) : PsagSF C K (x * 16777216) (x * 16777216) (y * 16777216) (y * 16777216) :=
  ⟨okN n, okSpX n, okSpY n, (S0b n).1.e, (S1b n).1.e, (S2 n).1.e, (S3 n).1.e, (S4 n).1.e, (S5 n).1.e, (S6 n).1.e, decide_eq_true h⟩
theorem outB {C K x y : Int} (n : Nums C K x y) (h : (b9 C K C K (x * 16777216) (x * 16777216) (y * 16777216) (y * 16777216)).lo ≤ 0) : PsagBF C K C K (x * 16777216) (x * 16777216) (y * 16777216) (y * 16777216) :=
  ⟨okN n, okN n, okSpX n, okSpY n, (B0b n).1.e, (B1 n).1.e, (B2b n).1.e, (B3 n).1.e, (B4 n).1.e, (B6 n).1.e, (B5 n).1.e, (B7 n).1.e, (B8 n).1.e, (B9 n).1.e, decide_eq_true h⟩
end Go.Rd


/- Within the domain: roots, sags, the conic's slopes; the sags meet. No program. -/
namespace Go.Rd
open Go Go.Eng Go.Ar

theorem S7 {C K x y : Int} (n : Nums C K x y) (h : 0 < (s6 C K (x * 16777216) (x * 16777216) (y * 16777216) (y * 16777216)).lo) : Bd (s7 C K (x * 16777216) (x * 16777216) (y * 16777216) (y * 16777216)) 68719476736 ∧ 65536 ≤ (s7 C K (x * 16777216) (x * 16777216) (y * 16777216) (y * 16777216)).lo ∧ (s7 C K (x * 16777216) (x * 16777216) (y * 16777216) (y * 16777216)).lo * (s7 C K (x * 16777216) (x * 16777216) (y * 16777216) (y * 16777216)).lo ≤ (s6 C K (x * 16777216) (x * 16777216) (y * 16777216) (y * 16777216)).lo * 4294967296 ∧ (s6 C K (x * 16777216) (x * 16777216) (y * 16777216) (y * 16777216)).hi * 4294967296 ≤ (s7 C K (x * 16777216) (x * 16777216) (y * 16777216) (y * 16777216)).hi * (s7 C K (x * 16777216) (x * 16777216) (y * 16777216) (y * 16777216)).hi := by
  obtain ⟨a, b, c, d, e⟩ := sqrt_op (K := 68719476736) (S6 n).1 (by omega) (by omega) (by omega)
  refine ⟨a, ?_, b, c⟩
  have := lt_of_sq (a := 65536) (b := (s7 C K (x * 16777216) (x * 16777216) (y * 16777216) (y * 16777216)).lo + 1) (by show 0 ≤ (sqrtS (s6 C K (x * 16777216) (x * 16777216) (y * 16777216) (y * 16777216)).lo (s6 C K (x * 16777216) (x * 16777216) (y * 16777216) (y * 16777216)).hi).lo + 1; omega) (by
    refine Int.lt_of_le_of_lt ?_ e
    omega)
  omega
theorem B10 {C K x y : Int} (n : Nums C K x y) (h : 0 < (b9 C K C K (x * 16777216) (x * 16777216) (y * 16777216) (y * 16777216)).lo) : Bd (b10 C K C K (x * 16777216) (x * 16777216) (y * 16777216) (y * 16777216)) 68719476736 ∧ 65536 ≤ (b10 C K C K (x * 16777216) (x * 16777216) (y * 16777216) (y * 16777216)).lo ∧ (b10 C K C K (x * 16777216) (x * 16777216) (y * 16777216) (y * 16777216)).lo * (b10 C K C K (x * 16777216) (x * 16777216) (y * 16777216) (y * 16777216)).lo ≤ (b9 C K C K (x * 16777216) (x * 16777216) (y * 16777216) (y * 16777216)).lo * 4294967296 ∧ (b9 C K C K (x * 16777216) (x * 16777216) (y * 16777216) (y * 16777216)).hi * 4294967296 ≤ (b10 C K C K (x * 16777216) (x * 16777216) (y * 16777216) (y * 16777216)).hi * (b10 C K C K (x * 16777216) (x * 16777216) (y * 16777216) (y * 16777216)).hi := by
  obtain ⟨a, b, c, d, e⟩ := sqrt_op (K := 68719476736) (B9 n).1 (by omega) (by omega) (by omega)
  refine ⟨a, ?_, b, c⟩
  have := lt_of_sq (a := 65536) (b := (b10 C K C K (x * 16777216) (x * 16777216) (y * 16777216) (y * 16777216)).lo + 1) (by show 0 ≤ (sqrtS (b9 C K C K (x * 16777216) (x * 16777216) (y * 16777216) (y * 16777216)).lo (b9 C K C K (x * 16777216) (x * 16777216) (y * 16777216) (y * 16777216)).hi).lo + 1; omega) (by
    refine Int.lt_of_le_of_lt ?_ e
    omega)
  omega
theorem S9 {C K x y : Int} (n : Nums C K x y) (h : 0 < (s6 C K (x * 16777216) (x * 16777216) (y * 16777216) (y * 16777216)).lo) : Bd (s9 C K (x * 16777216) (x * 16777216) (y * 16777216) (y * 16777216)) (4294967296 + 68719476736) ∧ (s9 C K (x * 16777216) (x * 16777216) (y * 16777216) (y * 16777216)).lo = 4294967296 + (s7 C K (x * 16777216) (x * 16777216) (y * 16777216) (y * 16777216)).lo ∧ (s9 C K (x * 16777216) (x * 16777216) (y * 16777216) (y * 16777216)).hi = 4294967296 + (s7 C K (x * 16777216) (x * 16777216) (y * 16777216) (y * 16777216)).hi :=
  add_op one_bd (S7 n h).1 (by omega) (by omega)
theorem B12 {C K x y : Int} (n : Nums C K x y) (h : 0 < (b9 C K C K (x * 16777216) (x * 16777216) (y * 16777216) (y * 16777216)).lo) : Bd (b12 C K C K (x * 16777216) (x * 16777216) (y * 16777216) (y * 16777216)) (4294967296 + 68719476736) ∧ (b12 C K C K (x * 16777216) (x * 16777216) (y * 16777216) (y * 16777216)).lo = 4294967296 + (b10 C K C K (x * 16777216) (x * 16777216) (y * 16777216) (y * 16777216)).lo ∧ (b12 C K C K (x * 16777216) (x * 16777216) (y * 16777216) (y * 16777216)).hi = 4294967296 + (b10 C K C K (x * 16777216) (x * 16777216) (y * 16777216) (y * 16777216)).hi :=
  add_op one_bd (B10 n h).1 (by omega) (by omega)
theorem S10 {C K x y : Int} (n : Nums C K x y) (h : 0 < (s6 C K (x * 16777216) (x * 16777216) (y * 16777216) (y * 16777216)).lo) : Bd (s10 C K (x * 16777216) (x * 16777216) (y * 16777216) (y * 16777216)) 4611686018428 ∧ ∀ p q, (p = (s8 C K (x * 16777216) (x * 16777216) (y * 16777216) (y * 16777216)).lo ∨ p = (s8 C K (x * 16777216) (x * 16777216) (y * 16777216) (y * 16777216)).hi) → (q = (s9 C K (x * 16777216) (x * 16777216) (y * 16777216) (y * 16777216)).lo ∨ q = (s9 C K (x * 16777216) (x * 16777216) (y * 16777216) (y * 16777216)).hi) → (s10 C K (x * 16777216) (x * 16777216) (y * 16777216) (y * 16777216)).lo * q ≤ p * 4294967296 ∧ p * 4294967296 ≤ (s10 C K (x * 16777216) (x * 16777216) (y * 16777216) (y * 16777216)).hi * q :=
  div_op (c := 4295032832) (M' := 4611686018428) (S8 n).1 (S9 n h).1 (by omega) (by omega) (by omega) (by have := (S9 n h).2.1; have := (S7 n h).2.1; omega) (by omega) (by omega)
theorem B13 {C K x y : Int} (n : Nums C K x y) (h : 0 < (b9 C K C K (x * 16777216) (x * 16777216) (y * 16777216) (y * 16777216)).lo) : Bd (b13 C K C K (x * 16777216) (x * 16777216) (y * 16777216) (y * 16777216)) 4611686018428 ∧ ∀ p q, (p = (b11 C K C K (x * 16777216) (x * 16777216) (y * 16777216) (y * 16777216)).lo ∨ p = (b11 C K C K (x * 16777216) (x * 16777216) (y * 16777216) (y * 16777216)).hi) → (q = (b12 C K C K (x * 16777216) (x * 16777216) (y * 16777216) (y * 16777216)).lo ∨ q = (b12 C K C K (x * 16777216) (x * 16777216) (y * 16777216) (y * 16777216)).hi) → (b13 C K C K (x * 16777216) (x * 16777216) (y * 16777216) (y * 16777216)).lo * q ≤ p * 4294967296 ∧ p * 4294967296 ≤ (b13 C K C K (x * 16777216) (x * 16777216) (y * 16777216) (y * 16777216)).hi * q :=
  div_op (c := 4295032832) (M' := 4611686018428) (B11 n).1 (B12 n h).1 (by omega) (by omega) (by omega) (by have := (B12 n h).2.1; have := (B10 n h).2.1; omega) (by omega) (by omega)

/-- The roots meet. -/
theorem roots {C K x y : Int} (n : Nums C K x y) (h : 0 < (s6 C K (x * 16777216) (x * 16777216) (y * 16777216) (y * 16777216)).lo) (k : 0 < (b9 C K C K (x * 16777216) (x * 16777216) (y * 16777216) (y * 16777216)).lo) : (s7 C K (x * 16777216) (x * 16777216) (y * 16777216) (y * 16777216)).lo ≤ (b10 C K C K (x * 16777216) (x * 16777216) (y * 16777216) (y * 16777216)).hi ∧ (b10 C K C K (x * 16777216) (x * 16777216) (y * 16777216) (y * 16777216)).lo ≤ (s7 C K (x * 16777216) (x * 16777216) (y * 16777216) (y * 16777216)).hi := by
  have m1 := en_meet (by omega) (S6 n).2 (B9 n).2
  have m2 := en_meet (by omega) (B9 n).2 (S6 n).2
  have a := S7 n h
  have b := B10 n k
  have a1 := a.1.le
  have b1 := b.1.le
  exact ⟨le_of_sq (by omega) (by omega), le_of_sq (by omega) (by omega)⟩

/-- The sags meet. -/
theorem sags {C K x y : Int} (n : Nums C K x y) (h : 0 < (s6 C K (x * 16777216) (x * 16777216) (y * 16777216) (y * 16777216)).lo) (k : 0 < (b9 C K C K (x * 16777216) (x * 16777216) (y * 16777216) (y * 16777216)).lo) : (s10 C K (x * 16777216) (x * 16777216) (y * 16777216) (y * 16777216)).lo ≤ (b13 C K C K (x * 16777216) (x * 16777216) (y * 16777216) (y * 16777216)).hi ∧ (b13 C K C K (x * 16777216) (x * 16777216) (y * 16777216) (y * 16777216)).lo ≤ (s10 C K (x * 16777216) (x * 16777216) (y * 16777216) (y * 16777216)).hi := by
  have r := roots n h k
  have a := S7 n h
  have b := B10 n k
  have a1 := a.1.le
  have b1 := b.1.le
  obtain ⟨v, v1, v2, v3, v4⟩ : ∃ v, (s7 C K (x * 16777216) (x * 16777216) (y * 16777216) (y * 16777216)).lo ≤ v ∧ v ≤ (s7 C K (x * 16777216) (x * 16777216) (y * 16777216) (y * 16777216)).hi ∧ (b10 C K C K (x * 16777216) (x * 16777216) (y * 16777216) (y * 16777216)).lo ≤ v ∧ v ≤ (b10 C K C K (x * 16777216) (x * 16777216) (y * 16777216) (y * 16777216)).hi := by
    have m := le_mx (s7 C K (x * 16777216) (x * 16777216) (y * 16777216) (y * 16777216)).lo (b10 C K C K (x * 16777216) (x * 16777216) (y * 16777216) (y * 16777216)).lo
    exact ⟨mx (s7 C K (x * 16777216) (x * 16777216) (y * 16777216) (y * 16777216)).lo (b10 C K C K (x * 16777216) (x * 16777216) (y * 16777216) (y * 16777216)).lo, by omega, by omega, by omega, by omega⟩
  have e1 := S9 n h
  have e2 := B12 n k
  have k1 : En (s9 C K (x * 16777216) (x * 16777216) (y * 16777216) (y * 16777216)) (4294967296 + v) 1 := ⟨by omega, by omega⟩
  have k2 : En (b12 C K C K (x * 16777216) (x * 16777216) (y * 16777216) (y * 16777216)) (4294967296 + v) 1 := ⟨by omega, by omega⟩
  have d1 := div_en (by omega) (by omega) (S8 n).2 k1 (S10 n h).2
  have d2 := div_en (by omega) (by omega) (B11 n).2 k2 (B13 n k).2
  have pos : 0 < 1 * 1000000000 * (4294967296 + v) := by omega
  exact ⟨en_meet pos d1 d2, en_meet pos d2 d1⟩

/-! ### The conic's slopes -/
theorem ptX {C K x y : Int} (n : Nums C K x y) {w : Int} (h : -32768 ≤ w ∧ w ≤ 32767) : Bd (⟨(w * 16777216), (w * 16777216), 0⟩ : Sp) 549755813888 ∧ En (⟨(w * 16777216), (w * 16777216), 0⟩ : Sp) (w * 16777216) 1 :=
  ⟨⟨rfl, show -549755813888 ≤ (w * 16777216) by omega, Int.le_refl _, show (w * 16777216) ≤ 549755813888 by omega⟩, show (w * 16777216) * 1 ≤ (w * 16777216) by omega, show (w * 16777216) ≤ (w * 16777216) * 1 by omega⟩
theorem Hs {C K x y : Int} (n : Nums C K x y) {w : Int} (h : -32768 ≤ w ∧ w ≤ 32767) : Bd (xScaleS (w * 16777216) (w * 16777216) C 1000000000) 18014398510 ∧ En (xScaleS (w * 16777216) (w * 16777216) C 1000000000) ((w * 16777216) * C) (1 * 1000000000) := by
  obtain ⟨a, b, c⟩ := scale_op (n := C) (d := 1000000000) (L := 32768000) (M' := 18014398510) (ptX n h).1 (by omega) ⟨n.c1, n.c2⟩ (by omega) (by omega) (by omega) (by omega) (by omega) (by omega)
  exact ⟨a, scale_en (by omega) (by omega) (ptX n h).2 b c⟩
theorem S14 {C K x y : Int} (n : Nums C K x y) (h : 0 < (s6 C K (x * 16777216) (x * 16777216) (y * 16777216) (y * 16777216)).lo) : Bd (s14 C K (x * 16777216) (x * 16777216) (y * 16777216) (y * 16777216)) 1180591620751360 ∧ ∀ p q, (p = (s13 C K (x * 16777216) (x * 16777216) (y * 16777216) (y * 16777216)).lo ∨ p = (s13 C K (x * 16777216) (x * 16777216) (y * 16777216) (y * 16777216)).hi) → (q = (s7 C K (x * 16777216) (x * 16777216) (y * 16777216) (y * 16777216)).lo ∨ q = (s7 C K (x * 16777216) (x * 16777216) (y * 16777216) (y * 16777216)).hi) → (s14 C K (x * 16777216) (x * 16777216) (y * 16777216) (y * 16777216)).lo * q ≤ p * 4294967296 ∧ p * 4294967296 ≤ (s14 C K (x * 16777216) (x * 16777216) (y * 16777216) (y * 16777216)).hi * q :=
  div_op (c := 65536) (M' := 1180591620751360) (Hs n ⟨n.x1, n.x2⟩).1 (S7 n h).1 (by omega) (by omega) (by omega) ⟨by omega, (S7 n h).2.1⟩ (by omega) (by omega)
theorem S12 {C K x y : Int} (n : Nums C K x y) (h : 0 < (s6 C K (x * 16777216) (x * 16777216) (y * 16777216) (y * 16777216)).lo) : Bd (s12 C K (x * 16777216) (x * 16777216) (y * 16777216) (y * 16777216)) 1180591620751360 ∧ ∀ p q, (p = (s11 C K (x * 16777216) (x * 16777216) (y * 16777216) (y * 16777216)).lo ∨ p = (s11 C K (x * 16777216) (x * 16777216) (y * 16777216) (y * 16777216)).hi) → (q = (s7 C K (x * 16777216) (x * 16777216) (y * 16777216) (y * 16777216)).lo ∨ q = (s7 C K (x * 16777216) (x * 16777216) (y * 16777216) (y * 16777216)).hi) → (s12 C K (x * 16777216) (x * 16777216) (y * 16777216) (y * 16777216)).lo * q ≤ p * 4294967296 ∧ p * 4294967296 ≤ (s12 C K (x * 16777216) (x * 16777216) (y * 16777216) (y * 16777216)).hi * q :=
  div_op (c := 65536) (M' := 1180591620751360) (Hs n ⟨n.y1, n.y2⟩).1 (S7 n h).1 (by omega) (by omega) (by omega) ⟨by omega, (S7 n h).2.1⟩ (by omega) (by omega)
theorem inS {C K x y : Int} (n : Nums C K x y) (h : 0 < (s6 C K (x * 16777216) (x * 16777216) (y * 16777216) (y * 16777216)).lo) : PsagSG C K (x * 16777216) (x * 16777216) (y * 16777216) (y * 16777216) ∧ PslopeS C K (x * 16777216) (x * 16777216) (y * 16777216) (y * 16777216) :=
  have d : decide ((s6 C K (x * 16777216) (x * 16777216) (y * 16777216) (y * 16777216)).lo ≤ 0) = false := decide_eq_false (by omega)
  ⟨⟨okN n, okSpX n, okSpY n, (S0b n).1.e, (S1b n).1.e, (S2 n).1.e, (S3 n).1.e, (S4 n).1.e, (S5 n).1.e, (S6 n).1.e, d, (S7 n h).1.e, (S8 n).1.e, (S9 n h).1.e, (S10 n h).1.e⟩,
   ⟨okN n, okSpX n, okSpY n, (S0b n).1.e, (S1b n).1.e, (S2 n).1.e, (S3 n).1.e, (S4 n).1.e, (S5 n).1.e, (S6 n).1.e, d, (S7 n h).1.e, (S8 n).1.e, (S9 n h).1.e, (S10 n h).1.e, (Hs n ⟨n.x1, n.x2⟩).1.e, (S14 n h).1.e, (Hs n ⟨n.y1, n.y2⟩).1.e, (S12 n h).1.e⟩⟩
end Go.Rd


/- Within the domain: the biconic surface's slopes. No program. -/
namespace Go.Rd
open Go Go.Eng Go.Ar
/-- Of a point: h c, and that times 1 + k. -/
def h1S (C w : Int) : Sp := xScaleS (xScaleS (w * 16777216) (w * 16777216) C 1000000000).lo (xScaleS (w * 16777216) (w * 16777216) C 1000000000).hi C 1000000000
def h2S (C K w : Int) : Sp := xScaleS (h1S C w).lo (h1S C w).hi (IntKind.i64.wrap (1000000 + K)) 1000000
/-- What is open: no product z u is too great. -/
def Small (C K x y : Int) : Prop := ∀ u, (u = b17 C K C K (x * 16777216) (x * 16777216) (y * 16777216) (y * 16777216) ∨ u = b21 C K C K (x * 16777216) (x * 16777216) (y * 16777216) (y * 16777216)) → ∀ p q, (p = (b13 C K C K (x * 16777216) (x * 16777216) (y * 16777216) (y * 16777216)).lo ∨ p = (b13 C K C K (x * 16777216) (x * 16777216) (y * 16777216) (y * 16777216)).hi) → (q = u.lo ∨ q = u.hi) → -(2251799813685248 * 4294967296) ≤ p * q ∧ p * q ≤ 2251799813685248 * 4294967296

theorem H1 {C K x y : Int} (n : Nums C K x y) {w : Int} (h : -32768 ≤ w ∧ w ≤ 32767) : Bd (h1S C w) 590295811 ∧ En (h1S C w) (w * 16777216 * C * C) (1 * 1000000000 * 1000000000) := by
  obtain ⟨a, b, c⟩ := scale_op (n := C) (d := 1000000000) (L := 32768000) (M' := 590295811) (Hs n h).1 (by omega) ⟨n.c1, n.c2⟩ (by omega) (by omega) (by omega) (by omega) (by omega) (by omega)
  exact ⟨a, scale_en (by omega) (by omega) (Hs n h).2 b c⟩
theorem H2 {C K x y : Int} (n : Nums C K x y) {w : Int} (h : -32768 ≤ w ∧ w ≤ 32767) : Bd (h2S C K w) 2360592949 ∧ En (h2S C K w) (w * 16777216 * C * C * (1000000 + K)) (1 * 1000000000 * 1000000000 * 1000000) := by
  have k1 := n.k1; have k2 := n.k2
  obtain ⟨a, b, c⟩ := scale_op (n := 1000000 + K) (d := 1000000) (L := 3999000) (M' := 2360592949) (H1 n h).1 (by omega) (by omega) (by omega) (by omega) (by omega) (by omega) (by omega) (by omega)
  have e : h2S C K w = xScaleS (h1S C w).lo (h1S C w).hi (1000000 + K) 1000000 := by
    show xScaleS _ _ (IntKind.i64.wrap (1000000 + K)) _ = _; rw [wrapG n]
  rw [e]
  exact ⟨a, scale_en (by omega) (by omega) (H1 n h).2 b c⟩
/-- Twice h. -/
theorem Hh {C K x y : Int} (n : Nums C K x y) {w : Int} (h : -32768 ≤ w ∧ w ≤ 32767) : Bd (xScaleS (xScaleS (w * 16777216) (w * 16777216) C 1000000000).lo (xScaleS (w * 16777216) (w * 16777216) C 1000000000).hi 2 1) 36028797020 ∧ En (xScaleS (xScaleS (w * 16777216) (w * 16777216) C 1000000000).lo (xScaleS (w * 16777216) (w * 16777216) C 1000000000).hi 2 1) (w * 16777216 * C * 2) (1 * 1000000000 * 1) := by
  obtain ⟨a, b, c⟩ := scale_op (n := 2) (d := 1) (L := 2) (M' := 36028797020) (Hs n h).1 (by omega) (by omega) (by omega) (by omega) (by omega) (by omega) (by omega) (by omega)
  exact ⟨a, scale_en (by omega) (by omega) (Hs n h).2 b c⟩
theorem B17 {C K x y : Int} (n : Nums C K x y) (h : 0 < (b9 C K C K (x * 16777216) (x * 16777216) (y * 16777216) (y * 16777216)).lo) : Bd (b17 C K C K (x * 16777216) (x * 16777216) (y * 16777216) (y * 16777216)) 154703819505664 ∧ ∀ p q, (p = (b16 C K C K (x * 16777216) (x * 16777216) (y * 16777216) (y * 16777216)).lo ∨ p = (b16 C K C K (x * 16777216) (x * 16777216) (y * 16777216) (y * 16777216)).hi) → (q = (b10 C K C K (x * 16777216) (x * 16777216) (y * 16777216) (y * 16777216)).lo ∨ q = (b10 C K C K (x * 16777216) (x * 16777216) (y * 16777216) (y * 16777216)).hi) → (b17 C K C K (x * 16777216) (x * 16777216) (y * 16777216) (y * 16777216)).lo * q ≤ p * 4294967296 ∧ p * 4294967296 ≤ (b17 C K C K (x * 16777216) (x * 16777216) (y * 16777216) (y * 16777216)).hi * q :=
  div_op (c := 65536) (M' := 154703819505664) (H2 n ⟨n.x1, n.x2⟩).1 (B10 n h).1 (by omega) (by omega) (by omega) ⟨by omega, (B10 n h).2.1⟩ (by omega) (by omega)
theorem B21 {C K x y : Int} (n : Nums C K x y) (h : 0 < (b9 C K C K (x * 16777216) (x * 16777216) (y * 16777216) (y * 16777216)).lo) : Bd (b21 C K C K (x * 16777216) (x * 16777216) (y * 16777216) (y * 16777216)) 154703819505664 ∧ ∀ p q, (p = (b20 C K C K (x * 16777216) (x * 16777216) (y * 16777216) (y * 16777216)).lo ∨ p = (b20 C K C K (x * 16777216) (x * 16777216) (y * 16777216) (y * 16777216)).hi) → (q = (b10 C K C K (x * 16777216) (x * 16777216) (y * 16777216) (y * 16777216)).lo ∨ q = (b10 C K C K (x * 16777216) (x * 16777216) (y * 16777216) (y * 16777216)).hi) → (b21 C K C K (x * 16777216) (x * 16777216) (y * 16777216) (y * 16777216)).lo * q ≤ p * 4294967296 ∧ p * 4294967296 ≤ (b21 C K C K (x * 16777216) (x * 16777216) (y * 16777216) (y * 16777216)).hi * q :=
  div_op (c := 65536) (M' := 154703819505664) (H2 n ⟨n.y1, n.y2⟩).1 (B10 n h).1 (by omega) (by omega) (by omega) ⟨by omega, (B10 n h).2.1⟩ (by omega) (by omega)

theorem B26 {C K x y : Int} (n : Nums C K x y) (h : 0 < (b9 C K C K (x * 16777216) (x * 16777216) (y * 16777216) (y * 16777216)).lo) (sm : Small C K x y) : Bd (b26 C K C K (x * 16777216) (x * 16777216) (y * 16777216) (y * 16777216)) 2251799813685248 ∧ ∀ p q, (p = (b13 C K C K (x * 16777216) (x * 16777216) (y * 16777216) (y * 16777216)).lo ∨ p = (b13 C K C K (x * 16777216) (x * 16777216) (y * 16777216) (y * 16777216)).hi) → (q = (b17 C K C K (x * 16777216) (x * 16777216) (y * 16777216) (y * 16777216)).lo ∨ q = (b17 C K C K (x * 16777216) (x * 16777216) (y * 16777216) (y * 16777216)).hi) → (b26 C K C K (x * 16777216) (x * 16777216) (y * 16777216) (y * 16777216)).lo * 4294967296 ≤ p * q ∧ p * q ≤ (b26 C K C K (x * 16777216) (x * 16777216) (y * 16777216) (y * 16777216)).hi * 4294967296 :=
  mul_op (B13 n h).1 (B17 n h).1 (by omega) (by omega) (by omega) (sm _ (.inl rfl))
theorem B22 {C K x y : Int} (n : Nums C K x y) (h : 0 < (b9 C K C K (x * 16777216) (x * 16777216) (y * 16777216) (y * 16777216)).lo) (sm : Small C K x y) : Bd (b22 C K C K (x * 16777216) (x * 16777216) (y * 16777216) (y * 16777216)) 2251799813685248 ∧ ∀ p q, (p = (b13 C K C K (x * 16777216) (x * 16777216) (y * 16777216) (y * 16777216)).lo ∨ p = (b13 C K C K (x * 16777216) (x * 16777216) (y * 16777216) (y * 16777216)).hi) → (q = (b21 C K C K (x * 16777216) (x * 16777216) (y * 16777216) (y * 16777216)).lo ∨ q = (b21 C K C K (x * 16777216) (x * 16777216) (y * 16777216) (y * 16777216)).hi) → (b22 C K C K (x * 16777216) (x * 16777216) (y * 16777216) (y * 16777216)).lo * 4294967296 ≤ p * q ∧ p * q ≤ (b22 C K C K (x * 16777216) (x * 16777216) (y * 16777216) (y * 16777216)).hi * 4294967296 :=
  mul_op (B13 n h).1 (B21 n h).1 (by omega) (by omega) (by omega) (sm _ (.inr rfl))
theorem B28 {C K x y : Int} (n : Nums C K x y) (h : 0 < (b9 C K C K (x * 16777216) (x * 16777216) (y * 16777216) (y * 16777216)).lo) (sm : Small C K x y) : Bd (b28 C K C K (x * 16777216) (x * 16777216) (y * 16777216) (y * 16777216)) (36028797020 + 2251799813685248) ∧ (b28 C K C K (x * 16777216) (x * 16777216) (y * 16777216) (y * 16777216)).lo = (b27 C K C K (x * 16777216) (x * 16777216) (y * 16777216) (y * 16777216)).lo + (b26 C K C K (x * 16777216) (x * 16777216) (y * 16777216) (y * 16777216)).lo ∧ (b28 C K C K (x * 16777216) (x * 16777216) (y * 16777216) (y * 16777216)).hi = (b27 C K C K (x * 16777216) (x * 16777216) (y * 16777216) (y * 16777216)).hi + (b26 C K C K (x * 16777216) (x * 16777216) (y * 16777216) (y * 16777216)).hi :=
  add_op (Hh n ⟨n.x1, n.x2⟩).1 (B26 n h sm).1 (by omega) (by omega)
theorem B24 {C K x y : Int} (n : Nums C K x y) (h : 0 < (b9 C K C K (x * 16777216) (x * 16777216) (y * 16777216) (y * 16777216)).lo) (sm : Small C K x y) : Bd (b24 C K C K (x * 16777216) (x * 16777216) (y * 16777216) (y * 16777216)) (36028797020 + 2251799813685248) ∧ (b24 C K C K (x * 16777216) (x * 16777216) (y * 16777216) (y * 16777216)).lo = (b23 C K C K (x * 16777216) (x * 16777216) (y * 16777216) (y * 16777216)).lo + (b22 C K C K (x * 16777216) (x * 16777216) (y * 16777216) (y * 16777216)).lo ∧ (b24 C K C K (x * 16777216) (x * 16777216) (y * 16777216) (y * 16777216)).hi = (b23 C K C K (x * 16777216) (x * 16777216) (y * 16777216) (y * 16777216)).hi + (b22 C K C K (x * 16777216) (x * 16777216) (y * 16777216) (y * 16777216)).hi :=
  add_op (Hh n ⟨n.y1, n.y2⟩).1 (B22 n h sm).1 (by omega) (by omega)
theorem B29 {C K x y : Int} (n : Nums C K x y) (h : 0 < (b9 C K C K (x * 16777216) (x * 16777216) (y * 16777216) (y * 16777216)).lo) (sm : Small C K x y) : Bd (b29 C K C K (x * 16777216) (x * 16777216) (y * 16777216) (y * 16777216)) (36028797020 + 2251799813685248) ∧ ∀ p q, (p = (b28 C K C K (x * 16777216) (x * 16777216) (y * 16777216) (y * 16777216)).lo ∨ p = (b28 C K C K (x * 16777216) (x * 16777216) (y * 16777216) (y * 16777216)).hi) → (q = (b12 C K C K (x * 16777216) (x * 16777216) (y * 16777216) (y * 16777216)).lo ∨ q = (b12 C K C K (x * 16777216) (x * 16777216) (y * 16777216) (y * 16777216)).hi) → (b29 C K C K (x * 16777216) (x * 16777216) (y * 16777216) (y * 16777216)).lo * q ≤ p * 4294967296 ∧ p * 4294967296 ≤ (b29 C K C K (x * 16777216) (x * 16777216) (y * 16777216) (y * 16777216)).hi * q :=
  div_op (c := 4295032832) (M' := 36028797020 + 2251799813685248) (B28 n h sm).1 (B12 n h).1 (by omega) (by omega) (by omega) (by have := (B12 n h).2.1; have := (B10 n h).2.1; omega) (by omega) (by omega)
theorem B25 {C K x y : Int} (n : Nums C K x y) (h : 0 < (b9 C K C K (x * 16777216) (x * 16777216) (y * 16777216) (y * 16777216)).lo) (sm : Small C K x y) : Bd (b25 C K C K (x * 16777216) (x * 16777216) (y * 16777216) (y * 16777216)) (36028797020 + 2251799813685248) ∧ ∀ p q, (p = (b24 C K C K (x * 16777216) (x * 16777216) (y * 16777216) (y * 16777216)).lo ∨ p = (b24 C K C K (x * 16777216) (x * 16777216) (y * 16777216) (y * 16777216)).hi) → (q = (b12 C K C K (x * 16777216) (x * 16777216) (y * 16777216) (y * 16777216)).lo ∨ q = (b12 C K C K (x * 16777216) (x * 16777216) (y * 16777216) (y * 16777216)).hi) → (b25 C K C K (x * 16777216) (x * 16777216) (y * 16777216) (y * 16777216)).lo * q ≤ p * 4294967296 ∧ p * 4294967296 ≤ (b25 C K C K (x * 16777216) (x * 16777216) (y * 16777216) (y * 16777216)).hi * q :=
  div_op (c := 4295032832) (M' := 36028797020 + 2251799813685248) (B24 n h sm).1 (B12 n h).1 (by omega) (by omega) (by omega) (by have := (B12 n h).2.1; have := (B10 n h).2.1; omega) (by omega) (by omega)
theorem inB {C K x y : Int} (n : Nums C K x y) (h : 0 < (b9 C K C K (x * 16777216) (x * 16777216) (y * 16777216) (y * 16777216)).lo) (sm : Small C K x y) : PsagBG C K C K (x * 16777216) (x * 16777216) (y * 16777216) (y * 16777216) ∧ PslopeB C K C K (x * 16777216) (x * 16777216) (y * 16777216) (y * 16777216) :=
  have d : decide ((b9 C K C K (x * 16777216) (x * 16777216) (y * 16777216) (y * 16777216)).lo ≤ 0) = false := decide_eq_false (by omega)
  have hx := And.intro n.x1 n.x2
  have hy := And.intro n.y1 n.y2
  ⟨⟨okN n, okN n, okSpX n, okSpY n, (B0b n).1.e, (B1 n).1.e, (B2b n).1.e, (B3 n).1.e, (B4 n).1.e, (B6 n).1.e, (B5 n).1.e, (B7 n).1.e, (B8 n).1.e, (B9 n).1.e, d, (B10 n h).1.e, (B11 n).1.e, (B12 n h).1.e, (B13 n h).1.e⟩,
   ⟨okN n, okN n, okSpX n, okSpY n, (B0b n).1.e, (B1 n).1.e, (B2b n).1.e, (B3 n).1.e, (B4 n).1.e, (B6 n).1.e, (B5 n).1.e, (B7 n).1.e, (B8 n).1.e, (B9 n).1.e, d, (B10 n h).1.e, (B11 n).1.e, (B12 n h).1.e, (B13 n h).1.e,
    (Hs n hx).1.e, (H1 n hx).1.e, (H2 n hx).1.e, (B17 n h).1.e, (Hh n hx).1.e, (B26 n h sm).1.e, (B28 n h sm).1.e, (B29 n h sm).1.e, (Hs n hy).1.e, (H1 n hy).1.e, (H2 n hy).1.e, (B21 n h).1.e, (Hh n hy).1.e, (B22 n h sm).1.e, (B24 n h sm).1.e, (B25 n h sm).1.e⟩⟩
end Go.Rd


/- The slopes meet: generalities. No program. -/
namespace Go.Rd
open Go Go.Eng Go.Ar
theorem en_scale {s : Sp} {N D q : Int} (hq : 0 ≤ q) (h : En s N D) : En s (N * q) (D * q) := by
  have a := Int.mul_le_mul_of_nonneg_right h.lo hq
  have b := Int.mul_le_mul_of_nonneg_right h.hi hq
  exact ⟨by rw [← Int.mul_assoc]; exact a, by rw [← Int.mul_assoc]; exact b⟩
theorem near_meet {l u A B A' B' : Int} (hB : 0 < B) (hB' : 0 < B') (h1 : l * B ≤ A) (h2 : A' ≤ u * B') (h3 : A * B' - A' * B < B * B') : l ≤ u := by
  rcases Int.lt_or_le u l with c | c
  · have p := Int.mul_pos hB hB'
    have m1 := Int.mul_le_mul_of_nonneg_right h1 (show 0 ≤ B' by omega)
    have m2 := Int.mul_le_mul_of_nonneg_right h2 (show 0 ≤ B by omega)
    have m3 := Int.mul_le_mul_of_nonneg_right (show u + 1 ≤ l by omega) (show 0 ≤ B * B' by omega)
    grind
  · exact c
theorem isqrt (m : Nat) : ∃ v : Nat, v * v ≤ m ∧ m < (v + 1) * (v + 1) := by
  induction m with
  | zero => exact ⟨0, by omega, by omega⟩
  | succ m ih =>
    obtain ⟨v, h1, h2⟩ := ih
    rcases Nat.lt_or_ge (m + 1) ((v + 1) * (v + 1)) with c | c
    · exact ⟨v, by omega, c⟩
    · refine ⟨v + 1, c, ?_⟩
      have : (v + 1 + 1) * (v + 1 + 1) = (v + 1) * (v + 1) + 2 * (v + 1) + 1 := by grind
      omega
/-- A root of a fraction, from below. -/
theorem qsqrt {A D : Int} (hA : 0 ≤ A) (hD : 0 < D) : ∃ V : Int, 0 ≤ V ∧ D * (V * V) ≤ A ∧ A < D * ((V + 1) * (V + 1)) := by
  obtain ⟨v, h1, h2⟩ := isqrt (A / D).toNat
  have q : 0 ≤ A / D := Int.ediv_nonneg hA (by omega)
  have e := Int.mul_ediv_add_emod A D
  have r1 := Int.emod_nonneg A (show D ≠ 0 by omega)
  have r2 := Int.emod_lt_of_pos A hD
  have k1 : (v : Int) * v ≤ A / D := by
    have : ((v * v : Nat) : Int) ≤ ((A / D).toNat : Int) := by exact_mod_cast h1
    rw [Int.toNat_of_nonneg q] at this
    push_cast at this; exact this
  have k2 : A / D + 1 ≤ ((v : Int) + 1) * (v + 1) := by
    have : ((A / D).toNat : Int) + 1 ≤ (((v + 1) * (v + 1) : Nat) : Int) := by exact_mod_cast h2
    rw [Int.toNat_of_nonneg q] at this
    push_cast at this; exact this
  have m1 := Int.mul_le_mul_of_nonneg_left k1 (show 0 ≤ D by omega)
  have m2 := Int.mul_le_mul_of_nonneg_left k2 (show 0 ≤ D by omega)
  rw [Int.mul_add] at m2
  exact ⟨v, by omega, by omega, by omega⟩
theorem root_en {d r : Sp} {A D E V : Int} (hD : 0 < D) (hE : 0 < E) (h : En d A D) (r1 : r.lo * r.lo ≤ d.lo * 4294967296) (r2 : d.hi * 4294967296 ≤ r.hi * r.hi) (r3 : 0 ≤ r.lo) (r4 : 0 ≤ r.hi) (hV : 0 ≤ V)
    (v1 : D * (V * V) ≤ 4294967296 * (E * E) * A) (v2 : 4294967296 * (E * E) * A < D * ((V + 1) * (V + 1))) : En r V E := by
  have q : 0 ≤ E * E := Int.mul_nonneg (by omega) (by omega)
  constructor
  · have m1 := Int.mul_le_mul_of_nonneg_right r1 (Int.mul_nonneg q (show 0 ≤ D by omega))
    have m2 := Int.mul_le_mul_of_nonneg_right h.lo (show 0 ≤ 4294967296 * (E * E) by omega)
    have k : D * ((r.lo * E) * (r.lo * E)) < D * ((V + 1) * (V + 1)) := by grind
    have := Int.lt_of_mul_lt_mul_left k (show 0 ≤ D by omega)
    have := lt_of_sq (by omega) this
    omega
  · have m1 := Int.mul_le_mul_of_nonneg_right r2 (Int.mul_nonneg q (show 0 ≤ D by omega))
    have m2 := Int.mul_le_mul_of_nonneg_right h.hi (show 0 ≤ 4294967296 * (E * E) by omega)
    have k : D * (V * V) ≤ D * ((r.hi * E) * (r.hi * E)) := by grind
    have := Int.le_of_mul_le_mul_left k hD
    exact le_of_sq (Int.mul_nonneg r4 (by omega)) this
end Go.Rd

/- The slopes meet: the algebra. No program. -/
namespace Go.Rd
open Go Go.Eng Go.Ar
/-- h: a point times c; t, o, z: numerator, 1 + root, sag; p, u: h c (1 + k), that over the root; m2 = 2 h; m = z u; s = m2 + m; g: the biconic slope; f: the conic's. -/
theorem slope_en {h r t o z p u m2 m s f g rc oc : Sp} {H N P V E D1 D3 : Int} (hD1 : 0 < D1) (hD3 : 0 < D3) (hE : 0 < E) (hV : 0 < V)
    (eh : En h H D1) (et : En t N D1) (ep : En p P D3) (er : En r V E) (erc : En rc V E) (em2 : En m2 (H * 2) D1)
    (eo : o.lo = 4294967296 + r.lo ∧ o.hi = 4294967296 + r.hi)
    (cf : ∀ a b, (a = h.lo ∨ a = h.hi) → (b = rc.lo ∨ b = rc.hi) → f.lo * b ≤ a * 4294967296 ∧ a * 4294967296 ≤ f.hi * b)
    (cz : ∀ a b, (a = t.lo ∨ a = t.hi) → (b = o.lo ∨ b = o.hi) → z.lo * b ≤ a * 4294967296 ∧ a * 4294967296 ≤ z.hi * b)
    (cu : ∀ a b, (a = p.lo ∨ a = p.hi) → (b = r.lo ∨ b = r.hi) → u.lo * b ≤ a * 4294967296 ∧ a * 4294967296 ≤ u.hi * b)
    (cm : ∀ a b, (a = z.lo ∨ a = z.hi) → (b = u.lo ∨ b = u.hi) → m.lo * 4294967296 ≤ a * b ∧ a * b ≤ m.hi * 4294967296)
    (es : s.lo = m2.lo + m.lo ∧ s.hi = m2.hi + m.hi)
    (cg : ∀ a b, (a = s.lo ∨ a = s.hi) → (b = o.lo ∨ b = o.hi) → g.lo * b ≤ a * 4294967296 ∧ a * 4294967296 ≤ g.hi * b) :
    En f (H * 4294967296 * E) (D1 * V) ∧
    En g ((H * 2 * (4294967296 * ((4294967296 * E + V) * (D3 * V))) + N * 4294967296 * E * (P * 4294967296 * E)) * 4294967296 * E) (D1 * (4294967296 * ((4294967296 * E + V) * (D3 * V))) * (4294967296 * E + V)) := by
  have eo' : En o (4294967296 * E + V) E := ⟨by rw [eo.1, Int.add_mul]; have := er.lo; omega, by rw [eo.2, Int.add_mul]; have := er.hi; omega⟩
  have pO : 0 < 4294967296 * E + V := by omega
  have p3 : 0 < D3 * V := Int.mul_pos hD3 hV
  have q1 := div_en hD1 hE eh erc cf
  have q2 := div_en hD1 hE et eo' cz
  have q3 := div_en hD3 hE ep er cu
  have q4 := mul_en (Int.mul_pos hD1 pO) p3 q2 q3 cm
  have q5 := en_scale (q := 4294967296 * ((4294967296 * E + V) * (D3 * V))) (Int.le_of_lt (Int.mul_pos (by decide) (Int.mul_pos pO p3))) em2
  have e : 4294967296 * (D1 * (4294967296 * E + V) * (D3 * V)) = D1 * (4294967296 * ((4294967296 * E + V) * (D3 * V))) := by grind
  rw [e] at q4
  have q6 := add_en q5 q4 es.1 es.2
  have q7 := div_en (Int.mul_pos hD1 (Int.mul_pos (by decide) (Int.mul_pos pO p3))) hE q6 eo' cg
  exact ⟨q1, q7⟩
end Go.Rd

/- The slopes meet: they differ by less than a unit. No program. -/
namespace Go.Rd
open Go Go.Eng Go.Ar
theorem slope_diff {H N P Om V E D1 D3 : Int} (hNP : N * P = H * Om) :
    H * 4294967296 * E * (D1 * (4294967296 * ((4294967296 * E + V) * (D3 * V))) * (4294967296 * E + V)) - (H * 2 * (4294967296 * ((4294967296 * E + V) * (D3 * V))) + N * 4294967296 * E * (P * 4294967296 * E)) * 4294967296 * E * (D1 * V) =
    H * 4294967296 * 4294967296 * E * D1 * V * (4294967296 * (E * E) * (4294967296 * D3 - Om) - D3 * (V * V)) := by grind
/-- |H| S E Z < D1 D3 V J J. -/
theorem slope_bd {H Z V E D1 D3 L J : Int} (hD1 : 0 < D1) (hD3 : 0 < D3) (hE : 0 < E) (hV : 1 ≤ V) (hL : 0 ≤ L) (h1 : -(L * D1) ≤ H) (h2 : H ≤ L * D1) (z1 : 0 ≤ Z) (z2 : Z ≤ D3 * (3 * V)) (hJ : J = 4294967296 * E + V) (hS : 3 * L < 4294967296 * E) :
    H * Z * (4294967296 * E) < D1 * D3 * V * (J * J) ∧ -(D1 * D3 * V * (J * J)) < H * Z * (4294967296 * E) := by
  have a := mul_bd (a := H) (n := Z) (M := L * D1) (L := D3 * (3 * V)) h1 h2 (by omega) z2
  have p : 0 < D1 * D3 * V := Int.mul_pos (Int.mul_pos hD1 hD3) (by omega)
  have sE : 0 < 4294967296 * E := by omega
  have m1 := Int.mul_le_mul_of_nonneg_right a.2 (Int.le_of_lt sE)
  have m2 := Int.mul_le_mul_of_nonneg_right a.1 (Int.le_of_lt sE)
  have j1 : (4294967296 * E) * (4294967296 * E) ≤ J * J := Int.mul_le_mul (by omega) (by omega) (by omega) (by omega)
  have j2 : 3 * L * (4294967296 * E) < (4294967296 * E) * (4294967296 * E) := Int.mul_lt_mul_of_pos_right hS sE
  have k := Int.mul_lt_mul_of_pos_left (Int.lt_of_lt_of_le j2 j1) p
  have e : L * D1 * (D3 * (3 * V)) * (4294967296 * E) = D1 * D3 * V * (3 * L * (4294967296 * E)) := by grind
  rw [Int.neg_mul] at m2
  omega
end Go.Rd

/- The slopes meet, of spans that hold what slope_en says. No program. -/
namespace Go.Rd
open Go Go.Eng Go.Ar
theorem slope_near {f g : Sp} {H N P Om V E D1 D3 L : Int} (hNP : N * P = H * Om) (hD1 : 0 < D1) (hD3 : 0 < D3) (hE : 0 < E) (hV : 1 ≤ V) (hL : 0 ≤ L) (h1 : -(L * D1) ≤ H) (h2 : H ≤ L * D1) (hS : 3 * L < 4294967296 * E)
    (v1 : D3 * (V * V) ≤ 4294967296 * (E * E) * (4294967296 * D3 - Om)) (v2 : 4294967296 * (E * E) * (4294967296 * D3 - Om) < D3 * ((V + 1) * (V + 1)))
    (q1 : En f (H * 4294967296 * E) (D1 * V))
    (q2 : En g ((H * 2 * (4294967296 * ((4294967296 * E + V) * (D3 * V))) + N * 4294967296 * E * (P * 4294967296 * E)) * 4294967296 * E) (D1 * (4294967296 * ((4294967296 * E + V) * (D3 * V))) * (4294967296 * E + V))) :
    f.lo ≤ g.hi ∧ g.lo ≤ f.hi := by
  have d := slope_diff (V := V) (E := E) (D1 := D1) (D3 := D3) hNP
  generalize hZ : 4294967296 * (E * E) * (4294967296 * D3 - Om) = Zt at *
  have z2 : Zt - D3 * (V * V) ≤ D3 * (3 * V) := by
    have : D3 * ((V + 1) * (V + 1)) = D3 * (V * V) + D3 * (2 * V + 1) := by grind
    have := Int.mul_le_mul_of_nonneg_left (show 2 * V + 1 ≤ 3 * V by omega) (show 0 ≤ D3 by omega)
    omega
  have b := slope_bd (Z := Zt - D3 * (V * V)) (J := 4294967296 * E + V) hD1 hD3 hE hV hL h1 h2 (by omega) z2 rfl hS
  have pJ : 0 < 4294967296 * E + V := by omega
  have p3 : 0 < D3 * V := Int.mul_pos hD3 (by omega)
  have pB : 0 < D1 * V := Int.mul_pos hD1 (by omega)
  have pB' : 0 < D1 * (4294967296 * ((4294967296 * E + V) * (D3 * V))) * (4294967296 * E + V) := Int.mul_pos (Int.mul_pos hD1 (Int.mul_pos (by decide) (Int.mul_pos pJ p3))) pJ
  have pm : 0 < D1 * 4294967296 * V := Int.mul_pos (Int.mul_pos hD1 (by decide)) (by omega)
  have m1 := Int.mul_lt_mul_of_pos_right b.1 pm
  have m2 := Int.mul_lt_mul_of_pos_right b.2 pm
  have e1 : H * (Zt - D3 * (V * V)) * (4294967296 * E) * (D1 * 4294967296 * V) = H * 4294967296 * 4294967296 * E * D1 * V * (Zt - D3 * (V * V)) := by grind
  have e2 : D1 * D3 * V * ((4294967296 * E + V) * (4294967296 * E + V)) * (D1 * 4294967296 * V) = D1 * V * (D1 * (4294967296 * ((4294967296 * E + V) * (D3 * V))) * (4294967296 * E + V)) := by grind
  rw [Int.neg_mul] at m2
  rw [e1, e2] at m1 m2
  exact ⟨near_meet pB pB' q1.lo q2.hi (by rw [d]; exact m1), near_meet pB' pB q2.lo q1.hi (by rw [Int.mul_comm (D1 * (4294967296 * ((4294967296 * E + V) * (D3 * V))) * (4294967296 * E + V)) (D1 * V)]; omega)⟩
end Go.Rd

/- The slopes meet. No program. -/
namespace Go.Rd
open Go Go.Eng Go.Ar
theorem slopes {C K x y : Int} (n : Nums C K x y) (h : 0 < (s6 C K (x * 16777216) (x * 16777216) (y * 16777216) (y * 16777216)).lo) (k : 0 < (b9 C K C K (x * 16777216) (x * 16777216) (y * 16777216) (y * 16777216)).lo) (sm : Small C K x y) :
    ((s14 C K (x * 16777216) (x * 16777216) (y * 16777216) (y * 16777216)).lo ≤ (b29 C K C K (x * 16777216) (x * 16777216) (y * 16777216) (y * 16777216)).hi ∧ (b29 C K C K (x * 16777216) (x * 16777216) (y * 16777216) (y * 16777216)).lo ≤ (s14 C K (x * 16777216) (x * 16777216) (y * 16777216) (y * 16777216)).hi) ∧ ((s12 C K (x * 16777216) (x * 16777216) (y * 16777216) (y * 16777216)).lo ≤ (b25 C K C K (x * 16777216) (x * 16777216) (y * 16777216) (y * 16777216)).hi ∧ (b25 C K C K (x * 16777216) (x * 16777216) (y * 16777216) (y * 16777216)).lo ≤ (s12 C K (x * 16777216) (x * 16777216) (y * 16777216) (y * 16777216)).hi) := by
  have e9 := (B9 n).2
  have e6 := (S6 n).2
  have hOm : (x * x * 65536 + y * y * 65536) * C * C * (1000000 + K) = (x * x * 65536 + y * y * 65536) * C * C * (1000000 + K) := rfl
  generalize hO : (x * x * 65536 + y * y * 65536) * C * C * (1000000 + K) = Om at e6 e9 hOm
  have De : 1 * 1000000000 * 1000000000 * 1000000 ≤ 4294967296 * (1 * 1000000000 * 1000000000 * 1000000) - Om := by
    have := e9.lo
    omega
  obtain ⟨V, v0, v1, v2⟩ := qsqrt (A := 4294967296 * (1024 * 1024) * (4294967296 * (1 * 1000000000 * 1000000000 * 1000000) - Om)) (D := 1 * 1000000000 * 1000000000 * 1000000) (by omega) (by omega)
  have a7 := S7 n h
  have a10 := B10 n k
  have l7 := a7.1.le
  have l10 := a10.1.le
  have r1 : En (s7 C K (x * 16777216) (x * 16777216) (y * 16777216) (y * 16777216)) V 1024 := root_en (by omega) (by omega) e6 a7.2.2.1 a7.2.2.2 (by omega) (by omega) v0 v1 v2
  have r2 : En (b10 C K C K (x * 16777216) (x * 16777216) (y * 16777216) (y * 16777216)) V 1024 := root_en (by omega) (by omega) e9 a10.2.2.1 a10.2.2.2 (by omega) (by omega) v0 v1 v2
  have V1 : 1 ≤ V := by
    rcases Int.lt_or_le V 1 with c | c
    · have : V = 0 := by omega
      subst this
      omega
    · exact c
  have hx := And.intro n.x1 n.x2
  have hy := And.intro n.y1 n.y2
  have hb : ∀ w : Int, -32768 ≤ w ∧ w ≤ 32767 → -(18014398510 * (1 * 1000000000)) ≤ w * 16777216 * C ∧ w * 16777216 * C ≤ 18014398510 * (1 * 1000000000) := fun w hw => by
    have := mul_bd (a := w) (n := C) (M := 32768) (L := 32768000) (by omega) (by omega) n.c1 n.c2
    have e : w * 16777216 * C = w * C * 16777216 := by grind
    rw [e]
    omega
  have np : ∀ w : Int, (x * x * 65536 + y * y * 65536) * C * (w * 16777216 * C * C * (1000000 + K)) = w * 16777216 * C * Om := fun w => by rw [← hO]; grind
  constructor
  · have q := slope_en (oc := oneS) (D1 := 1 * 1000000000) (D3 := 1 * 1000000000 * 1000000000 * 1000000) (E := 1024) (V := V) (by omega) (by omega) (by omega) (by omega)
      (Hs n hx).2 (B11 n).2 (H2 n hx).2 r2 r1 (Hh n hx).2 (B12 n k).2 (S14 n h).2 (B13 n k).2 (B17 n k).2 (B26 n k sm).2 (B28 n k sm).2 (B29 n k sm).2
    exact slope_near (L := 18014398510) (np x) (by omega) (by omega) (by omega) V1 (by omega) (hb x hx).1 (hb x hx).2 (by omega) v1 v2 q.1 q.2
  · have q := slope_en (oc := oneS) (D1 := 1 * 1000000000) (D3 := 1 * 1000000000 * 1000000000 * 1000000) (E := 1024) (V := V) (by omega) (by omega) (by omega) (by omega)
      (Hs n hy).2 (B11 n).2 (H2 n hy).2 r2 r1 (Hh n hy).2 (B12 n k).2 (S12 n h).2 (B13 n k).2 (B21 n k).2 (B22 n k sm).2 (B24 n k sm).2 (B25 n k sm).2
    exact slope_near (L := 18014398510) (np y) (by omega) (by omega) (by omega) V1 (by omega) (hb y hy).1 (hb y hy).2 (by omega) v1 v2 q.1 q.2
end Go.Rd


/- No product z u is too great. No program. -/
namespace Go.Rd
open Go Go.Eng Go.Ar
/-- The span lies within e of N / D. -/
structure Wd (s : Sp) (N D e : Int) : Prop where
  lo : N - e * D ≤ s.lo * D
  le : s.lo ≤ s.hi
  hi : s.hi * D ≤ N + e * D
theorem scale_wd {s r : Sp} {n d N D e L e' : Int} (hD : 0 < D) (hd : 0 < d) (h : Wd s N D e) (he : 0 ≤ e) (hn : -L ≤ n ∧ n ≤ L) (hb : e * L + d ≤ e' * d) (e1 : r.lo = rd (mn (s.lo * n) (s.hi * n)) d false) (e2 : r.hi = rd (mx (s.lo * n) (s.hi * n)) d true) : Wd r (N * n) (D * d) e' := by
  have hle := Int.mul_le_mul_of_nonneg_right h.le (show 0 ≤ D by omega)
  have k : ∀ v, (v = s.lo ∨ v = s.hi) → N * n - e * D * L ≤ v * n * D ∧ v * n * D ≤ N * n + e * D * L := fun v hv => by
    have a1 : -(e * D) ≤ v * D - N := by rcases hv with rfl | rfl <;> have := h.lo <;> have := h.hi <;> omega
    have a2 : v * D - N ≤ e * D := by rcases hv with rfl | rfl <;> have := h.lo <;> have := h.hi <;> omega
    have := mul_bd (a := v * D - N) (n := n) (M := e * D) (L := L) a1 a2 hn.1 hn.2
    constructor <;> grind
  have m := mn_le (s.lo * n) (s.hi * n)
  have q := le_mx (s.lo * n) (s.hi * n)
  have f := (rd_f (n := mn (s.lo * n) (s.hi * n)) hd)
  have t := (rd_t (n := mx (s.lo * n) (s.hi * n)) hd)
  rw [← e1] at f; rw [← e2] at t
  have hm : ∃ v, (v = s.lo ∨ v = s.hi) ∧ mn (s.lo * n) (s.hi * n) = v * n := by
    rcases m.2.2 with w | w
    · exact ⟨_, .inl rfl, w⟩
    · exact ⟨_, .inr rfl, w⟩
  have hx : ∃ v, (v = s.lo ∨ v = s.hi) ∧ mx (s.lo * n) (s.hi * n) = v * n := by
    rcases q.2.2 with w | w
    · exact ⟨_, .inl rfl, w⟩
    · exact ⟨_, .inr rfl, w⟩
  obtain ⟨v, hv, ev⟩ := hm
  obtain ⟨u, hu, eu⟩ := hx
  have kv := (k v hv).1
  have ku := (k u hu).2
  have hb' := Int.mul_le_mul_of_nonneg_right hb (show 0 ≤ D by omega)
  refine ⟨?_, ?_, ?_⟩
  · have f2 := Int.mul_le_mul_of_nonneg_right (show v * n - d ≤ r.lo * d by omega) (show 0 ≤ D by omega)
    grind
  · have : r.lo * d ≤ r.hi * d := by omega
    exact Int.le_of_mul_le_mul_right this hd
  · have f2 := Int.mul_le_mul_of_nonneg_right (show r.hi * d ≤ u * n + d by omega) (show 0 ≤ D by omega)
    grind
theorem wd_bd {s : Sp} {N D e A : Int} (hs : s.e = 0) (hD : 0 < D) (h : Wd s N D e) (hA : -A ≤ N ∧ N ≤ A) : Bd s (A / D + e + 1) := by
  have a := Int.mul_ediv_add_emod A D
  have b := Int.emod_lt_of_pos A hD
  rw [Int.mul_comm] at a
  have e1 := h.lo
  have e2 := h.hi
  have e3 : (A / D + e + 1) * D = A / D * D + e * D + D := by grind
  refine ⟨hs, ?_, h.le, ?_⟩
  · refine Int.le_of_mul_le_mul_right (a := D) ?_ hD
    rw [Int.neg_mul]
    omega
  · refine Int.le_of_mul_le_mul_right (a := D) ?_ hD
    omega
theorem pt_wd {s : Sp} {p : Int} (h1 : s.lo = p) (h2 : s.hi = p) : Wd s p 1 0 := ⟨by omega, by omega, by omega⟩
theorem add_wd {s t r : Sp} {N N' D e e' : Int} (h : Wd s N D e) (k : Wd t N' D e') (e1 : r.lo = s.lo + t.lo) (e2 : r.hi = s.hi + t.hi) : Wd r (N + N') D (e + e') := by
  obtain ⟨a, b, c⟩ := h; obtain ⟨a', b', c'⟩ := k
  refine ⟨?_, by omega, ?_⟩
  · rw [e1, Int.add_mul, Int.add_mul]; omega
  · rw [e2, Int.add_mul, Int.add_mul]; omega
theorem mn_ge {m p q : Int} (h1 : m ≤ p) (h2 : m ≤ q) : m ≤ mn p q := by have := mn_le p q; omega
theorem mx_lte {m p q : Int} (h1 : p ≤ m) (h2 : q ≤ m) : mx p q ≤ m := by have := le_mx p q; omega
/-- |a b| of numbers within A and B. -/
theorem ab_bd {p q A B : Int} (h1 : -A ≤ p ∧ p ≤ A) (h2 : -B ≤ q ∧ q ≤ B) {M : Int} (hM : A * B ≤ M) : -M ≤ p * q ∧ p * q ≤ M := by
  have := mul_bd h1.1 h1.2 h2.1 h2.2
  omega
/-- The product of two quotients. -/
theorem quot_prod {A B D1 D3 M : Int} (hA : 0 ≤ A) (hB : 0 ≤ B) (hD1 : 0 < D1) (hD3 : 0 < D3) (h : A * B ≤ M * (D1 * D3)) : A / D1 * (B / D3) ≤ M := by
  have a := Int.mul_ediv_add_emod A D1
  have b := Int.emod_nonneg A (show D1 ≠ 0 by omega)
  have a' := Int.mul_ediv_add_emod B D3
  have b' := Int.emod_nonneg B (show D3 ≠ 0 by omega)
  have qa : 0 ≤ A / D1 := Int.ediv_nonneg hA (by omega)
  have qb : 0 ≤ B / D3 := Int.ediv_nonneg hB (by omega)
  have m := Int.mul_le_mul (show D1 * (A / D1) ≤ A by omega) (show D3 * (B / D3) ≤ B by omega) (Int.mul_nonneg (by omega) qb) hA
  refine Int.le_of_mul_le_mul_right (a := D1 * D3) ?_ (Int.mul_pos hD1 hD3)
  have : A / D1 * (B / D3) * (D1 * D3) = D1 * (A / D1) * (D3 * (B / D3)) := by grind
  omega
theorem fin_bd {a b : Int} (ha : 0 ≤ a ∧ a ≤ 4611686018428) (hb : 0 ≤ b ∧ b ≤ 2360592950) (h : a * b ≤ 77371252457561128960) : (a + 3) * ((b + 10) * 65536) ≤ 2251799813685248 * 4294967296 := by
  have : (a + 3) * ((b + 10) * 65536) = a * b * 65536 + a * 655360 + b * 196608 + 1966080 := by grind
  omega
theorem W11 {C K x y : Int} (n : Nums C K x y) : Wd (b11 C K C K (x * 16777216) (x * 16777216) (y * 16777216) (y * 16777216)) ((x * x * 65536 + y * y * 65536) * C) (1 * 1000000000) 2 := by
  obtain ⟨a, b, c⟩ := scale_op (n := C) (d := 1000000000) (L := 32768000) (M' := 2305843009214) (B0b n).1 (by omega) ⟨n.c1, n.c2⟩ (by omega) (by omega) (by omega) (by omega) (by omega) (by omega)
  obtain ⟨a', b', c'⟩ := scale_op (n := C) (d := 1000000000) (L := 32768000) (M' := 2305843009214) (B2b n).1 (by omega) ⟨n.c1, n.c2⟩ (by omega) (by omega) (by omega) (by omega) (by omega) (by omega)
  have p : Wd (b0 C K C K (x * 16777216) (x * 16777216) (y * 16777216) (y * 16777216)) (x * x * 65536) 1 0 := pt_wd (congrArg Sp.lo (S0 n)) (congrArg Sp.hi (S0 n))
  have q : Wd (b2 C K C K (x * 16777216) (x * 16777216) (y * 16777216) (y * 16777216)) (y * y * 65536) 1 0 := pt_wd (congrArg Sp.lo (S1 n)) (congrArg Sp.hi (S1 n))
  have p1 : Wd (b1 C K C K (x * 16777216) (x * 16777216) (y * 16777216) (y * 16777216)) _ _ 1 := scale_wd (by omega) (by omega) p (by omega) ⟨n.c1, n.c2⟩ (by omega) b c
  have q1 : Wd (b3 C K C K (x * 16777216) (x * 16777216) (y * 16777216) (y * 16777216)) _ _ 1 := scale_wd (by omega) (by omega) q (by omega) ⟨n.c1, n.c2⟩ (by omega) b' c'
  obtain ⟨_, d, e⟩ := add_op (B1 n).1 (B3 n).1 (by omega) (by omega)
  have := add_wd p1 q1 d e
  rw [← Int.add_mul] at this
  exact this
theorem WH2 {C K x y : Int} (n : Nums C K x y) {w : Int} (h : -32768 ≤ w ∧ w ≤ 32767) : Wd (h2S C K w) (w * 16777216 * C * C * (1000000 + K)) (1 * 1000000000 * 1000000000 * 1000000) 9 := by
  have k1 := n.k1; have k2 := n.k2
  obtain ⟨a, b, c⟩ := scale_op (n := C) (d := 1000000000) (L := 32768000) (M' := 18014398510) (ptX n h).1 (by omega) ⟨n.c1, n.c2⟩ (by omega) (by omega) (by omega) (by omega) (by omega) (by omega)
  obtain ⟨a', b', c'⟩ := scale_op (n := C) (d := 1000000000) (L := 32768000) (M' := 590295811) (Hs n h).1 (by omega) ⟨n.c1, n.c2⟩ (by omega) (by omega) (by omega) (by omega) (by omega) (by omega)
  obtain ⟨a'', b'', c''⟩ := scale_op (n := 1000000 + K) (d := 1000000) (L := 3999000) (M' := 2360592949) (H1 n h).1 (by omega) (by omega) (by omega) (by omega) (by omega) (by omega) (by omega) (by omega)
  have e : h2S C K w = xScaleS (h1S C w).lo (h1S C w).hi (1000000 + K) 1000000 := by
    show xScaleS _ _ (IntKind.i64.wrap (1000000 + K)) _ = _; rw [wrapG n]
  rw [e]
  have p : Wd (⟨w * 16777216, w * 16777216, 0⟩ : Sp) (w * 16777216) 1 0 := pt_wd rfl rfl
  have p1 := scale_wd (e' := 1) (by omega) (by omega) p (by omega) ⟨n.c1, n.c2⟩ (by omega) b c
  have p2 : Wd (h1S C w) _ _ 2 := scale_wd (by omega) (by omega) p1 (by omega) ⟨n.c1, n.c2⟩ (by omega) b' c'
  exact scale_wd (L := 3999000) (by omega) (by omega) p2 (by omega) (by omega) (by omega) b'' c''

/-- G > 0. -/
theorem small_pos {C K x y : Int} (n : Nums C K x y) {w : Int} (hw : -32768 ≤ w ∧ w ≤ 32767) (g : 0 < 1000000 + K) (k : 0 < (b9 C K C K (x * 16777216) (x * 16777216) (y * 16777216) (y * 16777216)).lo) :
    ∀ p q, (p = (b13 C K C K (x * 16777216) (x * 16777216) (y * 16777216) (y * 16777216)).lo ∨ p = (b13 C K C K (x * 16777216) (x * 16777216) (y * 16777216) (y * 16777216)).hi) → (q = (divS (h2S C K w).lo (h2S C K w).hi (b10 C K C K (x * 16777216) (x * 16777216) (y * 16777216) (y * 16777216)).lo (b10 C K C K (x * 16777216) (x * 16777216) (y * 16777216) (y * 16777216)).hi).lo ∨ q = (divS (h2S C K w).lo (h2S C K w).hi (b10 C K C K (x * 16777216) (x * 16777216) (y * 16777216) (y * 16777216)).lo (b10 C K C K (x * 16777216) (x * 16777216) (y * 16777216) (y * 16777216)).hi).hi) → -(2251799813685248 * 4294967296) ≤ p * q ∧ p * q ≤ 2251799813685248 * 4294967296 := by
  have k1 := n.k1; have k2 := n.k2; have c1 := n.c1; have c2 := n.c2
  have R0 := sq_bd ⟨n.x1, n.x2⟩
  have R1 := sq_bd ⟨n.y1, n.y2⟩
  have e9 := (B9 n).2.lo
  have w11 := W11 n
  have wh := WH2 n hw
  have np : (x * x * 65536 + y * y * 65536) * C * (w * 16777216 * C * C * (1000000 + K)) = w * 16777216 * C * ((x * x * 65536 + y * y * 65536) * C * C * (1000000 + K)) := by grind
  have CC : 0 ≤ C * C := by
    rcases Int.le_total 0 C with c | c
    · exact Int.mul_nonneg c c
    · exact Int.mul_nonneg_of_nonpos_of_nonpos c c
  have Om0 : 0 ≤ (x * x * 65536 + y * y * 65536) * C * C * (1000000 + K) := by
    rw [Int.mul_assoc (x * x * 65536 + y * y * 65536)]
    exact Int.mul_nonneg (Int.mul_nonneg (by omega) CC) (by omega)
  have hH := mul_bd (a := w) (n := C) (M := 32768) (L := 32768000) (by omega) (by omega) n.c1 n.c2
  have eH : w * 16777216 * C = w * C * 16777216 := by grind
  have hN := mul_bd (a := x * x * 65536 + y * y * 65536) (n := C) (M := 140737488355328) (L := 32768000) (by omega) (by omega) n.c1 n.c2
  have h1 := mul_bd (a := w * 16777216 * C) (n := C) (M := 18014398510 * 1000000000) (L := 32768000) (by omega) (by omega) n.c1 n.c2
  have h2 := mul_bd (a := w * 16777216 * C * C) (n := 1000000 + K) (M := 18014398509481984000 * 32768000) (L := 3999000) (by
    have := mul_bd (a := w * 16777216 * C) (n := C) (M := 18014398509481984000) (L := 32768000) (by omega) (by omega) n.c1 n.c2
    omega) (by
    have := mul_bd (a := w * 16777216 * C) (n := C) (M := 18014398509481984000) (L := 32768000) (by omega) (by omega) n.c1 n.c2
    omega) (by omega) (by omega)
  generalize (x * x * 65536 + y * y * 65536) * C * C * (1000000 + K) = Om at *
  generalize w * 16777216 * C * C * (1000000 + K) = P at *
  generalize (x * x * 65536 + y * y * 65536) * C = N at *
  generalize w * 16777216 * C = H at *
  have hP := mul_bd (a := H) (n := Om) (M := 18014398510 * 1000000000) (L := 4294967296 * 1000000000000000000000000) (by omega) (by omega) (by omega) (by omega)
  rw [← np] at hP
  have mA := le_mx N (-N)
  have mB := le_mx P (-P)
  have AB : mx N (-N) * mx P (-P) ≤ 77371252457561128960 * (1 * 1000000000 * (1 * 1000000000 * 1000000000 * 1000000)) := by
    rcases mA.2.2 with a | a <;> rcases mB.2.2 with b | b <;> rw [a, b]
    · omega
    · rw [Int.mul_neg]; omega
    · rw [Int.neg_mul]; omega
    · rw [Int.neg_mul_neg]; omega
  have hq := quot_prod (A := mx N (-N)) (B := mx P (-P)) (D1 := 1 * 1000000000) (D3 := 1 * 1000000000 * 1000000000 * 1000000) (by omega) (by omega) (by omega) (by omega) AB
  have z := wd_bd (A := mx N (-N)) (B11 n).1.e (by omega) w11 (by omega)
  have u := wd_bd (A := mx P (-P)) (H2 n hw).1.e (by omega) wh (by omega)
  have ha : 0 ≤ mx N (-N) / (1 * 1000000000) ∧ mx N (-N) / (1 * 1000000000) ≤ 4611686018428 := by omega
  have hb : 0 ≤ mx P (-P) / (1 * 1000000000 * 1000000000 * 1000000) ∧ mx P (-P) / (1 * 1000000000 * 1000000000 * 1000000) ≤ 2360592950 := by omega
  generalize mx N (-N) / (1 * 1000000000) = a at *
  generalize mx P (-P) / (1 * 1000000000 * 1000000000 * 1000000) = b at *
  have f := fin_bd ha hb hq
  have zb := (div_op (c := 4294967296) (M' := a + 3) z (B12 n k).1 (by omega) (by omega) (by omega) ⟨by omega, by have := (B12 n k).2.1; have := (B10 n k).2.1; omega⟩ (by omega) (by omega)).1
  have ub := (div_op (c := 65536) (M' := (b + 10) * 65536) u (B10 n k).1 (by omega) (by omega) (by omega) ⟨by omega, (B10 n k).2.1⟩ (by omega) (by omega)).1
  intro p q hp hq
  have l1 := zb.le; have l2 := zb.lo; have l3 := zb.hi
  have m1 := ub.le; have m2 := ub.lo; have m3 := ub.hi
  exact ab_bd (A := a + 3) (B := (b + 10) * 65536) (by rcases hp with rfl | rfl <;> exact ⟨by first | exact l2 | exact Int.le_trans l2 l1, by first | exact l3 | exact Int.le_trans l1 l3⟩) (by rcases hq with rfl | rfl <;> exact ⟨by first | exact m2 | exact Int.le_trans m2 m1, by first | exact m3 | exact Int.le_trans m1 m3⟩) f

/-- The bent square is not negative. -/
theorem bent_nn {C : Int} {p : Int} (h0 : 0 ≤ p) (hp : p ≤ 70368744177664) (c1 : -32768000 ≤ C) (c2 : C ≤ 32768000) :
    0 ≤ (xScaleS (xScaleS p p C 1000000000).lo (xScaleS p p C 1000000000).hi C 1000000000).lo := by
  have b0 : Bd (⟨p, p, 0⟩ : Sp) 70368744177664 := ⟨rfl, show -_ ≤ p by omega, Int.le_refl _, hp⟩
  obtain ⟨a, b, c⟩ := scale_op (n := C) (d := 1000000000) (L := 32768000) (M' := 2305843009214) b0 (by omega) ⟨c1, c2⟩ (by omega) (by omega) (by omega) (by omega) (by omega) (by omega)
  obtain ⟨_, b', _⟩ := scale_op (n := C) (d := 1000000000) (L := 32768000) (M' := 75557863726) a (by omega) ⟨c1, c2⟩ (by omega) (by omega) (by omega) (by omega) (by omega) (by omega)
  have lh := a.le
  change (xScaleS p p C 1000000000).lo = rd (mn (p * C) (p * C)) 1000000000 false at b
  change (xScaleS p p C 1000000000).hi = rd (mx (p * C) (p * C)) 1000000000 true at c
  rw [b']
  refine le_rd_of (by omega) ?_
  rw [Int.zero_mul]
  rcases Int.le_total 0 C with k | k
  · have q := Int.mul_nonneg h0 k
    have l : 0 ≤ (xScaleS p p C 1000000000).lo := by
      rw [b]; exact le_rd_of (by omega) (by rw [Int.zero_mul]; exact mn_ge q q)
    exact mn_ge (Int.mul_nonneg l k) (Int.mul_nonneg (Int.le_trans l lh) k)
  · have q := Int.mul_nonpos_of_nonneg_of_nonpos h0 k
    have l : (xScaleS p p C 1000000000).hi ≤ 0 := by
      rw [c]; exact rd_le_of (by omega) (by rw [Int.zero_mul]; exact mx_lte q q)
    exact mn_ge (Int.mul_nonneg_of_nonpos_of_nonpos (Int.le_trans lh l) k) (Int.mul_nonneg_of_nonpos_of_nonpos l k)
/-- Times a number that is not positive. -/
theorem scale_np {s : Sp} {g : Int} (h : Bd s 75557863726) (h0 : 0 ≤ s.lo) (g1 : -3999000 ≤ g) (g2 : g ≤ 0) : (xScaleS s.lo s.hi g 1000000).hi ≤ 0 := by
  obtain ⟨_, _, c⟩ := scale_op (n := g) (d := 1000000) (L := 3999000) (M' := 302155897041) h (by omega) (by omega) (by omega) (by omega) (by omega) (by omega) (by omega) (by omega)
  rw [c]
  have := h.le
  exact rd_le_of (by omega) (by rw [Int.zero_mul]; exact mx_lte (Int.mul_nonpos_of_nonneg_of_nonpos h0 g2) (Int.mul_nonpos_of_nonneg_of_nonpos (by omega) g2))
theorem root_big {C K x y : Int} (n : Nums C K x y) (g : 1000000 + K ≤ 0) : 4294967296 ≤ (b10 C K C K (x * 16777216) (x * 16777216) (y * 16777216) (y * 16777216)).lo := by
  have k1 := n.k1
  have p := sq_bd ⟨n.x1, n.x2⟩
  have q := sq_bd ⟨n.y1, n.y2⟩
  have e4 : 0 ≤ (b4 C K C K (x * 16777216) (x * 16777216) (y * 16777216) (y * 16777216)).lo := by
    have e : (b4 C K C K (x * 16777216) (x * 16777216) (y * 16777216) (y * 16777216)) = xScaleS (xScaleS (s0 C K (x * 16777216) (x * 16777216) (y * 16777216) (y * 16777216)).lo (s0 C K (x * 16777216) (x * 16777216) (y * 16777216) (y * 16777216)).hi C 1000000000).lo (xScaleS (s0 C K (x * 16777216) (x * 16777216) (y * 16777216) (y * 16777216)).lo (s0 C K (x * 16777216) (x * 16777216) (y * 16777216) (y * 16777216)).hi C 1000000000).hi C 1000000000 := rfl
    rw [e, S0 n]
    exact bent_nn p.1 p.2 n.c1 n.c2
  have e5 : 0 ≤ (b5 C K C K (x * 16777216) (x * 16777216) (y * 16777216) (y * 16777216)).lo := by
    have e : (b5 C K C K (x * 16777216) (x * 16777216) (y * 16777216) (y * 16777216)) = xScaleS (xScaleS (s1 C K (x * 16777216) (x * 16777216) (y * 16777216) (y * 16777216)).lo (s1 C K (x * 16777216) (x * 16777216) (y * 16777216) (y * 16777216)).hi C 1000000000).lo (xScaleS (s1 C K (x * 16777216) (x * 16777216) (y * 16777216) (y * 16777216)).lo (s1 C K (x * 16777216) (x * 16777216) (y * 16777216) (y * 16777216)).hi C 1000000000).hi C 1000000000 := rfl
    rw [e, S1 n]
    exact bent_nn q.1 q.2 n.c1 n.c2
  have e6 : (b6 C K C K (x * 16777216) (x * 16777216) (y * 16777216) (y * 16777216)).hi ≤ 0 := by
    have e : b6 C K C K (x * 16777216) (x * 16777216) (y * 16777216) (y * 16777216) = xScaleS (b4 C K C K (x * 16777216) (x * 16777216) (y * 16777216) (y * 16777216)).lo (b4 C K C K (x * 16777216) (x * 16777216) (y * 16777216) (y * 16777216)).hi (1000000 + K) 1000000 := by
      show xScaleS _ _ (IntKind.i64.wrap (1000000 + K)) _ = _; rw [wrapG n]
    rw [e]; exact scale_np (B4 n).1 e4 (by omega) g
  have e7 : (b7 C K C K (x * 16777216) (x * 16777216) (y * 16777216) (y * 16777216)).hi ≤ 0 := by
    have e : b7 C K C K (x * 16777216) (x * 16777216) (y * 16777216) (y * 16777216) = xScaleS (b5 C K C K (x * 16777216) (x * 16777216) (y * 16777216) (y * 16777216)).lo (b5 C K C K (x * 16777216) (x * 16777216) (y * 16777216) (y * 16777216)).hi (1000000 + K) 1000000 := by
      show xScaleS _ _ (IntKind.i64.wrap (1000000 + K)) _ = _; rw [wrapG n]
    rw [e]; exact scale_np (B5 n).1 e5 (by omega) g
  have e8 := (add_op (B6 n).1 (B7 n).1 (by omega) (by omega)).2.2
  change (b8 C K C K (x * 16777216) (x * 16777216) (y * 16777216) (y * 16777216)).hi = _ at e8
  have e9 := (sub_op one_bd (B8 n).1 (by omega) (by omega)).2.1
  change (b9 C K C K (x * 16777216) (x * 16777216) (y * 16777216) (y * 16777216)).lo = 4294967296 - (b8 C K C K (x * 16777216) (x * 16777216) (y * 16777216) (y * 16777216)).hi at e9
  obtain ⟨_, _, _, d, e⟩ := sqrt_op (K := 68719476736) (B9 n).1 (by omega) (by omega) (by omega)
  change 0 ≤ (b10 C K C K (x * 16777216) (x * 16777216) (y * 16777216) (y * 16777216)).lo at d
  change _ < ((b10 C K C K (x * 16777216) (x * 16777216) (y * 16777216) (y * 16777216)).lo + 1) * ((b10 C K C K (x * 16777216) (x * 16777216) (y * 16777216) (y * 16777216)).lo + 1) at e
  have := lt_of_sq (a := 4294967296) (b := (b10 C K C K (x * 16777216) (x * 16777216) (y * 16777216) (y * 16777216)).lo + 1) (by omega) (by
    refine Int.lt_of_le_of_lt ?_ e
    omega)
  omega
/-- G <= 0. -/
theorem small_neg {C K x y : Int} (n : Nums C K x y) {w : Int} (hw : -32768 ≤ w ∧ w ≤ 32767) (g : 1000000 + K ≤ 0) (k : 0 < (b9 C K C K (x * 16777216) (x * 16777216) (y * 16777216) (y * 16777216)).lo) :
    ∀ p q, (p = (b13 C K C K (x * 16777216) (x * 16777216) (y * 16777216) (y * 16777216)).lo ∨ p = (b13 C K C K (x * 16777216) (x * 16777216) (y * 16777216) (y * 16777216)).hi) → (q = (divS (h2S C K w).lo (h2S C K w).hi (b10 C K C K (x * 16777216) (x * 16777216) (y * 16777216) (y * 16777216)).lo (b10 C K C K (x * 16777216) (x * 16777216) (y * 16777216) (y * 16777216)).hi).lo ∨ q = (divS (h2S C K w).lo (h2S C K w).hi (b10 C K C K (x * 16777216) (x * 16777216) (y * 16777216) (y * 16777216)).lo (b10 C K C K (x * 16777216) (x * 16777216) (y * 16777216) (y * 16777216)).hi).hi) → -(2251799813685248 * 4294967296) ≤ p * q ∧ p * q ≤ 2251799813685248 * 4294967296 := by
  have r := root_big n g
  have zb := (B13 n k).1
  have ub := (div_op (c := 4294967296) (M' := 2360592949) (H2 n hw).1 (B10 n k).1 (by omega) (by omega) (by omega) ⟨by omega, r⟩ (by omega) (by omega)).1
  intro p q hp hq
  have l1 := zb.le; have l2 := zb.lo; have l3 := zb.hi
  have m1 := ub.le; have m2 := ub.lo; have m3 := ub.hi
  exact ab_bd (A := 4611686018428) (B := 2360592949) (by rcases hp with rfl | rfl <;> exact ⟨by first | exact l2 | exact Int.le_trans l2 l1, by first | exact l3 | exact Int.le_trans l1 l3⟩) (by rcases hq with rfl | rfl <;> exact ⟨by first | exact m2 | exact Int.le_trans m2 m1, by first | exact m3 | exact Int.le_trans m1 m3⟩) (by omega)
theorem small {C K x y : Int} (n : Nums C K x y) (k : 0 < (b9 C K C K (x * 16777216) (x * 16777216) (y * 16777216) (y * 16777216)).lo) : Small C K x y := by
  rintro u (rfl | rfl)
  · rcases Int.lt_or_le 0 (1000000 + K) with g | g
    · exact small_pos n ⟨n.x1, n.x2⟩ g k
    · exact small_neg n ⟨n.x1, n.x2⟩ g k
  · rcases Int.lt_or_le 0 (1000000 + K) with g | g
    · exact small_pos n ⟨n.y1, n.y2⟩ g k
    · exact small_neg n ⟨n.y1, n.y2⟩ g k
end Go.Rd


/- The plain law of SurfaceRound No program. -/
namespace Go.Rd
open Go Go.Eng Go.Ar
theorem meet_f {u v : Sp} (h : u.lo ≤ v.hi ∧ v.lo ≤ u.hi) : meet u v = false := by
  unfold meet
  rw [decide_eq_false (by omega), decide_eq_false (by omega)]; rfl
theorem round_true {C K x y : Int} (n : Nums C K x y) (h : 0 < (s6 C K (x * 16777216) (x * 16777216) (y * 16777216) (y * 16777216)).lo) (k : 0 < (b9 C K C K (x * 16777216) (x * 16777216) (y * 16777216) (y * 16777216)).lo) : roundB C K (x * 16777216) (y * 16777216) = true := by
  obtain ⟨⟨a1, a2⟩, b⟩ := slopes n h k (small n k)
  unfold roundB
  rw [meet_f (sags n h k), meet_f b, decide_eq_false (show ¬ (s14 C K (x * 16777216) (x * 16777216) (y * 16777216) (y * 16777216)).lo > (b29 C K C K (x * 16777216) (x * 16777216) (y * 16777216) (y * 16777216)).hi by omega), decide_eq_false (show ¬ (b29 C K C K (x * 16777216) (x * 16777216) (y * 16777216) (y * 16777216)).lo > (s14 C K (x * 16777216) (x * 16777216) (y * 16777216) (y * 16777216)).hi by omega)]
  rfl
theorem round_all {C K x y : Int} (n : Nums C K x y) :
    (PsagSF C K (x * 16777216) (x * 16777216) (y * 16777216) (y * 16777216) ∨ PsagSG C K (x * 16777216) (x * 16777216) (y * 16777216) (y * 16777216) ∧ PslopeS C K (x * 16777216) (x * 16777216) (y * 16777216) (y * 16777216)) ∧ (PsagBF C K C K (x * 16777216) (x * 16777216) (y * 16777216) (y * 16777216) ∨ PsagBG C K C K (x * 16777216) (x * 16777216) (y * 16777216) (y * 16777216) ∧ PslopeB C K C K (x * 16777216) (x * 16777216) (y * 16777216) (y * 16777216)) ∧
    (PslopeS C K (x * 16777216) (x * 16777216) (y * 16777216) (y * 16777216) → PslopeB C K C K (x * 16777216) (x * 16777216) (y * 16777216) (y * 16777216) → roundB C K (x * 16777216) (y * 16777216) = true) := by
  refine ⟨?_, ?_, fun p q => round_true n ?_ ?_⟩
  · rcases Int.lt_or_le 0 (s6 C K (x * 16777216) (x * 16777216) (y * 16777216) (y * 16777216)).lo with h | h
    · exact .inr (inS n h)
    · exact .inl (outS n h)
  · rcases Int.lt_or_le 0 (b9 C K C K (x * 16777216) (x * 16777216) (y * 16777216) (y * 16777216)).lo with h | h
    · exact .inr (inB n h (small n h))
    · exact .inl (outB n h)
  · have := of_decide_eq_false p.h10; omega
  · have := of_decide_eq_false q.h14; omega
theorem round_law {c k x y : Int} (hc : -32768 ≤ c ∧ c ≤ 32767) (hk : -32768 ≤ k ∧ k ≤ 32767) (hx : -32768 ≤ x ∧ x ≤ 32767) (hy : -32768 ≤ y ∧ y ≤ 32767) :
    (PsagSF (cc c) (kk k) (pp x) (pp x) (pp y) (pp y) ∨ PsagSG (cc c) (kk k) (pp x) (pp x) (pp y) (pp y) ∧ PslopeS (cc c) (kk k) (pp x) (pp x) (pp y) (pp y)) ∧
    (PsagBF (cc c) (kk k) (cc c) (kk k) (pp x) (pp x) (pp y) (pp y) ∨ PsagBG (cc c) (kk k) (cc c) (kk k) (pp x) (pp x) (pp y) (pp y) ∧ PslopeB (cc c) (kk k) (cc c) (kk k) (pp x) (pp x) (pp y) (pp y)) ∧
    (PslopeS (cc c) (kk k) (pp x) (pp x) (pp y) (pp y) → PslopeB (cc c) (kk k) (cc c) (kk k) (pp x) (pp x) (pp y) (pp y) → roundB (cc c) (kk k) (pp x) (pp y) = true) := by
  have k1 := kk_range k
  have e := cc_eq hc
  rw [pp_eq hx, pp_eq hy]
  exact round_all ⟨by omega, by omega, k1.1, k1.2, hx.1, hx.2, hy.1, hy.2⟩
end Go.Rd

