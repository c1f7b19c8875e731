/- What is proved: a law of surfaces returns true, whatever the input (part 10 of 21). No conditions beyond those of the row. -/
import Derived.Test.YtiigkjnhmipnfaaGreatDoorPF
import Derived.Test.YtiigkjnhmipnfaaGreatDoorPG
import Derived.Test.YtiigkjnhmipnfaaGreatDoorPI
import Derived.Test.YtiigkjnhmipnfaaGreatDoorProg
import Derived.Laws.Externs
import Derived.KernelRfl
set_option linter.unusedVariables false
set_option linter.unusedSimpArgs false
set_option linter.unusedSectionVars false
namespace Go.Ar
open Go Go.Eng
theorem rd_sign {p d : Int} (hd : 0 < d) (up neg : Bool) : rd (bif neg then -p else p) d up = bif neg then -(p / d + (if (!(up == neg)) = true ∧ 0 < p % d then 1 else 0)) else p / d + (if (!(up == neg)) = true ∧ 0 < p % d then 1 else 0) := by
 unfold rd
 cases neg <;> cases up <;> simp [neg_div hd] <;> split <;> omega
def oNo (p d : Int) : Bool := !decide (p / d ≤ 4503599627370496)
def oQ (p d : Int) : Int := bif oNo p d then 0 else p / d
def oRest (p d : Int) : Bool := bif oNo p d then false else decide (p % d > 0)
def oK (p d : Int) (up neg : Bool) : Int := bif bif oRest p d then !(up == neg) else false then IntKind.u64.wrap (oQ p d + 1) else oQ p d
def oV (p d : Int) (up neg : Bool) : Int := bif !(bif oNo p d then false else true) then 0 else bif decide (oK p d up neg > 4503599627370496) then 0 else bif neg then IntKind.i64.wrap (0 - IntKind.i64.wrap (oK p d up neg)) else IntKind.i64.wrap (oK p d up neg)
def oB (p d : Int) (up neg : Bool) : Bool := bif !(bif oNo p d then false else true) then false else bif decide (oK p d up neg > 4503599627370496) then false else true
theorem put_law {k : Int} (h0 : 0 ≤ k) (h1 : k ≤ 9223372036854775807) (neg : Bool) (v : Int) (hv : v = bif neg then -k else k) :
  (bif decide (k > 4503599627370496) then 0 else bif neg then IntKind.i64.wrap (0 - IntKind.i64.wrap k) else IntKind.i64.wrap k) = fitV v ∧ (bif decide (k > 4503599627370496) then false else true) = okF v := by
 subst hv
 by_cases hb : k > 4503599627370496
 ·have hf : okF (bif neg then -k else k) = false := by
   rw [okF_false]; cases neg <;> simp <;> omega
  simp [hb, fitV, hf]
 ·have hf : okF (bif neg then -k else k) = true := by
   rw [okF_iff]; cases neg <;> simp <;> omega
  simp only [hb, decide_false, cond_false, fitV, hf, cond_true]
  refine ⟨?_, trivial⟩
  rw [i64w (n := k) (by omega) (by omega), i64w (n := 0 - k) (by omega) (by omega)]
  cases neg <;> simp
theorem o_law {p d : Int} (hp : 0 ≤ p) (hd : 0 < d) (up neg : Bool) (n : Int) (hn : n = bif neg then -p else p) : oV p d up neg = fitV (rd n d up) ∧ oB p d up neg = okF (rd n d up) := by
 have q0 : 0 ≤ p / d := Int.ediv_nonneg hp (by omega)
 have rv := rd_sign (p := p) hd up neg
 rw [← hn] at rv
 by_cases hno : p / d ≤ 4503599627370496
 ·have e : oNo p d = false := by simp [oNo, hno]
  have hk : oK p d up neg = p / d + (if (!(up == neg)) = true ∧ 0 < p % d then 1 else 0) := by
   unfold oK oRest oQ
   rw [e]
   simp only [cond_false]
   cases hu : !(up == neg) with
   | false => cases decide (p % d > 0) <;> simp
   | true =>
    by_cases hr : p % d > 0
    ·rw [decide_eq_true hr]
     simp only [cond_true, true_and]
     rw [if_pos (by omega), u64w (by omega) (by omega)]
    ·rw [decide_eq_false hr]
     simp only [cond_false, true_and]
     rw [if_neg (by omega)]; omega
  have hb : 0 ≤ oK p d up neg ∧ oK p d up neg ≤ 9223372036854775807 := by rw [hk]; split <;> omega
  have := put_law hb.1 hb.2 neg (rd n d up) (by rw [rv, hk])
  unfold oV oB
  rw [e]
  exact this
 ·have e : oNo p d = true := by simp [oNo, hno]
  have hf : okF (rd n d up) = false := by rw [okF_false, rv]; cases neg <;> simp <;> split <;> omega
  unfold oV oB fitV
  rw [e, hf]; exact ⟨rfl, rfl⟩
def rmA (x : Int) : Int := IntKind.u64.wrap (x.tdiv 67108864)
def rmL (x : Int) : Int := x.tmod 67108864
def rmH (x y : Int) : Int := IntKind.u64.wrap (rmA x * rmA y)
def rmM (x y : Int) : Int := IntKind.u64.wrap (IntKind.u64.wrap (rmA x * rmL y) + IntKind.u64.wrap (rmL x * rmA y))
def rmR (x y : Int) : Int := IntKind.u64.wrap (IntKind.u64.wrap ((rmM x y).tmod 64 * 67108864) + IntKind.u64.wrap (rmL x * rmL y))
def rmN (x y : Int) : Int := IntKind.u64.wrap (IntKind.u64.wrap (IntKind.u64.wrap (rmH x y * 1048576) + IntKind.u64.wrap ((rmM x y).tdiv 64)) + IntKind.u64.wrap ((rmR x y).tdiv 4294967296))
def rmK (x y : Int) (up neg : Bool) : Int := bif bif decide ((rmR x y).tmod 4294967296 > 0) then !(up == neg) else false then IntKind.u64.wrap (rmN x y + 1) else rmN x y
def rMulV (a b : Int) (up : Bool) : Int := bif decide (rmH (xSz a) (xSz b) ≥ 8589934592) then 0 else bif decide (rmK (xSz a) (xSz b) up (xNeg a b) > 4503599627370496) then 0 else
 bif xNeg a b then IntKind.i64.wrap (0 - IntKind.i64.wrap (rmK (xSz a) (xSz b) up (xNeg a b))) else IntKind.i64.wrap (rmK (xSz a) (xSz b) up (xNeg a b))
def rMulB (a b : Int) (up : Bool) : Bool := bif decide (rmH (xSz a) (xSz b) ≥ 8589934592) then false else bif decide (rmK (xSz a) (xSz b) up (xNeg a b) > 4503599627370496) then false else true
theorem rMul_law {a b : Int} (ha : okF a = true) (hb : okF b = true) (up : Bool) : rMulV a b up = fitV (mF a b up) ∧ rMulB a b up = okF (mF a b up) := by
 obtain ⟨a1, a2, a3⟩ := sz_of ha
 obtain ⟨b1, b2, b3⟩ := sz_of hb
 have hs := xNeg_mul a b
 unfold rMulV rMulB mF
 rw [a1, b1]
 generalize sg a a = x at *
 generalize sg b b = y at *
 have tx : x.tdiv 67108864 = x / 67108864 := Int.tdiv_eq_ediv_of_nonneg a2
 have ty : y.tdiv 67108864 = y / 67108864 := Int.tdiv_eq_ediv_of_nonneg b2
 have mx' : x.tmod 67108864 = x % 67108864 := Int.tmod_eq_emod_of_nonneg a2
 have my' : y.tmod 67108864 = y % 67108864 := Int.tmod_eq_emod_of_nonneg b2
 obtain ⟨xh, hxh⟩ : ∃ xh, xh = x / 67108864 := ⟨_, rfl⟩
 obtain ⟨xl, hxl⟩ : ∃ xl, xl = x % 67108864 := ⟨_, rfl⟩
 obtain ⟨yh, hyh⟩ : ∃ yh, yh = y / 67108864 := ⟨_, rfl⟩
 obtain ⟨yl, hyl⟩ : ∃ yl, yl = y % 67108864 := ⟨_, rfl⟩
 have eAx : rmA x = xh := by unfold rmA; rw [tx, u64w (by omega) (by omega)]; exact hxh.symm
 have eAy : rmA y = yh := by unfold rmA; rw [ty, u64w (by omega) (by omega)]; exact hyh.symm
 have eLx : rmL x = xl := by unfold rmL; rw [mx']; exact hxl.symm
 have eLy : rmL y = yl := by unfold rmL; rw [my']; exact hyl.symm
 have bx : 0 ≤ xh ∧ xh ≤ 67108864 := by omega
 have by' : 0 ≤ yh ∧ yh ≤ 67108864 := by omega
 have bxl : 0 ≤ xl ∧ xl ≤ 67108863 := by omega
 have byl : 0 ≤ yl ∧ yl ≤ 67108863 := by omega
 have p1 : xh * yh ≤ 67108864 * 67108864 := Int.mul_le_mul bx.2 by'.2 by'.1 (by decide)
 have p2 : xh * yl ≤ 67108864 * 67108863 := Int.mul_le_mul bx.2 byl.2 byl.1 (by decide)
 have p3 : xl * yh ≤ 67108863 * 67108864 := Int.mul_le_mul bxl.2 by'.2 by'.1 (by decide)
 have p4 : xl * yl ≤ 67108863 * 67108863 := Int.mul_le_mul bxl.2 byl.2 byl.1 (by decide)
 have z1 : 0 ≤ xh * yh := Int.mul_nonneg bx.1 by'.1
 have z2 : 0 ≤ xh * yl := Int.mul_nonneg bx.1 byl.1
 have z3 : 0 ≤ xl * yh := Int.mul_nonneg bxl.1 by'.1
 have z4 : 0 ≤ xl * yl := Int.mul_nonneg bxl.1 byl.1
 have hP : x * y = xh * yh * 4503599627370496 + (xh * yl + xl * yh) * 67108864 + xl * yl := by
  have ex : x = xh * 67108864 + xl := by omega
  have ey : y = yh * 67108864 + yl := by omega
  rw [ex, ey, Int.add_mul, Int.mul_add, Int.mul_add]
  have c1 : xh * 67108864 * (yh * 67108864) = xh * yh * 4503599627370496 := by
   rw [Int.mul_assoc, Int.mul_left_comm 67108864 yh, ← Int.mul_assoc]
   rfl
  have c2 : xh * 67108864 * yl = xh * yl * 67108864 := by rw [Int.mul_assoc, Int.mul_comm 67108864 yl, ← Int.mul_assoc]
  have c3 : xl * (yh * 67108864) = xl * yh * 67108864 := by rw [Int.mul_assoc]
  rw [c1, c2, c3, Int.add_mul]
  omega
 have eH : rmH x y = xh * yh := by unfold rmH; rw [eAx, eAy, u64w (by omega) (by omega)]
 have eM : rmM x y = xh * yl + xl * yh := by
  unfold rmM; rw [eAx, eAy, eLx, eLy, u64w (n := xh * yl) (by omega) (by omega), u64w (n := xl * yh) (by omega) (by omega), u64w (by omega) (by omega)]
 obtain ⟨hi, hhi⟩ : ∃ hi, hi = xh * yh := ⟨_, rfl⟩
 obtain ⟨mid, hmid⟩ : ∃ mid, mid = xh * yl + xl * yh := ⟨_, rfl⟩
 obtain ⟨low, hlow⟩ : ∃ low, low = xl * yl := ⟨_, rfl⟩
 rw [← hhi, ← hmid, ← hlow] at hP
 rw [← hhi] at eH p1 z1
 rw [← hmid] at eM
 have bm : 0 ≤ mid ∧ mid ≤ 67108864 * 67108863 + 67108863 * 67108864 := by omega
 have bl : 0 ≤ low ∧ low ≤ 67108863 * 67108863 := by omega
 have eR : rmR x y = mid % 64 * 67108864 + low := by
  unfold rmR
  rw [eM, eLx, eLy, ← hlow, Int.tmod_eq_emod_of_nonneg bm.1, u64w (n := mid % 64 * 67108864) (by omega) (by omega), u64w (n := low) (by omega) (by omega), u64w (by omega) (by omega)]
 obtain ⟨left, hleft⟩ : ∃ left, left = mid % 64 * 67108864 + low := ⟨_, rfl⟩
 rw [← hleft] at eR
 have bleft : 0 ≤ left ∧ left < 9007199254740992 := by omega
 have hp0 : 0 ≤ x * y := by omega
 have hdiv : x * y / 4294967296 = hi * 1048576 + mid / 64 + left / 4294967296 := by omega
 have hmod : x * y % 4294967296 = left % 4294967296 := by omega
 have rv := rd_sign (p := x * y) (d := 4294967296) (by decide) up (xNeg a b)
 rw [← hs] at rv
 rw [eH]
 by_cases hbig : hi ≥ 8589934592
 ·have hf : okF (rd (a * b) 4294967296 up) = false := by
   rw [okF_false, rv, hdiv]
   cases xNeg a b <;> simp <;> split <;> omega
  rw [decide_eq_true hbig]
  simp [fitV, hf]
 ·rw [decide_eq_false hbig]
  simp only [cond_false]
  have eN : rmN x y = hi * 1048576 + mid / 64 + left / 4294967296 := by
   unfold rmN
   rw [eH, eM, eR, Int.tdiv_eq_ediv_of_nonneg bm.1, Int.tdiv_eq_ediv_of_nonneg bleft.1]
   rw [u64w (n := hi * 1048576) (by omega) (by omega), u64w (n := mid / 64) (by omega) (by omega), u64w (n := left / 4294967296) (by omega) (by omega), u64w (n := hi * 1048576 + mid / 64) (by omega) (by omega), u64w (by omega) (by omega)]
  have hk : rmK x y up (xNeg a b) = x * y / 4294967296 + (if (!(up == xNeg a b)) = true ∧ 0 < x * y % 4294967296 then 1 else 0) := by
   unfold rmK
   rw [eN, eR, hdiv, hmod, Int.tmod_eq_emod_of_nonneg bleft.1]
   cases hu : !(up == xNeg a b) with
   | false => cases decide (left % 4294967296 > 0) <;> simp
   | true =>
    by_cases hr : left % 4294967296 > 0
    ·rw [decide_eq_true hr]
     simp only [cond_true, true_and]
     rw [if_pos (by omega), u64w (by omega) (by omega)]
    ·rw [decide_eq_false hr]
     simp only [cond_false, true_and]
     rw [if_neg (by omega)]; omega
  have hb : 0 ≤ rmK x y up (xNeg a b) ∧ rmK x y up (xNeg a b) ≤ 9223372036854775807 := by rw [hk, hdiv]; split <;> omega
  exact put_law hb.1 hb.2 (xNeg a b) _ (by rw [rv, hk])
def rs2 (a i : Int) : Int := bif decide (IntKind.i64.wrap (2 * i) ≥ 32) then (a.fdiv (2 ^ min (IntKind.u64.wrap (IntKind.i64.wrap (IntKind.i64.wrap (2 * i) - 32))).toNat IntKind.i64.bits)).tmod 4 else 0
def rs6 (a i rest : Int) : Int := IntKind.i64.wrap (IntKind.i64.wrap (4 * rest) + rs2 a i)
def rs8 (root : Int) : Int := IntKind.i64.wrap (IntKind.i64.wrap (4 * root) + 1)
def rsG (a i root rest : Int) : Bool := decide (rs6 a i rest ≥ rs8 root)
def rsRoot (a i root rest : Int) : Int := bif rsG a i root rest then IntKind.i64.wrap (IntKind.i64.wrap (2 * root) + 1) else IntKind.i64.wrap (2 * root)
def rsRest (a i root rest : Int) : Int := bif rsG a i root rest then IntKind.i64.wrap (rs6 a i rest - rs8 root) else rs6 a i rest
def rsO (root rest : Int) : Patch := ⟨deadT 7 43 ++ [(5, .int true .i64 root), (6, .int true .i64 rest)], [], []⟩
def rsF (a : Int) : Nat → Int → Int → Int → Int × Int
 | 0, _, root, rest => (root, rest)
 | k + 1, i, root, rest => rsF a k (IntKind.i64.wrap (i - 1)) (rsRoot a i root rest) (rsRest a i root rest)
theorem rs_two (a k : Nat) (ha : a ≤ 4503599627370496) (hk : k ≤ 42) : rs2 a k = ((a * 4294967296 / 4 ^ k % 4 : Nat) : Int) := by
 unfold rs2
 rw [i64w (n := 2 * (k : Int)) (by omega) (by omega)]
 by_cases h : 16 ≤ k
 ·rw [decide_eq_true (by omega), cond_true, i64w (n := 2 * (k : Int) - 32) (by omega) (by omega), u64w (by omega) (by omega)]
  rw [show (2 * (k : Int) - 32).toNat = 2 * (k - 16) by omega, Nat.min_eq_left (Nat.le_trans (show 2 * (k - 16) ≤ 64 by omega) (by decide))]
  rw [show (2 : Int) ^ (2 * (k - 16)) = ((4 ^ (k - 16) : Nat) : Int) from (Int.natCast_pow 2 (2 * (k - 16))).symm.trans (by rw [Nat.pow_mul])]
  rw [Int.fdiv_eq_ediv_of_nonneg _ (Int.natCast_nonneg _), ← Int.natCast_ediv, Int.tmod_eq_emod_of_nonneg (Int.natCast_nonneg _)]
  have : a * 4294967296 / 4 ^ k = a / 4 ^ (k - 16) := by
   rw [show 4 ^ k = 4294967296 * 4 ^ (k - 16) by rw [show (4294967296 : Nat) = 4 ^ 16 by decide, ← Nat.pow_add]; congr 1; omega]
   rw [← Nat.div_div_eq_div_mul, Nat.mul_div_cancel _ (by decide)]
  rw [this]
  omega
 ·rw [decide_eq_false (by omega), cond_false]
  have : a * 4294967296 / 4 ^ k = a * 4 ^ (16 - k) := by
   rw [show (4294967296 : Nat) = 4 ^ (16 - k) * 4 ^ k by rw [← Nat.pow_add, show 16 - k + k = 16 by omega]]
   rw [← Nat.mul_assoc, Nat.mul_div_cancel _ (Nat.pow_pos (by decide))]
  rw [this, show 16 - k = (15 - k) + 1 by omega, Nat.pow_succ, ← Nat.mul_assoc, Nat.mul_mod_left]
  rfl
theorem rs_step (a k P root : Nat) (ha : a ≤ 4503599627370496) (hk : k ≤ 42) (hP : P = a * 4294967296 / 4 ^ (k + 1)) (h1 : root * root ≤ P) (h2 : P < (root + 1) * (root + 1)) (h3 : root ≤ 8796093022208) :
  ∃ root' : Nat, rsRoot a k root ((P - root * root : Nat) : Int) = (root' : Int) ∧ rsRest a k root ((P - root * root : Nat) : Int) = ((a * 4294967296 / 4 ^ k - root' * root' : Nat) : Int) ∧ root' * root' ≤ a * 4294967296 / 4 ^ k ∧ a * 4294967296 / 4 ^ k < (root' + 1) * (root' + 1) := by
 have hQ : a * 4294967296 / 4 ^ k = 4 * P + a * 4294967296 / 4 ^ k % 4 := by
  rw [hP, Nat.pow_succ, ← Nat.div_div_eq_div_mul]; omega
 have t2 := rs_two a k ha hk
 generalize a * 4294967296 / 4 ^ k = Q at *
 have hrest : P - root * root ≤ 2 * root := by
  rw [Nat.add_mul, Nat.mul_add] at h2; omega
 generalize hR : P - root * root = R at *
 have e6 : rs6 a k (R : Int) = ((4 * R + Q % 4 : Nat) : Int) := by
  unfold rs6; rw [t2, i64w (n := 4 * (R : Int)) (by omega) (by omega), i64w (by omega) (by omega)]; omega
 have e8 : rs8 (root : Int) = ((4 * root + 1 : Nat) : Int) := by
  unfold rs8; rw [i64w (n := 4 * (root : Int)) (by omega) (by omega), i64w (by omega) (by omega)]; omega
 have g : rsG a k root (R : Int) = decide (4 * root + 1 ≤ 4 * R + Q % 4) := by
  unfold rsG; rw [e6, e8, Bool.eq_iff_iff, decide_eq_true_eq, decide_eq_true_eq]; omega
 have sq0 : (2 * root) * (2 * root) = 4 * (root * root) := by rw [Nat.mul_mul_mul_comm]
 have sq1 : (2 * root + 1) * (2 * root + 1) = 4 * (root * root) + 4 * root + 1 := by rw [Nat.add_mul, Nat.mul_add, sq0]; omega
 have sq2 : (2 * root + 1 + 1) * (2 * root + 1 + 1) = 4 * (root * root) + 8 * root + 4 := by rw [Nat.add_mul, Nat.mul_add, sq1]; omega
 have exp : (root + 1) * (root + 1) = root * root + 2 * root + 1 := by rw [Nat.add_mul, Nat.mul_add]; omega
 rw [exp] at h2
 generalize root * root = S at *
 by_cases c : 4 * root + 1 ≤ 4 * R + Q % 4
 ·refine ⟨2 * root + 1, ?_, ?_, by omega, by omega⟩
  ·unfold rsRoot; rw [g, decide_eq_true c, cond_true, i64w (n := 2 * (root : Int)) (by omega) (by omega), i64w (by omega) (by omega)]; omega
  ·unfold rsRest; rw [g, decide_eq_true c, cond_true, e6, e8, i64w (by omega) (by omega)]; omega
 ·refine ⟨2 * root, ?_, ?_, by omega, by omega⟩
  ·unfold rsRoot; rw [g, decide_eq_false c, cond_false, i64w (by omega) (by omega)]; omega
  ·unfold rsRest; rw [g, decide_eq_false c, cond_false, e6]; omega
theorem rs_spec (a : Nat) (ha : a ≤ 4503599627370496) : ∀ k root : Nat, k ≤ 43 → root * root ≤ a * 4294967296 / 4 ^ k → a * 4294967296 / 4 ^ k < (root + 1) * (root + 1) →
  ∃ r : Nat, rsF a k ((k : Int) - 1) (root : Int) ((a * 4294967296 / 4 ^ k - root * root : Nat) : Int) = ((r : Int), ((a * 4294967296 - r * r : Nat) : Int)) ∧ r * r ≤ a * 4294967296 ∧ a * 4294967296 < (r + 1) * (r + 1)
 | 0, root, _, h1, h2 => by
  rw [Nat.pow_zero, Nat.div_one] at h1 h2 ⊢
  exact ⟨root, by rw [rsF], h1, h2⟩
 | k + 1, root, hk, h1, h2 => by
  have hr : root ≤ 8796093022208 := by
   rcases Nat.lt_or_ge 8796093022208 root with h | h
   ·have h0 : 8796093022209 ≤ root := by omega
    have h3 : 8796093022209 * 8796093022209 ≤ root * root := Nat.mul_le_mul h0 h0
    have h4 : a * 4294967296 / 4 ^ (k + 1) ≤ a * 4294967296 := Nat.div_le_self _ _
    omega
   ·exact h
  obtain ⟨root', s1, s2, s3, s4⟩ := rs_step a k _ root ha (by omega) rfl h1 h2 hr
  have e : ((k + 1 : Nat) : Int) - 1 = (k : Int) := by omega
  rw [e]
  rw [rsF]
  rw [s1, s2, show IntKind.i64.wrap ((k : Int) - 1) = (k : Int) - 1 from i64w (by omega) (by omega)]
  exact rs_spec a ha k root' (by omega) s3 s4
def rsV (a : Int) (up : Bool) : Int := bif bif up then decide ((rsF a 43 42 0 0).2 > 0) else false then IntKind.i64.wrap ((rsF a 43 42 0 0).1 + 1) else (rsF a 43 42 0 0).1
theorem z43 (n : Nat) (h : n ≤ 4503599627370496) : n * 4294967296 / 4 ^ 43 = 0 := Nat.div_eq_of_lt (by
 have : (4 : Nat) ^ 43 = 77371252455336267181195264 := by decide
 omega)
theorem rs_end (n : Nat) (h : n ≤ 4503599627370496) : ∃ r : Nat, rsF n 43 42 0 0 = ((r : Int), ((n * 4294967296 - r * r : Nat) : Int)) ∧ r * r ≤ n * 4294967296 ∧ n * 4294967296 < (r + 1) * (r + 1) := by
 have z := z43 n h
 obtain ⟨r, e, k1, k2⟩ := rs_spec n h 43 0 (by decide) (by rw [z]; decide) (by rw [z]; decide)
 rw [z, show ((43 : Nat) : Int) - 1 = 42 by decide, Nat.mul_zero, Nat.sub_zero, Int.natCast_zero] at e
 exact ⟨r, e, k1, k2⟩
theorem rs_law {a : Int} (h : sqOk a = true) (up : Bool) : rsV a up = rtV a up := by
 obtain ⟨r0, r1, r2, r3⟩ := sqR_spec h
 simp only [sqOk, Bool.and_eq_true, decide_eq_true_eq] at h
 have h1 := okF_iff.1 h.1
 obtain ⟨n, rfl⟩ := Int.eq_ofNat_of_zero_le h.2
 obtain ⟨r, e, k1, k2⟩ := rs_end n (by omega)
 obtain ⟨s, hs⟩ := Int.eq_ofNat_of_zero_le r0
 rw [hs] at r1 r2 r3
 have c1 : ((s * s : Nat) : Int) = (s : Int) * s := Int.natCast_mul s s
 have c2 : (((s + 1) * (s + 1) : Nat) : Int) = ((s : Int) + 1) * (s + 1) := by rw [Int.natCast_mul]; rfl
 have hrs : r = s := root_unique k1 k2 (by omega) (by omega)
 subst hrs
 obtain ⟨w, hw⟩ : ∃ w : Nat, w = n * 4294967296 - r * r := ⟨_, rfl⟩
 rw [← hw] at e
 have hw2 : decide ((w : Int) > 0) = !((r : Int) * r == (n : Int) * 4294967296) := by
  rw [Bool.eq_iff_iff, decide_eq_true_eq, Bool.not_eq_true', beq_eq_false_iff_ne]
  constructor
  ·intro h5 h6; omega
  ·intro h5; omega
 rw [rsV, rtV, e, hs]
 rw [hw2]
 cases up with
 | false => rfl
 | true =>
  cases hb : ((r : Int) * r == (n : Int) * 4294967296) with
  | true => rfl
  | false =>
   simp only [cond_true, Bool.true_and, Bool.not_false]
   exact i64w (by omega) (by omega)
def rRt (x : Int) : Bool := bif decide (x ≥ -4503599627370496) then decide (x ≤ 4503599627370496) else false
def rOkS (a n d : Int) : Bool := bif !rRt a then true else bif decide (n < -4611686018427387904) then true else bif decide (n > 4611686018427387904) then true else bif decide (d < 1) then true else decide (d > 4611686018427387904)
def rScF (a n d : Int) (up : Bool) : Bool := bif !oB (xSz a * xSz n) (IntKind.u64.wrap d) up (xNeg a n) then true else !rRt (oV (xSz a * xSz n) (IntKind.u64.wrap d) up (xNeg a n))
def rScV (a n d : Int) (up : Bool) : Int := bif rOkS a n d then 0 else bif rScF a n d up then 0 else oV (xSz a * xSz n) (IntKind.u64.wrap d) up (xNeg a n)
def rScE (a n d : Int) (up : Bool) : Int := bif rOkS a n d then 2 else bif rScF a n d up then 6 else 0
theorem rRt_eq (x : Int) : rRt x = okF x := by
 unfold rRt okF
 by_cases h : x ≥ -4503599627370496
 ·rw [decide_eq_true h]; rfl
 ·rw [decide_eq_false h]; rfl
theorem rOkS_eq (a n d : Int) : rOkS a n d = !okS a n d := by
 have := xOkS_eq a n d
 unfold rOkS
 unfold xOkS at this
 rw [rRt_eq]
 rw [xC_eq] at this
 rw [← this]
 cases okF a <;> rfl
theorem okF_fitV (v : Int) : okF (fitV v) = true := by
 unfold fitV
 cases h : okF v with
 | true => exact h
 | false => rfl
theorem rSc_law (a n d : Int) (up : Bool) : rScV a n d up = scaleV a n d up ∧ rScE a n d up = scaleE a n d up := by
 unfold rScV rScE scaleV scaleE rScF
 rw [rOkS_eq]
 cases h : okS a n d with
 | false => exact ⟨rfl, rfl⟩
 | true =>
  simp only [okS, Bool.and_eq_true, decide_eq_true_eq] at h
  obtain ⟨ha, ⟨⟨n1, n2⟩, d1⟩, d2⟩ := h
  obtain ⟨a1, a2, a3⟩ := sz_of ha
  have e1 : xSz n = sg n n := xSz_eq (by omega) (by omega)
  have e2 := sg_nonneg n
  rw [a1, e1, u64w (n := d) (by omega) (by omega)]
  obtain ⟨v, b⟩ := o_law (p := sg a a * sg n n) (d := d) (Int.mul_nonneg a2 e2) (by omega) up (xNeg a n) (a * n) (xNeg_mul a n)
  rw [v, b, rRt_eq, okF_fitV]
  unfold fitV fitE
  cases okF (rd (a * n) d up) <;> exact ⟨rfl, rfl⟩
def rDivV (a b : Int) (up : Bool) : Int := oV (4294967296 * xSz a) (xSz b) up (xNeg a b)
def rDivB (a b : Int) (up : Bool) : Bool := oB (4294967296 * xSz a) (xSz b) up (xNeg a b)
theorem rDiv_law {a b : Int} (ha : okF a = true) (hb : okF b = true) (h0 : b ≠ 0) (up : Bool) : rDivV a b up = fitV (dF a b up) ∧ rDivB a b up = okF (dF a b up) := by
 obtain ⟨a1, a2, a3⟩ := sz_of ha
 obtain ⟨b1, b2, b3⟩ := sz_of hb
 have hpos : 0 < sg b b := by rcases sg_cases b with ⟨_, e⟩ | ⟨_, e⟩ <;> omega
 unfold rDivV rDivB
 rw [a1, b1, Int.mul_comm]
 exact o_law (by omega) hpos up (xNeg a b) _ (xNeg_div a b)
end Go.Ar
namespace Go.Ar
open Go Go.Eng
def pN (o x y c : Int) : Int := IntKind.i64.wrap (IntKind.i64.wrap (o + IntKind.i64.wrap (x * y)) + c)
def rowP (x : Int) : List Int → List Int → Int → List Int
 | y :: ys, o :: os, c => (pN o x y c).tmod 65536 :: rowP x ys os (IntKind.i64.wrap ((pN o x y c).tdiv 65536))
 | [], _ :: os, c => c :: os
 | _, [], _ => []
def prodP : List Int → List Int → List Int → List Int
 | x :: xs, ys, out => match rowP x ys out 0 with
  | o :: os => o :: prodP xs ys os
  | [] => []
 | [], _, out => out
def dgP : Nat → Int → List Int
 | 0, _ => []
 | k + 1, v => v.tmod 65536 :: dgP k (IntKind.i64.wrap (v.tdiv 65536))
def zeroP : Nat → List Int
 | 0 => []
 | k + 1 => 0 :: zeroP k
def pwL (k : Nat) (v : Int) : List Int := prodP (prodP [1] (dgP k v) (zeroP (1 + k))) (dgP k v) (zeroP (1 + k + k))
def nxP (o x : Int) : Int := IntKind.i64.wrap (IntKind.i64.wrap (o * 65536) + x)
def topV : List Int → Int → Int
 | [], o => o
 | x :: xs, o => topV xs (nxP o x)
def topG : List Int → Int → Bool
 | [], _ => true
 | x :: xs, o => match xs with
  | [] => !decide (o > 68719476736)
  | _ :: _ => !decide (o > 68719476736) && topG xs (nxP o x)
def topL (k : Nat) (v : Int) : List Int := ((pwL k v).drop 2).reverse
def lowP (l : List Int) : Bool := match l with
 | a :: b :: _ => bif decide (a > 0) then true else decide (b > 0)
 | _ => false
def outP (k : Nat) (v : Int) (up : Bool) : Int := match topL k v with
 | [] => 0
 | t :: r => bif (bif up then lowP (pwL k v) else false) then IntKind.i64.wrap (topV r (nxP 0 t) + 1) else topV r (nxP 0 t)
def fitP (k : Nat) (v : Int) : Bool := match topL k v with
 | [] => true
 | t :: r => topG r (nxP 0 t)
def valP : List Int → Int
 | [] => 0
 | x :: l => x + 65536 * valP l
def digP (l : List Int) : Prop := ∀ x ∈ l, 0 ≤ x ∧ x < 65536
theorem digP_cons {x : Int} {l : List Int} : digP (x :: l) ↔ (0 ≤ x ∧ x < 65536) ∧ digP l := by simp [digP]
theorem valP_nonneg : ∀ {l : List Int}, digP l → 0 ≤ valP l
 | [], _ => by simp [valP]
 | x :: l, h => by
  have h := digP_cons.1 h
  have := valP_nonneg h.2
  simp only [valP]; omega
theorem pN_eq {o x y c : Int} (ho : 0 ≤ o ∧ o < 65536) (hx : 0 ≤ x ∧ x < 65536) (hy : 0 ≤ y ∧ y < 65536) (hc : 0 ≤ c ∧ c < 65536) : pN o x y c = o + x * y + c ∧ 0 ≤ x * y ∧ x * y ≤ 65535 * 65535 := by
 have h1 : 0 ≤ x * y := Int.mul_nonneg hx.1 hy.1
 have h2 : x * y ≤ 65535 * 65535 := Int.mul_le_mul (by omega) (by omega) hy.1 (by decide)
 unfold pN
 rw [i64w (n := x * y) (by omega) (by omega), i64w (n := o + x * y) (by omega) (by omega), i64w (by omega) (by omega)]
 exact ⟨rfl, h1, h2⟩
theorem row_law {x : Int} (hx : 0 ≤ x ∧ x < 65536) : ∀ (ys out : List Int) (c : Int), digP ys → digP out → (0 ≤ c ∧ c < 65536) → ys.length < out.length → (∀ j, ys.length ≤ j → ∀ z, out[j]? = some z → z = 0) →
  digP (rowP x ys out c) ∧ (rowP x ys out c).length = out.length ∧ valP (rowP x ys out c) = valP out + x * valP ys + c ∧ ∀ j, ys.length + 1 ≤ j → ∀ z, (rowP x ys out c)[j]? = some z → z = 0
 | ys, [], c, _, _, _, h, _ => by simp at h
 | [], o :: os, c, _, ho, hc, _, hz => by
  have ho := digP_cons.1 ho
  have h0 : o = 0 := hz 0 (Nat.le_refl _) o rfl
  subst h0
  refine ⟨digP_cons.2 ⟨hc, ho.2⟩, rfl, by simp only [rowP, valP]; omega, fun j hj z hjz => ?_⟩
  cases j with
  | zero => simp at hj
  | succ j => exact hz (j + 1) (Nat.zero_le _) z hjz
 | y :: ys, o :: os, c, hy, ho, hc, hl, hz => by
  have hy := digP_cons.1 hy
  have ho := digP_cons.1 ho
  obtain ⟨e, p0, p1⟩ := pN_eq ho.1 hx hy.1 hc
  have n0 : 0 ≤ pN o x y c := by omega
  have n1 : pN o x y c < 4294967296 := by omega
  have em : (pN o x y c).tmod 65536 = pN o x y c % 65536 := Int.tmod_eq_emod_of_nonneg n0
  have ed : IntKind.i64.wrap ((pN o x y c).tdiv 65536) = pN o x y c / 65536 := by
   rw [Int.tdiv_eq_ediv_of_nonneg n0, i64w (by omega) (by omega)]
  obtain ⟨i1, i2, i3, i4⟩ := row_law hx ys os (pN o x y c / 65536) hy.2 ho.2 (by omega) (by simpa using hl) fun j hj z hjz => hz (j + 1) (by simp; omega) z (by simpa using hjz)
  simp only [rowP]
  rw [em, ed]
  refine ⟨digP_cons.2 ⟨by omega, i1⟩, by simp [i2], ?_, fun j hj z hjz => ?_⟩
  ·simp only [valP]
   rw [i3, e]
   have h5 : x * (y + 65536 * valP ys) = x * y + 65536 * (x * valP ys) := by rw [Int.mul_add, Int.mul_left_comm]
   rw [h5]
   generalize x * valP ys = A
   omega
  ·cases j with
   | zero => simp at hj
   | succ j => exact i4 j (by simp at hj; omega) z (by simpa using hjz)
theorem prod_law : ∀ (xs ys out : List Int), digP xs → digP ys → digP out → out.length = xs.length + ys.length → (∀ j, ys.length ≤ j → ∀ z, out[j]? = some z → z = 0) →
  digP (prodP xs ys out) ∧ (prodP xs ys out).length = out.length ∧ valP (prodP xs ys out) = valP out + valP xs * valP ys
 | [], ys, out, _, _, ho, _, _ => ⟨ho, rfl, by simp [prodP, valP]⟩
 | x :: xs, ys, out, hx, hy, ho, hl, hz => by
  have hx := digP_cons.1 hx
  obtain ⟨r1, r2, r3, r4⟩ := row_law hx.1 ys out 0 hy ho (by omega) (by simp at hl; omega) hz
  simp only [prodP]
  cases hr : rowP x ys out 0 with
  | nil => rw [hr] at r2; simp at r2 hl; omega
  | cons o os =>
   rw [hr] at r1 r2 r3 r4
   have r1 := digP_cons.1 r1
   obtain ⟨i1, i2, i3⟩ := prod_law xs ys os hx.2 hy r1.2 (by simp at r2 hl; omega) fun j hj z hjz => r4 (j + 1) (by omega) z (by simpa using hjz)
   refine ⟨digP_cons.2 ⟨r1.1, i1⟩, by simp at r2 ⊢; omega, ?_⟩
   simp only [valP] at r3 ⊢
   rw [i3, Int.add_mul, Int.mul_add, Int.mul_assoc]
   omega
theorem zero_law : ∀ k, digP (zeroP k) ∧ (zeroP k).length = k ∧ valP (zeroP k) = 0 ∧ ∀ (j : Nat) z, (zeroP k)[j]? = some z → z = 0
 | 0 => ⟨fun x h => (by cases h), rfl, rfl, fun j z h => (by simp [zeroP] at h)⟩
 | k + 1 => by
  obtain ⟨h1, h2, h3, h4⟩ := zero_law k
  refine ⟨digP_cons.2 ⟨by omega, h1⟩, by simp [zeroP, h2], by simp [zeroP, valP, h3], fun j z h => ?_⟩
  cases j with
  | zero => simp [zeroP] at h; exact h.symm
  | succ j => exact h4 j z (by simpa [zeroP] using h)
theorem dg_law : ∀ (k : Nat) (v : Int), 0 ≤ v → v < 9223372036854775808 → v < 65536 ^ k → digP (dgP k v) ∧ (dgP k v).length = k ∧ valP (dgP k v) = v
 | 0, v, h0, _, h1 => by
  rw [Int.pow_zero] at h1
  exact ⟨fun x h => (by cases h), rfl, by simp only [dgP, valP]; omega⟩
 | k + 1, v, h0, hb, h1 => by
  have ed : IntKind.i64.wrap (v.tdiv 65536) = v / 65536 := by rw [Int.tdiv_eq_ediv_of_nonneg h0, i64w (by omega) (by omega)]
  obtain ⟨i1, i2, i3⟩ := dg_law k (v / 65536) (by omega) (by omega) (by rw [Int.pow_succ] at h1; omega)
  simp only [dgP]
  rw [ed, Int.tmod_eq_emod_of_nonneg h0]
  exact ⟨digP_cons.2 ⟨by omega, i1⟩, by simp [i2], by simp only [valP, i3]; omega⟩
theorem pwL_law (k : Nat) (v : Int) (h0 : 0 ≤ v) (hb : v < 9223372036854775808) (h1 : v < 65536 ^ k) : digP (pwL k v) ∧ (pwL k v).length = 1 + k + k ∧ valP (pwL k v) = v * v := by
 obtain ⟨d1, d2, d3⟩ := dg_law k v h0 hb h1
 obtain ⟨z1, z2, z3, z4⟩ := zero_law (1 + k)
 obtain ⟨y1, y2, y3, y4⟩ := zero_law (1 + k + k)
 obtain ⟨p1, p2, p3⟩ := prod_law [1] (dgP k v) (zeroP (1 + k)) (digP_cons.2 ⟨by omega, fun x h => by cases h⟩) d1 z1 (by simp [z2, d2]) fun j _ z h => z4 j z h
 obtain ⟨q1, q2, q3⟩ := prod_law _ (dgP k v) (zeroP (1 + k + k)) p1 d1 y1 (by rw [p2, z2, d2, y2]) fun j _ z h => y4 j z h
 refine ⟨q1, by rw [pwL, q2, y2], ?_⟩
 rw [pwL, q3, p3, y3, z3, d3]
 simp [valP]
def tvP : List Int → Int → Int
 | [], o => o
 | x :: xs, o => tvP xs (o * 65536 + x)
theorem tv_mono : ∀ {l : List Int} {o : Int}, digP l → 0 ≤ o → o ≤ tvP l o ∧ (l ≠ [] → o ≤ tvP l o / 65536)
 | [], o, _, h => ⟨by simp [tvP], fun h => absurd rfl h⟩
 | x :: l, o, hd, h => by
  have hd := digP_cons.1 hd
  obtain ⟨i1, i2⟩ := tv_mono (l := l) (o := o * 65536 + x) hd.2 (by omega)
  simp only [tvP]
  exact ⟨by omega, fun _ => by omega⟩
theorem top_law : ∀ {l : List Int} {o : Int}, digP l → 0 ≤ o → l ≠ [] → topG l o = decide (tvP l o / 65536 ≤ 68719476736) ∧ (topG l o = true → topV l o = tvP l o)
 | [], o, _, _, h => absurd rfl h
 | [x], o, hd, h, _ => by
  have hd := digP_cons.1 hd
  have e : (o * 65536 + x) / 65536 = o := by omega
  have hs : topG [x] o = !decide (o > 68719476736) := rfl
  have ht : tvP [x] o = o * 65536 + x := rfl
  have hv : topV [x] o = nxP o x := rfl
  rw [hs, ht, hv]
  refine ⟨by rw [Bool.eq_iff_iff, Bool.not_eq_true', decide_eq_false_iff_not, decide_eq_true_eq]; omega, fun hg => ?_⟩
  rw [Bool.not_eq_true', decide_eq_false_iff_not] at hg
  unfold nxP
  rw [i64w (n := o * 65536) (by omega) (by omega), i64w (by omega) (by omega)]
 | x :: y :: l, o, hd, h, _ => by
  have hd := digP_cons.1 hd
  have m := tv_mono (l := x :: y :: l) (o := o) (digP_cons.2 hd) h
  have hstep : topG (x :: y :: l) o = (!decide (o > 68719476736) && topG (y :: l) (nxP o x)) := rfl
  have hv : topV (x :: y :: l) o = topV (y :: l) (nxP o x) := rfl
  have ht : tvP (x :: y :: l) o = tvP (y :: l) (o * 65536 + x) := rfl
  by_cases c : o > 68719476736
  ·have m2 := m.2 (by simp)
   rw [hstep, decide_eq_true c]
   refine ⟨?_, fun hg => by simp at hg⟩
   rw [decide_eq_false (by omega)]; rfl
  ·have e : nxP o x = o * 65536 + x := by
    unfold nxP; rw [i64w (n := o * 65536) (by omega) (by omega), i64w (by omega) (by omega)]
   obtain ⟨i1, i2⟩ := top_law (l := y :: l) (o := o * 65536 + x) hd.2 (by omega) (by simp)
   rw [hstep, hv, ht, e, decide_eq_false c]
   exact ⟨by rw [i1]; rfl, fun hg => i2 (by simpa using hg)⟩
theorem tv_append : ∀ (l : List Int) (x o : Int), tvP (l ++ [x]) o = tvP l o * 65536 + x
 | [], x, o => rfl
 | y :: l, x, o => by simp only [List.cons_append, tvP]; exact tv_append l x _
theorem tv_rev : ∀ l : List Int, tvP l.reverse 0 = valP l
 | [] => rfl
 | x :: l => by rw [List.reverse_cons, tv_append, tv_rev l]; simp only [valP]; omega
def pEarly (v : Int) : Bool := decide (v * v / 4294967296 / 65536 > 68719476736)
def pV (v : Int) (up : Bool) : Int := bif pEarly v then 0 else rd (v * v) 4294967296 up
def pB (v : Int) (up : Bool) : Bool := bif pEarly v then false else decide (rd (v * v) 4294967296 up ≤ 4503599627370496)
theorem pw_core (k : Nat) (hk : 1 ≤ k) (v : Int) (h0 : 0 ≤ v) (hb : v ≤ 4503599627370496) (h1 : v < 65536 ^ k) : ∃ t r, topL k v = t :: r ∧ (r = [] → k = 1) ∧
  (2 ≤ k → topG r (nxP 0 t) = !pEarly v) ∧ (k = 1 → pEarly v = false ∧ r = []) ∧ (pEarly v = false → ∀ up, outP k v up = rd (v * v) 4294967296 up) := by
 obtain ⟨l1, l2, l3⟩ := pwL_law k v h0 (by omega) h1
 match hL : pwL k v, l1, l2, l3 with
 | [], _, l2, _ => simp at l2; omega
 | [_], _, l2, _ => simp at l2; omega
 | a :: b :: l, l1, l2, l3 =>
  have a1 := digP_cons.1 l1
  have b1 := digP_cons.1 a1.2
  simp only [valP] at l3
  have hl : l.length = 2 * k - 1 := by simp at l2; omega
  have hT : topL k v = l.reverse := by unfold topL; rw [hL]; rfl
  have hq : v * v / 4294967296 = valP l ∧ v * v % 4294967296 = a + 65536 * b := by
   have := valP_nonneg b1.2
   generalize v * v = P at l3 ⊢
   omega
  have hd : digP l.reverse := fun x hx => b1.2 x (List.mem_reverse.1 hx)
  cases hr : l.reverse with
  | nil =>
   have : l.length = 0 := by rw [← List.length_reverse, hr]; rfl
   omega
  | cons t r =>
   have hlen : r.length = 2 * k - 2 := by have := congrArg List.length hr; simp at this; omega
   rw [hr] at hd
   have hd := digP_cons.1 hd
   have tv := tv_rev l
   rw [hr] at tv
   simp only [tvP] at tv
   have e0 : nxP 0 t = 0 * 65536 + t := by
    unfold nxP; rw [i64w (n := 0 * 65536) (by omega) (by omega), i64w (by omega) (by omega)]
   have low : lowP (a :: b :: l) = decide (0 < v * v % 4294967296) := by
    have hlow : lowP (a :: b :: l) = (bif decide (a > 0) then true else decide (b > 0)) := rfl
    rw [hlow, hq.2]
    by_cases ha : a > 0
    ·rw [decide_eq_true ha, cond_true, decide_eq_true (by omega)]
    ·rw [decide_eq_false ha, cond_false, Bool.eq_iff_iff, decide_eq_true_eq, decide_eq_true_eq]; omega
   have out : (r ≠ [] → topG r (nxP 0 t) = true) → valP l / 65536 ≤ 68719476736 → ∀ up, outP k v up = rd (v * v) 4294967296 up := by
    intro hg hle up
    have ht : topV r (nxP 0 t) = valP l := by
     by_cases hn : r = []
     ·subst hn
      rw [e0]; exact tv
     ·have := (top_law (l := r) (o := nxP 0 t) hd.2 (by rw [e0]; omega) hn).2 (hg hn)
      rw [this, e0, tv]
    unfold outP
    rw [hT, hr]
    simp only
    rw [ht, hL, low]
    have hv := valP_nonneg b1.2
    unfold rd
    cases up with
    | false => simp [hq.1]
    | true =>
     simp only [cond_true]
     have := neg_div (p := v * v) (d := 4294967296) (by decide)
     rw [this, hq.1]
     by_cases hm : 0 < v * v % 4294967296
     ·rw [decide_eq_true hm, cond_true, if_pos hm, i64w (by omega) (by omega)]; omega
     ·rw [decide_eq_false hm, cond_false, if_neg hm]; omega
   refine ⟨t, r, by rw [hT, hr], fun h => ?_, fun h2 => ?_, fun h1 => ⟨?_, ?_⟩, fun he up => ?_⟩
   ·subst h; simp at hlen; omega
   ·have hn : r ≠ [] := by intro h; subst h; simp at hlen; omega
    have := (top_law (l := r) (o := nxP 0 t) hd.2 (by rw [e0]; omega) hn).1
    rw [this, e0, tv]
    unfold pEarly
    rw [hq.1, Bool.eq_iff_iff, decide_eq_true_eq, Bool.not_eq_true', decide_eq_false_iff_not]; omega
   ·subst h1
    unfold pEarly
    rw [decide_eq_false]
    rw [Int.pow_one] at h1
    have : v * v ≤ 65535 * 65535 := Int.mul_le_mul (by omega) (by omega) h0 (by decide)
    generalize v * v = P at this ⊢
    omega
   ·subst h1; exact List.length_eq_zero_iff.1 (by omega)
   ·unfold pEarly at he
    rw [hq.1, decide_eq_false_iff_not] at he
    refine out (fun hn => ?_) (by omega) up
    have := (top_law (l := r) (o := nxP 0 t) hd.2 (by rw [e0]; omega) hn).1
    rw [this, e0, tv, decide_eq_true (by omega)]
end Go.Ar
namespace Go.Ar
open Go Go.Eng
noncomputable section
def shS : Sh := .a [.i .i64, .i .i64]
def outS (s : Sp) : Tm := .u [.a [.n .i64 s.lo, .n .i64 s.hi], .n .i64 s.e]
def sBin (F : Int → Int → Int → Int → Sp) : PSpec := numSpec [shS, shS] none fun
 | [.n a, .n b, .n c, .n d] => outS (F a b c d)
 | _ => .u []
def sUn (F : Int → Int → Sp) : PSpec := numSpec [shS] none fun
 | [.n a, .n b] => outS (F a b)
 | _ => .u []
def sSc (F : Int → Int → Int → Int → Sp) : PSpec := numSpec [shS, .i .i64, .i .i64] none fun
 | [.n a, .n b, .n n, .n d] => outS (F a b n d)
 | _ => .u []
def chkS (a b : Int) : Int := bif okSp a b then 0 else 20
def sChk : PSpec := numSpec [shS] none fun
 | [.n a, .n b] => .n .i64 (chkS a b)
 | _ => .u []
def sPow : PSpec := numSpec [.i .i64, .c (.int false .i64 2)] (some fun
 | [.n v] => okF v
 | _ => false) fun
 | [.n v] => .u [.n .i64 (sqD v), .n .i64 (sqU v), .n .i64 (sqE v)]
 | _ => .u []
def ovFit (a n d : Int) : Bool := decide (a * n / d ≤ 4503599627370496)
def sOver : PSpec := numSpec [.i .u64, .i .u64, .i .u64] (some fun
 | [.n a, .n n, .n d] => decide (0 ≤ a ∧ a < 18446744073709551616 ∧ 0 ≤ n ∧ n ≤ 4611686018427387904 ∧ 1 ≤ d ∧ d ≤ 4611686018427387904)
 | _ => false) fun
 | [.n a, .n n, .n d] => .u [.n .u64 (bif !ovFit a n d then 0 else a * n / d), .t (bif !ovFit a n d then false else decide (a * n % d > 0)), .t (bif !ovFit a n d then false else true)]
 | _ => .u []
def sRMul (up : Bool) : PSpec := numSpec [.i .i64, .i .i64, .c (.bool false up)] (some fun
 | [.n a, .n b] => okF a && okF b
 | _ => false) fun
 | [.n a, .n b] => .u [.n .i64 (fitV (mF a b up)), .t (okF (mF a b up))]
 | _ => .u []
def sRDiv (up : Bool) : PSpec := numSpec [.i .i64, .i .i64, .c (.bool false up)] (some fun
 | [.n a, .n b] => okF a && (okF b && !(b == 0))
 | _ => false) fun
 | [.n a, .n b] => .u [.n .i64 (fitV (dF a b up)), .t (okF (dF a b up))]
 | _ => .u []
def sRSqrt (up : Bool) : PSpec := numSpec [.i .i64, .c (.bool false up)] (some fun
 | [.n a] => sqOk a
 | _ => false) fun
 | [.n a] => .n .i64 (rtV a up)
 | _ => .u []
def sRScale (up : Bool) : PSpec := numSpec [.i .i64, .i .i64, .i .i64] none fun
 | [.n a, .n n, .n d] => two (scaleV a n d up) (scaleE a n d up)
 | _ => .u []
def sRPow (up : Bool) : PSpec := numSpec [.i .i64, .c (.int false .i64 2), .c (.bool false up)] (some fun
 | [.n v] => decide (0 ≤ v) && okF v
 | _ => false) fun
 | [.n v] => .u [.n .i64 (pV v up), .t (pB v up)]
 | _ => .u []
def orS (s t : PSpec) : PSpec := fun args => match s args with
 | some x => some x
 | none => t args
theorem orS_ok {P : Program} {f : FuncId} {s t : PSpec} (hs : PureOk P f s) (ht : PureOk P f t) : PureOk P f (orS s t) := by
 refine ⟨hs.fn, fun args nd v e => ?_⟩
 unfold orS at e
 split at e
 ·rename_i x hx
  cases e
  exact hs.run args nd v hx
 ·exact ht.run args nd v e
end
end Go.Ar
namespace Go.Proofs.YtiigkjnhmipnfaaGreatDoor.K
open Go Go.Eng Go.Ar
noncomputable section
theorem chk_run (a b : Int) : oneV ((run c2 300).call 88 [.agg [.int true .i64 a, .int true .i64 b]] ⟨[], 0, 1⟩) = some (.tt, .int true .i64 (xCS a b)) := by kernel_rfl
theorem add_run (a b c d : Int) : oneV ((run c2 300).call 92 [.agg [.int true .i64 a, .int true .i64 b], .agg [.int true .i64 c, .int true .i64 d]] ⟨[], 0, 1⟩) = some (.tt, (outS (xAddS a b c d)).av true) := by kernel_rfl
theorem sub_run (a b c d : Int) : oneV ((run c2 300).call 122 [.agg [.int true .i64 a, .int true .i64 b], .agg [.int true .i64 c, .int true .i64 d]] ⟨[], 0, 1⟩) = some (.tt, (outS (xSubS a b c d)).av true) := by kernel_rfl
theorem mul_run (a b c d : Int) : oneV ((run c2 300).call 93 [.agg [.int true .i64 a, .int true .i64 b], .agg [.int true .i64 c, .int true .i64 d]] ⟨[], 0, 1⟩) = some (.tt, (outS (xMulS a b c d)).av true) := by kernel_rfl
theorem sdiv_run (a b c d : Int) : oneV ((run c2 300).call 107 [.agg [.int true .i64 a, .int true .i64 b], .agg [.int true .i64 c, .int true .i64 d]] ⟨[], 0, 1⟩) = some (.tt, (outS (xDivS a b c d)).av true) := by kernel_rfl
theorem sqrt_run (a b : Int) : oneV ((run c2 300).call 124 [.agg [.int true .i64 a, .int true .i64 b]] ⟨[], 0, 1⟩) = some (.tt, (outS (xSqrtS a b)).av true) := by kernel_rfl
theorem scale_run (a b n d : Int) : oneV ((run c2 300).call 143 [.agg [.int true .i64 a, .int true .i64 b], .int true .i64 n, .int true .i64 d] ⟨[], 0, 1⟩) = some (.tt, (outS (xScaleS a b n d)).av true) := by kernel_rfl
theorem pow_run (v : Int) : oneV ((run c2 300).call 191 [.int true .i64 v, .int false .i64 2] ⟨[], 0, 1⟩) = some (.p (pwN v), .tuple [.int true .i64 (pwD v), .int true .i64 (pwU v), .int true .i64 (pwE v)]) := by kernel_rfl
theorem pow_ok : PureOk Tryz.prog 191 sPow := by
 refine num_ok (fun xs hk hN => ?_) ⟨_, Tryz.func191, rfl⟩
 obtain ⟨v, _, rfl, h1⟩ := kn hk; obtain rfl := k0 h1
 obtain ⟨e1, e2, e3, hn⟩ := pw_law hN
 have := pow_run v
 rw [e1, e2, e3] at this
 exact ⟨c2, 300, _, c2_ok, rfl, fun _ => rfl, rfl, this, hn⟩
noncomputable def tbl3 : List (FuncId × PSpec) := (191, sPow) :: tbl2
theorem tbl3_ok : TblOk Tryz.prog tbl3 := fun x hx => by
 rcases List.mem_cons.1 hx with rfl | hx
 ·exact pow_ok
 ·exact tbl2_ok x hx
noncomputable def c3 : Ctx := mkC Tryz.prog tbl3 ext
theorem c3_ok : CtxOk c3 := mkC_ok prog_ok tbl3_ok ext_ok
theorem sqr_run (a b : Int) : oneV ((run c3 300).call 131 [.agg [.int true .i64 a, .int true .i64 b]] ⟨[], 0, 1⟩) = some (.p (xSqrN a b), (outS (xSqrS a b)).av true) := by kernel_rfl
theorem schk_ok : PureOk Tryz.prog 88 sChk := by
 refine num_ok (fun xs hk _ => ?_) ⟨_, Tryz.func88, rfl⟩
 obtain ⟨a, _, rfl, h1⟩ := kn hk; obtain ⟨b, _, rfl, h2⟩ := kn h1; obtain rfl := k0 h2
 have := chk_run a b
 rw [xCS_eq] at this
 exact ⟨c2, 300, _, c2_ok, rfl, fun _ => rfl, rfl, this, trivial⟩
theorem sadd_ok : PureOk Tryz.prog 92 (sBin addS) := by
 refine num_ok (fun xs hk _ => ?_) ⟨_, Tryz.func92, rfl⟩
 obtain ⟨a, _, rfl, h1⟩ := kn hk; obtain ⟨b, _, rfl, h2⟩ := kn h1; obtain ⟨c, _, rfl, h3⟩ := kn h2; obtain ⟨d, _, rfl, h4⟩ := kn h3; obtain rfl := k0 h4
 exact ⟨c2, 300, _, c2_ok, rfl, fun _ => rfl, rfl, (add_run a b c d).trans (by rw [xAddS_eq]), trivial⟩
theorem ssub_ok : PureOk Tryz.prog 122 (sBin subS) := by
 refine num_ok (fun xs hk _ => ?_) ⟨_, Tryz.func122, rfl⟩
 obtain ⟨a, _, rfl, h1⟩ := kn hk; obtain ⟨b, _, rfl, h2⟩ := kn h1; obtain ⟨c, _, rfl, h3⟩ := kn h2; obtain ⟨d, _, rfl, h4⟩ := kn h3; obtain rfl := k0 h4
 exact ⟨c2, 300, _, c2_ok, rfl, fun _ => rfl, rfl, (sub_run a b c d).trans (by rw [xSubS_eq]), trivial⟩
theorem smul_ok : PureOk Tryz.prog 93 (sBin mulS) := by
 refine num_ok (fun xs hk _ => ?_) ⟨_, Tryz.func93, rfl⟩
 obtain ⟨a, _, rfl, h1⟩ := kn hk; obtain ⟨b, _, rfl, h2⟩ := kn h1; obtain ⟨c, _, rfl, h3⟩ := kn h2; obtain ⟨d, _, rfl, h4⟩ := kn h3; obtain rfl := k0 h4
 exact ⟨c2, 300, _, c2_ok, rfl, fun _ => rfl, rfl, (mul_run a b c d).trans (by rw [xMulS_eq]), trivial⟩
theorem sdiv_ok : PureOk Tryz.prog 107 (sBin divS) := by
 refine num_ok (fun xs hk _ => ?_) ⟨_, Tryz.func107, rfl⟩
 obtain ⟨a, _, rfl, h1⟩ := kn hk; obtain ⟨b, _, rfl, h2⟩ := kn h1; obtain ⟨c, _, rfl, h3⟩ := kn h2; obtain ⟨d, _, rfl, h4⟩ := kn h3; obtain rfl := k0 h4
 exact ⟨c2, 300, _, c2_ok, rfl, fun _ => rfl, rfl, (sdiv_run a b c d).trans (by rw [xDivS_eq]), trivial⟩
theorem ssqrt_ok : PureOk Tryz.prog 124 (sUn sqrtS) := by
 refine num_ok (fun xs hk _ => ?_) ⟨_, Tryz.func124, rfl⟩
 obtain ⟨a, _, rfl, h1⟩ := kn hk; obtain ⟨b, _, rfl, h2⟩ := kn h1; obtain rfl := k0 h2
 exact ⟨c2, 300, _, c2_ok, rfl, fun _ => rfl, rfl, (sqrt_run a b).trans (by rw [xSqrtS_eq]), trivial⟩
theorem ssqr_ok : PureOk Tryz.prog 131 (sUn sqrS) := by
 refine num_ok (fun xs hk _ => ?_) ⟨_, Tryz.func131, rfl⟩
 obtain ⟨a, _, rfl, h1⟩ := kn hk; obtain ⟨b, _, rfl, h2⟩ := kn h1; obtain rfl := k0 h2
 exact ⟨c3, 300, _, c3_ok, rfl, fun _ => rfl, rfl, (sqr_run a b).trans (by rw [xSqrS_eq]), xSqrN_all a b⟩
theorem sscale_ok : PureOk Tryz.prog 143 (sSc xScaleS) := by
 refine num_ok (fun xs hk _ => ?_) ⟨_, Tryz.func143, rfl⟩
 obtain ⟨a, _, rfl, h1⟩ := kn hk; obtain ⟨b, _, rfl, h2⟩ := kn h1; obtain ⟨n, _, rfl, h3⟩ := kn h2; obtain ⟨d, _, rfl, h4⟩ := kn h3; obtain rfl := k0 h4
 exact ⟨c2, 300, _, c2_ok, rfl, fun _ => rfl, rfl, scale_run a b n d, trivial⟩
end
end Go.Proofs.YtiigkjnhmipnfaaGreatDoor.K
namespace Go.Proofs.YtiigkjnhmipnfaaGreatDoor.K
open Go Go.Eng Go.Ar
noncomputable section
noncomputable def c0 : Ctx := mkC Tryz.prog [] ext
theorem c0_ok : CtxOk c0 := mkC_ok prog_ok (fun _ h => by cases h) ext_ok
noncomputable def c0u : Ctx := withUnroll c0 192 3
theorem c0u_ok : CtxOk c0u := withUnroll_ok c0_ok _ _
def ovFr : AFr := ⟨192, none⟩
noncomputable def ovA : Code := loopOf Tryz.prog 192 0
def ovS (a n d : Int) : St := ⟨[⟨0, .int true .u64 a⟩, ⟨0, .int true .u64 n⟩, ⟨0, .int true .u64 d⟩, ⟨0, .tuple []⟩, ⟨0, .tuple []⟩, ⟨0, .tuple []⟩, ⟨3, .int false .u64 0⟩, ⟨4, .bool false false⟩, ⟨5, .bool false false⟩, ⟨6, .int false .u64 0⟩, ⟨7, .int false .u64 0⟩, ⟨8, .int false .i64 63⟩] ++ blankT 37, [], ⟨[], 0, 9⟩⟩
def ovP (i q r : Int) : Patch := ⟨deadT 12 37 ++ [(9, .int true .u64 q), (10, .int true .u64 r), (11, .int true .i64 i)], [], []⟩
def ovU (a n d : Nat) : Sum (Int × Int × Int) :=
 {
  S := fun y => ovP y.1 y.2.1 y.2.2
  I := fun y => ∃ k : Nat, k ≤ 64 ∧ a / 2 ^ k * n / d ≤ 4503599627370496 ∧ y = ((k : Int) - 1, ((a / 2 ^ k * n / d : Nat) : Int), ((a / 2 ^ k * n % d : Nat) : Int))
  μ := fun y => (y.1 + 1).toNat
  F := fun y => ovF a n d (y.1 + 1).toNat y.1 y.2.1 y.2.2
  next := fun y => (IntKind.i64.wrap (y.1 - 1), ovQ a n d y.1 y.2.1 y.2.2, ovR a n d y.1 y.2.2)
  ids := []
  X := fun y x => match x with
   | .ret => some (ovRet, [])
   | _ => some (ovO y.2.1 y.2.2, []) }
def ovNd (a n d : Nat) (i q r : Int) : Prop :=
 (decide (i ≥ 0) = true → (0 ≤ IntKind.u64.wrap i ∧ (ovBit a i = true → (d : Int) ≠ 0 ∧ (d : Int) ≠ 0)) ∧ (ovG1 a n d i r = true → ovG2 a n d i r = true → ovG3 a n d i r = true → False)) ∧
 ((!decide (i ≥ 0)) = true → (q = q ∧ r = r) ∧ (ovU a n d).F (i, q, r) = (.exit 0, ovO q r)) ∧
 ((decide (i ≥ 0) && !ovBig a n d i q r) = true → (ovQ a n d i q r = ovQ a n d i q r ∧ ovR a n d i r = ovR a n d i r ∧ IntKind.i64.wrap (i - 1) = IntKind.i64.wrap (i - 1)) ∧
  (ovU a n d).I ((ovU a n d).next (i, q, r)) ∧ (ovU a n d).μ ((ovU a n d).next (i, q, r)) < (ovU a n d).μ (i, q, r) ∧ (ovU a n d).F ((ovU a n d).next (i, q, r)) = (ovU a n d).F (i, q, r)) ∧
 ((decide (i ≥ 0) && ovBig a n d i q r) = true → (ovU a n d).F (i, q, r) = (.ret, ovRet))
theorem ov_run (a n d : Nat) (i q r : Int) : chkR (ovS a n d) ((ovU a n d).way (i, q, r)) ((run c0u 300).code ovFr ovA (patch (ovS a n d) ((ovU a n d).S (i, q, r)))) = some (.p (ovNd a n d i q r)) := by kernel_rfl
theorem ov_start (a n d : Nat) : fit (ovS a n d) (ovS a n d) (patch (ovS a n d) ((ovU a n d).S (63, 0, 0))) [] = some (.p ((0 : Int) = 0 ∧ (0 : Int) = 0 ∧ (63 : Int) = 63)) := by kernel_rfl
theorem ov_nd (a n d : Nat) (ha : a < 18446744073709551616) (hn : n ≤ 4611686018427387904) (hd : 1 ≤ d) (hd' : d ≤ 4611686018427387904) (y : Int × Int × Int) (hy : (ovU a n d).I y) : ovNd a n d y.1 y.2.1 y.2.2 := by
 obtain ⟨k, hk, hq, rfl⟩ := hy
 cases k with
 | zero =>
  have e0 : decide ((((0 : Nat) : Int) - 1) ≥ 0) = false := by decide
  refine ⟨fun h => ?_, fun _ => ⟨⟨rfl, rfl⟩, rfl⟩, fun h => ?_, fun h => ?_⟩
  ·rw [show ((0 : Nat) : Int) - 1 = -1 from rfl] at h; cases h
  ·simp only [e0, Bool.false_and] at h; cases h
  ·simp only [e0, Bool.false_and] at h; cases h
 | succ k =>
  obtain ⟨s1, s2, s3, s4⟩ := ov_step a n d k ha hn hd hd' (by omega) hq
  have e : ((k + 1 : Nat) : Int) - 1 = (k : Int) := by omega
  have et : ((k : Int) + 1).toNat = k + 1 := by omega
  simp only [e]
  have ew : IntKind.i64.wrap ((k : Int) - 1) = (k : Int) - 1 := i64w (by omega) (by omega)
  refine ⟨fun _ => ⟨⟨s3, fun _ => ⟨by omega, by omega⟩⟩, s4⟩, fun h => ?_, fun h => ⟨⟨rfl, rfl, rfl⟩, ?_, ?_, ?_⟩, fun h => ?_⟩
  ·rw [decide_eq_true (by omega)] at h; cases h
  ·simp only [Bool.and_eq_true, Bool.not_eq_true'] at h
   have h2 := h.2
   unfold ovBig at h2
   rw [s1] at h2
   have h2 := of_decide_eq_false h2
   refine ⟨k, by omega, by omega, ?_⟩
   show (IntKind.i64.wrap ((k : Int) - 1), _, _) = _
   rw [ew, s1, s2]
  ·show (IntKind.i64.wrap ((k : Int) - 1) + 1).toNat < ((k : Int) + 1).toNat
   rw [ew]; omega
  ·simp only [Bool.and_eq_true, Bool.not_eq_true'] at h
   show ovF a n d (IntKind.i64.wrap ((k : Int) - 1) + 1).toNat (IntKind.i64.wrap ((k : Int) - 1)) _ _ = ovF a n d ((k : Int) + 1).toNat k _ _
   rw [et, ovF, h.2, cond_false, ew, show ((k : Int) - 1 + 1).toNat = k by omega]
   rfl
  ·simp only [Bool.and_eq_true] at h
   show ovF a n d ((k : Int) + 1).toNat k _ _ = _
   rw [et, ovF, h.2, cond_true]
def ovFits (a n d : Nat) : Bool := decide (a * n / d ≤ 4503599627370496)
theorem ov_loop (a n d : Nat) (ha : a < 18446744073709551616) (hn : n ≤ 4611686018427387904) (hd : 1 ≤ d) (hd' : d ≤ 4611686018427387904) :
  CodeOk c0 ovFr (.loop ovA) (ovS a n d) ⟨.tt, [⟨.b (ovFits a n d), .exit 0, patch (ovS a n d) (ovO ((a * n / d : Nat) : Int) ((a * n % d : Nat) : Int))⟩, ⟨.b (!ovFits a n d), .ret, patch (ovS a n d) ovRet⟩]⟩ := by
 have z : a / 2 ^ 64 = 0 := Nat.div_eq_of_lt ha
 have hF : (ovU a n d).F (63, 0, 0) = bif ovFits a n d then (.exit 0, ovO ((a * n / d : Nat) : Int) ((a * n % d : Nat) : Int)) else (.ret, ovRet) := by
  have := ov_spec a n d ha hn hd hd' 64 (by decide) (by rw [z]; simp)
  rw [z] at this
  simp only [Nat.zero_mul, Nat.zero_div, Nat.zero_mod] at this
  exact this
 have h0 : oldsOk (ovS a n d).hp ((ovU a n d).S (63, 0, 0)).old = true := by kernel_rfl
 have h1 : (ovU a n d).I (63, 0, 0) := ⟨64, by decide, by rw [z]; simp, by rw [z]; simp⟩
 exact sum_two (run_sound c0u_ok 300) (ovU a n d) h1 ⟨_, ov_start a n d, rfl, rfl, rfl⟩ h0 (fun y hy => ⟨_, ov_run a n d y.1 y.2.1 y.2.2, ov_nd a n d ha hn hd hd' y hy⟩) hF
noncomputable def c0o (a n d : Nat) : Ctx := withLoops c0 [twoLoop 192 9 ovFr ovA (ovS a n d) (ovFits a n d) (.exit 0) (ovO ((a * n / d : Nat) : Int) ((a * n % d : Nat) : Int)) .ret ovRet]
theorem c0o_ok (a n d : Nat) (ha : a < 18446744073709551616) (hn : n ≤ 4611686018427387904) (hd : 1 ≤ d) (hd' : d ≤ 4611686018427387904) : CtxOk (c0o a n d) := withTwo_ok c0_ok (ov_loop a n d ha hn hd hd') (withNone_ok c0_ok)
def ovAt (a n d : Nat) : Prop := At ovFr ovFr ovA ovA (ovS a n d) (ovS a n d)
theorem over_run (a n d : Nat) : oneV ((run (c0o a n d) 300).call 192 [.int true .u64 a, .int true .u64 n, .int true .u64 d] ⟨[], 0, 1⟩) = some (.p (ovAt a n d),
  .tuple [.int true .u64 (bif !ovFits a n d then 0 else ((a * n / d : Nat) : Int)), .bool true (bif !ovFits a n d then false else decide (((a * n % d : Nat) : Int) > 0)), .bool true (bif !ovFits a n d then false else true)]) := by kernel_rfl
theorem over_ok : PureOk Tryz.prog 192 sOver := by
 refine num_ok (fun xs hk hN => ?_) ⟨_, Tryz.func192, rfl⟩
 obtain ⟨a, _, rfl, h1⟩ := kn hk; obtain ⟨n, _, rfl, h2⟩ := kn h1; obtain ⟨d, _, rfl, h3⟩ := kn h2; obtain rfl := k0 h3
 obtain ⟨p1, p2, p3, p4, p5, p6⟩ := of_decide_eq_true hN
 obtain ⟨a, rfl⟩ := Int.eq_ofNat_of_zero_le p1
 obtain ⟨n, rfl⟩ := Int.eq_ofNat_of_zero_le p3
 obtain ⟨d, rfl⟩ := Int.eq_ofNat_of_zero_le (show 0 ≤ d by omega)
 have e1 : (a : Int) * n / d = ((a * n / d : Nat) : Int) := by rw [Int.natCast_ediv, Int.natCast_mul]
 have e2 : (a : Int) * n % d = ((a * n % d : Nat) : Int) := by rw [Int.natCast_emod, Int.natCast_mul]
 have e3 : ovFit a n d = ovFits a n d := by unfold ovFit ovFits; rw [e1, Bool.eq_iff_iff, decide_eq_true_eq, decide_eq_true_eq]; generalize a * n / d = q; omega
 refine ⟨c0o a n d, 300, .p (ovAt a n d), c0o_ok a n d (by omega) (by omega) (by omega) (by omega), rfl, fun _ => rfl, rfl, (over_run a n d).trans ?_, ⟨rfl, rfl, rfl⟩⟩
 rw [← e1, ← e2, ← e3]
 rfl
end
end Go.Proofs.YtiigkjnhmipnfaaGreatDoor.K
namespace Go.Proofs.YtiigkjnhmipnfaaGreatDoor.K
open Go Go.Eng Go.Ar
noncomputable section
noncomputable def tbl4 : List (FuncId × PSpec) := [(192, sOver)]
theorem tbl4_ok : TblOk Tryz.prog tbl4 := by
 intro x hx
 simp only [tbl4, List.mem_cons, List.not_mem_nil, or_false] at hx
 subst hx
 exact over_ok
noncomputable def c4 : Ctx := mkC Tryz.prog tbl4 ext
theorem c4_ok : CtxOk c4 := mkC_ok prog_ok tbl4_ok ext_ok
def ovIn (l : List Nu) : Prop := (match l with
 | [.n a, .n n, .n d] => decide (0 ≤ a ∧ a < 18446744073709551616 ∧ 0 ≤ n ∧ n ≤ 4611686018427387904 ∧ 1 ≤ d ∧ d ≤ 4611686018427387904)
 | _ => false) = true
theorem rmulD_run (a b : Int) : oneV ((run c4 300).call 139 [.int true .i64 a, .int true .i64 b, .bool false false] ⟨[], 0, 1⟩) = some (.tt, .tuple [.int true .i64 (rMulV a b false), .bool true (rMulB a b false)]) := by kernel_rfl
theorem rmulU_run (a b : Int) : oneV ((run c4 300).call 139 [.int true .i64 a, .int true .i64 b, .bool false true] ⟨[], 0, 1⟩) = some (.tt, .tuple [.int true .i64 (rMulV a b true), .bool true (rMulB a b true)]) := by kernel_rfl
theorem rdivD_run (a b : Int) : oneV ((run c4 300).call 166 [.int true .i64 a, .int true .i64 b, .bool false false] ⟨[], 0, 1⟩) = some (.p (ovIn [.n 4294967296, .n (xSz a), .n (xSz b)]), .tuple [.int true .i64 (oV (4294967296 * xSz a) (xSz b) false (xNeg a b)), .bool true (oB (4294967296 * xSz a) (xSz b) false (xNeg a b))]) := by kernel_rfl
theorem rdivU_run (a b : Int) : oneV ((run c4 300).call 166 [.int true .i64 a, .int true .i64 b, .bool false true] ⟨[], 0, 1⟩) = some (.p (ovIn [.n 4294967296, .n (xSz a), .n (xSz b)]), .tuple [.int true .i64 (oV (4294967296 * xSz a) (xSz b) true (xNeg a b)), .bool true (oB (4294967296 * xSz a) (xSz b) true (xNeg a b))]) := by kernel_rfl
def rScN (a n d : Int) : Prop := (!rOkS a n d) = true → ovIn [.n (xSz a), .n (xSz n), .n (IntKind.u64.wrap d)]
theorem rscD_run (a n d : Int) : oneV ((run c4 300).call 167 [.int true .i64 a, .int true .i64 n, .int true .i64 d] ⟨[], 0, 1⟩) = some (.p (rScN a n d), .tuple [.int true .i64 (rScV a n d false), .int true .i64 (rScE a n d false)]) := by kernel_rfl
theorem rscU_run (a n d : Int) : oneV ((run c4 300).call 168 [.int true .i64 a, .int true .i64 n, .int true .i64 d] ⟨[], 0, 1⟩) = some (.p (rScN a n d), .tuple [.int true .i64 (rScV a n d true), .int true .i64 (rScE a n d true)]) := by kernel_rfl
theorem ovIn_of {a n d : Int} (h : 0 ≤ a ∧ a < 18446744073709551616 ∧ 0 ≤ n ∧ n ≤ 4611686018427387904 ∧ 1 ≤ d ∧ d ≤ 4611686018427387904) : ovIn [.n a, .n n, .n d] := decide_eq_true h
theorem rScN_all (a n d : Int) : rScN a n d := by
 intro h
 rw [rOkS_eq, Bool.not_not] at h
 simp only [okS, Bool.and_eq_true, decide_eq_true_eq] at h
 obtain ⟨ha, ⟨⟨n1, n2⟩, d1⟩, d2⟩ := h
 obtain ⟨a1, a2, a3⟩ := sz_of ha
 have e1 : xSz n = sg n n := xSz_eq (by omega) (by omega)
 have e2 := sg_cases n
 rw [a1, e1, u64w (n := d) (by omega) (by omega)]
 exact ovIn_of ⟨by omega, by omega, by omega, by omega, by omega, by omega⟩
theorem rmulD_ok : PureOk Tryz.prog 139 (sRMul false) := by
 refine num_ok (fun xs hk hN => ?_) ⟨_, Tryz.func139, rfl⟩
 obtain ⟨a, _, rfl, h1⟩ := kn hk; obtain ⟨b, _, rfl, h2⟩ := kn h1; obtain rfl := k0 h2
 have hN : (okF a && okF b) = true := hN
 simp only [Bool.and_eq_true] at hN
 obtain ⟨l1, l2⟩ := rMul_law hN.1 hN.2 false
 exact ⟨c4, 300, _, c4_ok, rfl, fun _ => rfl, rfl, (rmulD_run a b).trans (by rw [l1, l2]; rfl), trivial⟩
theorem rmulU_ok : PureOk Tryz.prog 139 (sRMul true) := by
 refine num_ok (fun xs hk hN => ?_) ⟨_, Tryz.func139, rfl⟩
 obtain ⟨a, _, rfl, h1⟩ := kn hk; obtain ⟨b, _, rfl, h2⟩ := kn h1; obtain rfl := k0 h2
 have hN : (okF a && okF b) = true := hN
 simp only [Bool.and_eq_true] at hN
 obtain ⟨l1, l2⟩ := rMul_law hN.1 hN.2 true
 exact ⟨c4, 300, _, c4_ok, rfl, fun _ => rfl, rfl, (rmulU_run a b).trans (by rw [l1, l2]; rfl), trivial⟩
theorem rdiv_in {a b : Int} (ha : okF a = true) (hb : okF b = true) (h0 : b ≠ 0) : ovIn [.n 4294967296, .n (xSz a), .n (xSz b)] := by
 obtain ⟨a1, a2, a3⟩ := sz_of ha
 obtain ⟨b1, b2, b3⟩ := sz_of hb
 have := sg_cases b
 rw [a1, b1]
 exact ovIn_of ⟨by omega, by omega, by omega, by omega, by omega, by omega⟩
theorem rdivD_ok : PureOk Tryz.prog 166 (sRDiv false) := by
 refine num_ok (fun xs hk hN => ?_) ⟨_, Tryz.func166, rfl⟩
 obtain ⟨a, _, rfl, h1⟩ := kn hk; obtain ⟨b, _, rfl, h2⟩ := kn h1; obtain rfl := k0 h2
 have hN : (okF a && (okF b && !(b == 0))) = true := hN
 simp only [Bool.and_eq_true, Bool.not_eq_true', beq_eq_false_iff_ne] at hN
 obtain ⟨l1, l2⟩ := rDiv_law hN.1 hN.2.1 hN.2.2 false
 rw [rDivV] at l1; rw [rDivB] at l2
 exact ⟨c4, 300, .p _, c4_ok, rfl, fun _ => rfl, rfl, (rdivD_run a b).trans (by rw [l1, l2]; rfl), rdiv_in hN.1 hN.2.1 hN.2.2⟩
theorem rdivU_ok : PureOk Tryz.prog 166 (sRDiv true) := by
 refine num_ok (fun xs hk hN => ?_) ⟨_, Tryz.func166, rfl⟩
 obtain ⟨a, _, rfl, h1⟩ := kn hk; obtain ⟨b, _, rfl, h2⟩ := kn h1; obtain rfl := k0 h2
 have hN : (okF a && (okF b && !(b == 0))) = true := hN
 simp only [Bool.and_eq_true, Bool.not_eq_true', beq_eq_false_iff_ne] at hN
 obtain ⟨l1, l2⟩ := rDiv_law hN.1 hN.2.1 hN.2.2 true
 rw [rDivV] at l1; rw [rDivB] at l2
 exact ⟨c4, 300, .p _, c4_ok, rfl, fun _ => rfl, rfl, (rdivU_run a b).trans (by rw [l1, l2]; rfl), rdiv_in hN.1 hN.2.1 hN.2.2⟩
theorem rscD_ok : PureOk Tryz.prog 167 (sRScale false) := by
 refine num_ok (fun xs hk _ => ?_) ⟨_, Tryz.func167, rfl⟩
 obtain ⟨a, _, rfl, h1⟩ := kn hk; obtain ⟨n, _, rfl, h2⟩ := kn h1; obtain ⟨d, _, rfl, h3⟩ := kn h2; obtain rfl := k0 h3
 obtain ⟨l1, l2⟩ := rSc_law a n d false
 exact ⟨c4, 300, .p _, c4_ok, rfl, fun _ => rfl, rfl, (rscD_run a n d).trans (by rw [l1, l2]; rfl), rScN_all a n d⟩
theorem rscU_ok : PureOk Tryz.prog 168 (sRScale true) := by
 refine num_ok (fun xs hk _ => ?_) ⟨_, Tryz.func168, rfl⟩
 obtain ⟨a, _, rfl, h1⟩ := kn hk; obtain ⟨n, _, rfl, h2⟩ := kn h1; obtain ⟨d, _, rfl, h3⟩ := kn h2; obtain rfl := k0 h3
 obtain ⟨l1, l2⟩ := rSc_law a n d true
 exact ⟨c4, 300, .p _, c4_ok, rfl, fun _ => rfl, rfl, (rscU_run a n d).trans (by rw [l1, l2]; rfl), rScN_all a n d⟩
def rsFr : AFr := ⟨165, none⟩
noncomputable def rsA : Code := loopOf Tryz.prog 165 0
def rsS (up : Bool) (a : Int) : St := ⟨[⟨0, .int true .i64 a⟩, ⟨0, .bool false up⟩, ⟨0, .tuple []⟩, ⟨0, .tuple []⟩, ⟨3, .int false .i64 0⟩, ⟨4, .int false .i64 0⟩, ⟨5, .int false .i64 0⟩, ⟨6, .int false .i64 42⟩] ++ blankT 42, [], ⟨[], 0, 7⟩⟩
def rsP (i root rest : Int) : Patch := ⟨deadT 8 42 ++ [(5, .int true .i64 root), (6, .int true .i64 rest), (7, .int true .i64 i)], [], []⟩
def rsU (a : Int) : Sum (Int × Int × Int) :=
 {
  S := fun y => rsP y.1 y.2.1 y.2.2
  I := fun y => -1 ≤ y.1 ∧ y.1 ≤ 42
  μ := fun y => (y.1 + 1).toNat
  F := fun y => (.exit 0, rsO (rsF a (y.1 + 1).toNat y.1 y.2.1 y.2.2).1 (rsF a (y.1 + 1).toNat y.1 y.2.1 y.2.2).2)
  next := fun y => (IntKind.i64.wrap (y.1 - 1), rsRoot a y.1 y.2.1 y.2.2, rsRest a y.1 y.2.1 y.2.2)
  ids := []
  X := fun y _ => some (rsO y.2.1 y.2.2, []) }
def rsNd (a i root rest : Int) : Prop :=
 (decide (i ≥ 0) = true → decide (IntKind.i64.wrap (2 * i) ≥ 32) = true → 0 ≤ IntKind.u64.wrap (IntKind.i64.wrap (IntKind.i64.wrap (2 * i) - 32))) ∧
 ((!decide (i ≥ 0)) = true → (root = root ∧ rest = rest) ∧ (rsU a).F (i, root, rest) = (.exit 0, rsO root rest)) ∧
 (decide (i ≥ 0) = true → (rsRoot a i root rest = rsRoot a i root rest ∧ rsRest a i root rest = rsRest a i root rest ∧ IntKind.i64.wrap (i - 1) = IntKind.i64.wrap (i - 1)) ∧
  (rsU a).I ((rsU a).next (i, root, rest)) ∧ (rsU a).μ ((rsU a).next (i, root, rest)) < (rsU a).μ (i, root, rest) ∧ (rsU a).F ((rsU a).next (i, root, rest)) = (rsU a).F (i, root, rest))
theorem rs_run (up : Bool) (a i root rest : Int) : chkR (rsS up a) ((rsU a).way (i, root, rest)) ((run c0 300).code rsFr rsA (patch (rsS up a) ((rsU a).S (i, root, rest)))) = some (.p (rsNd a i root rest)) := by kernel_rfl
theorem rs_start (up : Bool) (a : Int) : fit (rsS up a) (rsS up a) (patch (rsS up a) ((rsU a).S (42, 0, 0))) [] = some (.p ((0 : Int) = 0 ∧ (0 : Int) = 0 ∧ (42 : Int) = 42)) := by kernel_rfl
theorem rs_nd (a i root rest : Int) (h : -1 ≤ i ∧ i ≤ 42) : rsNd a i root rest := by
 refine ⟨fun _ _ => (u64_range _).1, fun hi => ⟨⟨rfl, rfl⟩, ?_⟩, fun hi => ⟨⟨rfl, rfl, rfl⟩, ?_⟩⟩
 ·have : i = -1 := by simp at hi; omega
  subst this
  rfl
 ·have hi := of_decide_eq_true hi
  have e : IntKind.i64.wrap (i - 1) = i - 1 := i64w (by omega) (by omega)
  have e2 : (i + 1).toNat = (i - 1 + 1).toNat + 1 := by omega
  refine ⟨?_, ?_, ?_⟩
  ·show -1 ≤ IntKind.i64.wrap (i - 1) ∧ IntKind.i64.wrap (i - 1) ≤ 42
   rw [e]; omega
  ·show (IntKind.i64.wrap (i - 1) + 1).toNat < (i + 1).toNat
   rw [e]; omega
  ·show (Ex.exit 0, rsO (rsF a (IntKind.i64.wrap (i - 1) + 1).toNat (IntKind.i64.wrap (i - 1)) (rsRoot a i root rest) (rsRest a i root rest)).1 (rsF a (IntKind.i64.wrap (i - 1) + 1).toNat (IntKind.i64.wrap (i - 1)) (rsRoot a i root rest) (rsRest a i root rest)).2) = (Ex.exit 0, rsO (rsF a (i + 1).toNat i root rest).1 (rsF a (i + 1).toNat i root rest).2)
   rw [e2, rsF, e]
theorem rs_loop (up : Bool) (a : Int) : CodeOk c0 rsFr (.loop rsA) (rsS up a) ⟨.tt, [⟨.tt, .exit 0, patch (rsS up a) (rsO (rsF a 43 42 0 0).1 (rsF a 43 42 0 0).2)⟩]⟩ := by
 have hF : (rsU a).F (42, 0, 0) = (.exit 0, rsO (rsF a 43 42 0 0).1 (rsF a 43 42 0 0).2) := by
  show (Ex.exit 0, rsO (rsF a ((42 : Int) + 1).toNat 42 0 0).1 (rsF a ((42 : Int) + 1).toNat 42 0 0).2) = _
  rw [show ((42 : Int) + 1).toNat = 43 from by decide]
 have h0 : oldsOk (rsS up a).hp ((rsU a).S (42, 0, 0)).old = true := by kernel_rfl
 have h1 : (rsU a).I (42, 0, 0) := ⟨by decide, by decide⟩
 exact sum_one (run_sound c0_ok 300) (rsU a) h1 ⟨_, rs_start up a, rfl, rfl, rfl⟩ h0 (fun y hy => ⟨_, rs_run up a y.1 y.2.1 y.2.2, rs_nd a y.1 y.2.1 y.2.2 hy⟩) hF
noncomputable def c0s (up : Bool) (a : Int) : Ctx := withLoops c0 [oneLoop 165 7 rsFr rsA (rsS up a) (.exit 0) (rsO (rsF a 43 42 0 0).1 (rsF a 43 42 0 0).2)]
theorem c0s_ok (up : Bool) (a : Int) : CtxOk (c0s up a) := withLoop_ok c0_ok (rs_loop up a) (withNone_ok c0_ok)
def rsAt (up : Bool) (a : Int) : Prop := At rsFr rsFr rsA rsA (rsS up a) (rsS up a)
theorem rsqrtD_run (a : Int) : oneV ((run (c0s false a) 300).call 165 [.int true .i64 a, .bool false false] ⟨[], 0, 1⟩) = some (.p (rsAt false a), .int true .i64 (rsV a false)) := by kernel_rfl
theorem rsqrtU_run (a : Int) : oneV ((run (c0s true a) 300).call 165 [.int true .i64 a, .bool false true] ⟨[], 0, 1⟩) = some (.p (rsAt true a), .int true .i64 (rsV a true)) := by kernel_rfl
theorem rsqrtD_ok : PureOk Tryz.prog 165 (sRSqrt false) := by
 refine num_ok (fun xs hk hN => ?_) ⟨_, Tryz.func165, rfl⟩
 obtain ⟨a, _, rfl, h1⟩ := kn hk; obtain rfl := k0 h1
 exact ⟨c0s false a, 300, .p (rsAt false a), c0s_ok false a, rfl, fun _ => rfl, rfl, (rsqrtD_run a).trans (by rw [rs_law hN]; rfl), ⟨rfl, rfl, rfl⟩⟩
theorem rsqrtU_ok : PureOk Tryz.prog 165 (sRSqrt true) := by
 refine num_ok (fun xs hk hN => ?_) ⟨_, Tryz.func165, rfl⟩
 obtain ⟨a, _, rfl, h1⟩ := kn hk; obtain rfl := k0 h1
 exact ⟨c0s true a, 300, .p (rsAt true a), c0s_ok true a, rfl, fun _ => rfl, rfl, (rsqrtU_run a).trans (by rw [rs_law hN]; rfl), ⟨rfl, rfl, rfl⟩⟩
end
end Go.Proofs.YtiigkjnhmipnfaaGreatDoor.K
namespace Go.Proofs.YtiigkjnhmipnfaaGreatDoor.K
open Go Go.Eng Go.Ar
noncomputable section
noncomputable def tbl5 : List (FuncId × PSpec) := [(139, orS (sRMul false) (sRMul true)), (166, orS (sRDiv false) (sRDiv true)), (167, sRScale false), (168, sRScale true), (165, orS (sRSqrt false) (sRSqrt true))]
theorem tbl5_ok : TblOk Tryz.prog tbl5 := by
 intro x hx
 simp only [tbl5, List.mem_cons, List.not_mem_nil, or_false] at hx
 rcases hx with rfl | rfl | rfl | rfl | rfl
 ·exact orS_ok rmulD_ok rmulU_ok
 ·exact orS_ok rdivD_ok rdivU_ok
 ·exact rscD_ok
 ·exact rscU_ok
 ·exact orS_ok rsqrtD_ok rsqrtU_ok
end
end Go.Proofs.YtiigkjnhmipnfaaGreatDoor.K
namespace Go.Proofs.YtiigkjnhmipnfaaGreatDoor.K
open Go Go.Eng Go.Ar
noncomputable section
def hintB (b : Bool) : Option AV := match b with
 | true => some (.bool false true)
 | false => some (.bool false false)
def pwH (K S : Nat) (c d : Nat) : Option AV := match Nat.beq d 5 with
 | true => match Nat.ble 19 c && Nat.blt c (32 + 12 * K) with
  | true => hintB (Nat.blt c (21 + 12 * K))
  | false => match Nat.ble S c && Nat.blt c (S + 12 + 12 * K) with
   | true => hintB (Nat.blt c (S + 2 + 12 * K))
   | false => none
 | false => none
noncomputable def cPw (K : Nat) : Ctx := { c0 with hint := pwH K (79 + 50 * K) }
theorem cPw_ok (K : Nat) : CtxOk (cPw K) := ⟨c0_ok.prog, c0_ok.con, c0_ok.ext, c0_ok.loop, c0_ok.two⟩
def ndD : Nat → Int → Prop
 | 0, v => decide (v > 0) = false
 | k + 1, v => decide (v > 0) = true ∧ ndD k (IntKind.i64.wrap (v.tdiv 65536))
theorem pwD0 (v : Int) : oneV ((run (cPw 0) 900).call 194 [.int true .i64 v, .int false .i64 2, .bool false false] ⟨[], 0, 1⟩) = some (.p (ndD 0 v ∧ ndD 0 v), .tuple [.int false .i64 0, .bool false true]) := by kernel_rfl
theorem pwD1 (v : Int) : oneV ((run (cPw 1) 900).call 194 [.int true .i64 v, .int false .i64 2, .bool false false] ⟨[], 0, 1⟩) = some (.p (ndD 1 v ∧ ndD 1 v), .tuple [.int true .i64 (outP 1 v false), .bool true (decide (outP 1 v false ≤ 4503599627370496))]) := by kernel_rfl
theorem pwD2 (v : Int) : oneV ((run (cPw 2) 900).call 194 [.int true .i64 v, .int false .i64 2, .bool false false] ⟨[], 0, 1⟩) = some (.p (ndD 2 v ∧ ndD 2 v), .tuple [.int true .i64 (bif fitP 2 v then outP 2 v false else 0), .bool true (bif fitP 2 v then decide (outP 2 v false ≤ 4503599627370496) else false)]) := by kernel_rfl
theorem pwD3 (v : Int) : oneV ((run (cPw 3) 900).call 194 [.int true .i64 v, .int false .i64 2, .bool false false] ⟨[], 0, 1⟩) = some (.p (ndD 3 v ∧ ndD 3 v), .tuple [.int true .i64 (bif fitP 3 v then outP 3 v false else 0), .bool true (bif fitP 3 v then decide (outP 3 v false ≤ 4503599627370496) else false)]) := by kernel_rfl
theorem pwD4 (v : Int) : oneV ((run (cPw 4) 900).call 194 [.int true .i64 v, .int false .i64 2, .bool false false] ⟨[], 0, 1⟩) = some (.p (ndD 4 v ∧ ndD 4 v), .tuple [.int true .i64 (bif fitP 4 v then outP 4 v false else 0), .bool true (bif fitP 4 v then decide (outP 4 v false ≤ 4503599627370496) else false)]) := by kernel_rfl
theorem pwU0 (v : Int) : oneV ((run (cPw 0) 900).call 194 [.int true .i64 v, .int false .i64 2, .bool false true] ⟨[], 0, 1⟩) = some (.p (ndD 0 v ∧ ndD 0 v), .tuple [.int false .i64 0, .bool false true]) := by kernel_rfl
theorem pwU1 (v : Int) : oneV ((run (cPw 1) 900).call 194 [.int true .i64 v, .int false .i64 2, .bool false true] ⟨[], 0, 1⟩) = some (.p (ndD 1 v ∧ ndD 1 v), .tuple [.int true .i64 (outP 1 v true), .bool true (decide (outP 1 v true ≤ 4503599627370496))]) := by kernel_rfl
theorem pwU2 (v : Int) : oneV ((run (cPw 2) 900).call 194 [.int true .i64 v, .int false .i64 2, .bool false true] ⟨[], 0, 1⟩) = some (.p (ndD 2 v ∧ ndD 2 v), .tuple [.int true .i64 (bif fitP 2 v then outP 2 v true else 0), .bool true (bif fitP 2 v then decide (outP 2 v true ≤ 4503599627370496) else false)]) := by kernel_rfl
theorem pwU3 (v : Int) : oneV ((run (cPw 3) 900).call 194 [.int true .i64 v, .int false .i64 2, .bool false true] ⟨[], 0, 1⟩) = some (.p (ndD 3 v ∧ ndD 3 v), .tuple [.int true .i64 (bif fitP 3 v then outP 3 v true else 0), .bool true (bif fitP 3 v then decide (outP 3 v true ≤ 4503599627370496) else false)]) := by kernel_rfl
theorem pwU4 (v : Int) : oneV ((run (cPw 4) 900).call 194 [.int true .i64 v, .int false .i64 2, .bool false true] ⟨[], 0, 1⟩) = some (.p (ndD 4 v ∧ ndD 4 v), .tuple [.int true .i64 (bif fitP 4 v then outP 4 v true else 0), .bool true (bif fitP 4 v then decide (outP 4 v true ≤ 4503599627370496) else false)]) := by kernel_rfl
theorem nd0 {v : Int} (h : v = 0) : ndD 0 v := by subst h; rfl
theorem ndS {k : Nat} {v : Int} (h0 : 0 < v) (hb : v ≤ 4503599627370496) (h : ndD k (v / 65536)) : ndD (k + 1) v := by
 refine ⟨decide_eq_true h0, ?_⟩
 rw [Int.tdiv_eq_ediv_of_nonneg (by omega), i64w (by omega) (by omega)]
 exact h
theorem pick (v : Int) (h0 : 0 ≤ v) (ho : okF v = true) : 0 ≤ v ∧
  ((ndD 0 v ∧ True ∧ (∀ up, pV v up = 0) ∧ (∀ up, pB v up = true)) ∨
   (ndD 1 v ∧ (∀ up, outP 1 v up = pV v up) ∧ (∀ up, decide (pV v up ≤ 4503599627370496) = pB v up)) ∨
   (ndD 2 v ∧ (∀ up, (bif fitP 2 v then outP 2 v up else 0) = pV v up) ∧ (∀ up, (bif fitP 2 v then decide (outP 2 v up ≤ 4503599627370496) else false) = pB v up)) ∨
   (ndD 3 v ∧ (∀ up, (bif fitP 3 v then outP 3 v up else 0) = pV v up) ∧ (∀ up, (bif fitP 3 v then decide (outP 3 v up ≤ 4503599627370496) else false) = pB v up)) ∨
   (ndD 4 v ∧ (∀ up, (bif fitP 4 v then outP 4 v up else 0) = pV v up) ∧ (∀ up, (bif fitP 4 v then decide (outP 4 v up ≤ 4503599627370496) else false) = pB v up))) := by
 have hb := (okF_iff.1 ho).2
 refine ⟨h0, ?_⟩
 have big : ∀ k, 2 ≤ k → v < 65536 ^ k → (∀ up, (bif fitP k v then outP k v up else 0) = pV v up) ∧ (∀ up, (bif fitP k v then decide (outP k v up ≤ 4503599627370496) else false) = pB v up) := by
  intro k hk h1
  obtain ⟨t, r, e, _, g, _, o⟩ := pw_core k (by omega) v h0 hb h1
  have hf : fitP k v = !pEarly v := by unfold fitP; rw [e]; exact g hk
  rw [hf]
  refine ⟨fun up => ?_, fun up => ?_⟩
  ·unfold pV
   cases he : pEarly v with
   | true => rfl
   | false => rw [o he]; rfl
  ·unfold pB
   cases he : pEarly v with
   | true => rfl
   | false => rw [o he]; rfl
 by_cases c0 : v = 0
 ·subst c0
  exact .inl ⟨nd0 rfl, trivial, fun up => by cases up <;> rfl, fun up => by cases up <;> rfl⟩
 ·by_cases c1 : v < 65536
  ·obtain ⟨t, r, e, _, _, g, o⟩ := pw_core 1 (by omega) v h0 hb (by rw [Int.pow_one]; exact c1)
   obtain ⟨he, _⟩ := g rfl
   refine .inr (.inl ⟨ndS (by omega) hb (nd0 (by omega)), fun up => ?_, fun up => ?_⟩)
   ·rw [o he]; unfold pV; rw [he]; rfl
   ·unfold pV pB; rw [he]; rfl
  ·by_cases c2 : v < 4294967296
   ·exact .inr (.inr (.inl ⟨ndS (by omega) hb (ndS (by omega) (by omega) (nd0 (by omega))), big 2 (by decide) (by rw [show (65536 : Int) ^ 2 = 4294967296 by decide]; exact c2)⟩))
   ·by_cases c3 : v < 281474976710656
    ·exact .inr (.inr (.inr (.inl ⟨ndS (by omega) hb (ndS (by omega) (by omega) (ndS (by omega) (by omega) (nd0 (by omega)))), big 3 (by decide) (by rw [show (65536 : Int) ^ 3 = 281474976710656 by decide]; exact c3)⟩)))
    ·exact .inr (.inr (.inr (.inr ⟨ndS (by omega) hb (ndS (by omega) (by omega) (ndS (by omega) (by omega) (ndS (by omega) (by omega) (nd0 (by omega))))), big 4 (by decide) (by rw [show (65536 : Int) ^ 4 = 18446744073709551616 by decide]; omega)⟩)))
def two' (x : Int) (b : Bool) : AV := .tuple [.int true .i64 x, .bool true b]
theorem rpowD_ok : PureOk Tryz.prog 194 (sRPow false) := by
 refine num_ok' (fun xs hk hN => ?_) ⟨_, Tryz.func194, rfl⟩
 obtain ⟨v, _, rfl, h1⟩ := kn hk; obtain rfl := k0 h1
 have hN : (decide (0 ≤ v) && okF v) = true := hN
 simp only [Bool.and_eq_true, decide_eq_true_eq] at hN
 obtain ⟨k1, k2⟩ := pick v hN.1 hN.2
 rcases k2 with ⟨e, r1, r2⟩ | ⟨e, r1, r2⟩ | ⟨e, r1, r2⟩ | ⟨e, r1, r2⟩ | ⟨e, r1, r2⟩
 ·exact ⟨cPw 0, 900, .p (ndD 0 v ∧ ndD 0 v), .tuple [.int false .i64 0, .bool false true], cPw_ok 0, rfl, fun _ => rfl, rfl, pwD0 v, ⟨e, e⟩, fun τ W h => by show VRel τ (two' _ _) W; rw [show (two' (pV v false) (pB v false)) = two' 0 true by rw [r2.1 false, r2.2 false]]; exact h⟩
 ·exact ⟨cPw 1, 900, .p (ndD 1 v ∧ ndD 1 v), two' (pV v false) (pB v false), cPw_ok 1, rfl, fun _ => rfl, rfl, (pwD1 v).trans (by rw [r1 false, r2 false]; rfl), ⟨e, e⟩, fun τ W h => h⟩
 ·exact ⟨cPw 2, 900, .p (ndD 2 v ∧ ndD 2 v), two' (pV v false) (pB v false), cPw_ok 2, rfl, fun _ => rfl, rfl, (pwD2 v).trans (by rw [r1 false, r2 false]; rfl), ⟨e, e⟩, fun τ W h => h⟩
 ·exact ⟨cPw 3, 900, .p (ndD 3 v ∧ ndD 3 v), two' (pV v false) (pB v false), cPw_ok 3, rfl, fun _ => rfl, rfl, (pwD3 v).trans (by rw [r1 false, r2 false]; rfl), ⟨e, e⟩, fun τ W h => h⟩
 ·exact ⟨cPw 4, 900, .p (ndD 4 v ∧ ndD 4 v), two' (pV v false) (pB v false), cPw_ok 4, rfl, fun _ => rfl, rfl, (pwD4 v).trans (by rw [r1 false, r2 false]; rfl), ⟨e, e⟩, fun τ W h => h⟩
theorem rpowU_ok : PureOk Tryz.prog 194 (sRPow true) := by
 refine num_ok' (fun xs hk hN => ?_) ⟨_, Tryz.func194, rfl⟩
 obtain ⟨v, _, rfl, h1⟩ := kn hk; obtain rfl := k0 h1
 have hN : (decide (0 ≤ v) && okF v) = true := hN
 simp only [Bool.and_eq_true, decide_eq_true_eq] at hN
 obtain ⟨k1, k2⟩ := pick v hN.1 hN.2
 rcases k2 with ⟨e, r1, r2⟩ | ⟨e, r1, r2⟩ | ⟨e, r1, r2⟩ | ⟨e, r1, r2⟩ | ⟨e, r1, r2⟩
 ·exact ⟨cPw 0, 900, .p (ndD 0 v ∧ ndD 0 v), .tuple [.int false .i64 0, .bool false true], cPw_ok 0, rfl, fun _ => rfl, rfl, pwU0 v, ⟨e, e⟩, fun τ W h => by show VRel τ (two' _ _) W; rw [show (two' (pV v true) (pB v true)) = two' 0 true by rw [r2.1 true, r2.2 true]]; exact h⟩
 ·exact ⟨cPw 1, 900, .p (ndD 1 v ∧ ndD 1 v), two' (pV v true) (pB v true), cPw_ok 1, rfl, fun _ => rfl, rfl, (pwU1 v).trans (by rw [r1 true, r2 true]; rfl), ⟨e, e⟩, fun τ W h => h⟩
 ·exact ⟨cPw 2, 900, .p (ndD 2 v ∧ ndD 2 v), two' (pV v true) (pB v true), cPw_ok 2, rfl, fun _ => rfl, rfl, (pwU2 v).trans (by rw [r1 true, r2 true]; rfl), ⟨e, e⟩, fun τ W h => h⟩
 ·exact ⟨cPw 3, 900, .p (ndD 3 v ∧ ndD 3 v), two' (pV v true) (pB v true), cPw_ok 3, rfl, fun _ => rfl, rfl, (pwU3 v).trans (by rw [r1 true, r2 true]; rfl), ⟨e, e⟩, fun τ W h => h⟩
 ·exact ⟨cPw 4, 900, .p (ndD 4 v ∧ ndD 4 v), two' (pV v true) (pB v true), cPw_ok 4, rfl, fun _ => rfl, rfl, (pwU4 v).trans (by rw [r1 true, r2 true]; rfl), ⟨e, e⟩, fun τ W h => h⟩
end
end Go.Proofs.YtiigkjnhmipnfaaGreatDoor.K
namespace Go.Proofs.YtiigkjnhmipnfaaGreatDoor.K
open Go Go.Eng Go.Ar
noncomputable section
noncomputable def tbl6 : List (FuncId × PSpec) := (194, orS (sRPow false) (sRPow true)) :: tbl5
theorem tbl6_ok : TblOk Tryz.prog tbl6 := fun x hx => by
 rcases List.mem_cons.1 hx with rfl | hx
 ·exact orS_ok rpowD_ok rpowU_ok
 ·exact tbl5_ok x hx
noncomputable def c6 : Ctx := mkC Tryz.prog tbl6 ext
theorem c6_ok : CtxOk c6 := mkC_ok prog_ok tbl6_ok ext_ok
end
end Go.Proofs.YtiigkjnhmipnfaaGreatDoor.K
namespace Go.Ar
open Go Go.Eng
def rR (a b : Int) : Bool := bif rRt a then (bif rRt b then decide (a ≤ b) else false) else false
def rBad2 (a b c d : Int) : Bool := bif !rR a b then true else !rR c d
def rOut (g : Bool) (bad : Bool) (l h : Int) : Sp := ⟨bif g then 0 else bif bad then 0 else l, bif g then 0 else bif bad then 0 else h, bif g then 20 else bif bad then 6 else 0⟩
def rChk (a b : Int) : Int := bif !rR a b then 20 else 0
def rAddS (a b c d : Int) : Sp := rOut (rBad2 a b c d) (!rR (IntKind.i64.wrap (a + c)) (IntKind.i64.wrap (b + d))) (IntKind.i64.wrap (a + c)) (IntKind.i64.wrap (b + d))
def rSubS (a b c d : Int) : Sp := rOut (rBad2 a b c d) (!rR (IntKind.i64.wrap (a - d)) (IntKind.i64.wrap (b - c))) (IntKind.i64.wrap (a - d)) (IntKind.i64.wrap (b - c))
def ifmn (x y : Int) : Int := if y < x then y else x
def ifmx (x y : Int) : Int := if y > x then y else x
def rFit (F : Int → Int → Bool → Int) (x y : Int) : Bool := bif okF (F x y false) then okF (F x y true) else false
def rFits (F : Int → Int → Bool → Int) (a b c d : Int) : Bool := bif bif bif rFit F a c then rFit F a d else false then rFit F b c else false then rFit F b d else false
def rLo (F : Int → Int → Bool → Int) (a b c d : Int) : Int := ifmn (ifmn (ifmn (fitV (F a c false)) (fitV (F a d false))) (fitV (F b c false))) (fitV (F b d false))
def rHi (F : Int → Int → Bool → Int) (a b c d : Int) : Int := ifmx (ifmx (ifmx (fitV (F a c true)) (fitV (F a d true))) (fitV (F b c true))) (fitV (F b d true))
def r4Bad (F : Int → Int → Bool → Int) (a b c d : Int) : Bool := bif !rFits F a b c d then true else !rR (rLo F a b c d) (rHi F a b c d)
def rMulS (a b c d : Int) : Sp := rOut (rBad2 a b c d) (r4Bad mF a b c d) (rLo mF a b c d) (rHi mF a b c d)
def rDivS (a b c d : Int) : Sp :=
 ⟨bif rBad2 a b c d then 0 else bif xZ c d then 0 else bif r4Bad dF a b c d then 0 else rLo dF a b c d, bif rBad2 a b c d then 0 else bif xZ c d then 0 else bif r4Bad dF a b c d then 0 else rHi dF a b c d,
  bif rBad2 a b c d then 20 else bif xZ c d then 7 else bif r4Bad dF a b c d then 6 else 0⟩
def rSqrtS (a b : Int) : Sp := ⟨bif !rR a b then 0 else bif decide (a < 0) then 0 else rtV a false, bif !rR a b then 0 else bif decide (a < 0) then 0 else rtV b true, bif !rR a b then 20 else bif decide (a < 0) then 2 else 0⟩
def rScL (a b n d : Int) : Int := ifmn (scaleV a n d false) (scaleV b n d false)
def rScH (a b n d : Int) : Int := ifmx (scaleV a n d true) (scaleV b n d true)
def rScBad (a b n d : Int) : Bool := bif !(scaleE b n d true == 0) then true else !rR (rScL a b n d) (rScH a b n d)
def rSc3 (a b n d x y : Int) : Int := bif scaleE a n d false == 0 then bif scaleE b n d false == 0 then bif scaleE a n d true == 0 then bif rScBad a b n d then y else x else y else y else y
def rScaleS (a b n d : Int) : Sp := ⟨bif !rR a b then 0 else bif scaleE a n d false == 2 then 0 else rSc3 a b n d (rScL a b n d) 0, bif !rR a b then 0 else bif scaleE a n d false == 2 then 0 else rSc3 a b n d (rScH a b n d) 0,
 bif !rR a b then 20 else bif scaleE a n d false == 2 then 2 else rSc3 a b n d 0 6⟩
def rqV (a : Int) (up : Bool) : Int := bif decide (a ≥ 0) then pV a up else pV (IntKind.i64.wrap (0 - a)) up
def rqB (a : Int) (up : Bool) : Bool := bif decide (a ≥ 0) then pB a up else pB (IntKind.i64.wrap (0 - a)) up
def rqL (a b : Int) : Int := bif bif decide (a < 0) then decide (b > 0) else false then 0 else ifmn (rqV a false) (rqV b false)
def rqH (a b : Int) : Int := ifmx (rqV a true) (rqV b true)
def rqBad (a b : Int) : Bool := bif !rqB b true then true else !rR (rqL a b) (rqH a b)
def rq3 (a b x y : Int) : Int := bif rqB a false then bif rqB b false then bif rqB a true then bif rqBad a b then y else x else y else y else y
def rSqrS (a b : Int) : Sp := ⟨bif !rR a b then 0 else rq3 a b (rqL a b) 0, bif !rR a b then 0 else rq3 a b (rqH a b) 0, bif !rR a b then 20 else rq3 a b 0 6⟩
theorem rR_eq (a b : Int) : rR a b = okSp a b := by
 unfold rR
 rw [rRt_eq, rRt_eq]
 unfold okF okSp
 by_cases h1 : -4503599627370496 ≤ a <;> by_cases h2 : a ≤ b <;> by_cases h3 : b ≤ 4503599627370496 <;> simp [h1, h2, h3] <;> omega
theorem rR_told {l h : Int} (k : l ≤ h) : rR l h = (okF l && okF h) := by
 rw [rR_eq]
 unfold okF okSp
 rw [Bool.eq_iff_iff]
 simp
 omega
theorem rOut_told (a b c d l h : Int) (bad : Bool) (k : okSp a b = true → okSp c d = true → bad = !(okF l && okF h)) : rOut (rBad2 a b c d) bad l h = both a b c d (toldS l h) := by
 unfold rOut rBad2 both
 rw [rR_eq, rR_eq]
 cases h1 : okSp a b with
 | false => simp [err]
 | true =>
  cases h2 : okSp c d with
  | false => simp [err]
  | true =>
   rw [k h1 h2]
   unfold toldS
   cases okF l && okF h <;> simp [err]
theorem rChk_eq (a b : Int) : rChk a b = bif okSp a b then 0 else 20 := by
 unfold rChk; rw [rR_eq]; cases okSp a b <;> rfl
theorem rAddS_eq (a b c d : Int) : rAddS a b c d = addS a b c d := by
 unfold rAddS addS
 rw [rOut_told]
 ·unfold both
  cases h1 : okSp a b <;> cases h2 : okSp c d <;> try rfl
  have := okSp_iff.1 h1; have := okSp_iff.1 h2
  rw [i64w (by omega) (by omega), i64w (by omega) (by omega)]
 ·intro h1 h2
  have := okSp_iff.1 h1; have := okSp_iff.1 h2
  rw [rR_told]
  rw [i64w (by omega) (by omega), i64w (by omega) (by omega)]; omega
theorem rSubS_eq (a b c d : Int) : rSubS a b c d = subS a b c d := by
 unfold rSubS subS
 rw [rOut_told]
 ·unfold both
  cases h1 : okSp a b <;> cases h2 : okSp c d <;> try rfl
  have := okSp_iff.1 h1; have := okSp_iff.1 h2
  rw [i64w (by omega) (by omega), i64w (by omega) (by omega)]
 ·intro h1 h2
  have := okSp_iff.1 h1; have := okSp_iff.1 h2
  rw [rR_told]
  rw [i64w (by omega) (by omega), i64w (by omega) (by omega)]; omega
theorem ifmn_eq (x y : Int) : ifmn x y = mn x y := by
 unfold ifmn mn; by_cases h : y < x <;> simp [h]
theorem ifmx_eq (x y : Int) : ifmx x y = mx x y := by
 unfold ifmx mx; by_cases h : x < y <;> simp [h]
theorem fitV_ok {v : Int} (h : okF v = true) : fitV v = v := by unfold fitV; rw [h]; rfl
theorem r4_law (F : Int → Int → Bool → Int) (a b c d : Int) (hF : ∀ x y, (x = a ∨ x = b) → (y = c ∨ y = d) → F x y false ≤ F x y true) :
  (⟨bif r4Bad F a b c d then 0 else rLo F a b c d, bif r4Bad F a b c d then 0 else rHi F a b c d, bif r4Bad F a b c d then 6 else 0⟩ : Sp) = hull4 F a b c d := by
 rw [← hull_law (fun x y up => fitV (F x y up)) (fun x y up => fitE (F x y up)) F a b c d hF fun x y _ _ => ⟨bad2_of (f := fun x y up => fitE (F x y up)) Iff.rfl, fun hb => ?_⟩]
 ·have hfit : ∀ x y, rFit F x y = !bad2 (fun x y up => fitE (F x y up)) x y := by
   intro x y
   rw [bad2_of (e := fun x y up => fitE (F x y up)) (f := fun x y up => fitE (F x y up)) (F := F) Iff.rfl, Bool.not_not]
   unfold rFit
   cases okF (F x y false) <;> rfl
  have hfits : rFits F a b c d = ok4 (fun x y up => fitE (F x y up)) a b c d := by
   unfold rFits ok4
   rw [hfit, hfit, hfit, hfit]
   cases bad2 (fun x y up => fitE (F x y up)) a c <;> cases bad2 (fun x y up => fitE (F x y up)) a d <;> cases bad2 (fun x y up => fitE (F x y up)) b c <;> cases bad2 (fun x y up => fitE (F x y up)) b d <;> rfl
  have el : rLo F a b c d = l3 (fun x y up => fitV (F x y up)) a b c d := by
   unfold rLo l3 l2 l1; rw [nL_eq, nL_eq, nL_eq, ifmn_eq, ifmn_eq, ifmn_eq]
  have eh : rHi F a b c d = h3 (fun x y up => fitV (F x y up)) a b c d := by
   unfold rHi h3 h2 h1; rw [nH_eq, nH_eq, nH_eq, ifmx_eq, ifmx_eq, ifmx_eq]
  unfold bL bH bE r4Bad
  rw [hfits, ← el, ← eh]
  cases hk : ok4 (fun x y up => fitE (F x y up)) a b c d with
  | false => rfl
  | true =>
   have hle : rLo F a b c d ≤ rHi F a b c d := by
    unfold ok4 at hk
    simp only [Bool.and_eq_true] at hk
    have h1 := hk.1.1
    rw [bad2_of (e := fun x y up => fitE (F x y up)) (f := fun x y up => fitE (F x y up)) (F := F) Iff.rfl, Bool.not_not, Bool.and_eq_true] at h1
    have h2 := hF a c (.inl rfl) (.inl rfl)
    have m1 := mn_le (fitV (F a c false)) (fitV (F a d false)); have m2 := mn_le (mn (fitV (F a c false)) (fitV (F a d false))) (fitV (F b c false)); have m3 := mn_le (mn (mn (fitV (F a c false)) (fitV (F a d false))) (fitV (F b c false))) (fitV (F b d false))
    have n1 := le_mx (fitV (F a c true)) (fitV (F a d true)); have n2 := le_mx (mx (fitV (F a c true)) (fitV (F a d true))) (fitV (F b c true)); have n3 := le_mx (mx (mx (fitV (F a c true)) (fitV (F a d true))) (fitV (F b c true))) (fitV (F b d true))
    rw [fitV_ok h1.1] at m1 m2 m3
    rw [fitV_ok h1.2] at n1 n2 n3
    unfold rLo rHi
    rw [ifmn_eq, ifmn_eq, ifmn_eq, ifmx_eq, ifmx_eq, ifmx_eq, fitV_ok h1.1, fitV_ok h1.2]
    omega
   have ht : (!rR (rLo F a b c d) (rHi F a b c d)) = xTb (rLo F a b c d) (rHi F a b c d) := by rw [rR_told hle, xTb_eq hle]
   simp only [Bool.not_true, cond_false, cond_true, ht]
 ·rw [bad2_of (e := fun x y up => fitE (F x y up)) (f := fun x y up => fitE (F x y up)) (F := F) Iff.rfl] at hb
  simp only [Bool.not_eq_false', Bool.and_eq_true] at hb
  exact ⟨fitV_ok hb.1, fitV_ok hb.2⟩
theorem rMulS_eq (a b c d : Int) : rMulS a b c d = mulS a b c d := by
 unfold rMulS mulS both rOut rBad2
 rw [rR_eq, rR_eq]
 cases h1 : okSp a b with
 | false => simp [err]
 | true =>
  cases h2 : okSp c d with
  | false => simp [err]
  | true =>
   rw [← r4_law mF a b c d fun x y _ _ => rd_le _ _ (by decide)]
   rfl
theorem rDivS_eq (a b c d : Int) : rDivS a b c d = divS a b c d := by
 unfold rDivS divS both rBad2
 rw [rR_eq, rR_eq, xZ_eq]
 cases h1 : okSp a b with
 | false => simp [err]
 | true =>
  cases h2 : okSp c d with
  | false => simp [err]
  | true =>
   cases h3 : (decide (c ≤ 0) && decide (0 ≤ d)) with
   | true => simp [err]
   | false =>
    have h2 := okSp_iff.1 h2
    rw [← r4_law dF a b c d fun x y _ hy => rd_le _ _ (by
     have : y ≠ 0 := by
      intro h0
      simp only [Bool.and_eq_false_iff, decide_eq_false_iff_not] at h3
      rcases hy with rfl | rfl <;> omega
     rcases sg_cases y with ⟨_, e⟩ | ⟨_, e⟩ <;> omega)]
    rfl
theorem rSqrtS_eq (a b : Int) : rSqrtS a b = sqrtS a b := by
 unfold rSqrtS sqrtS
 rw [rR_eq]
 cases okSp a b with
 | false => rfl
 | true => cases decide (a < 0) <;> rfl
end Go.Ar
namespace Go.Ar
open Go Go.Eng
theorem scE_eq {x n d : Int} (hx : okF x = true) (up : Bool) : scaleE x n d up = bif okR n d then fitE (rd (x * n) d up) else 2 := by
 unfold scaleE okS okR; rw [hx]; rfl
theorem scV_eq {x n d : Int} (hx : okF x = true) (up : Bool) : scaleV x n d up = bif okR n d then fitV (rd (x * n) d up) else 0 := by
 unfold scaleV okS okR; rw [hx]; rfl
theorem rd_mn {x y d : Int} (hd : 0 < d) : rd (mn x y) d false = mn (rd x d false) (rd y d false) := by
 have m := mn_le x y
 have k := mn_le (rd x d false) (rd y d false)
 by_cases h : y < x
 ·have e : mn x y = y := by unfold mn; rw [decide_eq_true h]; rfl
  have := rd_lt_rd hd (Int.le_of_lt h) false
  rw [e]; omega
 ·have e : mn x y = x := by unfold mn; rw [decide_eq_false h]; rfl
  have := rd_lt_rd hd (show x ≤ y by omega) false
  rw [e]; omega
theorem rd_mx {x y d : Int} (hd : 0 < d) : rd (mx x y) d true = mx (rd x d true) (rd y d true) := by
 have m := le_mx x y
 have k := le_mx (rd x d true) (rd y d true)
 by_cases h : x < y
 ·have e : mx x y = y := by unfold mx; rw [decide_eq_true h]; rfl
  have := rd_lt_rd hd (Int.le_of_lt h) true
  rw [e]; omega
 ·have e : mx x y = x := by unfold mx; rw [decide_eq_false h]; rfl
  have := rd_lt_rd hd (show y ≤ x by omega) true
  rw [e]; omega
theorem fitE_beq (v : Int) : (fitE v == 0) = okF v ∧ (fitE v == 2) = false := by
 unfold fitE; cases okF v <;> exact ⟨rfl, rfl⟩
theorem rScaleS_eq (a b n d : Int) : rScaleS a b n d = scaleS a b n d := by
 unfold rScaleS scaleS
 rw [rR_eq]
 cases h : okSp a b with
 | false => simp [err]
 | true =>
  obtain ⟨ha, hb⟩ := okF_of_sp h
  unfold rSc3 rScBad rScL rScH
  rw [scE_eq ha, scE_eq ha, scE_eq hb, scE_eq hb, scV_eq ha, scV_eq ha, scV_eq hb, scV_eq hb]
  cases hr : okR n d with
  | false => simp [err]
  | true =>
   simp only [okR, Bool.and_eq_true, decide_eq_true_eq] at hr
   obtain ⟨⟨⟨n1, n2⟩, d1⟩, d2⟩ := hr
   have hd : 0 < d := by omega
   simp only [cond_true, Bool.not_true, cond_false]
   rw [(fitE_beq _).2, (fitE_beq _).1, (fitE_beq _).1, (fitE_beq _).1, (fitE_beq _).1, rd_mn hd, rd_mx hd]
   have o1 := rd_le (a * n) d hd
   have o2 := rd_le (b * n) d hd
   generalize rd (a * n) d false = A0 at *
   generalize rd (a * n) d true = A1 at *
   generalize rd (b * n) d false = B0 at *
   generalize rd (b * n) d true = B1 at *
   have m := mn_le A0 B0
   have k := le_mx A1 B1
   by_cases hall : okF A0 = true ∧ okF B0 = true ∧ okF A1 = true ∧ okF B1 = true
   ·obtain ⟨f1, f2, f3, f4⟩ := hall
    rw [fitV_ok f1, fitV_ok f2, fitV_ok f3, fitV_ok f4, ifmn_eq, ifmx_eq, rR_told (by omega), f1, f2, f3, f4]
    have g1 := okF_iff.1 f1; have g2 := okF_iff.1 f2; have g3 := okF_iff.1 f3; have g4 := okF_iff.1 f4
    have l : okF (mn A0 B0) = true := okF_iff.2 (by omega)
    have u : okF (mx A1 B1) = true := okF_iff.2 (by omega)
    unfold toldS
    rw [l, u]; rfl
   ·have hbad : (okF (mn A0 B0) && okF (mx A1 B1)) = false := by
     cases hh : (okF (mn A0 B0) && okF (mx A1 B1)) with
     | false => rfl
     | true =>
      simp only [Bool.and_eq_true, okF_iff] at hh
      exact absurd ⟨okF_iff.2 (by omega), okF_iff.2 (by omega), okF_iff.2 (by omega), okF_iff.2 (by omega)⟩ hall
    unfold toldS
    rw [hbad]
    cases f1 : okF A0 <;> cases f2 : okF B0 <;> cases f3 : okF A1 <;> cases f4 : okF B1 <;> first | rfl | exact absurd ⟨f1, f2, f3, f4⟩ hall
theorem pB_eq {v : Int} (up : Bool) : pB v up = decide (rd (v * v) 4294967296 up ≤ 4503599627370496) ∧ (pB v up = true → pV v up = rd (v * v) 4294967296 up) := by
 have h1 := rd_le (v * v) 4294967296 (by decide)
 have h2 : rd (v * v) 4294967296 false = v * v / 4294967296 := rfl
 unfold pB pV
 cases he : pEarly v with
 | false => exact ⟨rfl, fun _ => rfl⟩
 | true =>
  refine ⟨?_, fun h => by cases h⟩
  have := of_decide_eq_true he
  symm
  rw [cond_true, decide_eq_false_iff_not]
  cases up <;> omega
theorem rq_abs {a : Int} (h : okF a = true) (up : Bool) : rqB a up = decide (rd (a * a) 4294967296 up ≤ 4503599627370496) ∧ (rqB a up = true → rqV a up = rd (a * a) 4294967296 up) := by
 have h := okF_iff.1 h
 unfold rqB rqV
 by_cases c : a ≥ 0
 ·rw [decide_eq_true c]; exact pB_eq up
 ·rw [decide_eq_false c, cond_false, cond_false, i64w (by omega) (by omega), Int.zero_sub]
  have := pB_eq (v := -a) up
  rw [Int.neg_mul_neg] at this
  exact this
theorem rSqrS_eq (a b : Int) : rSqrS a b = sqrS a b := by
 unfold rSqrS sqrS
 rw [rR_eq]
 cases h : okSp a b with
 | false => simp [err]
 | true =>
  obtain ⟨ha, hb⟩ := okF_of_sp h
  have k := okSp_iff.1 h
  obtain ⟨_, _, l0, l1, l2⟩ := xa_eq h
  obtain ⟨af, vaf⟩ := rq_abs ha false
  obtain ⟨at', vat⟩ := rq_abs ha true
  obtain ⟨bf, vbf⟩ := rq_abs hb false
  obtain ⟨bt, vbt⟩ := rq_abs hb true
  have hl : abL a b * abL a b = (if a < 0 ∧ 0 < b then 0 else mn (a * a) (b * b)) ∧ abH a b * abH a b = mx (a * a) (b * b) := by
   have q0 : 0 ≤ a * a := by
    rcases Int.le_total 0 a with c | c
    ·exact Int.mul_nonneg c c
    ·exact Int.mul_nonneg_of_nonpos_of_nonpos c c
   have q1 : 0 ≤ b * b := by
    rcases Int.le_total 0 b with c | c
    ·exact Int.mul_nonneg c c
    ·exact Int.mul_nonneg_of_nonpos_of_nonpos c c
   have key : ∀ x y : Int, 0 ≤ x → x ≤ y → x * x ≤ y * y := fun x y h1 h2 => Int.mul_le_mul h2 h2 h1 (by omega)
   rcases Int.lt_or_le a 0 with c | c
   ·rcases Int.lt_or_le 0 b with e | e
    ·have eL : abL a b = 0 := by have m1 := le_mx a (-b); have m2 := le_mx (mx a (-b)) 0; unfold abL; omega
     rw [eL, if_pos ⟨c, e⟩]
     refine ⟨rfl, ?_⟩
     unfold abH
     by_cases h2 : b < -a
     ·have eH : mx b (-a) = -a := by unfold mx; rw [decide_eq_true h2]; rfl
      have := key b (-a) (by omega) (by omega)
      rw [Int.neg_mul_neg] at this
      rw [eH, Int.neg_mul_neg]
      have m := le_mx (a * a) (b * b); omega
     ·have eH : mx b (-a) = b := by unfold mx; rw [decide_eq_false h2]; rfl
      have := key (-a) b (by omega) (by omega)
      rw [Int.neg_mul_neg] at this
      rw [eH]
      have m := le_mx (a * a) (b * b); omega
    ·have eL : abL a b = -b := by have m1 := le_mx a (-b); have m2 := le_mx (mx a (-b)) 0; unfold abL; omega
     have eH : abH a b = -a := by have m1 := le_mx b (-a); unfold abH; omega
     have := key (-b) (-a) (by omega) (by omega)
     rw [Int.neg_mul_neg, Int.neg_mul_neg] at this
     rw [eL, eH, if_neg (by omega), Int.neg_mul_neg, Int.neg_mul_neg]
     have m := le_mx (a * a) (b * b); have m' := mn_le (a * a) (b * b); omega
   ·have eL : abL a b = a := by have m1 := le_mx a (-b); have m2 := le_mx (mx a (-b)) 0; unfold abL; omega
    have eH : abH a b = b := by have m1 := le_mx b (-a); unfold abH; omega
    have := key a b c k.2.1
    rw [eL, eH, if_neg (by omega)]
    have m := le_mx (a * a) (b * b); have m' := mn_le (a * a) (b * b); omega
  rw [hl.1, hl.2, rd_mx (by decide)]
  have lowE : rd (if a < 0 ∧ 0 < b then 0 else mn (a * a) (b * b)) 4294967296 false = (if a < 0 ∧ 0 < b then 0 else mn (rd (a * a) 4294967296 false) (rd (b * b) 4294967296 false)) := by
   split
   ·rfl
   ·exact rd_mn (by decide)
  rw [lowE]
  have q0 : 0 ≤ rd (a * a) 4294967296 false := by
   show 0 ≤ a * a / 4294967296
   exact Int.ediv_nonneg (by
    rcases Int.le_total 0 a with c | c
    ·exact Int.mul_nonneg c c
    ·exact Int.mul_nonneg_of_nonpos_of_nonpos c c) (by decide)
  have q1 : 0 ≤ rd (b * b) 4294967296 false := by
   show 0 ≤ b * b / 4294967296
   exact Int.ediv_nonneg (by
    rcases Int.le_total 0 b with c | c
    ·exact Int.mul_nonneg c c
    ·exact Int.mul_nonneg_of_nonpos_of_nonpos c c) (by decide)
  have o1 := rd_le (a * a) 4294967296 (by decide)
  have o2 := rd_le (b * b) 4294967296 (by decide)
  unfold rq3 rqBad rqL rqH
  generalize rd (a * a) 4294967296 false = A0 at *
  generalize rd (a * a) 4294967296 true = A1 at *
  generalize rd (b * b) 4294967296 false = B0 at *
  generalize rd (b * b) 4294967296 true = B1 at *
  have m := mn_le A0 B0
  have kx := le_mx A1 B1
  by_cases hall : A1 ≤ 4503599627370496 ∧ B1 ≤ 4503599627370496
  ·rw [decide_eq_true (show A0 ≤ 4503599627370496 by omega)] at af
   rw [decide_eq_true hall.1] at at'
   rw [decide_eq_true (show B0 ≤ 4503599627370496 by omega)] at bf
   rw [decide_eq_true hall.2] at bt
   rw [af, at', bf, bt, vaf af, vat at', vbf bf, vbt bt, ifmn_eq, ifmx_eq]
   have low : (bif bif decide (a < 0) then decide (b > 0) else false then 0 else mn A0 B0) = (if a < 0 ∧ 0 < b then 0 else mn A0 B0) := by
    by_cases c : a < 0 <;> by_cases e : 0 < b <;> simp [c, e]
   rw [low]
   have bl : 0 ≤ (if a < 0 ∧ 0 < b then 0 else mn A0 B0) ∧ (if a < 0 ∧ 0 < b then 0 else mn A0 B0) ≤ mx A1 B1 := by split <;> omega
   generalize (if a < 0 ∧ 0 < b then 0 else mn A0 B0) = L at *
   rw [rR_told bl.2]
   have l : okF L = true := okF_iff.2 (by omega)
   have u : okF (mx A1 B1) = true := okF_iff.2 (by omega)
   unfold toldS
   rw [l, u]; rfl
  ·have u : okF (mx A1 B1) = false := okF_false.2 (by omega)
   unfold toldS
   rw [u, Bool.and_false]
   cases f1 : rqB a false <;> cases f2 : rqB b false <;> cases f3 : rqB a true <;> cases f4 : rqB b true <;> first | rfl | skip
   rw [f3] at at'
   rw [f4] at bt
   exact absurd ⟨of_decide_eq_true at'.symm, of_decide_eq_true bt.symm⟩ hall
end Go.Ar
namespace Go.Ar
open Go Go.Eng
def ndM4 (G : Int → Int → Bool) (F : Int → Int → Bool → Int) (a b c d : Int) : Prop :=
 (d = d ∧ c = c ∧ d = d ∧ c = c) ∧ (((G a c = true ∧ G a c = true) ∧ (G a d = true ∧ G a d = true) ∧ (G b c = true ∧ G b c = true) ∧ (G b d = true ∧ G b d = true)) ∧
  (fitV (F a c true) = fitV (F a c true) ∧ fitV (F a d true) = fitV (F a d true) ∧ fitV (F b c true) = fitV (F b c true) ∧ fitV (F b d true) = fitV (F b d true)))
def ndMul (a b c d : Int) : Prop := (!rBad2 a b c d) = true → ndM4 (fun x y => okF x && okF y) mF a b c d
def ndDiv (a b c d : Int) : Prop := (!rBad2 a b c d) = true → (!xZ c d) = true → ndM4 (fun x y => okF x && (okF y && !y == 0)) dF a b c d
def ndP (v : Int) : Prop := (decide (v ≥ 0) = true → (decide (0 ≤ v) && okF v) = true) ∧ ((!decide (v ≥ 0)) = true → (decide (0 ≤ IntKind.i64.wrap (0 - v)) && okF (IntKind.i64.wrap (0 - v))) = true)
def ndSqr (a b : Int) : Prop := (!!rR a b) = true → ndP a ∧ ndP b ∧ ndP a ∧ ndP b
def ndSqrt (a b : Int) : Prop := (!!rR a b) = true → (!decide (a < 0)) = true → sqOk a = true ∧ b = b ∧ sqOk b = true
theorem bad2_ok {a b c d : Int} (h : (!rBad2 a b c d) = true) : (okF a = true ∧ okF b = true ∧ a ≤ b) ∧ okF c = true ∧ okF d = true ∧ c ≤ d := by
 unfold rBad2 at h
 rw [rR_eq, rR_eq] at h
 cases h1 : okSp a b with
 | false => rw [h1] at h; cases h
 | true =>
  rw [h1] at h
  cases h2 : okSp c d with
  | false => rw [h2] at h; cases h
  | true =>
   have k1 := okF_of_sp h1; have k2 := okF_of_sp h2
   have l1 : a ≤ b := by unfold okSp at h1; simp at h1; omega
   have l2 : c ≤ d := by unfold okSp at h2; simp at h2; omega
   exact ⟨⟨k1.1, k1.2, l1⟩, k2.1, k2.2, l2⟩
theorem ndMul_ok (a b c d : Int) : ndMul a b c d := by
 intro h
 obtain ⟨⟨h1, h2, _⟩, h3, h4, _⟩ := bad2_ok h
 unfold ndM4
 simp [h1, h2, h3, h4]
theorem ndDiv_ok (a b c d : Int) : ndDiv a b c d := by
 intro h hz
 obtain ⟨⟨h1, h2, _⟩, h3, h4, h5⟩ := bad2_ok h
 have : c ≠ 0 ∧ d ≠ 0 := by
  unfold xZ at hz
  simp at hz
  omega
 unfold ndM4
 simp [h1, h2, h3, h4, this.1, this.2]
theorem ndP_ok {v : Int} (h : okF v = true) : ndP v := by
 have := okF_iff.1 h
 refine ⟨fun k => ?_, fun k => ?_⟩
 ·simp at k; simp [k, h]
 ·simp at k
  have e : IntKind.i64.wrap (0 - v) = 0 - v := i64w (by omega) (by omega)
  have h2 : okF (0 - v) = true := okF_iff.2 (by omega)
  have h3 : (0 : Int) ≤ 0 - v := by omega
  rw [e, h2, decide_eq_true h3]; rfl
theorem ndSqr_ok (a b : Int) : ndSqr a b := by
 intro h
 rw [Bool.not_not, rR_eq] at h
 obtain ⟨h1, h2⟩ := okF_of_sp h
 exact ⟨ndP_ok h1, ndP_ok h2, ndP_ok h1, ndP_ok h2⟩
theorem ndSqrt_ok (a b : Int) : ndSqrt a b := by
 intro h h0
 rw [Bool.not_not, rR_eq] at h
 obtain ⟨h1, h2⟩ := okF_of_sp h
 have l : a ≤ b := by unfold okSp at h; simp at h; omega
 have k1 := okF_iff.1 h1; have k2 := okF_iff.1 h2
 simp at h0
 have g1 : sqOk a = true := by unfold sqOk; rw [h1, decide_eq_true h0]; rfl
 have g2 : sqOk b = true := by unfold sqOk; rw [h2, decide_eq_true (show (0 : Int) ≤ b by omega)]; rfl
 exact ⟨g1, rfl, g2⟩
end Go.Ar
namespace Go.Proofs.YtiigkjnhmipnfaaGreatDoor.K
open Go Go.Eng Go.Ar
noncomputable section
theorem radd_run (a b c d : Int) : oneV ((run c6 300).call 101 [.agg [.int true .i64 a, .int true .i64 b], .agg [.int true .i64 c, .int true .i64 d]] ⟨[], 0, 1⟩) = some (.tt, (outS (rAddS a b c d)).av true) := by kernel_rfl
theorem rsub_run (a b c d : Int) : oneV ((run c6 300).call 164 [.agg [.int true .i64 a, .int true .i64 b], .agg [.int true .i64 c, .int true .i64 d]] ⟨[], 0, 1⟩) = some (.tt, (outS (rSubS a b c d)).av true) := by kernel_rfl
theorem rmul_run (a b c d : Int) : oneV ((run c6 300).call 102 [.agg [.int true .i64 a, .int true .i64 b], .agg [.int true .i64 c, .int true .i64 d]] ⟨[], 0, 1⟩) = some (.p (ndMul a b c d), (outS (rMulS a b c d)).av true) := by kernel_rfl
theorem rdiv_run (a b c d : Int) : oneV ((run c6 300).call 135 [.agg [.int true .i64 a, .int true .i64 b], .agg [.int true .i64 c, .int true .i64 d]] ⟨[], 0, 1⟩) = some (.p (ndDiv a b c d), (outS (rDivS a b c d)).av true) := by kernel_rfl
theorem rsqrt_run (a b : Int) : oneV ((run c6 300).call 134 [.agg [.int true .i64 a, .int true .i64 b]] ⟨[], 0, 1⟩) = some (.p (ndSqrt a b), (outS (rSqrtS a b)).av true) := by kernel_rfl
theorem rsqr_run (a b : Int) : oneV ((run c6 300).call 103 [.agg [.int true .i64 a, .int true .i64 b]] ⟨[], 0, 1⟩) = some (.p (ndSqr a b), (outS (rSqrS a b)).av true) := by kernel_rfl
theorem rsc_run (a b n d : Int) : oneV ((run c6 300).call 136 [.agg [.int true .i64 a, .int true .i64 b], .int true .i64 n, .int true .i64 d] ⟨[], 0, 1⟩) = some (.tt, (outS (rScaleS a b n d)).av true) := by kernel_rfl
theorem rchk_run (a b : Int) : oneV ((run c6 300).call 105 [.agg [.int true .i64 a, .int true .i64 b]] ⟨[], 0, 1⟩) = some (.tt, .int true .i64 (rChk a b)) := by kernel_rfl
theorem radd_ok : PureOk Tryz.prog 101 (sBin addS) := by
 refine num_ok (fun xs hk _ => ?_) ⟨_, Tryz.func101, rfl⟩
 obtain ⟨a, _, rfl, h1⟩ := kn hk; obtain ⟨b, _, rfl, h2⟩ := kn h1; obtain ⟨c, _, rfl, h3⟩ := kn h2; obtain ⟨d, _, rfl, h4⟩ := kn h3; obtain rfl := k0 h4
 exact ⟨c6, 300, _, c6_ok, rfl, fun _ => rfl, rfl, (radd_run a b c d).trans (by rw [rAddS_eq]), trivial⟩
theorem rsub_ok : PureOk Tryz.prog 164 (sBin subS) := by
 refine num_ok (fun xs hk _ => ?_) ⟨_, Tryz.func164, rfl⟩
 obtain ⟨a, _, rfl, h1⟩ := kn hk; obtain ⟨b, _, rfl, h2⟩ := kn h1; obtain ⟨c, _, rfl, h3⟩ := kn h2; obtain ⟨d, _, rfl, h4⟩ := kn h3; obtain rfl := k0 h4
 exact ⟨c6, 300, _, c6_ok, rfl, fun _ => rfl, rfl, (rsub_run a b c d).trans (by rw [rSubS_eq]), trivial⟩
theorem rmul_ok : PureOk Tryz.prog 102 (sBin mulS) := by
 refine num_ok (fun xs hk _ => ?_) ⟨_, Tryz.func102, rfl⟩
 obtain ⟨a, _, rfl, h1⟩ := kn hk; obtain ⟨b, _, rfl, h2⟩ := kn h1; obtain ⟨c, _, rfl, h3⟩ := kn h2; obtain ⟨d, _, rfl, h4⟩ := kn h3; obtain rfl := k0 h4
 exact ⟨c6, 300, _, c6_ok, rfl, fun _ => rfl, rfl, (rmul_run a b c d).trans (by rw [rMulS_eq]), ndMul_ok a b c d⟩
theorem rdiv_ok : PureOk Tryz.prog 135 (sBin divS) := by
 refine num_ok (fun xs hk _ => ?_) ⟨_, Tryz.func135, rfl⟩
 obtain ⟨a, _, rfl, h1⟩ := kn hk; obtain ⟨b, _, rfl, h2⟩ := kn h1; obtain ⟨c, _, rfl, h3⟩ := kn h2; obtain ⟨d, _, rfl, h4⟩ := kn h3; obtain rfl := k0 h4
 exact ⟨c6, 300, _, c6_ok, rfl, fun _ => rfl, rfl, (rdiv_run a b c d).trans (by rw [rDivS_eq]), ndDiv_ok a b c d⟩
theorem rsqrt_ok : PureOk Tryz.prog 134 (sUn sqrtS) := by
 refine num_ok (fun xs hk _ => ?_) ⟨_, Tryz.func134, rfl⟩
 obtain ⟨a, _, rfl, h1⟩ := kn hk; obtain ⟨b, _, rfl, h2⟩ := kn h1; obtain rfl := k0 h2
 exact ⟨c6, 300, _, c6_ok, rfl, fun _ => rfl, rfl, (rsqrt_run a b).trans (by rw [rSqrtS_eq]), ndSqrt_ok a b⟩
theorem rsqr_ok : PureOk Tryz.prog 103 (sUn sqrS) := by
 refine num_ok (fun xs hk _ => ?_) ⟨_, Tryz.func103, rfl⟩
 obtain ⟨a, _, rfl, h1⟩ := kn hk; obtain ⟨b, _, rfl, h2⟩ := kn h1; obtain rfl := k0 h2
 exact ⟨c6, 300, _, c6_ok, rfl, fun _ => rfl, rfl, (rsqr_run a b).trans (by rw [rSqrS_eq]), ndSqr_ok a b⟩
theorem rsc_ok : PureOk Tryz.prog 136 (sSc scaleS) := by
 refine num_ok (fun xs hk _ => ?_) ⟨_, Tryz.func136, rfl⟩
 obtain ⟨a, _, rfl, h1⟩ := kn hk; obtain ⟨b, _, rfl, h2⟩ := kn h1; obtain ⟨n, _, rfl, h3⟩ := kn h2; obtain ⟨d, _, rfl, h4⟩ := kn h3; obtain rfl := k0 h4
 exact ⟨c6, 300, _, c6_ok, rfl, fun _ => rfl, rfl, (rsc_run a b n d).trans (by rw [rScaleS_eq]), trivial⟩
theorem rchk_ok : PureOk Tryz.prog 105 sChk := by
 refine num_ok (fun xs hk _ => ?_) ⟨_, Tryz.func105, rfl⟩
 obtain ⟨a, _, rfl, h1⟩ := kn hk; obtain ⟨b, _, rfl, h2⟩ := kn h1; obtain rfl := k0 h2
 have := rchk_run a b
 rw [rChk_eq] at this
 exact ⟨c6, 300, _, c6_ok, rfl, fun _ => rfl, rfl, this, trivial⟩
end
end Go.Proofs.YtiigkjnhmipnfaaGreatDoor.K
namespace Go.Proofs.YtiigkjnhmipnfaaGreatDoor
open Go Go.Eng
theorem all_names : (Tryz.prog.funcs.toList.all fun fn => !(fn.name == "runtime.NumGoroutine")) = true := by kernel_rfl
theorem prog_ok : ProgOk Tryz.prog := by
 refine ⟨fun f fn h _ => ?_, by kernel_rfl⟩
 have h1 : fn ∈ Tryz.prog.funcs.toList := by
  rw [Array.mem_toList_iff]
  exact Array.mem_of_getElem? h
 have := List.all_eq_true.1 all_names fn h1
 simpa using this
def ext (f : FuncId) (args : List AV) : Option (Nd × AV) :=
 match Nat.beq f 214 with
 | true => match args with
  | [.int false .u64 x, .int false .u64 y, .int false .u64 c] => match decide (0 ≤ x ∧ 0 ≤ y ∧ 0 ≤ c ∧ c ≤ 1) with
   | true => some (.tt, .tuple [mkInt false .u64 ((x + y + c) % 18446744073709551616), mkInt false .u64 ((x + y + c) / 18446744073709551616)])
   | false => none
  | _ => none
 | false => none
theorem mkInt_rel {σ : Sg} {s : Bool} {k : IntKind} {n : Int} : VRel σ (mkInt s k n) (.int k n) := by
 cases s with
 | true => rfl
 | false =>
  unfold mkInt forceInt
  cases n with
  | ofNat m => cases m <;> rfl
  | negSucc m => cases m <;> rfl
theorem add64_run (x y c : Int) (hx : 0 ≤ x) (hy : 0 ≤ y) (hc0 : 0 ≤ c) (hc : c ≤ 1) (w : World) :
  (callFunc 214 #[.int .u64 x, .int .u64 y, .int .u64 c]).run Tryz.prog w = .ok (.value (.tuple #[.int .u64 ((x + y + c) % 18446744073709551616), .int .u64 ((x + y + c) / 18446744073709551616)])) w := by
 rw [run_callFunc_extern Tryz.func214 (by kernel_rfl) (by kernel_rfl) (by kernel_rfl) (e := add64Entry) (by kernel_rfl), run_add64 x y c hx hy hc0 hc]
 rfl
theorem ext_ok : ExtOk Tryz.prog ext := by
 intro f args nd v e hn σ A W ha
 unfold ext at e
 split at e
 ·rename_i hf
  have := Nat.eq_of_beq_eq_true hf
  subst this
  split at e
  ·rename_i x y c
   split at e
   ·rename_i hd
    have hd := of_decide_eq_true hd
    cases e
    obtain ⟨V, L, hL, rfl, V2, L2, hL2, rfl, V3, L3, hL3, rfl, hL4⟩ := ha
    rw [hL2, hL3, show L3 = [] from hL4] at hL
    have hA : A = #[.int .u64 x, .int .u64 y, .int .u64 c] := by
     apply Array.toList_inj.1; simpa using hL
    subst hA
    exact ⟨_, ⟨_, rfl, _, _, rfl, mkInt_rel, _, _, rfl, mkInt_rel, rfl⟩, add64_run x y c hd.1 hd.2.1 hd.2.2.1 hd.2.2.2 W⟩
   ·cases e
  ·cases e
 ·cases e
def glob (g : Nat) : Option Nat :=
 match Nat.beq g 2 with
 | true => some 0
 | false => match Nat.beq g 0 with
  | true => some 1
  | false => none
def hG : Hp := ⟨[⟨0, .view [.int false .i64 1, .int false .i64 10]⟩, ⟨0, .view [.int false .i64 11, .int false .i64 12, .int false .i64 13, .int false .i64 14, .int false .i64 15]⟩, ⟨0, .view [.int false .i64 1, .int false .i64 2, .int false .i64 3, .int false .i64 4, .int false .i64 10]⟩,
 ⟨0, .view [.int false .i64 1, .int false .i64 2, .int false .i64 5, .int false .i64 6, .int false .i64 7, .int false .i64 8, .int false .i64 10]⟩,
 ⟨0, .map [(.int false .i64 1, .vslice 3 7), (.int false .i64 2, .vslice 4 5), (.int false .i64 3, .vslice 5 5), (.int false .i64 4, .vslice 6 2)]⟩, ⟨0, .cells [.map 2]⟩, ⟨0, .cells [.int false .i64 4294967296, .int false .i64 4294967296]⟩], 7, 1⟩
theorem glob_lt : ∀ g i, glob g = some i → i < hG.size := by
 intro g i h
 unfold glob at h
 split at h
 ·cases h; decide
 ·split at h
  ·cases h; decide
  ·cases h
theorem known {tbl : List (FuncId × List AV × AV)} (ht : ∀ x ∈ tbl, MemoOk Tryz.prog glob hG x) {f : FuncId} {args : List AV} {v : AV} (ha : AV.underL 7 args = true) (hv : v.under 7 = true)
  (e : memoV 7 1 ((run (mkM Tryz.prog glob hG tbl ext) 3000).call f args hG) = some v) : MemoOk Tryz.prog glob hG (f, args, v) :=
 memo_ok prog_ok ext_ok ht rfl (by kernel_rfl) glob_lt ha hv e
theorem none_known : ∀ x ∈ ([] : List (FuncId × List AV × AV)), MemoOk Tryz.prog glob hG x := fun _ h => by cases h
theorem more {x : FuncId × List AV × AV} {l : List (FuncId × List AV × AV)} (h : MemoOk Tryz.prog glob hG x) (k : ∀ y ∈ l, MemoOk Tryz.prog glob hG y) : ∀ y ∈ x :: l, MemoOk Tryz.prog glob hG y := fun y hy => by
 rcases List.mem_cons.1 hy with rfl | hy
 ·exact h
 ·exact k y hy
end Go.Proofs.YtiigkjnhmipnfaaGreatDoor
namespace Go.Proofs.YtiigkjnhmipnfaaGreatDoor.K
open Go Go.Eng Go.Ar
noncomputable section
noncomputable def tblP : List (FuncId × PSpec) := [(88, sChk), (92, sBin addS), (122, sBin subS), (93, sBin mulS), (107, sBin divS), (131, sUn sqrS), (124, sUn sqrtS), (143, sSc xScaleS)]
theorem tblP_ok : TblOk Tryz.prog tblP := by
 intro x hx
 simp only [tblP, List.mem_cons, List.not_mem_nil, or_false] at hx
 rcases hx with rfl | rfl | rfl | rfl | rfl | rfl | rfl | rfl
 ·exact schk_ok
 ·exact sadd_ok
 ·exact ssub_ok
 ·exact smul_ok
 ·exact sdiv_ok
 ·exact ssqr_ok
 ·exact ssqrt_ok
 ·exact sscale_ok
theorem tblP_g : ∀ x ∈ tblP, GOk Tryz.prog glob hG x.1 x.2 := fun x hx => (tblP_ok x hx).g glob hG
theorem hG_plain : blksPlain hG.size hG.blks = true := by kernel_rfl
end
end Go.Proofs.YtiigkjnhmipnfaaGreatDoor.K
namespace Go.Proofs.YtiigkjnhmipnfaaGreatDoor.K
open Go Go.Eng Go.Ar
noncomputable section
def goodV (s : Sp) : AV := .tuple [.agg [.int true .i64 s.lo, .int true .i64 s.hi], .int false .i64 0]
def good4 (ss : List Sh) (F : Int → Int → Int → Int → Sp) : PSpec := fun args => match Sh.readL ss args with
 | some (_, [.n a, .n b, .n c, .n d]) => some (.p ((F a b c d).e = 0), goodV (F a b c d))
 | _ => none
def good2 (ss : List Sh) (F : Int → Int → Sp) : PSpec := fun args => match Sh.readL ss args with
 | some (_, [.n a, .n b]) => some (.p ((F a b).e = 0), goodV (F a b))
 | _ => none
theorem outS_good {σ : Sg} {s : Bool} {x : Sp} {W : Value} (h : VRel σ ((outS x).av s) W) (he : x.e = 0) : VRel σ (goodV x) W := by
 obtain ⟨K, rfl, h1⟩ := h
 obtain ⟨V1, L1, e1, h2, h3⟩ := h1
 obtain ⟨V2, L2, e2, h4, h5⟩ := h3
 obtain ⟨K1, rfl, h6⟩ := h2
 obtain ⟨V3, L3, e3, h7, h8⟩ := h6
 obtain ⟨V4, L4, e4, h9, h10⟩ := h8
 have h4 := (Go.Eng.mkInt_rel _ _ _ _).1 h4
 have h7 := (Go.Eng.mkInt_rel _ _ _ _).1 h7
 have h9 := (Go.Eng.mkInt_rel _ _ _ _).1 h9
 rw [he] at h4
 exact ⟨K, rfl, _, L1, e1, ⟨K1, rfl, V3, L3, e3, h7, V4, L4, e4, h9, h10⟩, V2, L2, e2, h4, h5⟩
theorem good_bin {f : FuncId} {F : Int → Int → Int → Int → Sp} (g : PureOk Tryz.prog f (sBin F)) : GOk Tryz.prog glob hG f (good4 [shS, shS] F) := by
 refine (g.g glob hG).weaken fun args nd v e => ?_
 unfold good4 at e
 split at e
 ·rename_i s a b c d hr
  cases e
  refine ⟨.tt, (outS (F a b c d)).av s, ?_, fun hn => ⟨trivial, fun σ W hW => outS_good hW hn⟩⟩
  unfold sBin numSpec
  rw [hr]
 ·cases e
theorem good_sc {f : FuncId} {F : Int → Int → Int → Int → Sp} (g : PureOk Tryz.prog f (sSc F)) : GOk Tryz.prog glob hG f (good4 [shS, .i .i64, .i .i64] F) := by
 refine (g.g glob hG).weaken fun args nd v e => ?_
 unfold good4 at e
 split at e
 ·rename_i s a b c d hr
  cases e
  refine ⟨.tt, (outS (F a b c d)).av s, ?_, fun hn => ⟨trivial, fun σ W hW => outS_good hW hn⟩⟩
  unfold sSc numSpec
  rw [hr]
 ·cases e
theorem good_un {f : FuncId} {F : Int → Int → Sp} (g : PureOk Tryz.prog f (sUn F)) : GOk Tryz.prog glob hG f (good2 [shS] F) := by
 refine (g.g glob hG).weaken fun args nd v e => ?_
 unfold good2 at e
 split at e
 ·rename_i s a b hr
  cases e
  refine ⟨.tt, (outS (F a b)).av s, ?_, fun hn => ⟨trivial, fun σ W hW => outS_good hW hn⟩⟩
  unfold sUn numSpec
  rw [hr]
 ·cases e
def nOkSp : List Nu → Bool
 | [.n a, .n b] => okSp a b
 | _ => false
def chkSpec : PSpec := fun args => match Sh.readL [shS] args with
 | some (_, [.n a, .n b]) => some (.p (okSp a b = true), .int false .i64 0)
 | _ => none
theorem chk_of {f : FuncId} (g : GOk Tryz.prog glob hG f (constSpec [shS] nOkSp (.int false .i64 0))) : GOk Tryz.prog glob hG f chkSpec := by
 refine g.weaken fun args nd v e => ?_
 unfold chkSpec at e
 split at e
 ·rename_i s a b hr
  cases e
  refine ⟨.p (nOkSp [.n a, .n b] = true), .int false .i64 0, ?_, fun hn => ⟨hn, fun σ W hW => hW⟩⟩
  unfold constSpec
  rw [hr]
 ·cases e
theorem chk0 : GOk Tryz.prog glob hG 88 chkSpec := chk_of <|
 const_of (schk_ok.g glob hG) fun xs hk hn => by
  obtain ⟨a, _, rfl, h1⟩ := kn hk; obtain ⟨b, _, rfl, h2⟩ := kn h1; obtain rfl := k0 h2
  show Tm.n IntKind.i64 (chkS a b) = _
  unfold chkS
  rw [show okSp a b = true from hn]; rfl
end
end Go.Proofs.YtiigkjnhmipnfaaGreatDoor.K
namespace Go.Rd
def g1 : ByteArray := ⟨#[66, 75, 55]⟩
def g2 : ByteArray := ⟨#[83, 70, 45, 49]⟩
def g3 : ByteArray := ⟨#[77, 73, 82, 82, 79, 82]⟩
def g4 : ByteArray := ⟨#[102, 95, 50]⟩
def isG (b : ByteArray) : Prop := b = g1 ∨ b = g2 ∨ b = g3 ∨ b = g4
end Go.Rd
namespace Go.Proofs.YtiigkjnhmipnfaaGreatDoor.K
open Go Go.Eng Go.Ar Go.Rd
noncomputable section
theorem hG_ok : hG.ok := rfl
def e0 : Sh := .c (.str false ⟨#[]⟩)
def kd (n : Int) : Sh := .c (.int false .i64 n)
end
end Go.Proofs.YtiigkjnhmipnfaaGreatDoor.K
