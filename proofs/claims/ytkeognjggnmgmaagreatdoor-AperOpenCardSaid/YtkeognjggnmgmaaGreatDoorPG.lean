/- What is proved: AperOpen returns true, whatever the input (part 7 of 22). No conditions beyond those of the row. -/
import Derived.Test.YtkeognjggnmgmaaGreatDoorPF
set_option linter.unusedVariables false
set_option linter.unusedSimpArgs false
set_option linter.unusedSectionVars false
/- What drafts give: ranges, wraps that are none. No program. -/
namespace Go.Rd
open Go Go.Eng Go.Ar

theorem tm_nn {a k : Int} (ha : 0 ≤ a) (hk : 0 < k) : 0 ≤ a.tmod k ∧ a.tmod k < k := by
  rw [Int.tmod_eq_emod_of_nonneg ha]
  exact ⟨Int.emod_nonneg _ (by omega), Int.emod_lt_of_pos _ hk⟩
theorem tm_bd (a : Int) {k : Int} (hk : 0 < k) : -k < a.tmod k ∧ a.tmod k < k := by
  rcases Int.le_total 0 a with h | h
  · have := tm_nn h hk; omega
  · have h2 := tm_nn (a := -a) (k := k) (by omega) hk
    rw [Int.neg_tmod] at h2; omega
theorem wz {z : Int} (z0 : -40000 ≤ z) (z1 : z ≤ 70000) : IntKind.i64.wrap z = z := i64w (by omega) (by omega)
theorem wk {k z : Int} (k0 : 0 ≤ k) (k1 : k ≤ 100000) (z0 : -40000 ≤ z) (z1 : z ≤ 70000) : IntKind.i64.wrap (k * IntKind.i64.wrap z) = k * z := by
  have h := mul_bd (a := k) (n := z) (M := 100000) (L := 70000) (by omega) k1 (by omega) (by omega)
  rw [wz z0 z1]
  exact i64w (by omega) (by omega)

structure Dr (z0 z1 z2 z3 z4 z5 z6 z7 z8 z9 z10 z11 z12 z13 z14 z15 z16 z17 z18 z19 z20 : Int) : Prop where
  r0 : 0 ≤ z0 ∧ z0 ≤ 255
  r1 : -32768 ≤ z1 ∧ z1 ≤ 32767
  r2 : -32768 ≤ z2 ∧ z2 ≤ 32767
  r3 : -32768 ≤ z3 ∧ z3 ≤ 32767
  r4 : -32768 ≤ z4 ∧ z4 ≤ 32767
  r5 : -128 ≤ z5 ∧ z5 ≤ 127
  r6 : -128 ≤ z6 ∧ z6 ≤ 127
  r7 : -128 ≤ z7 ∧ z7 ≤ 127
  r8 : -128 ≤ z8 ∧ z8 ≤ 127
  r9 : -128 ≤ z9 ∧ z9 ≤ 127
  r10 : -128 ≤ z10 ∧ z10 ≤ 127
  r11 : -128 ≤ z11 ∧ z11 ≤ 127
  r12 : -32768 ≤ z12 ∧ z12 ≤ 32767
  r13 : 0 ≤ z13 ∧ z13 ≤ 255
  r14 : 0 ≤ z14 ∧ z14 ≤ 255
  r15 : 0 ≤ z15 ∧ z15 ≤ 255
  r16 : -128 ≤ z16 ∧ z16 ≤ 127
  r17 : -128 ≤ z17 ∧ z17 ≤ 127
  r18 : -128 ≤ z18 ∧ z18 ≤ 127
  r19 : -128 ≤ z19 ∧ z19 ≤ 127
  r20 : -128 ≤ z20 ∧ z20 ≤ 127
structure X4 (x0 x1 x2 x3 : Int) : Prop where
  s0 : -32768 ≤ x0 ∧ x0 ≤ 32767
  s1 : -32768 ≤ x1 ∧ x1 ≤ 32767
  s2 : -32768 ≤ x2 ∧ x2 ≤ 32767
  s3 : -32768 ≤ x3 ∧ x3 ≤ 32767

/-- The hole of a draft. -/
theorem hole_ex {z14 : Int} (h : 0 ≤ z14 ∧ z14 ≤ 255) (z15 : Int) : ∃ HO, (bif (bif z15.tmod (4 : Int) == 1 then decide (100000 * z14 > 0) else false) then IntKind.i64.wrap ((100000 * z14).tdiv 4) else 0) = HO ∧ inSH (100000 * z14) HO := by
  refine ⟨_, rfl, ?_⟩
  cases h1 : (bif z15.tmod (4 : Int) == 1 then decide (100000 * z14 > 0) else false) with
  | false =>
    rw [cond_false]
    exact ⟨by omega, by omega, by omega, by omega, by omega⟩
  | true =>
    have h2 : 0 < z14 := by
      cases h3 : z15.tmod (4 : Int) == 1 with
      | false => rw [h3] at h1; cases h1
      | true => rw [h3] at h1; have := of_decide_eq_true h1; omega
    have h4 : (100000 * z14).tdiv 4 = 25000 * z14 := by
      rw [show 100000 * z14 = 4 * (25000 * z14) by omega, Int.mul_tdiv_cancel_left _ (by decide)]
    rw [h4, cond_true, i64w (by omega) (by omega)]
    exact ⟨by omega, by omega, by omega, by omega, by omega⟩

def mnI (a b : Int) : Int := if a < b then a else b
def mxI (a b : Int) : Int := if a > b then a else b
theorem mn_ok (a b : Int) : mnI a b ≤ a ∧ mnI a b ≤ b ∧ (mnI a b = a ∨ mnI a b = b) := by unfold mnI; split <;> omega
theorem mx_ok (a b : Int) : a ≤ mxI a b ∧ b ≤ mxI a b ∧ (mxI a b = a ∨ mxI a b = b) := by unfold mxI; split <;> omega
theorem pl_mn {a b : Int} (ha : -32768 ≤ a ∧ a ≤ 32767) (hb : -32768 ≤ b ∧ b ≤ 32767) : IntKind.i64.wrap ((if IntKind.i64.wrap a < IntKind.i64.wrap b then IntKind.i64.wrap a else IntKind.i64.wrap b) * 16777216) = mnI a b * 16777216 := by
  rw [wz (z := a) (by omega) (by omega), wz (z := b) (by omega) (by omega)]
  have := mn_ok a b
  exact i64w (n := mnI a b * 16777216) (by omega) (by omega)
theorem pl_mx {a b : Int} (ha : -32768 ≤ a ∧ a ≤ 32767) (hb : -32768 ≤ b ∧ b ≤ 32767) : IntKind.i64.wrap ((if IntKind.i64.wrap a > IntKind.i64.wrap b then IntKind.i64.wrap a else IntKind.i64.wrap b) * 16777216) = mxI a b * 16777216 := by
  rw [wz (z := a) (by omega) (by omega), wz (z := b) (by omega) (by omega)]
  have := mx_ok a b
  exact i64w (n := mxI a b * 16777216) (by omega) (by omega)

/-- The span of two numbers of a list of places. -/
theorem ins_pl {se ho a b c d : Int} (sh : inSH se ho) (ha : -32768 ≤ a ∧ a ≤ 32767) (hb : -32768 ≤ b ∧ b ≤ 32767) (hc : -32768 ≤ c ∧ c ≤ 32767) (hd : -32768 ≤ d ∧ d ≤ 32767) : insOk se ho (mnI a b * 16777216) (mxI a b * 16777216) (mnI c d * 16777216) (mxI c d * 16777216) := by
  have h1 := mn_ok a b; have h2 := mx_ok a b; have h3 := mn_ok c d; have h4 := mx_ok c d
  obtain ⟨k1, k2, k3, k4, _⟩ := sh
  exact ⟨_, _, _, _, ⟨k1, k2, k3, k4, by omega, by omega, by omega, by omega, by omega, by omega⟩, rfl, rfl, rfl, rfl⟩

theorem q_eq {X Y U V : Int} (hx : -32768 ≤ X ∧ X ≤ Y ∧ Y ≤ 32767) (hu : -32768 ≤ U ∧ U ≤ V ∧ V ≤ 32767) :
    qL (X * 16777216) (Y * 16777216) (U * 16777216) (V * 16777216) = (lowA X Y * lowA X Y + lowA U V * lowA U V) * 65536 ∧ qH (X * 16777216) (Y * 16777216) (U * 16777216) (V * 16777216) = (hiA X Y * hiA X Y + hiA U V * hiA U V) * 65536 := by
  obtain ⟨e, _⟩ := add_q hx hu
  exact ⟨congrArg Sp.lo e, congrArg Sp.hi e⟩

theorem sq_le {a b : Int} (h0 : 0 ≤ a) (h : a ≤ b) : a * a ≤ b * b := Int.mul_le_mul h h h0 (by omega)

theorem within_ok {se ho X Y x U V u : Int} (hx : -32768 ≤ X ∧ X ≤ x ∧ x ≤ Y ∧ Y ≤ 32767) (hu : -32768 ≤ U ∧ U ≤ u ∧ u ≤ V ∧ V ≤ 32767) :
    (bif insV se ho (qL (X * 16777216) (Y * 16777216) (U * 16777216) (V * 16777216)) (qH (X * 16777216) (Y * 16777216) (U * 16777216) (V * 16777216)) == 2 then true else insV se ho (qL (X * 16777216) (Y * 16777216) (U * 16777216) (V * 16777216)) (qH (X * 16777216) (Y * 16777216) (U * 16777216) (V * 16777216)) == insV se ho (qL (x * 16777216) (x * 16777216) (u * 16777216) (u * 16777216)) (qH (x * 16777216) (x * 16777216) (u * 16777216) (u * 16777216))) = true := by
  obtain ⟨e1, e2⟩ := q_eq (X := X) (Y := Y) (U := U) (V := V) (by omega) (by omega)
  obtain ⟨e3, e4⟩ := q_eq (X := x) (Y := x) (U := u) (V := u) (by omega) (by omega)
  rw [e1, e2, e3, e4]
  have a := le_mx X (-Y); have b := le_mx (mx X (-Y)) 0; have c := le_mx Y (-X)
  have a' := le_mx x (-x); have b' := le_mx (mx x (-x)) 0
  have f := le_mx U (-V); have g := le_mx (mx U (-V)) 0; have h := le_mx V (-U)
  have f' := le_mx u (-u); have g' := le_mx (mx u (-u)) 0
  have s1 := sq_le (a := lowA X Y) (b := lowA x x) (by unfold lowA; omega) (by unfold lowA; omega)
  have s2 := sq_le (a := lowA U V) (b := lowA u u) (by unfold lowA; omega) (by unfold lowA; omega)
  have s3 := sq_le (a := hiA x x) (b := hiA X Y) (by unfold hiA; omega) (by unfold hiA; omega)
  have s4 := sq_le (a := hiA u u) (b := hiA U V) (by unfold hiA; omega) (by unfold hiA; omega)
  have s5 := sq_le (a := lowA x x) (b := hiA x x) (by unfold lowA; omega) (by unfold lowA hiA; omega)
  have s6 := sq_le (a := lowA u u) (b := hiA u u) (by unfold lowA; omega) (by unfold lowA hiA; omega)
  exact ins_within (by omega) (by omega) (by omega)

theorem mn_self (a : Int) : mnI a a = a := by have := mn_ok a a; omega
theorem mx_self (a : Int) : mxI a a = a := by have := mx_ok a a; omega

theorem film_in {e : Int} (h : 0 ≤ e ∧ e ≤ 255) : inF (IntKind.i64.wrap (13000000 + IntKind.i64.wrap (50000 * IntKind.i64.wrap e))) ((IntKind.i64.wrap e).tmod 7) (IntKind.i64.wrap (1 + (IntKind.i64.wrap e).tmod 5)) := by
  have a := tm_nn h.1 (show (0 : Int) < 7 by decide)
  have b := tm_nn h.1 (show (0 : Int) < 5 by decide)
  rw [wk (by omega) (by omega) (by omega) (by omega), wz (z := e) (by omega) (by omega), i64w (by omega) (by omega), i64w (by omega) (by omega)]
  exact ⟨by omega, by omega, by omega⟩

def glassB : Nat → ByteArray
  | 1 => ⟨#[66, 75, 55]⟩
  | 2 => ⟨#[83, 70, 45, 49]⟩
  | 3 => ⟨#[77, 73, 82, 82, 79, 82]⟩
  | 4 => ⟨#[102, 95, 50]⟩
  | _ => ⟨#[]⟩
end Go.Rd
