/- What is proved: SurfaceEven returns true, whatever the input (part 5 of 24). No conditions beyond those of the row. -/
import Derived.Test.YtiigkjnhmipnfaaGreatDoorPD
set_option linter.unusedVariables false
set_option linter.unusedSimpArgs false
set_option linter.unusedSectionVars false
namespace Go.Rd
open Go Go.Eng Go.Ar
def gt : List Sp → Nat → Sp
  | [], _ => ⟨0, 0, 0⟩
  | a :: _, 0 => a
  | _ :: l, i + 1 => gt l i
def sq1 (i : Nat) (r : List Sp) : Sp := sqrS (gt r i).lo (gt r i).hi
def rt1 (i : Nat) (r : List Sp) : Sp := sqrtS (gt r i).lo (gt r i).hi
def ad2 (i j : Nat) (r : List Sp) : Sp := addS (gt r i).lo (gt r i).hi (gt r j).lo (gt r j).hi
def sb2 (i j : Nat) (r : List Sp) : Sp := subS (gt r i).lo (gt r i).hi (gt r j).lo (gt r j).hi
def ml2 (i j : Nat) (r : List Sp) : Sp := mulS (gt r i).lo (gt r i).hi (gt r j).lo (gt r j).hi
def dv2 (i j : Nat) (r : List Sp) : Sp := divS (gt r i).lo (gt r i).hi (gt r j).lo (gt r j).hi
def sc1 (i : Nat) (n d : Int) (r : List Sp) : Sp := xScaleS (gt r i).lo (gt r i).hi n d
inductive Wis : List Sp → List Sp → Prop where
  | nil : Wis [] []
  | cons {a b : Sp} {l m : List Sp} : Wi a b → Wis l m → Wis (a :: l) (b :: m)
theorem Wis.gt {l m : List Sp} (h : Wis l m) : ∀ i, Wi (gt l i) (gt m i) := by
  induction h with
  | nil => exact fun _ => ⟨Int.le_refl _, Int.le_refl _, Int.le_refl _⟩
  | cons w _ ih =>
    intro i
    cases i with
    | zero => exact w
    | succ i => exact ih i
def Mo (f : List Sp → Sp) : Prop := ∀ {l m : List Sp}, Wis l m → (f m).e = 0 → (f l).e = 0 ∧ Wi (f l) (f m)
theorem sq1_mo (i : Nat) : Mo (sq1 i) := fun h e => sqr_mo (h.gt i) e
theorem rt1_mo (i : Nat) : Mo (rt1 i) := fun h e => sqrt_mo (h.gt i) e
theorem ad2_mo (i j : Nat) : Mo (ad2 i j) := fun h e => add_mo (h.gt i) (h.gt j) e
theorem sb2_mo (i j : Nat) : Mo (sb2 i j) := fun h e => sub_mo (h.gt i) (h.gt j) e
theorem ml2_mo (i j : Nat) : Mo (ml2 i j) := fun h e => mul_mo (h.gt i) (h.gt j) e
theorem dv2_mo (i j : Nat) : Mo (dv2 i j) := fun h e => div_mo (h.gt i) (h.gt j) e
def okSc (n d : Int) : Prop := okR n d = true → 4503599627370496 * sg n n < 18446744073709551615 * d
theorem abH_le {a b : Int} (h : okSp a b = true) : 0 ≤ abH a b ∧ abH a b ≤ 4503599627370496 := by
  have := okSp_iff.1 h
  unfold abH
  have := le_mx b (-a)
  omega
theorem sc_eq {a b n d : Int} (k : okSc n d) : xScaleS a b n d = scaleS a b n d := by
  refine xScaleS_eq a b n d fun h1 h2 => ?_
  have := k h2
  have p := abH_le h1
  have q : 0 ≤ sg n n := by
    unfold sg
    cases h : decide (n < 0) with
    | true => have := of_decide_eq_true h; show 0 ≤ -n; omega
    | false => have := of_decide_eq_false h; show 0 ≤ n; omega
  have := Int.mul_le_mul_of_nonneg_right p.2 q
  omega
theorem sc1_mo (i : Nat) {n d : Int} (k : okSc n d) : Mo (sc1 i n d) := fun {l m} h e => by
  unfold sc1 at e ⊢
  rw [sc_eq k] at e ⊢
  rw [sc_eq k]
  exact scale_mo n d (h.gt i) e
theorem bne0 {E : Int} (h : E ≠ 0) : (E != 0) = true := by simpa using h
theorem beq0 {E : Int} (h : E ≠ 0) : (E == 0) = false := by simpa using h
theorem Wis.len {l m : List Sp} (h : Wis l m) : l.length = m.length := by
  induction h with
  | nil => rfl
  | cons _ _ ih => simp [ih]
def tn (b : Bool) (s : Sp) : Sp := bif b then ng s else s
inductive Tns : List Bool → List Sp → List Sp → Prop where
  | nil : Tns [] [] []
  | cons {b : Bool} {a c : Sp} {bs : List Bool} {l m : List Sp} : a = tn b c → Tns bs l m → Tns (b :: bs) (a :: l) (c :: m)
def bt : List Bool → Nat → Bool
  | [], _ => false
  | a :: _, 0 => a
  | _ :: l, i + 1 => bt l i
theorem Tns.gt {bs : List Bool} {l m : List Sp} (h : Tns bs l m) : ∀ i, gt l i = tn (bt bs i) (gt m i) := by
  induction h with
  | nil => exact fun _ => rfl
  | cons e _ ih => intro i; cases i with
    | zero => exact e
    | succ i => exact ih i
theorem Tns.e {bs : List Bool} {l m : List Sp} (h : Tns bs l m) (i : Nat) : (Go.Rd.gt l i).e = (Go.Rd.gt m i).e := by
  rw [h.gt i]; cases bt bs i <;> rfl
def evS (acc v c : Sp) : Sp :=
  ⟨bif (mulS acc.lo acc.hi v.lo v.hi).e == 0 then (addS (mulS acc.lo acc.hi v.lo v.hi).lo (mulS acc.lo acc.hi v.lo v.hi).hi c.lo c.hi).lo else (mulS acc.lo acc.hi v.lo v.hi).lo,
   bif (mulS acc.lo acc.hi v.lo v.hi).e == 0 then (addS (mulS acc.lo acc.hi v.lo v.hi).lo (mulS acc.lo acc.hi v.lo v.hi).hi c.lo c.hi).hi else (mulS acc.lo acc.hi v.lo v.hi).hi,
   bif (mulS acc.lo acc.hi v.lo v.hi).e == 0 then (addS (mulS acc.lo acc.hi v.lo v.hi).lo (mulS acc.lo acc.hi v.lo v.hi).hi c.lo c.hi).e else (mulS acc.lo acc.hi v.lo v.hi).e⟩
def ev1 (v c3 : Sp) : Sp := evS ⟨0, 0, 0⟩ v c3
def ev2 (v c2 c3 : Sp) : Sp := evS (ev1 v c3) v c2
def ev3 (v c1 c2 c3 : Sp) : Sp := evS (ev2 v c2 c3) v c1
def ev4 (v c0 c1 c2 c3 : Sp) : Sp := evS (ev3 v c1 c2 c3) v c0
def evB (v c0 c1 c2 c3 : Sp) : Bool :=
  (ev1 v c3).e != 0 || !((ev1 v c3).e != 0) && ((ev2 v c2 c3).e != 0 || !((ev2 v c2 c3).e != 0) && ((ev3 v c1 c2 c3).e != 0 || !((ev3 v c1 c2 c3).e != 0) && (ev4 v c0 c1 c2 c3).e != 0))
def evG (v c0 c1 c2 c3 : Sp) (g : Sp → Int) : Int :=
  bif evB v c0 c1 c2 c3 then bif (ev1 v c3).e != 0 then g (ev1 v c3) else bif (ev2 v c2 c3).e != 0 then g (ev2 v c2 c3) else bif (ev3 v c1 c2 c3).e != 0 then g (ev3 v c1 c2 c3) else g (ev4 v c0 c1 c2 c3) else g (ev4 v c0 c1 c2 c3)
def evalS (v c0 c1 c2 c3 : Sp) : Sp := ⟨evG v c0 c1 c2 c3 Sp.lo, evG v c0 c1 c2 c3 Sp.hi, evG v c0 c1 c2 c3 Sp.e⟩
def evT (a0 b0 a1 b1 a2 b2 a3 b3 x y : Int) : Sp := evalS ⟨x, y, 0⟩ ⟨a0, b0, 0⟩ ⟨a1, b1, 0⟩ ⟨a2, b2, 0⟩ ⟨a3, b3, 0⟩
theorem evG_ok {v c0 c1 c2 c3 : Sp} (h : (evalS v c0 c1 c2 c3).e = 0) : (ev1 v c3).e = 0 ∧ (ev2 v c2 c3).e = 0 ∧ (ev3 v c1 c2 c3).e = 0 ∧ (ev4 v c0 c1 c2 c3).e = 0 := by
  have h : evG v c0 c1 c2 c3 Sp.e = 0 := h
  unfold evG evB at h
  rcases Decidable.em ((ev1 v c3).e = 0) with d1 | d1
  · rcases Decidable.em ((ev2 v c2 c3).e = 0) with d2 | d2
    · rcases Decidable.em ((ev3 v c1 c2 c3).e = 0) with d3 | d3
      · refine ⟨d1, d2, d3, ?_⟩
        simp only [d1, d2, d3] at h
        simpa using h
      · simp only [d1, d2, bne0 d3, Bool.true_or, Bool.or_true, Bool.and_true, bne_self_eq_false, Bool.not_false, Bool.true_and, cond_true, cond_false] at h
        exact absurd h d3
    · simp only [d1, bne0 d2, Bool.true_or, Bool.or_true, Bool.and_true, bne_self_eq_false, Bool.not_false, Bool.true_and, cond_true, cond_false] at h
      exact absurd h d2
  · simp only [bne0 d1, Bool.true_or, cond_true] at h
    exact absurd h d1
theorem evG_of {v c0 c1 c2 c3 : Sp} (h1 : (ev1 v c3).e = 0) (h2 : (ev2 v c2 c3).e = 0) (h3 : (ev3 v c1 c2 c3).e = 0) (h4 : (ev4 v c0 c1 c2 c3).e = 0) : evalS v c0 c1 c2 c3 = ev4 v c0 c1 c2 c3 := by
  unfold evalS evG evB
  simp only [h1, h2, h3, h4, bne_self_eq_false, Bool.not_false, Bool.true_and, Bool.or_self, cond_false]
  exact Eq.trans (by rw [h4]) (show (⟨(ev4 v c0 c1 c2 c3).lo, (ev4 v c0 c1 c2 c3).hi, (ev4 v c0 c1 c2 c3).e⟩ : Sp) = _ from rfl)
def Oks (l : List Sp) : Prop := ∀ i, Ri (gt l i)
theorem Wis.refl : ∀ {l : List Sp}, Oks l → Wis l l
  | [], _ => .nil
  | _ :: _, h => .cons ⟨Int.le_refl _, (h 0).le, Int.le_refl _⟩ (Wis.refl fun i => h (i + 1))
def Ok (f : List Sp → Sp) : Prop := ∀ {l : List Sp}, Oks l → (f l).e = 0 → Ri (f l)
theorem told_ri {lo hi : Int} (h : (toldS lo hi).e = 0) (k : (toldS lo hi).lo ≤ (toldS lo hi).hi) : Ri (toldS lo hi) := by
  obtain ⟨h1, h2, h3, h4, h5⟩ := told_ok h
  rw [h1] at k ⊢
  exact ⟨h2, k, h5⟩
theorem sq1_ok (i : Nat) : Ok (sq1 i) := fun {l} h e => by
  have w := (sq1_mo i (Wis.refl h) e).2.le
  unfold sq1 sqrS at e w ⊢
  rw [(h i).ok] at e w ⊢
  exact told_ri e w
theorem ad2_ok (i j : Nat) : Ok (ad2 i j) := fun {l} h e => by
  have w := (ad2_mo i j (Wis.refl h) e).2.le
  unfold ad2 addS at e w ⊢
  rw [both_of (h i).ok (h j).ok] at e w ⊢
  exact told_ri e w
theorem sb2_ok (i j : Nat) : Ok (sb2 i j) := fun {l} h e => by
  have w := (sb2_mo i j (Wis.refl h) e).2.le
  unfold sb2 subS at e w ⊢
  rw [both_of (h i).ok (h j).ok] at e w ⊢
  exact told_ri e w
theorem ml2_ok (i j : Nat) : Ok (ml2 i j) := fun {l} h e => by
  have w := (ml2_mo i j (Wis.refl h) e).2.le
  unfold ml2 mulS at e w ⊢
  rw [both_of (h i).ok (h j).ok] at e w ⊢
  exact told_ri e w
theorem dv2_ok (i j : Nat) : Ok (dv2 i j) := fun {l} h e => by
  have w := (dv2_mo i j (Wis.refl h) e).2.le
  unfold dv2 at e w ⊢
  have q := (div_ok e).2.2.2
  rw [q] at e w ⊢
  exact told_ri e w
theorem sc1_ok (i : Nat) {n d : Int} (k : okSc n d) : Ok (sc1 i n d) := fun {l} h e => by
  have w := (sc1_mo i k (Wis.refl h) e).2.le
  unfold sc1 at e w ⊢
  rw [sc_eq k] at e w ⊢
  unfold scaleS at e w ⊢
  rw [(h i).ok] at e w ⊢
  cases q : okR n d with
  | false => rw [q] at e; cases e
  | true => rw [q] at e w; exact told_ri e w
theorem rt1_ok (i : Nat) : Ok (rt1 i) := fun {l} h e => by
  have w := (rt1_mo i (Wis.refl h) e).2.le
  unfold rt1 sqrtS at e w ⊢
  have r := h i
  have r1 := r.lo
  have r2 := r.le
  have r3 := r.hi
  rw [r.ok] at e w ⊢
  cases q : decide ((gt l i).lo < 0) with
  | true => rw [q] at e; cases e
  | false =>
    have := of_decide_eq_false q
    rw [q] at w
    have k1 : sqOk (gt l i).lo = true := by unfold sqOk; rw [okF_iff.2 (by omega)]; simpa using (show 0 ≤ (gt l i).lo by omega)
    have k2 : sqOk (gt l i).hi = true := by unfold sqOk; rw [okF_iff.2 (by omega)]; simpa using (show 0 ≤ (gt l i).hi by omega)
    have a := rtV_range k1 false
    have b := rtV_range k2 true
    exact ⟨by show -4503599627370496 ≤ rtV (gt l i).lo false; omega, w, by
      rcases (rtV_t k2).2.2 with c | ⟨c, _⟩
      · show rtV (gt l i).hi true ≤ 4503599627370496
        have := (sqR_spec k2).2.1
        have : rtV (gt l i).hi true ≤ 4398046511104 := by
          rw [c]; exact le_of_sq (by omega) (by omega)
        omega
      · show rtV (gt l i).hi true ≤ 4503599627370496
        have := (sqR_spec k2).2.1
        have : sqR (gt l i).hi ≤ 4398046511104 := le_of_sq (by omega) (by omega)
        omega⟩
theorem zero_ri : Ri ⟨0, 0, 0⟩ := ⟨by decide, by decide, by decide⟩
theorem evS_ok {a v c : Sp} (ha : Ri a) (hv : Ri v) (hc : Ri c) (e : (evS a v c).e = 0) : Ri (evS a v c) := by
  have e0 : (mulS a.lo a.hi v.lo v.hi).e = 0 := by
    rcases Decidable.em ((mulS a.lo a.hi v.lo v.hi).e = 0) with d | d
    · exact d
    · unfold evS at e
      simp only [beq0 d, cond_false] at e
      exact e
  have m : Ri (mulS a.lo a.hi v.lo v.hi) := ml2_ok 0 1 (l := [a, v]) (fun i => match i with | 0 => ha | 1 => hv | i + 2 => zero_ri) e0
  have s : (addS (mulS a.lo a.hi v.lo v.hi).lo (mulS a.lo a.hi v.lo v.hi).hi c.lo c.hi).e = 0 := by
    unfold evS at e
    simp only [e0] at e
    exact e
  have r : Ri (addS (mulS a.lo a.hi v.lo v.hi).lo (mulS a.lo a.hi v.lo v.hi).hi c.lo c.hi) := ad2_ok 0 1 (l := [mulS a.lo a.hi v.lo v.hi, c]) (fun i => match i with | 0 => m | 1 => hc | i + 2 => zero_ri) s
  unfold evS
  simp only [e0]
  exact r
def okE (s : Sp) : Prop := s.e = 0 ∨ s = ⟨0, 0, 6⟩
theorem told_six (lo hi : Int) : okE (toldS lo hi) := by
  unfold toldS
  cases okF lo && okF hi
  · exact .inr rfl
  · exact .inl rfl
theorem e_sqr {s : Sp} (h : Ri s) : okE (sqrS s.lo s.hi) := by unfold sqrS; rw [h.ok]; exact told_six _ _
theorem e_add {s t : Sp} (h : Ri s) (k : Ri t) : okE (addS s.lo s.hi t.lo t.hi) := by unfold addS; rw [both_of h.ok k.ok]; exact told_six _ _
theorem e_sub {s t : Sp} (h : Ri s) (k : Ri t) : okE (subS s.lo s.hi t.lo t.hi) := by unfold subS; rw [both_of h.ok k.ok]; exact told_six _ _
theorem e_mul {s t : Sp} (h : Ri s) (k : Ri t) : okE (mulS s.lo s.hi t.lo t.hi) := by unfold mulS; rw [both_of h.ok k.ok]; exact told_six _ _
theorem e_div {s t : Sp} (h : Ri s) (k : Ri t) (p : 0 < t.lo) : okE (divS s.lo s.hi t.lo t.hi) := by rw [div_of h.ok k.ok (.inl p)]; exact told_six _ _
theorem e_sc {s : Sp} {n d : Int} (h : Ri s) (k : okSc n d) (o : okR n d = true) : okE (xScaleS s.lo s.hi n d) := by
  rw [sc_eq k]; unfold scaleS; rw [h.ok, o]; exact told_six _ _
theorem e_rt {s : Sp} (h : Ri s) (p : 0 < s.lo) : okE (sqrtS s.lo s.hi) := by
  unfold sqrtS; rw [h.ok, decide_eq_false (show ¬ s.lo < 0 by omega)]; exact .inl rfl
theorem fn2_ok {s t : Sp} (h : Ri s) (k : Ri t) : Oks [s, t] := fun i => match i with | 0 => h | 1 => k | i + 2 => zero_ri
theorem r_sqr {s : Sp} (h : Ri s) (e : (sqrS s.lo s.hi).e = 0) : Ri (sqrS s.lo s.hi) := sq1_ok 0 (fn2_ok h h) e
theorem r_rt {s : Sp} (h : Ri s) (e : (sqrtS s.lo s.hi).e = 0) : Ri (sqrtS s.lo s.hi) := rt1_ok 0 (fn2_ok h h) e
theorem r_add {s t : Sp} (h : Ri s) (k : Ri t) (e : (addS s.lo s.hi t.lo t.hi).e = 0) : Ri (addS s.lo s.hi t.lo t.hi) := ad2_ok 0 1 (fn2_ok h k) e
theorem r_sub {s t : Sp} (h : Ri s) (k : Ri t) (e : (subS s.lo s.hi t.lo t.hi).e = 0) : Ri (subS s.lo s.hi t.lo t.hi) := sb2_ok 0 1 (fn2_ok h k) e
theorem r_mul {s t : Sp} (h : Ri s) (k : Ri t) (e : (mulS s.lo s.hi t.lo t.hi).e = 0) : Ri (mulS s.lo s.hi t.lo t.hi) := ml2_ok 0 1 (fn2_ok h k) e
theorem r_div {s t : Sp} (h : Ri s) (k : Ri t) (e : (divS s.lo s.hi t.lo t.hi).e = 0) : Ri (divS s.lo s.hi t.lo t.hi) := dv2_ok 0 1 (fn2_ok h k) e
theorem r_sc {s : Sp} {n d : Int} (h : Ri s) (k : okSc n d) (e : (xScaleS s.lo s.hi n d).e = 0) : Ri (xScaleS s.lo s.hi n d) := sc1_ok 0 k (fn2_ok h h) e
theorem rt_pos {s : Sp} (h : Ri s) (p : 0 < s.lo) : 0 < (sqrtS s.lo s.hi).lo := by
  unfold sqrtS; rw [h.ok, decide_eq_false (show ¬ s.lo < 0 by omega)]
  show 0 < rtV s.lo false
  have r1 := h.lo
  have r2 := h.le
  have r3 := h.hi
  have k1 : sqOk s.lo = true := by unfold sqOk; rw [okF_iff.2 (by omega)]; simpa using (show 0 ≤ s.lo by omega)
  obtain ⟨u0, u1, u2, _⟩ := sqR_spec k1
  show 0 < sqR s.lo
  have := lt_of_sq (a := 1) (b := sqR s.lo + 1) (by omega) (by omega)
  omega
theorem add_pos {s t : Sp} (h : Ri s) (k : Ri t) (e : (addS s.lo s.hi t.lo t.hi).e = 0) (p : 0 < s.lo) (q : 0 ≤ t.lo) : 0 < (addS s.lo s.hi t.lo t.hi).lo := by
  unfold addS at e ⊢
  rw [both_of h.ok k.ok] at e ⊢
  rw [(told_ok e).1]
  show 0 < s.lo + t.lo
  omega
theorem six_of {s : Sp} (h : okE s) (e : s.e ≠ 0) : s = ⟨0, 0, 6⟩ := h.resolve_left e
theorem evS_e {a v c : Sp} (ha : Ri a) (hv : Ri v) (hc : Ri c) : okE (evS a v c) := by
  rcases e_mul ha hv with e0 | e0
  · have m := r_mul ha hv e0
    unfold evS
    simp only [e0]
    exact e_add m hc
  · unfold evS
    rw [e0]
    exact .inr rfl
theorem evl_e {v c0 c1 c2 c3 : Sp} (hv : Ri v) (h0 : Ri c0) (h1 : Ri c1) (h2 : Ri c2) (h3 : Ri c3) : okE (evalS v c0 c1 c2 c3) := by
  have z : Ri (⟨0, 0, 0⟩ : Sp) := zero_ri
  have k1 : okE (ev1 v c3) := evS_e z hv h3
  rcases Decidable.em ((ev1 v c3).e = 0) with d1 | d1
  · have r1 : Ri (ev1 v c3) := evS_ok z hv h3 d1
    have k2 : okE (ev2 v c2 c3) := evS_e r1 hv h2
    rcases Decidable.em ((ev2 v c2 c3).e = 0) with d2 | d2
    · have r2 : Ri (ev2 v c2 c3) := evS_ok r1 hv h2 d2
      have k3 : okE (ev3 v c1 c2 c3) := evS_e r2 hv h1
      rcases Decidable.em ((ev3 v c1 c2 c3).e = 0) with d3 | d3
      · have r3 : Ri (ev3 v c1 c2 c3) := evS_ok r2 hv h1 d3
        have k4 : okE (ev4 v c0 c1 c2 c3) := evS_e r3 hv h0
        rcases Decidable.em ((ev4 v c0 c1 c2 c3).e = 0) with d4 | d4
        · rw [evG_of d1 d2 d3 d4]; exact .inl d4
        · right
          unfold evalS evG evB
          rw [d1, d2, d3, six_of k4 d4]; rfl
      · right
        unfold evalS evG evB
        rw [d1, d2, six_of k3 d3]; rfl
    · right
      unfold evalS evG evB
      rw [d1, six_of k2 d2]; rfl
  · right
    unfold evalS evG evB
    rw [six_of k1 d1]; rfl
theorem evl_r {v c0 c1 c2 c3 : Sp} (hv : Ri v) (h0 : Ri c0) (h1 : Ri c1) (h2 : Ri c2) (h3 : Ri c3) (e : (evalS v c0 c1 c2 c3).e = 0) : Ri (evalS v c0 c1 c2 c3) := by
  obtain ⟨d1, d2, d3, d4⟩ := evG_ok e
  rw [evG_of d1 d2 d3 d4]
  exact evS_ok (evS_ok (evS_ok (evS_ok zero_ri hv h3 d1) hv h2 d2) hv h1 d3) hv h0 d4
end Go.Rd
namespace Go.Rd
def g1 : ByteArray := ⟨#[66, 75, 55]⟩
def g2 : ByteArray := ⟨#[83, 70, 45, 49]⟩
def g3 : ByteArray := ⟨#[77, 73, 82, 82, 79, 82]⟩
def g4 : ByteArray := ⟨#[102, 95, 50]⟩
def isG (b : ByteArray) : Prop := b = g1 ∨ b = g2 ∨ b = g3 ∨ b = g4
end Go.Rd
namespace Go.Rd
open Go Go.Eng Go.Ar
def cs0 (c : Int) (k : Int) (a0 : Int) (a1 : Int) (a2 : Int) (a3 : Int) (f0 : Int) (f1 : Int) (o : Int) (th : Int) (s : ByteArray) (se : Int) (ho : Int) : Bool := bif o != 0 then !eqBytes s { data := #[77, 73, 82, 82, 79, 82] } else false
def cs1 (c : Int) (k : Int) (a0 : Int) (a1 : Int) (a2 : Int) (a3 : Int) (f0 : Int) (f1 : Int) (o : Int) (th : Int) (s : ByteArray) (se : Int) (ho : Int) : Int := bif cs0 c k a0 a1 a2 a3 f0 f1 o th s se ho then a0 else a0
def cs2 (c : Int) (k : Int) (a0 : Int) (a1 : Int) (a2 : Int) (a3 : Int) (f0 : Int) (f1 : Int) (o : Int) (th : Int) (s : ByteArray) (se : Int) (ho : Int) : Int := bif cs0 c k a0 a1 a2 a3 f0 f1 o th s se ho then a1 else a1
def cs3 (c : Int) (k : Int) (a0 : Int) (a1 : Int) (a2 : Int) (a3 : Int) (f0 : Int) (f1 : Int) (o : Int) (th : Int) (s : ByteArray) (se : Int) (ho : Int) : Int := bif cs0 c k a0 a1 a2 a3 f0 f1 o th s se ho then a2 else a2
def cs4 (c : Int) (k : Int) (a0 : Int) (a1 : Int) (a2 : Int) (a3 : Int) (f0 : Int) (f1 : Int) (o : Int) (th : Int) (s : ByteArray) (se : Int) (ho : Int) : Int := bif cs0 c k a0 a1 a2 a3 f0 f1 o th s se ho then a3 else a3
def cs5 (c : Int) (k : Int) (a0 : Int) (a1 : Int) (a2 : Int) (a3 : Int) (f0 : Int) (f1 : Int) (o : Int) (th : Int) (s : ByteArray) (se : Int) (ho : Int) : Int := bif cs0 c k a0 a1 a2 a3 f0 f1 o th s se ho then f0 else 0
def cs6 (c : Int) (k : Int) (a0 : Int) (a1 : Int) (a2 : Int) (a3 : Int) (f0 : Int) (f1 : Int) (o : Int) (th : Int) (s : ByteArray) (se : Int) (ho : Int) : Int := bif cs0 c k a0 a1 a2 a3 f0 f1 o th s se ho then f1 else 0
def cs7 (c : Int) (k : Int) (a0 : Int) (a1 : Int) (a2 : Int) (a3 : Int) (f0 : Int) (f1 : Int) (o : Int) (th : Int) (s : ByteArray) (se : Int) (ho : Int) : Int := bif cs0 c k a0 a1 a2 a3 f0 f1 o th s se ho then o else 0
def cs8 (c : Int) (k : Int) (a0 : Int) (a1 : Int) (a2 : Int) (a3 : Int) (f0 : Int) (f1 : Int) (o : Int) (th : Int) (s : ByteArray) (se : Int) (ho : Int) : Int := bif cs0 c k a0 a1 a2 a3 f0 f1 o th s se ho then th else th
def cs9 (c : Int) (k : Int) (a0 : Int) (a1 : Int) (a2 : Int) (a3 : Int) (f0 : Int) (f1 : Int) (o : Int) (th : Int) (s : ByteArray) (se : Int) (ho : Int) : Bool := !bif
      (1 : Int) == 1 &&
        (c == c &&
          (k == k &&
            ((0 : Int) == 0 &&
              ((0 : Int) == 0 &&
                (o == cs7 c k a0 a1 a2 a3 f0 f1 o th s se ho &&
                  (th == cs8 c k a0 a1 a2 a3 f0 f1 o th s se ho &&
                    (se == se &&
                      (ho == ho &&
                        ((0 : Int) == 0 &&
                          ((0 : Int) == 0 &&
                            ((0 : Int) == 0 &&
                              ((0 : Int) == 0 &&
                                ((0 : Int) == 0 &&
                                  ((0 : Int) == 0 &&
                                    ((0 : Int) == 0 &&
                                      (a0 == cs1 c k a0 a1 a2 a3 f0 f1 o th s se ho &&
                                        (a1 == cs2 c k a0 a1 a2 a3 f0 f1 o th s se ho &&
                                          (a2 == cs3 c k a0 a1 a2 a3 f0 f1 o th s se ho &&
                                            (a3 == cs4 c k a0 a1 a2 a3 f0 f1 o th s se ho &&
                                              (f0 == cs5 c k a0 a1 a2 a3 f0 f1 o th s se ho &&
                                                (f1 == cs6 c k a0 a1 a2 a3 f0 f1 o th s se ho &&
                                                  (eqBytes s s && true)))))))))))))))))))))) then
    true
  else false
def cs11 (c : Int) (k : Int) (a0 : Int) (a1 : Int) (a2 : Int) (a3 : Int) (f0 : Int) (f1 : Int) (o : Int) (th : Int) (s : ByteArray) (se : Int) (ho : Int) : Bool := bif decide (c < (-1000000000 : Int)) then true else decide (c > 1000000000)
def cs14 (c : Int) (k : Int) (a0 : Int) (a1 : Int) (a2 : Int) (a3 : Int) (f0 : Int) (f1 : Int) (o : Int) (th : Int) (s : ByteArray) (se : Int) (ho : Int) : Int := bif
    !cs11 c k a0 a1 a2 a3 f0 f1 o th s se ho &&
      !bif decide (th < (-1000000000 : Int)) then true
        else decide (th > 1000000000) then
  (-1 : Int)
else
  bif cs11 c k a0 a1 a2 a3 f0 f1 o th s se ho then 0
  else (2 : Int)
def cs15 (c : Int) (k : Int) (a0 : Int) (a1 : Int) (a2 : Int) (a3 : Int) (f0 : Int) (f1 : Int) (o : Int) (th : Int) (s : ByteArray) (se : Int) (ho : Int) : Bool := bif decide (a0 < (-1000000000 : Int)) then true else decide (a0 > 1000000000)
def cs16 (c : Int) (k : Int) (a0 : Int) (a1 : Int) (a2 : Int) (a3 : Int) (f0 : Int) (f1 : Int) (o : Int) (th : Int) (s : ByteArray) (se : Int) (ho : Int) : Bool := bif decide (a1 < (-1000000000 : Int)) then true else decide (a1 > 1000000000)
def cs17 (c : Int) (k : Int) (a0 : Int) (a1 : Int) (a2 : Int) (a3 : Int) (f0 : Int) (f1 : Int) (o : Int) (th : Int) (s : ByteArray) (se : Int) (ho : Int) : Bool := bif decide (a2 < (-1000000000 : Int)) then true else decide (a2 > 1000000000)
def cs19 (c : Int) (k : Int) (a0 : Int) (a1 : Int) (a2 : Int) (a3 : Int) (f0 : Int) (f1 : Int) (o : Int) (th : Int) (s : ByteArray) (se : Int) (ho : Int) : Int := bif
    !cs15 c k a0 a1 a2 a3 f0 f1 o th s se ho &&
      (!cs16 c k a0 a1 a2 a3 f0 f1 o th s se ho &&
        (!cs17 c k a0 a1 a2 a3 f0 f1 o th s se ho &&
          !bif decide (a3 < (-1000000000 : Int)) then true
            else decide (a3 > 1000000000))) then
  (-1 : Int)
else
  bif cs15 c k a0 a1 a2 a3 f0 f1 o th s se ho then 0
  else
    bif cs16 c k a0 a1 a2 a3 f0 f1 o th s se ho then (1 : Int)
    else
      bif cs17 c k a0 a1 a2 a3 f0 f1 o th s se ho then (2 : Int)
      else (3 : Int)
def cs20 (c : Int) (k : Int) (a0 : Int) (a1 : Int) (a2 : Int) (a3 : Int) (f0 : Int) (f1 : Int) (o : Int) (th : Int) (s : ByteArray) (se : Int) (ho : Int) : Bool := bif decide (f0 < (-1000000000 : Int)) then true else decide (f0 > 1000000000)
def cs21 (c : Int) (k : Int) (a0 : Int) (a1 : Int) (a2 : Int) (a3 : Int) (f0 : Int) (f1 : Int) (o : Int) (th : Int) (s : ByteArray) (se : Int) (ho : Int) : Int := bif
    !cs20 c k a0 a1 a2 a3 f0 f1 o th s se ho &&
      !bif decide (f1 < (-1000000000 : Int)) then true
        else decide (f1 > 1000000000) then
  (-1 : Int)
else
  bif cs20 c k a0 a1 a2 a3 f0 f1 o th s se ho then 0
  else (1 : Int)
def cs22 (c : Int) (k : Int) (a0 : Int) (a1 : Int) (a2 : Int) (a3 : Int) (f0 : Int) (f1 : Int) (o : Int) (th : Int) (s : ByteArray) (se : Int) (ho : Int) : Bool := !bif !decide (cs14 c k a0 a1 a2 a3 f0 f1 o th s se ho ≥ 0) then
    bif !decide (cs19 c k a0 a1 a2 a3 f0 f1 o th s se ho ≥ 0) then
      !decide (cs21 c k a0 a1 a2 a3 f0 f1 o th s se ho ≥ 0)
    else false
  else false
def cs24 (c : Int) (k : Int) (a0 : Int) (a1 : Int) (a2 : Int) (a3 : Int) (f0 : Int) (f1 : Int) (o : Int) (th : Int) (s : ByteArray) (se : Int) (ho : Int) : Int := bif bif decide (k < (-100000000 : Int)) then true else decide (k > 100000000) then 0
else (-1 : Int)
def cs25 (c : Int) (k : Int) (a0 : Int) (a1 : Int) (a2 : Int) (a3 : Int) (f0 : Int) (f1 : Int) (o : Int) (th : Int) (s : ByteArray) (se : Int) (ho : Int) : Bool := !bif !decide (cs24 c k a0 a1 a2 a3 f0 f1 o th s se ho ≥ 0) then true else false
def cs27 (c : Int) (k : Int) (a0 : Int) (a1 : Int) (a2 : Int) (a3 : Int) (f0 : Int) (f1 : Int) (o : Int) (th : Int) (s : ByteArray) (se : Int) (ho : Int) : Int := bif bif decide (o < (-3 : Int)) then true else decide (o > 3) then 0
else (-1 : Int)
def cs28 (c : Int) (k : Int) (a0 : Int) (a1 : Int) (a2 : Int) (a3 : Int) (f0 : Int) (f1 : Int) (o : Int) (th : Int) (s : ByteArray) (se : Int) (ho : Int) : Bool := bif decide (se < 0) then true else decide (se > 1000000000)
def cs29 (c : Int) (k : Int) (a0 : Int) (a1 : Int) (a2 : Int) (a3 : Int) (f0 : Int) (f1 : Int) (o : Int) (th : Int) (s : ByteArray) (se : Int) (ho : Int) : Int := bif
    !cs28 c k a0 a1 a2 a3 f0 f1 o th s se ho &&
      !bif decide (ho < 0) then true else decide (ho > 1000000000) then
  (-1 : Int)
else
  bif cs28 c k a0 a1 a2 a3 f0 f1 o th s se ho then 0
  else (1 : Int)
def cs30 (c : Int) (k : Int) (a0 : Int) (a1 : Int) (a2 : Int) (a3 : Int) (f0 : Int) (f1 : Int) (o : Int) (th : Int) (s : ByteArray) (se : Int) (ho : Int) : Bool := !bif !decide (cs27 c k a0 a1 a2 a3 f0 f1 o th s se ho ≥ 0) then
    !decide (cs29 c k a0 a1 a2 a3 f0 f1 o th s se ho ≥ 0)
  else false
def cs31 (c : Int) (k : Int) (a0 : Int) (a1 : Int) (a2 : Int) (a3 : Int) (f0 : Int) (f1 : Int) (o : Int) (th : Int) (s : ByteArray) (se : Int) (ho : Int) : Bool := !bif se == 0 then true else decide (ho < se)
def csN (c : Int) (k : Int) (a0 : Int) (a1 : Int) (a2 : Int) (a3 : Int) (f0 : Int) (f1 : Int) (o : Int) (th : Int) (s : ByteArray) (se : Int) (ho : Int) : Prop := ((((cs0 c k a0 a1 a2 a3 f0 f1 o th s se ho = true → f0 = f0 ∧ f1 = f1) ∧
            (ho = ho ∧ se = se ∧ s = s ∧ k = k) ∧
              (ho = ho ∧ se = se ∧ s = s) ∧ (ho = ho ∧ se = se) ∧ ho = ho) ∧
          (c = c ∧
              k = k ∧
                a0 = a0 ∧
                  a1 = a1 ∧
                    a2 = a2 ∧
                      a3 = a3 ∧ f0 = f0 ∧ f1 = f1 ∧ o = o ∧ th = th ∧ s = s ∧ se = se ∧ ho = ho) ∧
            c = c ∧
              k = k ∧
                cs1 c k a0 a1 a2 a3 f0 f1 o th s se ho =
                    cs1 c k a0 a1 a2 a3 f0 f1 o th s se ho ∧
                  cs2 c k a0 a1 a2 a3 f0 f1 o th s se ho =
                      cs2 c k a0 a1 a2 a3 f0 f1 o th s se ho ∧
                    cs3 c k a0 a1 a2 a3 f0 f1 o th s se ho =
                        cs3 c k a0 a1 a2 a3 f0 f1 o th s se ho ∧
                      cs4 c k a0 a1 a2 a3 f0 f1 o th s se ho =
                          cs4 c k a0 a1 a2 a3 f0 f1 o th s se ho ∧
                        cs5 c k a0 a1 a2 a3 f0 f1 o th s se ho =
                            cs5 c k a0 a1 a2 a3 f0 f1 o th s se ho ∧
                          cs6 c k a0 a1 a2 a3 f0 f1 o th s se ho =
                              cs6 c k a0 a1 a2 a3 f0 f1 o th s se ho ∧
                            cs7 c k a0 a1 a2 a3 f0 f1 o th s se ho =
                                cs7 c k a0 a1 a2 a3 f0 f1 o th s se ho ∧
                              cs8 c k a0 a1 a2 a3 f0 f1 o th s se ho =
                                  cs8 c k a0 a1 a2 a3 f0 f1 o th s se ho ∧
                                s = s ∧ se = se ∧ ho = ho) ∧
        ((!cs9 c k a0 a1 a2 a3 f0 f1 o th s se ho) = true →
          (!cs22 c k a0 a1 a2 a3 f0 f1 o th s se ho) = true →
            (!cs25 c k a0 a1 a2 a3 f0 f1 o th s se ho) = true →
              (!cs30 c k a0 a1 a2 a3 f0 f1 o th s se ho) = true →
                (!cs31 c k a0 a1 a2 a3 f0 f1 o th s se ho) = true →
                  eqBytes s { data := #[] } = false → isG s))
def csV (c : Int) (k : Int) (a0 : Int) (a1 : Int) (a2 : Int) (a3 : Int) (f0 : Int) (f1 : Int) (o : Int) (th : Int) (s : ByteArray) (se : Int) (ho : Int) : Int := (bif cs9 c k a0 a1 a2 a3 f0 f1 o th s se ho then 110
      else
        bif cs22 c k a0 a1 a2 a3 f0 f1 o th s se ho then 110
        else
          bif cs25 c k a0 a1 a2 a3 f0 f1 o th s se ho then 110
          else
            bif cs30 c k a0 a1 a2 a3 f0 f1 o th s se ho then 110
            else bif cs31 c k a0 a1 a2 a3 f0 f1 o th s se ho then 110 else 0)
def cb0 (c : Int) (k : Int) (l : Int) (m : Int) (th : Int) (s : ByteArray) (se : Int) (ho : Int) : Bool := !bif
      (2 : Int) == 2 &&
        (c == c &&
          (k == k &&
            (l == l &&
              (m == m &&
                ((0 : Int) == 0 &&
                  (th == th &&
                    (se == se &&
                      (ho == ho &&
                        ((0 : Int) == 0 &&
                          ((0 : Int) == 0 &&
                            ((0 : Int) == 0 &&
                              ((0 : Int) == 0 &&
                                ((0 : Int) == 0 &&
                                  ((0 : Int) == 0 &&
                                    ((0 : Int) == 0 &&
                                      ((0 : Int) == 0 &&
                                        ((0 : Int) == 0 &&
                                          ((0 : Int) == 0 &&
                                            ((0 : Int) == 0 &&
                                              ((0 : Int) == 0 && ((0 : Int) == 0 && (eqBytes s s && true)))))))))))))))))))))) then
    true
  else false
def cb2 (c : Int) (k : Int) (l : Int) (m : Int) (th : Int) (s : ByteArray) (se : Int) (ho : Int) : Bool := bif decide (c < (-1000000000 : Int)) then true else decide (c > 1000000000)
def cb3 (c : Int) (k : Int) (l : Int) (m : Int) (th : Int) (s : ByteArray) (se : Int) (ho : Int) : Bool := bif decide (l < (-1000000000 : Int)) then true else decide (l > 1000000000)
def cb6 (c : Int) (k : Int) (l : Int) (m : Int) (th : Int) (s : ByteArray) (se : Int) (ho : Int) : Int := bif
    cb2 c k l m th s se ho ||
      !cb2 c k l m th s se ho &&
        (cb3 c k l m th s se ho ||
          !cb3 c k l m th s se ho &&
            bif decide (th < (-1000000000 : Int)) then true else decide (th > 1000000000)) then
  bif cb2 c k l m th s se ho then 0
  else bif cb3 c k l m th s se ho then (1 : Int) else (2 : Int)
else (-1 : Int)
def cb7 (c : Int) (k : Int) (l : Int) (m : Int) (th : Int) (s : ByteArray) (se : Int) (ho : Int) : Bool := !bif !decide (cb6 c k l m th s se ho ≥ 0) then true else false
def cb9 (c : Int) (k : Int) (l : Int) (m : Int) (th : Int) (s : ByteArray) (se : Int) (ho : Int) : Bool := bif decide (k < (-100000000 : Int)) then true else decide (k > 100000000)
def cb10 (c : Int) (k : Int) (l : Int) (m : Int) (th : Int) (s : ByteArray) (se : Int) (ho : Int) : Int := bif
    !cb9 c k l m th s se ho &&
      !bif decide (m < (-100000000 : Int)) then true else decide (m > 100000000) then
  (-1 : Int)
else bif cb9 c k l m th s se ho then 0 else (1 : Int)
def cb11 (c : Int) (k : Int) (l : Int) (m : Int) (th : Int) (s : ByteArray) (se : Int) (ho : Int) : Bool := !bif !decide (cb10 c k l m th s se ho ≥ 0) then true else false
def cb12 (c : Int) (k : Int) (l : Int) (m : Int) (th : Int) (s : ByteArray) (se : Int) (ho : Int) : Bool := bif decide (se < 0) then true else decide (se > 1000000000)
def cb13 (c : Int) (k : Int) (l : Int) (m : Int) (th : Int) (s : ByteArray) (se : Int) (ho : Int) : Int := bif !cb12 c k l m th s se ho && !bif decide (ho < 0) then true else decide (ho > 1000000000) then
  (-1 : Int)
else bif cb12 c k l m th s se ho then 0 else (1 : Int)
def cb14 (c : Int) (k : Int) (l : Int) (m : Int) (th : Int) (s : ByteArray) (se : Int) (ho : Int) : Bool := !!decide (cb13 c k l m th s se ho ≥ 0)
def cb15 (c : Int) (k : Int) (l : Int) (m : Int) (th : Int) (s : ByteArray) (se : Int) (ho : Int) : Bool := !bif se == 0 then true else decide (ho < se)
def cbN (c : Int) (k : Int) (l : Int) (m : Int) (th : Int) (s : ByteArray) (se : Int) (ho : Int) : Prop := (((m = m ∧
            (ho = ho ∧ se = se ∧ s = s ∧ k = k) ∧
              (ho = ho ∧ se = se ∧ s = s) ∧ (ho = ho ∧ se = se) ∧ ho = ho) ∧
          (c = c ∧ k = k ∧ l = l ∧ m = m ∧ th = th ∧ s = s ∧ se = se ∧ ho = ho) ∧
            c = c ∧ k = k ∧ l = l ∧ m = m ∧ th = th ∧ s = s ∧ se = se ∧ ho = ho) ∧
        ((!cb0 c k l m th s se ho) = true →
          (!cb7 c k l m th s se ho) = true →
            (!cb11 c k l m th s se ho) = true →
              (!cb14 c k l m th s se ho) = true →
                (!cb15 c k l m th s se ho) = true → eqBytes s { data := #[] } = false → isG s))
def cbV (c : Int) (k : Int) (l : Int) (m : Int) (th : Int) (s : ByteArray) (se : Int) (ho : Int) : Int := (bif cb0 c k l m th s se ho then 110
      else
        bif cb7 c k l m th s se ho then 110
        else
          bif cb11 c k l m th s se ho then 110
          else bif cb14 c k l m th s se ho then 110 else bif cb15 c k l m th s se ho then 110 else 0)
def cr1 (th : Int) (dx : Int) (dy : Int) (ax : Int) (ay : Int) (az : Int) : Bool := bif decide (th < (-1000000000 : Int)) then true else decide (th > 1000000000)
def cr2 (th : Int) (dx : Int) (dy : Int) (ax : Int) (ay : Int) (az : Int) : Bool := bif decide (dx < (-1000000000 : Int)) then true else decide (dx > 1000000000)
def cr5 (th : Int) (dx : Int) (dy : Int) (ax : Int) (ay : Int) (az : Int) : Int := bif
    cr1 th dx dy ax ay az ||
      !cr1 th dx dy ax ay az &&
        (cr2 th dx dy ax ay az ||
          !cr2 th dx dy ax ay az &&
            bif decide (dy < (-1000000000 : Int)) then true else decide (dy > 1000000000)) then
  bif cr1 th dx dy ax ay az then (2 : Int)
  else bif cr2 th dx dy ax ay az then (3 : Int) else (4 : Int)
else (-1 : Int)
def cr7 (th : Int) (dx : Int) (dy : Int) (ax : Int) (ay : Int) (az : Int) : Bool := bif decide (ax < (-90000000 : Int)) then true else decide (ax > 90000000)
def cr8 (th : Int) (dx : Int) (dy : Int) (ax : Int) (ay : Int) (az : Int) : Bool := bif decide (ay < (-90000000 : Int)) then true else decide (ay > 90000000)
def cr9 (th : Int) (dx : Int) (dy : Int) (ax : Int) (ay : Int) (az : Int) : Int := bif
    cr7 th dx dy ax ay az ||
      !cr7 th dx dy ax ay az &&
        (cr8 th dx dy ax ay az ||
          !cr8 th dx dy ax ay az &&
            bif decide (az < (-90000000 : Int)) then true else decide (az > 90000000)) then
  bif cr7 th dx dy ax ay az then 0
  else bif cr8 th dx dy ax ay az then (1 : Int) else (2 : Int)
else (-1 : Int)
def crN (th : Int) (dx : Int) (dy : Int) (ax : Int) (ay : Int) (az : Int) : Prop := (((az = az ∧ ay = ay ∧ ax = ax ∧ dy = dy) ∧
          (az = az ∧ ay = ay ∧ ax = ax) ∧ (az = az ∧ ay = ay) ∧ az = az) ∧
        (th = th ∧ dx = dx ∧ dy = dy ∧ ax = ax ∧ ay = ay ∧ az = az) ∧
          th = th ∧ dx = dx ∧ dy = dy ∧ ax = ax ∧ ay = ay ∧ az = az)
def crV (th : Int) (dx : Int) (dy : Int) (ax : Int) (ay : Int) (az : Int) : Int := (bif
          !bif
                (3 : Int) == 3 &&
                  ((0 : Int) == 0 &&
                    ((0 : Int) == 0 &&
                      ((0 : Int) == 0 &&
                        ((0 : Int) == 0 &&
                          ((0 : Int) == 0 &&
                            (th == th &&
                              ((0 : Int) == 0 &&
                                ((0 : Int) == 0 &&
                                  (dx == dx &&
                                    (dy == dy &&
                                      (ax == ax &&
                                        (ay == ay &&
                                          (az == az &&
                                            ((0 : Int) == 0 &&
                                              ((0 : Int) == 0 &&
                                                ((0 : Int) == 0 &&
                                                  ((0 : Int) == 0 &&
                                                    ((0 : Int) == 0 &&
                                                      ((0 : Int) == 0 &&
                                                        ((0 : Int) == 0 &&
                                                          ((0 : Int) == 0 &&
                                                            (eqBytes { data := #[] } { data := #[] } &&
                                                              true)))))))))))))))))))))) then
              true
            else false then
        110
      else
        bif !bif !decide (cr5 th dx dy ax ay az ≥ 0) then true else false then 110
        else bif !!decide (cr9 th dx dy ax ay az ≥ 0) then 110 else 0)
def ci1 (c : Int) (th : Int) (se : Int) (ho : Int) : Bool := bif decide (c < (-1000000000 : Int)) then true else decide (c > 1000000000)
def ci3 (c : Int) (th : Int) (se : Int) (ho : Int) : Int := bif !ci1 c th se ho && !bif decide (th < (-1000000000 : Int)) then true else decide (th > 1000000000) then
  (-1 : Int)
else bif ci1 c th se ho then 0 else (2 : Int)
def ci4 (c : Int) (th : Int) (se : Int) (ho : Int) : Bool := bif decide (se < 0) then true else decide (se > 1000000000)
def ci5 (c : Int) (th : Int) (se : Int) (ho : Int) : Int := bif !ci4 c th se ho && !bif decide (ho < 0) then true else decide (ho > 1000000000) then (-1 : Int)
else bif ci4 c th se ho then 0 else (1 : Int)
def ciN (c : Int) (th : Int) (se : Int) (ho : Int) : Prop := (((ho = ho ∧ se = se) ∧ ho = ho) ∧
        (c = c ∧ th = th ∧ se = se ∧ ho = ho) ∧ c = c ∧ th = th ∧ se = se ∧ ho = ho)
def ciV (c : Int) (th : Int) (se : Int) (ho : Int) : Int := (bif
          !bif
                (4 : Int) == 4 &&
                  (c == c &&
                    ((0 : Int) == 0 &&
                      ((0 : Int) == 0 &&
                        ((0 : Int) == 0 &&
                          ((0 : Int) == 0 &&
                            (th == th &&
                              (se == se &&
                                (ho == ho &&
                                  ((0 : Int) == 0 &&
                                    ((0 : Int) == 0 &&
                                      ((0 : Int) == 0 &&
                                        ((0 : Int) == 0 &&
                                          ((0 : Int) == 0 &&
                                            ((0 : Int) == 0 &&
                                              ((0 : Int) == 0 &&
                                                ((0 : Int) == 0 &&
                                                  ((0 : Int) == 0 &&
                                                    ((0 : Int) == 0 &&
                                                      ((0 : Int) == 0 &&
                                                        ((0 : Int) == 0 &&
                                                          ((0 : Int) == 0 &&
                                                            (eqBytes { data := #[] } { data := #[] } &&
                                                              true)))))))))))))))))))))) then
              true
            else false then
        110
      else
        bif !bif !decide (ci3 c th se ho ≥ 0) then true else false then 110
        else
          bif !!decide (ci5 c th se ho ≥ 0) then 110
          else bif !bif se == 0 then true else decide (ho < se) then 110 else 0)
end Go.Rd
namespace Go.Rd
open Go Go.Eng Go.Ar
def inL (x : Int) : Prop := -1000000000 ≤ x ∧ x ≤ 1000000000
def inK (x : Int) : Prop := -100000000 ≤ x ∧ x ≤ 100000000
def inA (x : Int) : Prop := -90000000 ≤ x ∧ x ≤ 90000000
def inSH (se ho : Int) : Prop := 0 ≤ se ∧ se ≤ 1000000000 ∧ 0 ≤ ho ∧ ho ≤ 1000000000 ∧ (se = 0 ∨ ho < se)
def inG (s : ByteArray) : Prop := s = ⟨#[]⟩ ∨ isG s
structure vStd (c k a0 a1 a2 a3 f0 f1 o th : Int) (s : ByteArray) (se ho : Int) : Prop where
  hc : inL c
  hk : inK k
  h0 : inL a0
  h1 : inL a1
  h2 : inL a2
  h3 : inL a3
  hf : inL f0
  hg : inL f1
  ho' : -3 ≤ o ∧ o ≤ 3
  ht : inL th
  hs : inG s
  sh : inSH se ho
  ph : (f0 = 0 ∧ f1 = 0 ∧ o = 0) ∨ (o ≠ 0 ∧ s ≠ g3)
theorem lo_f {x : Int} (h : inL x) : decide (x < (-1000000000 : Int)) = false := decide_eq_false (by unfold inL at h; omega)
theorem hi_f {x : Int} (h : inL x) : decide (x > 1000000000) = false := decide_eq_false (by unfold inL at h; omega)
theorem klo_f {x : Int} (h : inK x) : decide (x < (-100000000 : Int)) = false := decide_eq_false (by unfold inK at h; omega)
theorem khi_f {x : Int} (h : inK x) : decide (x > 100000000) = false := decide_eq_false (by unfold inK at h; omega)
theorem alo_f {x : Int} (h : inA x) : decide (x < (-90000000 : Int)) = false := decide_eq_false (by unfold inA at h; omega)
theorem ahi_f {x : Int} (h : inA x) : decide (x > 90000000) = false := decide_eq_false (by unfold inA at h; omega)
theorem eqB_self (s : ByteArray) : eqBytes s s = true := (eqBytes_iff _ _).2 rfl
theorem eqB_ne {s t : ByteArray} (h : s ≠ t) : eqBytes s t = false := by
  cases e : eqBytes s t with
  | false => rfl
  | true => exact absurd ((eqBytes_iff _ _).1 e) h
theorem sh_f {se ho : Int} (h : inSH se ho) : (bif se == 0 then true else decide (ho < se)) = true := by
  obtain ⟨_, _, _, _, h1 | h1⟩ := h
  · subst h1; rfl
  · rw [decide_eq_true h1]; cases se == 0 <;> rfl
theorem std_0 {c k a0 a1 a2 a3 f0 f1 o th : Int} {s : ByteArray} {se ho : Int} (h : vStd c k a0 a1 a2 a3 f0 f1 o th s se ho) : csV c k a0 a1 a2 a3 f0 f1 o th s se ho = 0 := by
  have e1 := lo_f h.hc; have e2 := hi_f h.hc; have e3 := klo_f h.hk; have e4 := khi_f h.hk
  have e5 := lo_f h.h0; have e6 := hi_f h.h0; have e7 := lo_f h.h1; have e8 := hi_f h.h1; have e9 := lo_f h.h2; have e10 := hi_f h.h2; have e11 := lo_f h.h3; have e12 := hi_f h.h3
  have e13 := lo_f h.hf; have e14 := hi_f h.hf; have e15 := lo_f h.hg; have e16 := hi_f h.hg; have e17 := lo_f h.ht; have e18 := hi_f h.ht
  have e19 : decide (o < (-3 : Int)) = false := decide_eq_false (by have := h.ho'; omega)
  have e20 : decide (o > 3) = false := decide_eq_false (by have := h.ho'; omega)
  have hsh := h.sh
  have e21 : decide (se < 0) = false := decide_eq_false (by unfold inSH at hsh; omega)
  have e22 : decide (se > 1000000000) = false := decide_eq_false (by unfold inSH at hsh; omega)
  have e23 : decide (ho < 0) = false := decide_eq_false (by unfold inSH at hsh; omega)
  have e24 : decide (ho > 1000000000) = false := decide_eq_false (by unfold inSH at hsh; omega)
  have e25 := sh_f hsh
  have e26 := eqB_self s
  have keep : (bif o != 0 then !eqBytes s ⟨#[77, 73, 82, 82, 79, 82]⟩ else false) = (o != 0) := by
    rcases h.ph with ⟨_, _, rfl⟩ | ⟨h1, h2⟩
    · rfl
    · rw [show eqBytes s ⟨#[77, 73, 82, 82, 79, 82]⟩ = false from eqB_ne h2]; cases o != 0 <;> rfl
  have q5 : (bif o != 0 then f0 else 0) = f0 := by
    rcases h.ph with ⟨rfl, _, rfl⟩ | ⟨h1, h2⟩
    · rfl
    · rw [show (o != 0) = true by simpa using h1]; rfl
  have q6 : (bif o != 0 then f1 else 0) = f1 := by
    rcases h.ph with ⟨_, rfl, rfl⟩ | ⟨h1, h2⟩
    · rfl
    · rw [show (o != 0) = true by simpa using h1]; rfl
  have q7 : (bif o != 0 then o else 0) = o := by
    cases h1 : o != 0 with
    | true => rfl
    | false => have : o = 0 := by simpa using h1
               subst this; rfl
  have qq : ∀ x : Int, (bif o != 0 then x else x) = x := fun x => by cases o != 0 <;> rfl
  simp only [csV, cs0, cs1, cs2, cs3, cs4, cs5, cs6, cs7, cs8, cs9, cs11, cs14, cs15, cs16, cs17, cs19, cs20, cs21, cs22, cs24, cs25, cs27, cs28, cs29, cs30, cs31, keep, q5, q6, q7, qq, e1, e2, e3, e4, e5, e6, e7, e8, e9, e10, e11, e12, e13, e14, e15, e16, e17, e18, e19, e20, e21, e22, e23, e24, e25, e26, beq_self_eq_true, Bool.and_true, Bool.and_self, cond_true, cond_false, Bool.not_true, Bool.not_false]
  rfl
theorem isG_of {s : ByteArray} (h : inG s) (e : eqBytes s ⟨#[]⟩ = false) : isG s := by
  rcases h with rfl | h
  · rw [eqB_self] at e; cases e
  · exact h
theorem std_n {c k a0 a1 a2 a3 f0 f1 o th : Int} {s : ByteArray} {se ho : Int} (h : inG s) : csN c k a0 a1 a2 a3 f0 f1 o th s se ho := by
  unfold csN
  repeat' first | with_reducible exact rfl | refine And.intro ?_ ?_ | intro _
  exact isG_of h (by assumption)
structure vBic (c k l m th : Int) (s : ByteArray) (se ho : Int) : Prop where
  hc : inL c
  hk : inK k
  hl : inL l
  hm : inK m
  ht : inL th
  hs : inG s
  sh : inSH se ho
theorem bic_0 {c k l m th : Int} {s : ByteArray} {se ho : Int} (h : vBic c k l m th s se ho) : cbV c k l m th s se ho = 0 := by
  have e1 := lo_f h.hc; have e2 := hi_f h.hc; have e3 := klo_f h.hk; have e4 := khi_f h.hk
  have e5 := lo_f h.hl; have e6 := hi_f h.hl; have e7 := klo_f h.hm; have e8 := khi_f h.hm; have e17 := lo_f h.ht; have e18 := hi_f h.ht
  have hsh := h.sh
  have e21 : decide (se < 0) = false := decide_eq_false (by unfold inSH at hsh; omega)
  have e22 : decide (se > 1000000000) = false := decide_eq_false (by unfold inSH at hsh; omega)
  have e23 : decide (ho < 0) = false := decide_eq_false (by unfold inSH at hsh; omega)
  have e24 : decide (ho > 1000000000) = false := decide_eq_false (by unfold inSH at hsh; omega)
  have e25 := sh_f hsh
  have e26 := eqB_self s
  simp only [cb0, cb2, cb3, cb6, cb7, cb9, cb10, cb11, cb12, cb13, cb14, cb15, cbV, e1, e2, e3, e4, e5, e6, e7, e8, e17, e18, e21, e22, e23, e24, e25, e26, beq_self_eq_true, Bool.and_true, Bool.and_self, cond_true, cond_false, Bool.not_true, Bool.not_false]
  rfl
theorem bic_n {c k l m th : Int} {s : ByteArray} {se ho : Int} (h : inG s) : cbN c k l m th s se ho := by
  unfold cbN
  repeat' first | with_reducible exact rfl | refine And.intro ?_ ?_ | intro _
  exact isG_of h (by assumption)
structure vBrk (th dx dy ax ay az : Int) : Prop where
  ht : inL th
  hx : inL dx
  hy : inL dy
  ha : inA ax
  hb : inA ay
  hc : inA az
theorem brk_0 {th dx dy ax ay az : Int} (h : vBrk th dx dy ax ay az) : crV th dx dy ax ay az = 0 := by
  have e1 := lo_f h.ht; have e2 := hi_f h.ht; have e3 := lo_f h.hx; have e4 := hi_f h.hx; have e5 := lo_f h.hy; have e6 := hi_f h.hy
  have e7 := alo_f h.ha; have e8 := ahi_f h.ha; have e9 := alo_f h.hb; have e10 := ahi_f h.hb; have e11 := alo_f h.hc; have e12 := ahi_f h.hc
  simp only [cr1, cr2, cr5, cr7, cr8, cr9, crV, e1, e2, e3, e4, e5, e6, e7, e8, e9, e10, e11, e12, beq_self_eq_true, eqB_self, Bool.and_true, Bool.and_self, cond_true, cond_false, Bool.not_true, Bool.not_false]
  rfl
theorem brk_n {th dx dy ax ay az : Int} : crN th dx dy ax ay az := by
  unfold crN
  repeat' first | with_reducible exact rfl | refine And.intro ?_ ?_ | intro _
structure vIdl (c th se ho : Int) : Prop where
  hc : inL c
  ht : inL th
  sh : inSH se ho
theorem idl_0 {c th se ho : Int} (h : vIdl c th se ho) : ciV c th se ho = 0 := by
  have e1 := lo_f h.hc; have e2 := hi_f h.hc; have e17 := lo_f h.ht; have e18 := hi_f h.ht
  have hsh := h.sh
  have e21 : decide (se < 0) = false := decide_eq_false (by unfold inSH at hsh; omega)
  have e22 : decide (se > 1000000000) = false := decide_eq_false (by unfold inSH at hsh; omega)
  have e23 : decide (ho < 0) = false := decide_eq_false (by unfold inSH at hsh; omega)
  have e24 : decide (ho > 1000000000) = false := decide_eq_false (by unfold inSH at hsh; omega)
  have e25 := sh_f hsh
  simp only [ci1, ci3, ci4, ci5, ciV, e1, e2, e17, e18, e21, e22, e23, e24, e25, beq_self_eq_true, eqB_self, Bool.and_true, Bool.and_self, cond_true, cond_false, Bool.not_true, Bool.not_false]
  rfl
theorem idl_n {c th se ho : Int} : ciN c th se ho := by
  unfold ciN
  repeat' first | with_reducible exact rfl | refine And.intro ?_ ?_ | intro _
end Go.Rd
namespace Go.Rd
open Go Go.Eng Go.Ar
def cx0 (c : Int) (k : Int) (a0 : Int) (a1 : Int) (a2 : Int) (a3 : Int) (f0 : Int) (f1 : Int) (o : Int) (th : Int) (s : ByteArray) (se : Int) (ho : Int) (i0 : Int) (j0 : Int) (q0 : Int) : Bool := bif o != 0 then !eqBytes s { data := #[77, 73, 82, 82, 79, 82] } else false
def cx1 (c : Int) (k : Int) (a0 : Int) (a1 : Int) (a2 : Int) (a3 : Int) (f0 : Int) (f1 : Int) (o : Int) (th : Int) (s : ByteArray) (se : Int) (ho : Int) (i0 : Int) (j0 : Int) (q0 : Int) : Int := bif cx0 c k a0 a1 a2 a3 f0 f1 o th s se ho i0 j0 q0 then a0 else a0
def cx2 (c : Int) (k : Int) (a0 : Int) (a1 : Int) (a2 : Int) (a3 : Int) (f0 : Int) (f1 : Int) (o : Int) (th : Int) (s : ByteArray) (se : Int) (ho : Int) (i0 : Int) (j0 : Int) (q0 : Int) : Int := bif cx0 c k a0 a1 a2 a3 f0 f1 o th s se ho i0 j0 q0 then a1 else a1
def cx3 (c : Int) (k : Int) (a0 : Int) (a1 : Int) (a2 : Int) (a3 : Int) (f0 : Int) (f1 : Int) (o : Int) (th : Int) (s : ByteArray) (se : Int) (ho : Int) (i0 : Int) (j0 : Int) (q0 : Int) : Int := bif cx0 c k a0 a1 a2 a3 f0 f1 o th s se ho i0 j0 q0 then a2 else a2
def cx4 (c : Int) (k : Int) (a0 : Int) (a1 : Int) (a2 : Int) (a3 : Int) (f0 : Int) (f1 : Int) (o : Int) (th : Int) (s : ByteArray) (se : Int) (ho : Int) (i0 : Int) (j0 : Int) (q0 : Int) : Int := bif cx0 c k a0 a1 a2 a3 f0 f1 o th s se ho i0 j0 q0 then a3 else a3
def cx5 (c : Int) (k : Int) (a0 : Int) (a1 : Int) (a2 : Int) (a3 : Int) (f0 : Int) (f1 : Int) (o : Int) (th : Int) (s : ByteArray) (se : Int) (ho : Int) (i0 : Int) (j0 : Int) (q0 : Int) : Int := bif cx0 c k a0 a1 a2 a3 f0 f1 o th s se ho i0 j0 q0 then f0 else 0
def cx6 (c : Int) (k : Int) (a0 : Int) (a1 : Int) (a2 : Int) (a3 : Int) (f0 : Int) (f1 : Int) (o : Int) (th : Int) (s : ByteArray) (se : Int) (ho : Int) (i0 : Int) (j0 : Int) (q0 : Int) : Int := bif cx0 c k a0 a1 a2 a3 f0 f1 o th s se ho i0 j0 q0 then f1 else 0
def cx7 (c : Int) (k : Int) (a0 : Int) (a1 : Int) (a2 : Int) (a3 : Int) (f0 : Int) (f1 : Int) (o : Int) (th : Int) (s : ByteArray) (se : Int) (ho : Int) (i0 : Int) (j0 : Int) (q0 : Int) : Int := bif cx0 c k a0 a1 a2 a3 f0 f1 o th s se ho i0 j0 q0 then o else 0
def cx8 (c : Int) (k : Int) (a0 : Int) (a1 : Int) (a2 : Int) (a3 : Int) (f0 : Int) (f1 : Int) (o : Int) (th : Int) (s : ByteArray) (se : Int) (ho : Int) (i0 : Int) (j0 : Int) (q0 : Int) : Int := bif cx0 c k a0 a1 a2 a3 f0 f1 o th s se ho i0 j0 q0 then th else th
def cx9 (c : Int) (k : Int) (a0 : Int) (a1 : Int) (a2 : Int) (a3 : Int) (f0 : Int) (f1 : Int) (o : Int) (th : Int) (s : ByteArray) (se : Int) (ho : Int) (i0 : Int) (j0 : Int) (q0 : Int) : Bool := !bif
      (1 : Int) == 1 &&
        (c == c &&
          (k == k &&
            ((0 : Int) == 0 &&
              ((0 : Int) == 0 &&
                (o == cx7 c k a0 a1 a2 a3 f0 f1 o th s se ho i0 j0 q0 &&
                  (th == cx8 c k a0 a1 a2 a3 f0 f1 o th s se ho i0 j0 q0 &&
                    (se == se &&
                      (ho == ho &&
                        ((0 : Int) == 0 &&
                          ((0 : Int) == 0 &&
                            ((0 : Int) == 0 &&
                              ((0 : Int) == 0 &&
                                ((0 : Int) == 0 &&
                                  ((0 : Int) == 0 &&
                                    ((0 : Int) == 0 &&
                                      (a0 == cx1 c k a0 a1 a2 a3 f0 f1 o th s se ho i0 j0 q0 &&
                                        (a1 == cx2 c k a0 a1 a2 a3 f0 f1 o th s se ho i0 j0 q0 &&
                                          (a2 == cx3 c k a0 a1 a2 a3 f0 f1 o th s se ho i0 j0 q0 &&
                                            (a3 == cx4 c k a0 a1 a2 a3 f0 f1 o th s se ho i0 j0 q0 &&
                                              (f0 == cx5 c k a0 a1 a2 a3 f0 f1 o th s se ho i0 j0 q0 &&
                                                (f1 ==
                                                    cx6 c k a0 a1 a2 a3 f0 f1 o th s se ho i0 j0 q0 &&
                                                  (eqBytes s s && true)))))))))))))))))))))) then
    bif !(i0 == i0 && (j0 == j0 && (q0 == q0 && true))) then false else true
  else false
def cx11 (c : Int) (k : Int) (a0 : Int) (a1 : Int) (a2 : Int) (a3 : Int) (f0 : Int) (f1 : Int) (o : Int) (th : Int) (s : ByteArray) (se : Int) (ho : Int) (i0 : Int) (j0 : Int) (q0 : Int) : Bool := bif decide (c < (-1000000000 : Int)) then true
else decide (c > 1000000000)
def cx14 (c : Int) (k : Int) (a0 : Int) (a1 : Int) (a2 : Int) (a3 : Int) (f0 : Int) (f1 : Int) (o : Int) (th : Int) (s : ByteArray) (se : Int) (ho : Int) (i0 : Int) (j0 : Int) (q0 : Int) : Int := bif
    !cx11 c k a0 a1 a2 a3 f0 f1 o th s se ho i0 j0 q0 &&
      !bif decide (th < (-1000000000 : Int)) then true
        else decide (th > 1000000000) then
  (-1 : Int)
else
  bif cx11 c k a0 a1 a2 a3 f0 f1 o th s se ho i0 j0 q0 then 0
  else (2 : Int)
def cx15 (c : Int) (k : Int) (a0 : Int) (a1 : Int) (a2 : Int) (a3 : Int) (f0 : Int) (f1 : Int) (o : Int) (th : Int) (s : ByteArray) (se : Int) (ho : Int) (i0 : Int) (j0 : Int) (q0 : Int) : Bool := bif decide (a0 < (-1000000000 : Int)) then true
else decide (a0 > 1000000000)
def cx16 (c : Int) (k : Int) (a0 : Int) (a1 : Int) (a2 : Int) (a3 : Int) (f0 : Int) (f1 : Int) (o : Int) (th : Int) (s : ByteArray) (se : Int) (ho : Int) (i0 : Int) (j0 : Int) (q0 : Int) : Bool := bif decide (a1 < (-1000000000 : Int)) then true
else decide (a1 > 1000000000)
def cx17 (c : Int) (k : Int) (a0 : Int) (a1 : Int) (a2 : Int) (a3 : Int) (f0 : Int) (f1 : Int) (o : Int) (th : Int) (s : ByteArray) (se : Int) (ho : Int) (i0 : Int) (j0 : Int) (q0 : Int) : Bool := bif decide (a2 < (-1000000000 : Int)) then true
else decide (a2 > 1000000000)
def cx19 (c : Int) (k : Int) (a0 : Int) (a1 : Int) (a2 : Int) (a3 : Int) (f0 : Int) (f1 : Int) (o : Int) (th : Int) (s : ByteArray) (se : Int) (ho : Int) (i0 : Int) (j0 : Int) (q0 : Int) : Int := bif
    !cx15 c k a0 a1 a2 a3 f0 f1 o th s se ho i0 j0 q0 &&
      (!cx16 c k a0 a1 a2 a3 f0 f1 o th s se ho i0 j0 q0 &&
        (!cx17 c k a0 a1 a2 a3 f0 f1 o th s se ho i0 j0 q0 &&
          !bif decide (a3 < (-1000000000 : Int)) then true
            else decide (a3 > 1000000000))) then
  (-1 : Int)
else
  bif cx15 c k a0 a1 a2 a3 f0 f1 o th s se ho i0 j0 q0 then 0
  else
    bif cx16 c k a0 a1 a2 a3 f0 f1 o th s se ho i0 j0 q0 then
      (1 : Int)
    else
      bif cx17 c k a0 a1 a2 a3 f0 f1 o th s se ho i0 j0 q0 then
        (2 : Int)
      else (3 : Int)
def cx20 (c : Int) (k : Int) (a0 : Int) (a1 : Int) (a2 : Int) (a3 : Int) (f0 : Int) (f1 : Int) (o : Int) (th : Int) (s : ByteArray) (se : Int) (ho : Int) (i0 : Int) (j0 : Int) (q0 : Int) : Bool := bif decide (f0 < (-1000000000 : Int)) then true
else decide (f0 > 1000000000)
def cx21 (c : Int) (k : Int) (a0 : Int) (a1 : Int) (a2 : Int) (a3 : Int) (f0 : Int) (f1 : Int) (o : Int) (th : Int) (s : ByteArray) (se : Int) (ho : Int) (i0 : Int) (j0 : Int) (q0 : Int) : Int := bif
    !cx20 c k a0 a1 a2 a3 f0 f1 o th s se ho i0 j0 q0 &&
      !bif decide (f1 < (-1000000000 : Int)) then true
        else decide (f1 > 1000000000) then
  (-1 : Int)
else
  bif cx20 c k a0 a1 a2 a3 f0 f1 o th s se ho i0 j0 q0 then 0
  else (1 : Int)
def cx22 (c : Int) (k : Int) (a0 : Int) (a1 : Int) (a2 : Int) (a3 : Int) (f0 : Int) (f1 : Int) (o : Int) (th : Int) (s : ByteArray) (se : Int) (ho : Int) (i0 : Int) (j0 : Int) (q0 : Int) : Bool := !bif !decide (cx14 c k a0 a1 a2 a3 f0 f1 o th s se ho i0 j0 q0 ≥ 0) then
    bif !decide (cx19 c k a0 a1 a2 a3 f0 f1 o th s se ho i0 j0 q0 ≥ 0) then
      !decide (cx21 c k a0 a1 a2 a3 f0 f1 o th s se ho i0 j0 q0 ≥ 0)
    else false
  else false
def cx24 (c : Int) (k : Int) (a0 : Int) (a1 : Int) (a2 : Int) (a3 : Int) (f0 : Int) (f1 : Int) (o : Int) (th : Int) (s : ByteArray) (se : Int) (ho : Int) (i0 : Int) (j0 : Int) (q0 : Int) : Int := bif
    bif decide (k < (-100000000 : Int)) then true
    else decide (k > 100000000) then
  0
else (-1 : Int)
def cx25 (c : Int) (k : Int) (a0 : Int) (a1 : Int) (a2 : Int) (a3 : Int) (f0 : Int) (f1 : Int) (o : Int) (th : Int) (s : ByteArray) (se : Int) (ho : Int) (i0 : Int) (j0 : Int) (q0 : Int) : Bool := !bif !decide (cx24 c k a0 a1 a2 a3 f0 f1 o th s se ho i0 j0 q0 ≥ 0) then true else false
def cx27 (c : Int) (k : Int) (a0 : Int) (a1 : Int) (a2 : Int) (a3 : Int) (f0 : Int) (f1 : Int) (o : Int) (th : Int) (s : ByteArray) (se : Int) (ho : Int) (i0 : Int) (j0 : Int) (q0 : Int) : Int := bif
    bif decide (o < (-3 : Int)) then true
    else decide (o > 3) then
  0
else (-1 : Int)
def cx28 (c : Int) (k : Int) (a0 : Int) (a1 : Int) (a2 : Int) (a3 : Int) (f0 : Int) (f1 : Int) (o : Int) (th : Int) (s : ByteArray) (se : Int) (ho : Int) (i0 : Int) (j0 : Int) (q0 : Int) : Bool := bif decide (se < 0) then true else decide (se > 1000000000)
def cx29 (c : Int) (k : Int) (a0 : Int) (a1 : Int) (a2 : Int) (a3 : Int) (f0 : Int) (f1 : Int) (o : Int) (th : Int) (s : ByteArray) (se : Int) (ho : Int) (i0 : Int) (j0 : Int) (q0 : Int) : Int := bif
    !cx28 c k a0 a1 a2 a3 f0 f1 o th s se ho i0 j0 q0 &&
      !bif decide (ho < 0) then true else decide (ho > 1000000000) then
  (-1 : Int)
else
  bif cx28 c k a0 a1 a2 a3 f0 f1 o th s se ho i0 j0 q0 then 0
  else (1 : Int)
def cx30 (c : Int) (k : Int) (a0 : Int) (a1 : Int) (a2 : Int) (a3 : Int) (f0 : Int) (f1 : Int) (o : Int) (th : Int) (s : ByteArray) (se : Int) (ho : Int) (i0 : Int) (j0 : Int) (q0 : Int) : Bool := !bif !decide (cx27 c k a0 a1 a2 a3 f0 f1 o th s se ho i0 j0 q0 ≥ 0) then
    !decide (cx29 c k a0 a1 a2 a3 f0 f1 o th s se ho i0 j0 q0 ≥ 0)
  else false
def cx31 (c : Int) (k : Int) (a0 : Int) (a1 : Int) (a2 : Int) (a3 : Int) (f0 : Int) (f1 : Int) (o : Int) (th : Int) (s : ByteArray) (se : Int) (ho : Int) (i0 : Int) (j0 : Int) (q0 : Int) : Bool := !bif se == 0 then true else decide (ho < se)
def cx32 (c : Int) (k : Int) (a0 : Int) (a1 : Int) (a2 : Int) (a3 : Int) (f0 : Int) (f1 : Int) (o : Int) (th : Int) (s : ByteArray) (se : Int) (ho : Int) (i0 : Int) (j0 : Int) (q0 : Int) : Int := bif cx9 c k a0 a1 a2 a3 f0 f1 o th s se ho i0 j0 q0 then 110
else
  bif cx22 c k a0 a1 a2 a3 f0 f1 o th s se ho i0 j0 q0 then 110
  else
    bif cx25 c k a0 a1 a2 a3 f0 f1 o th s se ho i0 j0 q0 then 110
    else
      bif cx30 c k a0 a1 a2 a3 f0 f1 o th s se ho i0 j0 q0 then 110
      else bif cx31 c k a0 a1 a2 a3 f0 f1 o th s se ho i0 j0 q0 then 110 else 0
def cx33 (c : Int) (k : Int) (a0 : Int) (a1 : Int) (a2 : Int) (a3 : Int) (f0 : Int) (f1 : Int) (o : Int) (th : Int) (s : ByteArray) (se : Int) (ho : Int) (i0 : Int) (j0 : Int) (q0 : Int) : Int := bif bif decide (i0 < 10000000) then true else decide (i0 > 40000000) then 0
else (-1 : Int)
def cx34 (c : Int) (k : Int) (a0 : Int) (a1 : Int) (a2 : Int) (a3 : Int) (f0 : Int) (f1 : Int) (o : Int) (th : Int) (s : ByteArray) (se : Int) (ho : Int) (i0 : Int) (j0 : Int) (q0 : Int) : Int := bif bif decide (j0 < 0) then true else decide (j0 > 1000) then 0
else (-1 : Int)
def cx35 (c : Int) (k : Int) (a0 : Int) (a1 : Int) (a2 : Int) (a3 : Int) (f0 : Int) (f1 : Int) (o : Int) (th : Int) (s : ByteArray) (se : Int) (ho : Int) (i0 : Int) (j0 : Int) (q0 : Int) : Int := bif bif decide (q0 < 1) then true else decide (q0 > 1000) then 0
else (-1 : Int)
def cxN (c : Int) (k : Int) (a0 : Int) (a1 : Int) (a2 : Int) (a3 : Int) (f0 : Int) (f1 : Int) (o : Int) (th : Int) (s : ByteArray) (se : Int) (ho : Int) (i0 : Int) (j0 : Int) (q0 : Int) : Prop := ((((cx0 c k a0 a1 a2 a3 f0 f1 o th s se ho i0 j0 q0 = true → f0 = f0 ∧ f1 = f1) ∧
            (ho = ho ∧ se = se ∧ s = s ∧ k = k) ∧
              (ho = ho ∧ se = se ∧ s = s) ∧ (ho = ho ∧ se = se) ∧ ho = ho) ∧
          (c = c ∧
              k = k ∧
                a0 = a0 ∧
                  a1 = a1 ∧
                    a2 = a2 ∧
                      a3 = a3 ∧ f0 = f0 ∧ f1 = f1 ∧ o = o ∧ th = th ∧ s = s ∧ se = se ∧ ho = ho) ∧
            c = c ∧
              k = k ∧
                cx1 c k a0 a1 a2 a3 f0 f1 o th s se ho i0 j0 q0 =
                    cx1 c k a0 a1 a2 a3 f0 f1 o th s se ho i0 j0 q0 ∧
                  cx2 c k a0 a1 a2 a3 f0 f1 o th s se ho i0 j0 q0 =
                      cx2 c k a0 a1 a2 a3 f0 f1 o th s se ho i0 j0 q0 ∧
                    cx3 c k a0 a1 a2 a3 f0 f1 o th s se ho i0 j0 q0 =
                        cx3 c k a0 a1 a2 a3 f0 f1 o th s se ho i0 j0 q0 ∧
                      cx4 c k a0 a1 a2 a3 f0 f1 o th s se ho i0 j0 q0 =
                          cx4 c k a0 a1 a2 a3 f0 f1 o th s se ho i0 j0 q0 ∧
                        cx5 c k a0 a1 a2 a3 f0 f1 o th s se ho i0 j0 q0 =
                            cx5 c k a0 a1 a2 a3 f0 f1 o th s se ho i0 j0 q0 ∧
                          cx6 c k a0 a1 a2 a3 f0 f1 o th s se ho i0 j0 q0 =
                              cx6 c k a0 a1 a2 a3 f0 f1 o th s se ho i0 j0 q0 ∧
                            cx7 c k a0 a1 a2 a3 f0 f1 o th s se ho i0 j0 q0 =
                                cx7 c k a0 a1 a2 a3 f0 f1 o th s se ho i0 j0 q0 ∧
                              cx8 c k a0 a1 a2 a3 f0 f1 o th s se ho i0 j0 q0 =
                                  cx8 c k a0 a1 a2 a3 f0 f1 o th s se ho i0 j0 q0 ∧
                                s = s ∧ se = se ∧ ho = ho) ∧
        ((!cx9 c k a0 a1 a2 a3 f0 f1 o th s se ho i0 j0 q0) = true →
          (!cx22 c k a0 a1 a2 a3 f0 f1 o th s se ho i0 j0 q0) = true →
            (!cx25 c k a0 a1 a2 a3 f0 f1 o th s se ho i0 j0 q0) = true →
              (!cx30 c k a0 a1 a2 a3 f0 f1 o th s se ho i0 j0 q0) = true →
                (!cx31 c k a0 a1 a2 a3 f0 f1 o th s se ho i0 j0 q0) = true →
                  eqBytes s { data := #[] } = false → isG s))
def cxV (c : Int) (k : Int) (a0 : Int) (a1 : Int) (a2 : Int) (a3 : Int) (f0 : Int) (f1 : Int) (o : Int) (th : Int) (s : ByteArray) (se : Int) (ho : Int) (i0 : Int) (j0 : Int) (q0 : Int) : Int := (bif
          bif cx32 c k a0 a1 a2 a3 f0 f1 o th s se ho i0 j0 q0 == 0 then
            !bif !decide (cx33 c k a0 a1 a2 a3 f0 f1 o th s se ho i0 j0 q0 ≥ 0) then
                bif !decide (cx34 c k a0 a1 a2 a3 f0 f1 o th s se ho i0 j0 q0 ≥ 0) then
                  !decide (cx35 c k a0 a1 a2 a3 f0 f1 o th s se ho i0 j0 q0 ≥ 0)
                else false
              else false
          else false then
        110
      else cx32 c k a0 a1 a2 a3 f0 f1 o th s se ho i0 j0 q0)
def cy0 (c : Int) (k : Int) (a0 : Int) (a1 : Int) (a2 : Int) (a3 : Int) (f0 : Int) (f1 : Int) (o : Int) (th : Int) (s : ByteArray) (se : Int) (ho : Int) (i0 : Int) (j0 : Int) (q0 : Int) (i1 : Int) (j1 : Int) (q1 : Int) : Bool := bif o != 0 then !eqBytes s { data := #[77, 73, 82, 82, 79, 82] } else false
def cy1 (c : Int) (k : Int) (a0 : Int) (a1 : Int) (a2 : Int) (a3 : Int) (f0 : Int) (f1 : Int) (o : Int) (th : Int) (s : ByteArray) (se : Int) (ho : Int) (i0 : Int) (j0 : Int) (q0 : Int) (i1 : Int) (j1 : Int) (q1 : Int) : Int := bif cy0 c k a0 a1 a2 a3 f0 f1 o th s se ho i0 j0 q0 i1 j1 q1 then a0 else a0
def cy2 (c : Int) (k : Int) (a0 : Int) (a1 : Int) (a2 : Int) (a3 : Int) (f0 : Int) (f1 : Int) (o : Int) (th : Int) (s : ByteArray) (se : Int) (ho : Int) (i0 : Int) (j0 : Int) (q0 : Int) (i1 : Int) (j1 : Int) (q1 : Int) : Int := bif cy0 c k a0 a1 a2 a3 f0 f1 o th s se ho i0 j0 q0 i1 j1 q1 then a1 else a1
def cy3 (c : Int) (k : Int) (a0 : Int) (a1 : Int) (a2 : Int) (a3 : Int) (f0 : Int) (f1 : Int) (o : Int) (th : Int) (s : ByteArray) (se : Int) (ho : Int) (i0 : Int) (j0 : Int) (q0 : Int) (i1 : Int) (j1 : Int) (q1 : Int) : Int := bif cy0 c k a0 a1 a2 a3 f0 f1 o th s se ho i0 j0 q0 i1 j1 q1 then a2 else a2
def cy4 (c : Int) (k : Int) (a0 : Int) (a1 : Int) (a2 : Int) (a3 : Int) (f0 : Int) (f1 : Int) (o : Int) (th : Int) (s : ByteArray) (se : Int) (ho : Int) (i0 : Int) (j0 : Int) (q0 : Int) (i1 : Int) (j1 : Int) (q1 : Int) : Int := bif cy0 c k a0 a1 a2 a3 f0 f1 o th s se ho i0 j0 q0 i1 j1 q1 then a3 else a3
def cy5 (c : Int) (k : Int) (a0 : Int) (a1 : Int) (a2 : Int) (a3 : Int) (f0 : Int) (f1 : Int) (o : Int) (th : Int) (s : ByteArray) (se : Int) (ho : Int) (i0 : Int) (j0 : Int) (q0 : Int) (i1 : Int) (j1 : Int) (q1 : Int) : Int := bif cy0 c k a0 a1 a2 a3 f0 f1 o th s se ho i0 j0 q0 i1 j1 q1 then f0 else 0
def cy6 (c : Int) (k : Int) (a0 : Int) (a1 : Int) (a2 : Int) (a3 : Int) (f0 : Int) (f1 : Int) (o : Int) (th : Int) (s : ByteArray) (se : Int) (ho : Int) (i0 : Int) (j0 : Int) (q0 : Int) (i1 : Int) (j1 : Int) (q1 : Int) : Int := bif cy0 c k a0 a1 a2 a3 f0 f1 o th s se ho i0 j0 q0 i1 j1 q1 then f1 else 0
def cy7 (c : Int) (k : Int) (a0 : Int) (a1 : Int) (a2 : Int) (a3 : Int) (f0 : Int) (f1 : Int) (o : Int) (th : Int) (s : ByteArray) (se : Int) (ho : Int) (i0 : Int) (j0 : Int) (q0 : Int) (i1 : Int) (j1 : Int) (q1 : Int) : Int := bif cy0 c k a0 a1 a2 a3 f0 f1 o th s se ho i0 j0 q0 i1 j1 q1 then o else 0
def cy8 (c : Int) (k : Int) (a0 : Int) (a1 : Int) (a2 : Int) (a3 : Int) (f0 : Int) (f1 : Int) (o : Int) (th : Int) (s : ByteArray) (se : Int) (ho : Int) (i0 : Int) (j0 : Int) (q0 : Int) (i1 : Int) (j1 : Int) (q1 : Int) : Int := bif cy0 c k a0 a1 a2 a3 f0 f1 o th s se ho i0 j0 q0 i1 j1 q1 then th else th
def cy9 (c : Int) (k : Int) (a0 : Int) (a1 : Int) (a2 : Int) (a3 : Int) (f0 : Int) (f1 : Int) (o : Int) (th : Int) (s : ByteArray) (se : Int) (ho : Int) (i0 : Int) (j0 : Int) (q0 : Int) (i1 : Int) (j1 : Int) (q1 : Int) : Bool := !bif
      (1 : Int) == 1 &&
        (c == c &&
          (k == k &&
            ((0 : Int) == 0 &&
              ((0 : Int) == 0 &&
                (o == cy7 c k a0 a1 a2 a3 f0 f1 o th s se ho i0 j0 q0 i1 j1 q1 &&
                  (th == cy8 c k a0 a1 a2 a3 f0 f1 o th s se ho i0 j0 q0 i1 j1 q1 &&
                    (se == se &&
                      (ho == ho &&
                        ((0 : Int) == 0 &&
                          ((0 : Int) == 0 &&
                            ((0 : Int) == 0 &&
                              ((0 : Int) == 0 &&
                                ((0 : Int) == 0 &&
                                  ((0 : Int) == 0 &&
                                    ((0 : Int) == 0 &&
                                      (a0 ==
                                          cy1 c k a0 a1 a2 a3 f0 f1 o th s se ho i0 j0 q0 i1 j1 q1 &&
                                        (a1 ==
                                            cy2 c k a0 a1 a2 a3 f0 f1 o th s se ho i0 j0 q0 i1 j1
                                              q1 &&
                                          (a2 ==
                                              cy3 c k a0 a1 a2 a3 f0 f1 o th s se ho i0 j0 q0 i1 j1
                                                q1 &&
                                            (a3 ==
                                                cy4 c k a0 a1 a2 a3 f0 f1 o th s se ho i0 j0 q0 i1 j1
                                                  q1 &&
                                              (f0 ==
                                                  cy5 c k a0 a1 a2 a3 f0 f1 o th s se ho i0 j0 q0 i1 j1
                                                    q1 &&
                                                (f1 ==
                                                    cy6 c k a0 a1 a2 a3 f0 f1 o th s se ho i0 j0 q0 i1
                                                      j1 q1 &&
                                                  (eqBytes s s && true)))))))))))))))))))))) then
    bif
        !!(i0 == i0 && (j0 == j0 && (q0 == q0 && true))) &&
          !!(i1 == i1 && (j1 == j1 && (q1 == q1 && true))) then
      true
    else false
  else false
def cy11 (c : Int) (k : Int) (a0 : Int) (a1 : Int) (a2 : Int) (a3 : Int) (f0 : Int) (f1 : Int) (o : Int) (th : Int) (s : ByteArray) (se : Int) (ho : Int) (i0 : Int) (j0 : Int) (q0 : Int) (i1 : Int) (j1 : Int) (q1 : Int) : Bool := bif decide (c < (-1000000000 : Int)) then true
else decide (c > 1000000000)
def cy14 (c : Int) (k : Int) (a0 : Int) (a1 : Int) (a2 : Int) (a3 : Int) (f0 : Int) (f1 : Int) (o : Int) (th : Int) (s : ByteArray) (se : Int) (ho : Int) (i0 : Int) (j0 : Int) (q0 : Int) (i1 : Int) (j1 : Int) (q1 : Int) : Int := bif
    !cy11 c k a0 a1 a2 a3 f0 f1 o th s se ho i0 j0 q0 i1 j1 q1 &&
      !bif decide (th < (-1000000000 : Int)) then true
        else decide (th > 1000000000) then
  (-1 : Int)
else
  bif cy11 c k a0 a1 a2 a3 f0 f1 o th s se ho i0 j0 q0 i1 j1 q1 then 0
  else (2 : Int)
def cy15 (c : Int) (k : Int) (a0 : Int) (a1 : Int) (a2 : Int) (a3 : Int) (f0 : Int) (f1 : Int) (o : Int) (th : Int) (s : ByteArray) (se : Int) (ho : Int) (i0 : Int) (j0 : Int) (q0 : Int) (i1 : Int) (j1 : Int) (q1 : Int) : Bool := bif decide (a0 < (-1000000000 : Int)) then true
else decide (a0 > 1000000000)
def cy16 (c : Int) (k : Int) (a0 : Int) (a1 : Int) (a2 : Int) (a3 : Int) (f0 : Int) (f1 : Int) (o : Int) (th : Int) (s : ByteArray) (se : Int) (ho : Int) (i0 : Int) (j0 : Int) (q0 : Int) (i1 : Int) (j1 : Int) (q1 : Int) : Bool := bif decide (a1 < (-1000000000 : Int)) then true
else decide (a1 > 1000000000)
def cy17 (c : Int) (k : Int) (a0 : Int) (a1 : Int) (a2 : Int) (a3 : Int) (f0 : Int) (f1 : Int) (o : Int) (th : Int) (s : ByteArray) (se : Int) (ho : Int) (i0 : Int) (j0 : Int) (q0 : Int) (i1 : Int) (j1 : Int) (q1 : Int) : Bool := bif decide (a2 < (-1000000000 : Int)) then true
else decide (a2 > 1000000000)
def cy19 (c : Int) (k : Int) (a0 : Int) (a1 : Int) (a2 : Int) (a3 : Int) (f0 : Int) (f1 : Int) (o : Int) (th : Int) (s : ByteArray) (se : Int) (ho : Int) (i0 : Int) (j0 : Int) (q0 : Int) (i1 : Int) (j1 : Int) (q1 : Int) : Int := bif
    !cy15 c k a0 a1 a2 a3 f0 f1 o th s se ho i0 j0 q0 i1 j1 q1 &&
      (!cy16 c k a0 a1 a2 a3 f0 f1 o th s se ho i0 j0 q0 i1 j1 q1 &&
        (!cy17 c k a0 a1 a2 a3 f0 f1 o th s se ho i0 j0 q0 i1 j1 q1 &&
          !bif decide (a3 < (-1000000000 : Int)) then true
            else decide (a3 > 1000000000))) then
  (-1 : Int)
else
  bif cy15 c k a0 a1 a2 a3 f0 f1 o th s se ho i0 j0 q0 i1 j1 q1 then 0
  else
    bif cy16 c k a0 a1 a2 a3 f0 f1 o th s se ho i0 j0 q0 i1 j1 q1 then
      (1 : Int)
    else
      bif cy17 c k a0 a1 a2 a3 f0 f1 o th s se ho i0 j0 q0 i1 j1 q1 then
        (2 : Int)
      else (3 : Int)
def cy20 (c : Int) (k : Int) (a0 : Int) (a1 : Int) (a2 : Int) (a3 : Int) (f0 : Int) (f1 : Int) (o : Int) (th : Int) (s : ByteArray) (se : Int) (ho : Int) (i0 : Int) (j0 : Int) (q0 : Int) (i1 : Int) (j1 : Int) (q1 : Int) : Bool := bif decide (f0 < (-1000000000 : Int)) then true
else decide (f0 > 1000000000)
def cy21 (c : Int) (k : Int) (a0 : Int) (a1 : Int) (a2 : Int) (a3 : Int) (f0 : Int) (f1 : Int) (o : Int) (th : Int) (s : ByteArray) (se : Int) (ho : Int) (i0 : Int) (j0 : Int) (q0 : Int) (i1 : Int) (j1 : Int) (q1 : Int) : Int := bif
    !cy20 c k a0 a1 a2 a3 f0 f1 o th s se ho i0 j0 q0 i1 j1 q1 &&
      !bif decide (f1 < (-1000000000 : Int)) then true
        else decide (f1 > 1000000000) then
  (-1 : Int)
else
  bif cy20 c k a0 a1 a2 a3 f0 f1 o th s se ho i0 j0 q0 i1 j1 q1 then 0
  else (1 : Int)
def cy22 (c : Int) (k : Int) (a0 : Int) (a1 : Int) (a2 : Int) (a3 : Int) (f0 : Int) (f1 : Int) (o : Int) (th : Int) (s : ByteArray) (se : Int) (ho : Int) (i0 : Int) (j0 : Int) (q0 : Int) (i1 : Int) (j1 : Int) (q1 : Int) : Bool := !bif !decide (cy14 c k a0 a1 a2 a3 f0 f1 o th s se ho i0 j0 q0 i1 j1 q1 ≥ 0) then
    bif !decide (cy19 c k a0 a1 a2 a3 f0 f1 o th s se ho i0 j0 q0 i1 j1 q1 ≥ 0) then
      !decide (cy21 c k a0 a1 a2 a3 f0 f1 o th s se ho i0 j0 q0 i1 j1 q1 ≥ 0)
    else false
  else false
def cy24 (c : Int) (k : Int) (a0 : Int) (a1 : Int) (a2 : Int) (a3 : Int) (f0 : Int) (f1 : Int) (o : Int) (th : Int) (s : ByteArray) (se : Int) (ho : Int) (i0 : Int) (j0 : Int) (q0 : Int) (i1 : Int) (j1 : Int) (q1 : Int) : Int := bif
    bif decide (k < (-100000000 : Int)) then true
    else decide (k > 100000000) then
  0
else (-1 : Int)
def cy25 (c : Int) (k : Int) (a0 : Int) (a1 : Int) (a2 : Int) (a3 : Int) (f0 : Int) (f1 : Int) (o : Int) (th : Int) (s : ByteArray) (se : Int) (ho : Int) (i0 : Int) (j0 : Int) (q0 : Int) (i1 : Int) (j1 : Int) (q1 : Int) : Bool := !bif !decide (cy24 c k a0 a1 a2 a3 f0 f1 o th s se ho i0 j0 q0 i1 j1 q1 ≥ 0) then true else false
def cy27 (c : Int) (k : Int) (a0 : Int) (a1 : Int) (a2 : Int) (a3 : Int) (f0 : Int) (f1 : Int) (o : Int) (th : Int) (s : ByteArray) (se : Int) (ho : Int) (i0 : Int) (j0 : Int) (q0 : Int) (i1 : Int) (j1 : Int) (q1 : Int) : Int := bif
    bif decide (o < (-3 : Int)) then true
    else decide (o > 3) then
  0
else (-1 : Int)
def cy28 (c : Int) (k : Int) (a0 : Int) (a1 : Int) (a2 : Int) (a3 : Int) (f0 : Int) (f1 : Int) (o : Int) (th : Int) (s : ByteArray) (se : Int) (ho : Int) (i0 : Int) (j0 : Int) (q0 : Int) (i1 : Int) (j1 : Int) (q1 : Int) : Bool := bif decide (se < 0) then true else decide (se > 1000000000)
def cy29 (c : Int) (k : Int) (a0 : Int) (a1 : Int) (a2 : Int) (a3 : Int) (f0 : Int) (f1 : Int) (o : Int) (th : Int) (s : ByteArray) (se : Int) (ho : Int) (i0 : Int) (j0 : Int) (q0 : Int) (i1 : Int) (j1 : Int) (q1 : Int) : Int := bif
    !cy28 c k a0 a1 a2 a3 f0 f1 o th s se ho i0 j0 q0 i1 j1 q1 &&
      !bif decide (ho < 0) then true else decide (ho > 1000000000) then
  (-1 : Int)
else
  bif cy28 c k a0 a1 a2 a3 f0 f1 o th s se ho i0 j0 q0 i1 j1 q1 then 0
  else (1 : Int)
def cy30 (c : Int) (k : Int) (a0 : Int) (a1 : Int) (a2 : Int) (a3 : Int) (f0 : Int) (f1 : Int) (o : Int) (th : Int) (s : ByteArray) (se : Int) (ho : Int) (i0 : Int) (j0 : Int) (q0 : Int) (i1 : Int) (j1 : Int) (q1 : Int) : Bool := !bif !decide (cy27 c k a0 a1 a2 a3 f0 f1 o th s se ho i0 j0 q0 i1 j1 q1 ≥ 0) then
    !decide (cy29 c k a0 a1 a2 a3 f0 f1 o th s se ho i0 j0 q0 i1 j1 q1 ≥ 0)
  else false
def cy31 (c : Int) (k : Int) (a0 : Int) (a1 : Int) (a2 : Int) (a3 : Int) (f0 : Int) (f1 : Int) (o : Int) (th : Int) (s : ByteArray) (se : Int) (ho : Int) (i0 : Int) (j0 : Int) (q0 : Int) (i1 : Int) (j1 : Int) (q1 : Int) : Bool := !bif se == 0 then true else decide (ho < se)
def cy32 (c : Int) (k : Int) (a0 : Int) (a1 : Int) (a2 : Int) (a3 : Int) (f0 : Int) (f1 : Int) (o : Int) (th : Int) (s : ByteArray) (se : Int) (ho : Int) (i0 : Int) (j0 : Int) (q0 : Int) (i1 : Int) (j1 : Int) (q1 : Int) : Int := bif cy9 c k a0 a1 a2 a3 f0 f1 o th s se ho i0 j0 q0 i1 j1 q1 then 110
else
  bif cy22 c k a0 a1 a2 a3 f0 f1 o th s se ho i0 j0 q0 i1 j1 q1 then 110
  else
    bif cy25 c k a0 a1 a2 a3 f0 f1 o th s se ho i0 j0 q0 i1 j1 q1 then 110
    else
      bif cy30 c k a0 a1 a2 a3 f0 f1 o th s se ho i0 j0 q0 i1 j1 q1 then 110
      else bif cy31 c k a0 a1 a2 a3 f0 f1 o th s se ho i0 j0 q0 i1 j1 q1 then 110 else 0
def cy33 (c : Int) (k : Int) (a0 : Int) (a1 : Int) (a2 : Int) (a3 : Int) (f0 : Int) (f1 : Int) (o : Int) (th : Int) (s : ByteArray) (se : Int) (ho : Int) (i0 : Int) (j0 : Int) (q0 : Int) (i1 : Int) (j1 : Int) (q1 : Int) : Int := bif bif decide (i0 < 10000000) then true else decide (i0 > 40000000) then 0
else (-1 : Int)
def cy34 (c : Int) (k : Int) (a0 : Int) (a1 : Int) (a2 : Int) (a3 : Int) (f0 : Int) (f1 : Int) (o : Int) (th : Int) (s : ByteArray) (se : Int) (ho : Int) (i0 : Int) (j0 : Int) (q0 : Int) (i1 : Int) (j1 : Int) (q1 : Int) : Int := bif bif decide (j0 < 0) then true else decide (j0 > 1000) then 0
else (-1 : Int)
def cy35 (c : Int) (k : Int) (a0 : Int) (a1 : Int) (a2 : Int) (a3 : Int) (f0 : Int) (f1 : Int) (o : Int) (th : Int) (s : ByteArray) (se : Int) (ho : Int) (i0 : Int) (j0 : Int) (q0 : Int) (i1 : Int) (j1 : Int) (q1 : Int) : Int := bif bif decide (q0 < 1) then true else decide (q0 > 1000) then 0
else (-1 : Int)
def cy36 (c : Int) (k : Int) (a0 : Int) (a1 : Int) (a2 : Int) (a3 : Int) (f0 : Int) (f1 : Int) (o : Int) (th : Int) (s : ByteArray) (se : Int) (ho : Int) (i0 : Int) (j0 : Int) (q0 : Int) (i1 : Int) (j1 : Int) (q1 : Int) : Int := bif
    bif cy32 c k a0 a1 a2 a3 f0 f1 o th s se ho i0 j0 q0 i1 j1 q1 == 0 then
      !bif !decide (cy33 c k a0 a1 a2 a3 f0 f1 o th s se ho i0 j0 q0 i1 j1 q1 ≥ 0) then
          bif !decide (cy34 c k a0 a1 a2 a3 f0 f1 o th s se ho i0 j0 q0 i1 j1 q1 ≥ 0) then
            !decide (cy35 c k a0 a1 a2 a3 f0 f1 o th s se ho i0 j0 q0 i1 j1 q1 ≥ 0)
          else false
        else false
    else false then
  110
else cy32 c k a0 a1 a2 a3 f0 f1 o th s se ho i0 j0 q0 i1 j1 q1
def cy37 (c : Int) (k : Int) (a0 : Int) (a1 : Int) (a2 : Int) (a3 : Int) (f0 : Int) (f1 : Int) (o : Int) (th : Int) (s : ByteArray) (se : Int) (ho : Int) (i0 : Int) (j0 : Int) (q0 : Int) (i1 : Int) (j1 : Int) (q1 : Int) : Int := bif bif decide (i1 < 10000000) then true else decide (i1 > 40000000) then 0
else (-1 : Int)
def cy38 (c : Int) (k : Int) (a0 : Int) (a1 : Int) (a2 : Int) (a3 : Int) (f0 : Int) (f1 : Int) (o : Int) (th : Int) (s : ByteArray) (se : Int) (ho : Int) (i0 : Int) (j0 : Int) (q0 : Int) (i1 : Int) (j1 : Int) (q1 : Int) : Int := bif bif decide (j1 < 0) then true else decide (j1 > 1000) then 0
else (-1 : Int)
def cy39 (c : Int) (k : Int) (a0 : Int) (a1 : Int) (a2 : Int) (a3 : Int) (f0 : Int) (f1 : Int) (o : Int) (th : Int) (s : ByteArray) (se : Int) (ho : Int) (i0 : Int) (j0 : Int) (q0 : Int) (i1 : Int) (j1 : Int) (q1 : Int) : Int := bif bif decide (q1 < 1) then true else decide (q1 > 1000) then 0
else (-1 : Int)
def cyN (c : Int) (k : Int) (a0 : Int) (a1 : Int) (a2 : Int) (a3 : Int) (f0 : Int) (f1 : Int) (o : Int) (th : Int) (s : ByteArray) (se : Int) (ho : Int) (i0 : Int) (j0 : Int) (q0 : Int) (i1 : Int) (j1 : Int) (q1 : Int) : Prop := ((((cy0 c k a0 a1 a2 a3 f0 f1 o th s se ho i0 j0 q0 i1 j1 q1 = true → f0 = f0 ∧ f1 = f1) ∧
            (ho = ho ∧ se = se ∧ s = s ∧ k = k) ∧
              (ho = ho ∧ se = se ∧ s = s) ∧ (ho = ho ∧ se = se) ∧ ho = ho) ∧
          (c = c ∧
              k = k ∧
                a0 = a0 ∧
                  a1 = a1 ∧
                    a2 = a2 ∧
                      a3 = a3 ∧ f0 = f0 ∧ f1 = f1 ∧ o = o ∧ th = th ∧ s = s ∧ se = se ∧ ho = ho) ∧
            c = c ∧
              k = k ∧
                cy1 c k a0 a1 a2 a3 f0 f1 o th s se ho i0 j0 q0 i1 j1 q1 =
                    cy1 c k a0 a1 a2 a3 f0 f1 o th s se ho i0 j0 q0 i1 j1 q1 ∧
                  cy2 c k a0 a1 a2 a3 f0 f1 o th s se ho i0 j0 q0 i1 j1 q1 =
                      cy2 c k a0 a1 a2 a3 f0 f1 o th s se ho i0 j0 q0 i1 j1 q1 ∧
                    cy3 c k a0 a1 a2 a3 f0 f1 o th s se ho i0 j0 q0 i1 j1 q1 =
                        cy3 c k a0 a1 a2 a3 f0 f1 o th s se ho i0 j0 q0 i1 j1 q1 ∧
                      cy4 c k a0 a1 a2 a3 f0 f1 o th s se ho i0 j0 q0 i1 j1 q1 =
                          cy4 c k a0 a1 a2 a3 f0 f1 o th s se ho i0 j0 q0 i1 j1 q1 ∧
                        cy5 c k a0 a1 a2 a3 f0 f1 o th s se ho i0 j0 q0 i1 j1 q1 =
                            cy5 c k a0 a1 a2 a3 f0 f1 o th s se ho i0 j0 q0 i1 j1 q1 ∧
                          cy6 c k a0 a1 a2 a3 f0 f1 o th s se ho i0 j0 q0 i1 j1 q1 =
                              cy6 c k a0 a1 a2 a3 f0 f1 o th s se ho i0 j0 q0 i1 j1 q1 ∧
                            cy7 c k a0 a1 a2 a3 f0 f1 o th s se ho i0 j0 q0 i1 j1 q1 =
                                cy7 c k a0 a1 a2 a3 f0 f1 o th s se ho i0 j0 q0 i1 j1 q1 ∧
                              cy8 c k a0 a1 a2 a3 f0 f1 o th s se ho i0 j0 q0 i1 j1 q1 =
                                  cy8 c k a0 a1 a2 a3 f0 f1 o th s se ho i0 j0 q0 i1 j1 q1 ∧
                                s = s ∧ se = se ∧ ho = ho) ∧
        ((!cy9 c k a0 a1 a2 a3 f0 f1 o th s se ho i0 j0 q0 i1 j1 q1) = true →
          (!cy22 c k a0 a1 a2 a3 f0 f1 o th s se ho i0 j0 q0 i1 j1 q1) = true →
            (!cy25 c k a0 a1 a2 a3 f0 f1 o th s se ho i0 j0 q0 i1 j1 q1) = true →
              (!cy30 c k a0 a1 a2 a3 f0 f1 o th s se ho i0 j0 q0 i1 j1 q1) = true →
                (!cy31 c k a0 a1 a2 a3 f0 f1 o th s se ho i0 j0 q0 i1 j1 q1) = true →
                  eqBytes s { data := #[] } = false → isG s))
def cyV (c : Int) (k : Int) (a0 : Int) (a1 : Int) (a2 : Int) (a3 : Int) (f0 : Int) (f1 : Int) (o : Int) (th : Int) (s : ByteArray) (se : Int) (ho : Int) (i0 : Int) (j0 : Int) (q0 : Int) (i1 : Int) (j1 : Int) (q1 : Int) : Int := (bif
          bif cy36 c k a0 a1 a2 a3 f0 f1 o th s se ho i0 j0 q0 i1 j1 q1 == 0 then
            !bif !decide (cy37 c k a0 a1 a2 a3 f0 f1 o th s se ho i0 j0 q0 i1 j1 q1 ≥ 0) then
                bif !decide (cy38 c k a0 a1 a2 a3 f0 f1 o th s se ho i0 j0 q0 i1 j1 q1 ≥ 0) then
                  !decide (cy39 c k a0 a1 a2 a3 f0 f1 o th s se ho i0 j0 q0 i1 j1 q1 ≥ 0)
                else false
              else false
          else false then
        110
      else cy36 c k a0 a1 a2 a3 f0 f1 o th s se ho i0 j0 q0 i1 j1 q1)
def cz0 (c : Int) (k : Int) (a0 : Int) (a1 : Int) (a2 : Int) (a3 : Int) (f0 : Int) (f1 : Int) (o : Int) (th : Int) (s : ByteArray) (se : Int) (ho : Int) (i0 : Int) (j0 : Int) (q0 : Int) (i1 : Int) (j1 : Int) (q1 : Int) (i2 : Int) (j2 : Int) (q2 : Int) : Bool := bif o != 0 then !eqBytes s { data := #[77, 73, 82, 82, 79, 82] } else false
def cz1 (c : Int) (k : Int) (a0 : Int) (a1 : Int) (a2 : Int) (a3 : Int) (f0 : Int) (f1 : Int) (o : Int) (th : Int) (s : ByteArray) (se : Int) (ho : Int) (i0 : Int) (j0 : Int) (q0 : Int) (i1 : Int) (j1 : Int) (q1 : Int) (i2 : Int) (j2 : Int) (q2 : Int) : Int := bif cz0 c k a0 a1 a2 a3 f0 f1 o th s se ho i0 j0 q0 i1 j1 q1 i2 j2 q2 then a0 else a0
def cz2 (c : Int) (k : Int) (a0 : Int) (a1 : Int) (a2 : Int) (a3 : Int) (f0 : Int) (f1 : Int) (o : Int) (th : Int) (s : ByteArray) (se : Int) (ho : Int) (i0 : Int) (j0 : Int) (q0 : Int) (i1 : Int) (j1 : Int) (q1 : Int) (i2 : Int) (j2 : Int) (q2 : Int) : Int := bif cz0 c k a0 a1 a2 a3 f0 f1 o th s se ho i0 j0 q0 i1 j1 q1 i2 j2 q2 then a1 else a1
def cz3 (c : Int) (k : Int) (a0 : Int) (a1 : Int) (a2 : Int) (a3 : Int) (f0 : Int) (f1 : Int) (o : Int) (th : Int) (s : ByteArray) (se : Int) (ho : Int) (i0 : Int) (j0 : Int) (q0 : Int) (i1 : Int) (j1 : Int) (q1 : Int) (i2 : Int) (j2 : Int) (q2 : Int) : Int := bif cz0 c k a0 a1 a2 a3 f0 f1 o th s se ho i0 j0 q0 i1 j1 q1 i2 j2 q2 then a2 else a2
def cz4 (c : Int) (k : Int) (a0 : Int) (a1 : Int) (a2 : Int) (a3 : Int) (f0 : Int) (f1 : Int) (o : Int) (th : Int) (s : ByteArray) (se : Int) (ho : Int) (i0 : Int) (j0 : Int) (q0 : Int) (i1 : Int) (j1 : Int) (q1 : Int) (i2 : Int) (j2 : Int) (q2 : Int) : Int := bif cz0 c k a0 a1 a2 a3 f0 f1 o th s se ho i0 j0 q0 i1 j1 q1 i2 j2 q2 then a3 else a3
def cz5 (c : Int) (k : Int) (a0 : Int) (a1 : Int) (a2 : Int) (a3 : Int) (f0 : Int) (f1 : Int) (o : Int) (th : Int) (s : ByteArray) (se : Int) (ho : Int) (i0 : Int) (j0 : Int) (q0 : Int) (i1 : Int) (j1 : Int) (q1 : Int) (i2 : Int) (j2 : Int) (q2 : Int) : Int := bif cz0 c k a0 a1 a2 a3 f0 f1 o th s se ho i0 j0 q0 i1 j1 q1 i2 j2 q2 then f0 else 0
def cz6 (c : Int) (k : Int) (a0 : Int) (a1 : Int) (a2 : Int) (a3 : Int) (f0 : Int) (f1 : Int) (o : Int) (th : Int) (s : ByteArray) (se : Int) (ho : Int) (i0 : Int) (j0 : Int) (q0 : Int) (i1 : Int) (j1 : Int) (q1 : Int) (i2 : Int) (j2 : Int) (q2 : Int) : Int := bif cz0 c k a0 a1 a2 a3 f0 f1 o th s se ho i0 j0 q0 i1 j1 q1 i2 j2 q2 then f1 else 0
def cz7 (c : Int) (k : Int) (a0 : Int) (a1 : Int) (a2 : Int) (a3 : Int) (f0 : Int) (f1 : Int) (o : Int) (th : Int) (s : ByteArray) (se : Int) (ho : Int) (i0 : Int) (j0 : Int) (q0 : Int) (i1 : Int) (j1 : Int) (q1 : Int) (i2 : Int) (j2 : Int) (q2 : Int) : Int := bif cz0 c k a0 a1 a2 a3 f0 f1 o th s se ho i0 j0 q0 i1 j1 q1 i2 j2 q2 then o else 0
def cz8 (c : Int) (k : Int) (a0 : Int) (a1 : Int) (a2 : Int) (a3 : Int) (f0 : Int) (f1 : Int) (o : Int) (th : Int) (s : ByteArray) (se : Int) (ho : Int) (i0 : Int) (j0 : Int) (q0 : Int) (i1 : Int) (j1 : Int) (q1 : Int) (i2 : Int) (j2 : Int) (q2 : Int) : Int := bif cz0 c k a0 a1 a2 a3 f0 f1 o th s se ho i0 j0 q0 i1 j1 q1 i2 j2 q2 then th else th
def cz9 (c : Int) (k : Int) (a0 : Int) (a1 : Int) (a2 : Int) (a3 : Int) (f0 : Int) (f1 : Int) (o : Int) (th : Int) (s : ByteArray) (se : Int) (ho : Int) (i0 : Int) (j0 : Int) (q0 : Int) (i1 : Int) (j1 : Int) (q1 : Int) (i2 : Int) (j2 : Int) (q2 : Int) : Bool := !(i0 == i0 && (j0 == j0 && (q0 == q0 && true)))
def cz10 (c : Int) (k : Int) (a0 : Int) (a1 : Int) (a2 : Int) (a3 : Int) (f0 : Int) (f1 : Int) (o : Int) (th : Int) (s : ByteArray) (se : Int) (ho : Int) (i0 : Int) (j0 : Int) (q0 : Int) (i1 : Int) (j1 : Int) (q1 : Int) (i2 : Int) (j2 : Int) (q2 : Int) : Bool := !(i1 == i1 && (j1 == j1 && (q1 == q1 && true)))
def cz11 (c : Int) (k : Int) (a0 : Int) (a1 : Int) (a2 : Int) (a3 : Int) (f0 : Int) (f1 : Int) (o : Int) (th : Int) (s : ByteArray) (se : Int) (ho : Int) (i0 : Int) (j0 : Int) (q0 : Int) (i1 : Int) (j1 : Int) (q1 : Int) (i2 : Int) (j2 : Int) (q2 : Int) : Bool := !bif
      (1 : Int) == 1 &&
        (c == c &&
          (k == k &&
            ((0 : Int) == 0 &&
              ((0 : Int) == 0 &&
                (o == cz7 c k a0 a1 a2 a3 f0 f1 o th s se ho i0 j0 q0 i1 j1 q1 i2 j2 q2 &&
                  (th == cz8 c k a0 a1 a2 a3 f0 f1 o th s se ho i0 j0 q0 i1 j1 q1 i2 j2 q2 &&
                    (se == se &&
                      (ho == ho &&
                        ((0 : Int) == 0 &&
                          ((0 : Int) == 0 &&
                            ((0 : Int) == 0 &&
                              ((0 : Int) == 0 &&
                                ((0 : Int) == 0 &&
                                  ((0 : Int) == 0 &&
                                    ((0 : Int) == 0 &&
                                      (a0 ==
                                          cz1 c k a0 a1 a2 a3 f0 f1 o th s se ho i0 j0 q0 i1 j1 q1 i2
                                            j2 q2 &&
                                        (a1 ==
                                            cz2 c k a0 a1 a2 a3 f0 f1 o th s se ho i0 j0 q0 i1 j1 q1
                                              i2 j2 q2 &&
                                          (a2 ==
                                              cz3 c k a0 a1 a2 a3 f0 f1 o th s se ho i0 j0 q0 i1 j1 q1
                                                i2 j2 q2 &&
                                            (a3 ==
                                                cz4 c k a0 a1 a2 a3 f0 f1 o th s se ho i0 j0 q0 i1 j1
                                                  q1 i2 j2 q2 &&
                                              (f0 ==
                                                  cz5 c k a0 a1 a2 a3 f0 f1 o th s se ho i0 j0 q0 i1 j1
                                                    q1 i2 j2 q2 &&
                                                (f1 ==
                                                    cz6 c k a0 a1 a2 a3 f0 f1 o th s se ho i0 j0 q0 i1
                                                      j1 q1 i2 j2 q2 &&
                                                  (eqBytes s s && true)))))))))))))))))))))) then
    bif
        cz9 c k a0 a1 a2 a3 f0 f1 o th s se ho i0 j0 q0 i1 j1 q1 i2 j2 q2 ||
          !cz9 c k a0 a1 a2 a3 f0 f1 o th s se ho i0 j0 q0 i1 j1 q1 i2 j2 q2 &&
            (cz10 c k a0 a1 a2 a3 f0 f1 o th s se ho i0 j0 q0 i1 j1 q1 i2 j2 q2 ||
              !cz10 c k a0 a1 a2 a3 f0 f1 o th s se ho i0 j0 q0 i1 j1 q1 i2 j2 q2 &&
                !(i2 == i2 && (j2 == j2 && (q2 == q2 && true)))) then
      false
    else true
  else false
def cz13 (c : Int) (k : Int) (a0 : Int) (a1 : Int) (a2 : Int) (a3 : Int) (f0 : Int) (f1 : Int) (o : Int) (th : Int) (s : ByteArray) (se : Int) (ho : Int) (i0 : Int) (j0 : Int) (q0 : Int) (i1 : Int) (j1 : Int) (q1 : Int) (i2 : Int) (j2 : Int) (q2 : Int) : Bool := bif decide (c < (-1000000000 : Int)) then true
else decide (c > 1000000000)
def cz16 (c : Int) (k : Int) (a0 : Int) (a1 : Int) (a2 : Int) (a3 : Int) (f0 : Int) (f1 : Int) (o : Int) (th : Int) (s : ByteArray) (se : Int) (ho : Int) (i0 : Int) (j0 : Int) (q0 : Int) (i1 : Int) (j1 : Int) (q1 : Int) (i2 : Int) (j2 : Int) (q2 : Int) : Int := bif
    !cz13 c k a0 a1 a2 a3 f0 f1 o th s se ho i0 j0 q0 i1 j1 q1 i2 j2 q2 &&
      !bif decide (th < (-1000000000 : Int)) then
          true
        else decide (th > 1000000000) then
  (-1 : Int)
else
  bif cz13 c k a0 a1 a2 a3 f0 f1 o th s se ho i0 j0 q0 i1 j1 q1 i2 j2 q2 then 0
  else (2 : Int)
def cz17 (c : Int) (k : Int) (a0 : Int) (a1 : Int) (a2 : Int) (a3 : Int) (f0 : Int) (f1 : Int) (o : Int) (th : Int) (s : ByteArray) (se : Int) (ho : Int) (i0 : Int) (j0 : Int) (q0 : Int) (i1 : Int) (j1 : Int) (q1 : Int) (i2 : Int) (j2 : Int) (q2 : Int) : Bool := bif decide (a0 < (-1000000000 : Int)) then true
else decide (a0 > 1000000000)
def cz18 (c : Int) (k : Int) (a0 : Int) (a1 : Int) (a2 : Int) (a3 : Int) (f0 : Int) (f1 : Int) (o : Int) (th : Int) (s : ByteArray) (se : Int) (ho : Int) (i0 : Int) (j0 : Int) (q0 : Int) (i1 : Int) (j1 : Int) (q1 : Int) (i2 : Int) (j2 : Int) (q2 : Int) : Bool := bif decide (a1 < (-1000000000 : Int)) then true
else decide (a1 > 1000000000)
def cz19 (c : Int) (k : Int) (a0 : Int) (a1 : Int) (a2 : Int) (a3 : Int) (f0 : Int) (f1 : Int) (o : Int) (th : Int) (s : ByteArray) (se : Int) (ho : Int) (i0 : Int) (j0 : Int) (q0 : Int) (i1 : Int) (j1 : Int) (q1 : Int) (i2 : Int) (j2 : Int) (q2 : Int) : Bool := bif decide (a2 < (-1000000000 : Int)) then true
else decide (a2 > 1000000000)
def cz21 (c : Int) (k : Int) (a0 : Int) (a1 : Int) (a2 : Int) (a3 : Int) (f0 : Int) (f1 : Int) (o : Int) (th : Int) (s : ByteArray) (se : Int) (ho : Int) (i0 : Int) (j0 : Int) (q0 : Int) (i1 : Int) (j1 : Int) (q1 : Int) (i2 : Int) (j2 : Int) (q2 : Int) : Int := bif
    !cz17 c k a0 a1 a2 a3 f0 f1 o th s se ho i0 j0 q0 i1 j1 q1 i2 j2 q2 &&
      (!cz18 c k a0 a1 a2 a3 f0 f1 o th s se ho i0 j0 q0 i1 j1 q1 i2 j2 q2 &&
        (!cz19 c k a0 a1 a2 a3 f0 f1 o th s se ho i0 j0 q0 i1 j1 q1 i2 j2 q2 &&
          !bif
                decide
                  (a3 < (-1000000000 : Int)) then
              true
            else decide (a3 > 1000000000))) then
  (-1 : Int)
else
  bif cz17 c k a0 a1 a2 a3 f0 f1 o th s se ho i0 j0 q0 i1 j1 q1 i2 j2 q2 then 0
  else
    bif cz18 c k a0 a1 a2 a3 f0 f1 o th s se ho i0 j0 q0 i1 j1 q1 i2 j2 q2 then
      (1 : Int)
    else
      bif cz19 c k a0 a1 a2 a3 f0 f1 o th s se ho i0 j0 q0 i1 j1 q1 i2 j2 q2 then
        (2 : Int)
      else (3 : Int)
def cz22 (c : Int) (k : Int) (a0 : Int) (a1 : Int) (a2 : Int) (a3 : Int) (f0 : Int) (f1 : Int) (o : Int) (th : Int) (s : ByteArray) (se : Int) (ho : Int) (i0 : Int) (j0 : Int) (q0 : Int) (i1 : Int) (j1 : Int) (q1 : Int) (i2 : Int) (j2 : Int) (q2 : Int) : Bool := bif decide (f0 < (-1000000000 : Int)) then true
else decide (f0 > 1000000000)
def cz23 (c : Int) (k : Int) (a0 : Int) (a1 : Int) (a2 : Int) (a3 : Int) (f0 : Int) (f1 : Int) (o : Int) (th : Int) (s : ByteArray) (se : Int) (ho : Int) (i0 : Int) (j0 : Int) (q0 : Int) (i1 : Int) (j1 : Int) (q1 : Int) (i2 : Int) (j2 : Int) (q2 : Int) : Int := bif
    !cz22 c k a0 a1 a2 a3 f0 f1 o th s se ho i0 j0 q0 i1 j1 q1 i2 j2 q2 &&
      !bif decide (f1 < (-1000000000 : Int)) then
          true
        else decide (f1 > 1000000000) then
  (-1 : Int)
else
  bif cz22 c k a0 a1 a2 a3 f0 f1 o th s se ho i0 j0 q0 i1 j1 q1 i2 j2 q2 then 0
  else (1 : Int)
def cz24 (c : Int) (k : Int) (a0 : Int) (a1 : Int) (a2 : Int) (a3 : Int) (f0 : Int) (f1 : Int) (o : Int) (th : Int) (s : ByteArray) (se : Int) (ho : Int) (i0 : Int) (j0 : Int) (q0 : Int) (i1 : Int) (j1 : Int) (q1 : Int) (i2 : Int) (j2 : Int) (q2 : Int) : Bool := !bif !decide (cz16 c k a0 a1 a2 a3 f0 f1 o th s se ho i0 j0 q0 i1 j1 q1 i2 j2 q2 ≥ 0) then
    bif !decide (cz21 c k a0 a1 a2 a3 f0 f1 o th s se ho i0 j0 q0 i1 j1 q1 i2 j2 q2 ≥ 0) then
      !decide (cz23 c k a0 a1 a2 a3 f0 f1 o th s se ho i0 j0 q0 i1 j1 q1 i2 j2 q2 ≥ 0)
    else false
  else false
def cz26 (c : Int) (k : Int) (a0 : Int) (a1 : Int) (a2 : Int) (a3 : Int) (f0 : Int) (f1 : Int) (o : Int) (th : Int) (s : ByteArray) (se : Int) (ho : Int) (i0 : Int) (j0 : Int) (q0 : Int) (i1 : Int) (j1 : Int) (q1 : Int) (i2 : Int) (j2 : Int) (q2 : Int) : Int := bif
    bif decide (k < (-100000000 : Int)) then true
    else decide (k > 100000000) then
  0
else (-1 : Int)
def cz27 (c : Int) (k : Int) (a0 : Int) (a1 : Int) (a2 : Int) (a3 : Int) (f0 : Int) (f1 : Int) (o : Int) (th : Int) (s : ByteArray) (se : Int) (ho : Int) (i0 : Int) (j0 : Int) (q0 : Int) (i1 : Int) (j1 : Int) (q1 : Int) (i2 : Int) (j2 : Int) (q2 : Int) : Bool := !bif !decide (cz26 c k a0 a1 a2 a3 f0 f1 o th s se ho i0 j0 q0 i1 j1 q1 i2 j2 q2 ≥ 0) then true
  else false
def cz29 (c : Int) (k : Int) (a0 : Int) (a1 : Int) (a2 : Int) (a3 : Int) (f0 : Int) (f1 : Int) (o : Int) (th : Int) (s : ByteArray) (se : Int) (ho : Int) (i0 : Int) (j0 : Int) (q0 : Int) (i1 : Int) (j1 : Int) (q1 : Int) (i2 : Int) (j2 : Int) (q2 : Int) : Int := bif
    bif decide (o < (-3 : Int)) then true
    else decide (o > 3) then
  0
else (-1 : Int)
def cz30 (c : Int) (k : Int) (a0 : Int) (a1 : Int) (a2 : Int) (a3 : Int) (f0 : Int) (f1 : Int) (o : Int) (th : Int) (s : ByteArray) (se : Int) (ho : Int) (i0 : Int) (j0 : Int) (q0 : Int) (i1 : Int) (j1 : Int) (q1 : Int) (i2 : Int) (j2 : Int) (q2 : Int) : Bool := bif decide (se < 0) then true else decide (se > 1000000000)
def cz31 (c : Int) (k : Int) (a0 : Int) (a1 : Int) (a2 : Int) (a3 : Int) (f0 : Int) (f1 : Int) (o : Int) (th : Int) (s : ByteArray) (se : Int) (ho : Int) (i0 : Int) (j0 : Int) (q0 : Int) (i1 : Int) (j1 : Int) (q1 : Int) (i2 : Int) (j2 : Int) (q2 : Int) : Int := bif
    !cz30 c k a0 a1 a2 a3 f0 f1 o th s se ho i0 j0 q0 i1 j1 q1 i2 j2 q2 &&
      !bif decide (ho < 0) then true else decide (ho > 1000000000) then
  (-1 : Int)
else
  bif cz30 c k a0 a1 a2 a3 f0 f1 o th s se ho i0 j0 q0 i1 j1 q1 i2 j2 q2 then 0
  else (1 : Int)
def cz32 (c : Int) (k : Int) (a0 : Int) (a1 : Int) (a2 : Int) (a3 : Int) (f0 : Int) (f1 : Int) (o : Int) (th : Int) (s : ByteArray) (se : Int) (ho : Int) (i0 : Int) (j0 : Int) (q0 : Int) (i1 : Int) (j1 : Int) (q1 : Int) (i2 : Int) (j2 : Int) (q2 : Int) : Bool := !bif !decide (cz29 c k a0 a1 a2 a3 f0 f1 o th s se ho i0 j0 q0 i1 j1 q1 i2 j2 q2 ≥ 0) then
    !decide (cz31 c k a0 a1 a2 a3 f0 f1 o th s se ho i0 j0 q0 i1 j1 q1 i2 j2 q2 ≥ 0)
  else false
def cz33 (c : Int) (k : Int) (a0 : Int) (a1 : Int) (a2 : Int) (a3 : Int) (f0 : Int) (f1 : Int) (o : Int) (th : Int) (s : ByteArray) (se : Int) (ho : Int) (i0 : Int) (j0 : Int) (q0 : Int) (i1 : Int) (j1 : Int) (q1 : Int) (i2 : Int) (j2 : Int) (q2 : Int) : Bool := !bif se == 0 then true else decide (ho < se)
def cz34 (c : Int) (k : Int) (a0 : Int) (a1 : Int) (a2 : Int) (a3 : Int) (f0 : Int) (f1 : Int) (o : Int) (th : Int) (s : ByteArray) (se : Int) (ho : Int) (i0 : Int) (j0 : Int) (q0 : Int) (i1 : Int) (j1 : Int) (q1 : Int) (i2 : Int) (j2 : Int) (q2 : Int) : Int := bif cz11 c k a0 a1 a2 a3 f0 f1 o th s se ho i0 j0 q0 i1 j1 q1 i2 j2 q2 then 110
else
  bif cz24 c k a0 a1 a2 a3 f0 f1 o th s se ho i0 j0 q0 i1 j1 q1 i2 j2 q2 then 110
  else
    bif cz27 c k a0 a1 a2 a3 f0 f1 o th s se ho i0 j0 q0 i1 j1 q1 i2 j2 q2 then 110
    else
      bif cz32 c k a0 a1 a2 a3 f0 f1 o th s se ho i0 j0 q0 i1 j1 q1 i2 j2 q2 then 110
      else bif cz33 c k a0 a1 a2 a3 f0 f1 o th s se ho i0 j0 q0 i1 j1 q1 i2 j2 q2 then 110 else 0
def cz35 (c : Int) (k : Int) (a0 : Int) (a1 : Int) (a2 : Int) (a3 : Int) (f0 : Int) (f1 : Int) (o : Int) (th : Int) (s : ByteArray) (se : Int) (ho : Int) (i0 : Int) (j0 : Int) (q0 : Int) (i1 : Int) (j1 : Int) (q1 : Int) (i2 : Int) (j2 : Int) (q2 : Int) : Int := bif bif decide (i0 < 10000000) then true else decide (i0 > 40000000) then 0
else (-1 : Int)
def cz36 (c : Int) (k : Int) (a0 : Int) (a1 : Int) (a2 : Int) (a3 : Int) (f0 : Int) (f1 : Int) (o : Int) (th : Int) (s : ByteArray) (se : Int) (ho : Int) (i0 : Int) (j0 : Int) (q0 : Int) (i1 : Int) (j1 : Int) (q1 : Int) (i2 : Int) (j2 : Int) (q2 : Int) : Int := bif bif decide (j0 < 0) then true else decide (j0 > 1000) then 0
else (-1 : Int)
def cz37 (c : Int) (k : Int) (a0 : Int) (a1 : Int) (a2 : Int) (a3 : Int) (f0 : Int) (f1 : Int) (o : Int) (th : Int) (s : ByteArray) (se : Int) (ho : Int) (i0 : Int) (j0 : Int) (q0 : Int) (i1 : Int) (j1 : Int) (q1 : Int) (i2 : Int) (j2 : Int) (q2 : Int) : Int := bif bif decide (q0 < 1) then true else decide (q0 > 1000) then 0
else (-1 : Int)
def cz38 (c : Int) (k : Int) (a0 : Int) (a1 : Int) (a2 : Int) (a3 : Int) (f0 : Int) (f1 : Int) (o : Int) (th : Int) (s : ByteArray) (se : Int) (ho : Int) (i0 : Int) (j0 : Int) (q0 : Int) (i1 : Int) (j1 : Int) (q1 : Int) (i2 : Int) (j2 : Int) (q2 : Int) : Int := bif
    bif cz34 c k a0 a1 a2 a3 f0 f1 o th s se ho i0 j0 q0 i1 j1 q1 i2 j2 q2 == 0 then
      !bif !decide (cz35 c k a0 a1 a2 a3 f0 f1 o th s se ho i0 j0 q0 i1 j1 q1 i2 j2 q2 ≥ 0) then
          bif !decide (cz36 c k a0 a1 a2 a3 f0 f1 o th s se ho i0 j0 q0 i1 j1 q1 i2 j2 q2 ≥ 0) then
            !decide (cz37 c k a0 a1 a2 a3 f0 f1 o th s se ho i0 j0 q0 i1 j1 q1 i2 j2 q2 ≥ 0)
          else false
        else false
    else false then
  110
else cz34 c k a0 a1 a2 a3 f0 f1 o th s se ho i0 j0 q0 i1 j1 q1 i2 j2 q2
def cz39 (c : Int) (k : Int) (a0 : Int) (a1 : Int) (a2 : Int) (a3 : Int) (f0 : Int) (f1 : Int) (o : Int) (th : Int) (s : ByteArray) (se : Int) (ho : Int) (i0 : Int) (j0 : Int) (q0 : Int) (i1 : Int) (j1 : Int) (q1 : Int) (i2 : Int) (j2 : Int) (q2 : Int) : Int := bif bif decide (i1 < 10000000) then true else decide (i1 > 40000000) then 0
else (-1 : Int)
def cz40 (c : Int) (k : Int) (a0 : Int) (a1 : Int) (a2 : Int) (a3 : Int) (f0 : Int) (f1 : Int) (o : Int) (th : Int) (s : ByteArray) (se : Int) (ho : Int) (i0 : Int) (j0 : Int) (q0 : Int) (i1 : Int) (j1 : Int) (q1 : Int) (i2 : Int) (j2 : Int) (q2 : Int) : Int := bif bif decide (j1 < 0) then true else decide (j1 > 1000) then 0
else (-1 : Int)
def cz41 (c : Int) (k : Int) (a0 : Int) (a1 : Int) (a2 : Int) (a3 : Int) (f0 : Int) (f1 : Int) (o : Int) (th : Int) (s : ByteArray) (se : Int) (ho : Int) (i0 : Int) (j0 : Int) (q0 : Int) (i1 : Int) (j1 : Int) (q1 : Int) (i2 : Int) (j2 : Int) (q2 : Int) : Int := bif bif decide (q1 < 1) then true else decide (q1 > 1000) then 0
else (-1 : Int)
def cz42 (c : Int) (k : Int) (a0 : Int) (a1 : Int) (a2 : Int) (a3 : Int) (f0 : Int) (f1 : Int) (o : Int) (th : Int) (s : ByteArray) (se : Int) (ho : Int) (i0 : Int) (j0 : Int) (q0 : Int) (i1 : Int) (j1 : Int) (q1 : Int) (i2 : Int) (j2 : Int) (q2 : Int) : Int := bif
    bif cz38 c k a0 a1 a2 a3 f0 f1 o th s se ho i0 j0 q0 i1 j1 q1 i2 j2 q2 == 0 then
      !bif !decide (cz39 c k a0 a1 a2 a3 f0 f1 o th s se ho i0 j0 q0 i1 j1 q1 i2 j2 q2 ≥ 0) then
          bif !decide (cz40 c k a0 a1 a2 a3 f0 f1 o th s se ho i0 j0 q0 i1 j1 q1 i2 j2 q2 ≥ 0) then
            !decide (cz41 c k a0 a1 a2 a3 f0 f1 o th s se ho i0 j0 q0 i1 j1 q1 i2 j2 q2 ≥ 0)
          else false
        else false
    else false then
  110
else cz38 c k a0 a1 a2 a3 f0 f1 o th s se ho i0 j0 q0 i1 j1 q1 i2 j2 q2
def cz43 (c : Int) (k : Int) (a0 : Int) (a1 : Int) (a2 : Int) (a3 : Int) (f0 : Int) (f1 : Int) (o : Int) (th : Int) (s : ByteArray) (se : Int) (ho : Int) (i0 : Int) (j0 : Int) (q0 : Int) (i1 : Int) (j1 : Int) (q1 : Int) (i2 : Int) (j2 : Int) (q2 : Int) : Int := bif bif decide (i2 < 10000000) then true else decide (i2 > 40000000) then 0
else (-1 : Int)
def cz44 (c : Int) (k : Int) (a0 : Int) (a1 : Int) (a2 : Int) (a3 : Int) (f0 : Int) (f1 : Int) (o : Int) (th : Int) (s : ByteArray) (se : Int) (ho : Int) (i0 : Int) (j0 : Int) (q0 : Int) (i1 : Int) (j1 : Int) (q1 : Int) (i2 : Int) (j2 : Int) (q2 : Int) : Int := bif bif decide (j2 < 0) then true else decide (j2 > 1000) then 0
else (-1 : Int)
def cz45 (c : Int) (k : Int) (a0 : Int) (a1 : Int) (a2 : Int) (a3 : Int) (f0 : Int) (f1 : Int) (o : Int) (th : Int) (s : ByteArray) (se : Int) (ho : Int) (i0 : Int) (j0 : Int) (q0 : Int) (i1 : Int) (j1 : Int) (q1 : Int) (i2 : Int) (j2 : Int) (q2 : Int) : Int := bif bif decide (q2 < 1) then true else decide (q2 > 1000) then 0
else (-1 : Int)
def czN (c : Int) (k : Int) (a0 : Int) (a1 : Int) (a2 : Int) (a3 : Int) (f0 : Int) (f1 : Int) (o : Int) (th : Int) (s : ByteArray) (se : Int) (ho : Int) (i0 : Int) (j0 : Int) (q0 : Int) (i1 : Int) (j1 : Int) (q1 : Int) (i2 : Int) (j2 : Int) (q2 : Int) : Prop := ((((cz0 c k a0 a1 a2 a3 f0 f1 o th s se ho i0 j0 q0 i1 j1 q1 i2 j2 q2 = true →
              f0 = f0 ∧ f1 = f1) ∧
            (ho = ho ∧ se = se ∧ s = s ∧ k = k) ∧
              (ho = ho ∧ se = se ∧ s = s) ∧ (ho = ho ∧ se = se) ∧ ho = ho) ∧
          (c = c ∧
              k = k ∧
                a0 = a0 ∧
                  a1 = a1 ∧
                    a2 = a2 ∧
                      a3 = a3 ∧ f0 = f0 ∧ f1 = f1 ∧ o = o ∧ th = th ∧ s = s ∧ se = se ∧ ho = ho) ∧
            c = c ∧
              k = k ∧
                cz1 c k a0 a1 a2 a3 f0 f1 o th s se ho i0 j0 q0 i1 j1 q1 i2 j2 q2 =
                    cz1 c k a0 a1 a2 a3 f0 f1 o th s se ho i0 j0 q0 i1 j1 q1 i2 j2 q2 ∧
                  cz2 c k a0 a1 a2 a3 f0 f1 o th s se ho i0 j0 q0 i1 j1 q1 i2 j2 q2 =
                      cz2 c k a0 a1 a2 a3 f0 f1 o th s se ho i0 j0 q0 i1 j1 q1 i2 j2 q2 ∧
                    cz3 c k a0 a1 a2 a3 f0 f1 o th s se ho i0 j0 q0 i1 j1 q1 i2 j2 q2 =
                        cz3 c k a0 a1 a2 a3 f0 f1 o th s se ho i0 j0 q0 i1 j1 q1 i2 j2 q2 ∧
                      cz4 c k a0 a1 a2 a3 f0 f1 o th s se ho i0 j0 q0 i1 j1 q1 i2 j2 q2 =
                          cz4 c k a0 a1 a2 a3 f0 f1 o th s se ho i0 j0 q0 i1 j1 q1 i2 j2 q2 ∧
                        cz5 c k a0 a1 a2 a3 f0 f1 o th s se ho i0 j0 q0 i1 j1 q1 i2 j2 q2 =
                            cz5 c k a0 a1 a2 a3 f0 f1 o th s se ho i0 j0 q0 i1 j1 q1 i2 j2 q2 ∧
                          cz6 c k a0 a1 a2 a3 f0 f1 o th s se ho i0 j0 q0 i1 j1 q1 i2 j2 q2 =
                              cz6 c k a0 a1 a2 a3 f0 f1 o th s se ho i0 j0 q0 i1 j1 q1 i2 j2 q2 ∧
                            cz7 c k a0 a1 a2 a3 f0 f1 o th s se ho i0 j0 q0 i1 j1 q1 i2 j2 q2 =
                                cz7 c k a0 a1 a2 a3 f0 f1 o th s se ho i0 j0 q0 i1 j1 q1 i2 j2 q2 ∧
                              cz8 c k a0 a1 a2 a3 f0 f1 o th s se ho i0 j0 q0 i1 j1 q1 i2 j2 q2 =
                                  cz8 c k a0 a1 a2 a3 f0 f1 o th s se ho i0 j0 q0 i1 j1 q1 i2 j2
                                    q2 ∧
                                s = s ∧ se = se ∧ ho = ho) ∧
        ((!cz11 c k a0 a1 a2 a3 f0 f1 o th s se ho i0 j0 q0 i1 j1 q1 i2 j2 q2) = true →
          (!cz24 c k a0 a1 a2 a3 f0 f1 o th s se ho i0 j0 q0 i1 j1 q1 i2 j2 q2) = true →
            (!cz27 c k a0 a1 a2 a3 f0 f1 o th s se ho i0 j0 q0 i1 j1 q1 i2 j2 q2) = true →
              (!cz32 c k a0 a1 a2 a3 f0 f1 o th s se ho i0 j0 q0 i1 j1 q1 i2 j2 q2) = true →
                (!cz33 c k a0 a1 a2 a3 f0 f1 o th s se ho i0 j0 q0 i1 j1 q1 i2 j2 q2) = true →
                  eqBytes s { data := #[] } = false → isG s))
def czV (c : Int) (k : Int) (a0 : Int) (a1 : Int) (a2 : Int) (a3 : Int) (f0 : Int) (f1 : Int) (o : Int) (th : Int) (s : ByteArray) (se : Int) (ho : Int) (i0 : Int) (j0 : Int) (q0 : Int) (i1 : Int) (j1 : Int) (q1 : Int) (i2 : Int) (j2 : Int) (q2 : Int) : Int := (bif
          bif cz42 c k a0 a1 a2 a3 f0 f1 o th s se ho i0 j0 q0 i1 j1 q1 i2 j2 q2 == 0 then
            !bif
                  !decide
                      (cz43 c k a0 a1 a2 a3 f0 f1 o th s se ho i0 j0 q0 i1 j1 q1 i2 j2 q2 ≥ 0) then
                bif
                    !decide
                        (cz44 c k a0 a1 a2 a3 f0 f1 o th s se ho i0 j0 q0 i1 j1 q1 i2 j2 q2 ≥
                          0) then
                  !decide (cz45 c k a0 a1 a2 a3 f0 f1 o th s se ho i0 j0 q0 i1 j1 q1 i2 j2 q2 ≥ 0)
                else false
              else false
          else false then
        110
      else cz42 c k a0 a1 a2 a3 f0 f1 o th s se ho i0 j0 q0 i1 j1 q1 i2 j2 q2)
end Go.Rd
namespace Go.Rd
open Go Go.Eng Go.Ar
def inF (i p q : Int) : Prop := (10000000 ≤ i ∧ i ≤ 40000000) ∧ (0 ≤ p ∧ p ≤ 1000) ∧ (1 ≤ q ∧ q ≤ 1000)
theorem std1_0 {c k a0 a1 a2 a3 f0 f1 o th : Int} {s : ByteArray} {se ho i0 j0 q0 : Int} (h : vStd c k a0 a1 a2 a3 f0 f1 o th s se ho) (t0 : inF i0 j0 q0) : cxV c k a0 a1 a2 a3 f0 f1 o th s se ho i0 j0 q0 = 0 := by
  have e1 := lo_f h.hc; have e2 := hi_f h.hc; have e3 := klo_f h.hk; have e4 := khi_f h.hk
  have e5 := lo_f h.h0; have e6 := hi_f h.h0; have e7 := lo_f h.h1; have e8 := hi_f h.h1; have e9 := lo_f h.h2; have e10 := hi_f h.h2; have e11 := lo_f h.h3; have e12 := hi_f h.h3
  have e13 := lo_f h.hf; have e14 := hi_f h.hf; have e15 := lo_f h.hg; have e16 := hi_f h.hg; have e17 := lo_f h.ht; have e18 := hi_f h.ht
  have e19 : decide (o < (-3 : Int)) = false := decide_eq_false (by have := h.ho'; omega)
  have e20 : decide (o > 3) = false := decide_eq_false (by have := h.ho'; omega)
  have hsh := h.sh
  have e21 : decide (se < 0) = false := decide_eq_false (by unfold inSH at hsh; omega)
  have e22 : decide (se > 1000000000) = false := decide_eq_false (by unfold inSH at hsh; omega)
  have e23 : decide (ho < 0) = false := decide_eq_false (by unfold inSH at hsh; omega)
  have e24 : decide (ho > 1000000000) = false := decide_eq_false (by unfold inSH at hsh; omega)
  have e25 := sh_f hsh
  have e26 := eqB_self s
  have keep : (bif o != 0 then !eqBytes s ⟨#[77, 73, 82, 82, 79, 82]⟩ else false) = (o != 0) := by
    rcases h.ph with ⟨_, _, rfl⟩ | ⟨h1, h2⟩
    · rfl
    · rw [show eqBytes s ⟨#[77, 73, 82, 82, 79, 82]⟩ = false from eqB_ne h2]; cases o != 0 <;> rfl
  have q5 : (bif o != 0 then f0 else 0) = f0 := by
    rcases h.ph with ⟨rfl, _, rfl⟩ | ⟨h1, h2⟩
    · rfl
    · rw [show (o != 0) = true by simpa using h1]; rfl
  have q6 : (bif o != 0 then f1 else 0) = f1 := by
    rcases h.ph with ⟨_, rfl, rfl⟩ | ⟨h1, h2⟩
    · rfl
    · rw [show (o != 0) = true by simpa using h1]; rfl
  have q7 : (bif o != 0 then o else 0) = o := by
    cases h1 : o != 0 with
    | true => rfl
    | false => have : o = 0 := by simpa using h1
               subst this; rfl
  have qq : ∀ x : Int, (bif o != 0 then x else x) = x := fun x => by cases o != 0 <;> rfl
  have u0a : decide (i0 < 10000000) = false := decide_eq_false (by have := t0.1; omega)
  have u0b : decide (i0 > 40000000) = false := decide_eq_false (by have := t0.1; omega)
  have v0a : decide (j0 < 0) = false := decide_eq_false (by have := t0.2.1; omega)
  have v0b : decide (j0 > 1000) = false := decide_eq_false (by have := t0.2.1; omega)
  have w0a : decide (q0 < 1) = false := decide_eq_false (by have := t0.2.2; omega)
  have w0b : decide (q0 > 1000) = false := decide_eq_false (by have := t0.2.2; omega)
  simp only [cx0, cx1, cx2, cx3, cx4, cx5, cx6, cx7, cx8, cx9, cx11, cx14, cx15, cx16, cx17, cx19, cx20, cx21, cx22, cx24, cx25, cx27, cx28, cx29, cx30, cx31, cx32, cx33, cx34, cx35, cxV, keep, q5, q6, q7, qq, e1, e2, e3, e4, e5, e6, e7, e8, e9, e10, e11, e12, e13, e14, e15, e16, e17, e18, e19, e20, e21, e22, e23, e24, e25, e26, u0a, u0b, v0a, v0b, w0a, w0b, beq_self_eq_true, Bool.and_true, Bool.and_self, cond_true, cond_false, Bool.not_true, Bool.not_false]
  rfl
theorem std1_n {c k a0 a1 a2 a3 f0 f1 o th : Int} {s : ByteArray} {se ho i0 j0 q0 : Int} (h : inG s) : cxN c k a0 a1 a2 a3 f0 f1 o th s se ho i0 j0 q0 := by
  unfold cxN
  repeat' first | with_reducible exact rfl | refine And.intro ?_ ?_ | intro _
  exact isG_of h (by assumption)
theorem std2_0 {c k a0 a1 a2 a3 f0 f1 o th : Int} {s : ByteArray} {se ho i0 j0 q0 i1 j1 q1 : Int} (h : vStd c k a0 a1 a2 a3 f0 f1 o th s se ho) (t0 : inF i0 j0 q0) (t1 : inF i1 j1 q1) : cyV c k a0 a1 a2 a3 f0 f1 o th s se ho i0 j0 q0 i1 j1 q1 = 0 := by
  have e1 := lo_f h.hc; have e2 := hi_f h.hc; have e3 := klo_f h.hk; have e4 := khi_f h.hk
  have e5 := lo_f h.h0; have e6 := hi_f h.h0; have e7 := lo_f h.h1; have e8 := hi_f h.h1; have e9 := lo_f h.h2; have e10 := hi_f h.h2; have e11 := lo_f h.h3; have e12 := hi_f h.h3
  have e13 := lo_f h.hf; have e14 := hi_f h.hf; have e15 := lo_f h.hg; have e16 := hi_f h.hg; have e17 := lo_f h.ht; have e18 := hi_f h.ht
  have e19 : decide (o < (-3 : Int)) = false := decide_eq_false (by have := h.ho'; omega)
  have e20 : decide (o > 3) = false := decide_eq_false (by have := h.ho'; omega)
  have hsh := h.sh
  have e21 : decide (se < 0) = false := decide_eq_false (by unfold inSH at hsh; omega)
  have e22 : decide (se > 1000000000) = false := decide_eq_false (by unfold inSH at hsh; omega)
  have e23 : decide (ho < 0) = false := decide_eq_false (by unfold inSH at hsh; omega)
  have e24 : decide (ho > 1000000000) = false := decide_eq_false (by unfold inSH at hsh; omega)
  have e25 := sh_f hsh
  have e26 := eqB_self s
  have keep : (bif o != 0 then !eqBytes s ⟨#[77, 73, 82, 82, 79, 82]⟩ else false) = (o != 0) := by
    rcases h.ph with ⟨_, _, rfl⟩ | ⟨h1, h2⟩
    · rfl
    · rw [show eqBytes s ⟨#[77, 73, 82, 82, 79, 82]⟩ = false from eqB_ne h2]; cases o != 0 <;> rfl
  have q5 : (bif o != 0 then f0 else 0) = f0 := by
    rcases h.ph with ⟨rfl, _, rfl⟩ | ⟨h1, h2⟩
    · rfl
    · rw [show (o != 0) = true by simpa using h1]; rfl
  have q6 : (bif o != 0 then f1 else 0) = f1 := by
    rcases h.ph with ⟨_, rfl, rfl⟩ | ⟨h1, h2⟩
    · rfl
    · rw [show (o != 0) = true by simpa using h1]; rfl
  have q7 : (bif o != 0 then o else 0) = o := by
    cases h1 : o != 0 with
    | true => rfl
    | false => have : o = 0 := by simpa using h1
               subst this; rfl
  have qq : ∀ x : Int, (bif o != 0 then x else x) = x := fun x => by cases o != 0 <;> rfl
  have u0a : decide (i0 < 10000000) = false := decide_eq_false (by have := t0.1; omega)
  have u0b : decide (i0 > 40000000) = false := decide_eq_false (by have := t0.1; omega)
  have v0a : decide (j0 < 0) = false := decide_eq_false (by have := t0.2.1; omega)
  have v0b : decide (j0 > 1000) = false := decide_eq_false (by have := t0.2.1; omega)
  have w0a : decide (q0 < 1) = false := decide_eq_false (by have := t0.2.2; omega)
  have w0b : decide (q0 > 1000) = false := decide_eq_false (by have := t0.2.2; omega)
  have u1a : decide (i1 < 10000000) = false := decide_eq_false (by have := t1.1; omega)
  have u1b : decide (i1 > 40000000) = false := decide_eq_false (by have := t1.1; omega)
  have v1a : decide (j1 < 0) = false := decide_eq_false (by have := t1.2.1; omega)
  have v1b : decide (j1 > 1000) = false := decide_eq_false (by have := t1.2.1; omega)
  have w1a : decide (q1 < 1) = false := decide_eq_false (by have := t1.2.2; omega)
  have w1b : decide (q1 > 1000) = false := decide_eq_false (by have := t1.2.2; omega)
  simp only [cy0, cy1, cy2, cy3, cy4, cy5, cy6, cy7, cy8, cy9, cy11, cy14, cy15, cy16, cy17, cy19, cy20, cy21, cy22, cy24, cy25, cy27, cy28, cy29, cy30, cy31, cy32, cy33, cy34, cy35, cy36, cy37, cy38, cy39, cyV, keep, q5, q6, q7, qq, e1, e2, e3, e4, e5, e6, e7, e8, e9, e10, e11, e12, e13, e14, e15, e16, e17, e18, e19, e20, e21, e22, e23, e24, e25, e26, u0a, u0b, v0a, v0b, w0a, w0b, u1a, u1b, v1a, v1b, w1a, w1b, beq_self_eq_true, Bool.and_true, Bool.and_self, cond_true, cond_false, Bool.not_true, Bool.not_false]
  rfl
theorem std2_n {c k a0 a1 a2 a3 f0 f1 o th : Int} {s : ByteArray} {se ho i0 j0 q0 i1 j1 q1 : Int} (h : inG s) : cyN c k a0 a1 a2 a3 f0 f1 o th s se ho i0 j0 q0 i1 j1 q1 := by
  unfold cyN
  repeat' first | with_reducible exact rfl | refine And.intro ?_ ?_ | intro _
  exact isG_of h (by assumption)
theorem std3_0 {c k a0 a1 a2 a3 f0 f1 o th : Int} {s : ByteArray} {se ho i0 j0 q0 i1 j1 q1 i2 j2 q2 : Int} (h : vStd c k a0 a1 a2 a3 f0 f1 o th s se ho) (t0 : inF i0 j0 q0) (t1 : inF i1 j1 q1) (t2 : inF i2 j2 q2) : czV c k a0 a1 a2 a3 f0 f1 o th s se ho i0 j0 q0 i1 j1 q1 i2 j2 q2 = 0 := by
  have e1 := lo_f h.hc; have e2 := hi_f h.hc; have e3 := klo_f h.hk; have e4 := khi_f h.hk
  have e5 := lo_f h.h0; have e6 := hi_f h.h0; have e7 := lo_f h.h1; have e8 := hi_f h.h1; have e9 := lo_f h.h2; have e10 := hi_f h.h2; have e11 := lo_f h.h3; have e12 := hi_f h.h3
  have e13 := lo_f h.hf; have e14 := hi_f h.hf; have e15 := lo_f h.hg; have e16 := hi_f h.hg; have e17 := lo_f h.ht; have e18 := hi_f h.ht
  have e19 : decide (o < (-3 : Int)) = false := decide_eq_false (by have := h.ho'; omega)
  have e20 : decide (o > 3) = false := decide_eq_false (by have := h.ho'; omega)
  have hsh := h.sh
  have e21 : decide (se < 0) = false := decide_eq_false (by unfold inSH at hsh; omega)
  have e22 : decide (se > 1000000000) = false := decide_eq_false (by unfold inSH at hsh; omega)
  have e23 : decide (ho < 0) = false := decide_eq_false (by unfold inSH at hsh; omega)
  have e24 : decide (ho > 1000000000) = false := decide_eq_false (by unfold inSH at hsh; omega)
  have e25 := sh_f hsh
  have e26 := eqB_self s
  have keep : (bif o != 0 then !eqBytes s ⟨#[77, 73, 82, 82, 79, 82]⟩ else false) = (o != 0) := by
    rcases h.ph with ⟨_, _, rfl⟩ | ⟨h1, h2⟩
    · rfl
    · rw [show eqBytes s ⟨#[77, 73, 82, 82, 79, 82]⟩ = false from eqB_ne h2]; cases o != 0 <;> rfl
  have q5 : (bif o != 0 then f0 else 0) = f0 := by
    rcases h.ph with ⟨rfl, _, rfl⟩ | ⟨h1, h2⟩
    · rfl
    · rw [show (o != 0) = true by simpa using h1]; rfl
  have q6 : (bif o != 0 then f1 else 0) = f1 := by
    rcases h.ph with ⟨_, rfl, rfl⟩ | ⟨h1, h2⟩
    · rfl
    · rw [show (o != 0) = true by simpa using h1]; rfl
  have q7 : (bif o != 0 then o else 0) = o := by
    cases h1 : o != 0 with
    | true => rfl
    | false => have : o = 0 := by simpa using h1
               subst this; rfl
  have qq : ∀ x : Int, (bif o != 0 then x else x) = x := fun x => by cases o != 0 <;> rfl
  have u0a : decide (i0 < 10000000) = false := decide_eq_false (by have := t0.1; omega)
  have u0b : decide (i0 > 40000000) = false := decide_eq_false (by have := t0.1; omega)
  have v0a : decide (j0 < 0) = false := decide_eq_false (by have := t0.2.1; omega)
  have v0b : decide (j0 > 1000) = false := decide_eq_false (by have := t0.2.1; omega)
  have w0a : decide (q0 < 1) = false := decide_eq_false (by have := t0.2.2; omega)
  have w0b : decide (q0 > 1000) = false := decide_eq_false (by have := t0.2.2; omega)
  have u1a : decide (i1 < 10000000) = false := decide_eq_false (by have := t1.1; omega)
  have u1b : decide (i1 > 40000000) = false := decide_eq_false (by have := t1.1; omega)
  have v1a : decide (j1 < 0) = false := decide_eq_false (by have := t1.2.1; omega)
  have v1b : decide (j1 > 1000) = false := decide_eq_false (by have := t1.2.1; omega)
  have w1a : decide (q1 < 1) = false := decide_eq_false (by have := t1.2.2; omega)
  have w1b : decide (q1 > 1000) = false := decide_eq_false (by have := t1.2.2; omega)
  have u2a : decide (i2 < 10000000) = false := decide_eq_false (by have := t2.1; omega)
  have u2b : decide (i2 > 40000000) = false := decide_eq_false (by have := t2.1; omega)
  have v2a : decide (j2 < 0) = false := decide_eq_false (by have := t2.2.1; omega)
  have v2b : decide (j2 > 1000) = false := decide_eq_false (by have := t2.2.1; omega)
  have w2a : decide (q2 < 1) = false := decide_eq_false (by have := t2.2.2; omega)
  have w2b : decide (q2 > 1000) = false := decide_eq_false (by have := t2.2.2; omega)
  simp only [cz0, cz1, cz2, cz3, cz4, cz5, cz6, cz7, cz8, cz9, cz10, cz11, cz13, cz16, cz17, cz18, cz19, cz21, cz22, cz23, cz24, cz26, cz27, cz29, cz30, cz31, cz32, cz33, cz34, cz35, cz36, cz37, cz38, cz39, cz40, cz41, cz42, cz43, cz44, cz45, czV, keep, q5, q6, q7, qq, e1, e2, e3, e4, e5, e6, e7, e8, e9, e10, e11, e12, e13, e14, e15, e16, e17, e18, e19, e20, e21, e22, e23, e24, e25, e26, u0a, u0b, v0a, v0b, w0a, w0b, u1a, u1b, v1a, v1b, w1a, w1b, u2a, u2b, v2a, v2b, w2a, w2b, beq_self_eq_true, Bool.and_true, Bool.and_self, cond_true, cond_false, Bool.not_true, Bool.not_false]
  rfl
theorem std3_n {c k a0 a1 a2 a3 f0 f1 o th : Int} {s : ByteArray} {se ho i0 j0 q0 i1 j1 q1 i2 j2 q2 : Int} (h : inG s) : czN c k a0 a1 a2 a3 f0 f1 o th s se ho i0 j0 q0 i1 j1 q1 i2 j2 q2 := by
  unfold czN
  repeat' first | with_reducible exact rfl | refine And.intro ?_ ?_ | intro _
  exact isG_of h (by assumption)
end Go.Rd
namespace Go.Rd
open Go Go.Eng Go.Ar
def z0 (s : Sp) : Bool := s.e == 0
def asp (a0 a1 a2 a3 : Int) : Bool := !(a0 == 0 && (a1 == 0 && (a2 == 0 && (a3 == 0 && true))))
section
variable (c k a0 a1 a2 a3 a b d e : Int)
def u0 : Sp := xScaleS (s2 c k a b d e).lo (s2 c k a b d e).hi 1 100
def ca (n : Int) : Sp := xScaleS 4294967296 4294967296 n 1000000
def u1 : Sp := evalS (u0 c k a b d e) (ca a0) (ca a1) (ca a2) (ca a3)
def u2 : Sp := sqrS (u0 c k a b d e).lo (u0 c k a b d e).hi
def u3 : Sp := mulS (u2 c k a b d e).lo (u2 c k a b d e).hi (u1 c k a0 a1 a2 a3 a b d e).lo (u1 c k a0 a1 a2 a3 a b d e).hi
def u4 : Sp := addS (s10 c k a b d e).lo (s10 c k a b d e).hi (u3 c k a0 a1 a2 a3 a b d e).lo (u3 c k a0 a1 a2 a3 a b d e).hi
def sagH0 : Bool := (z0 (s0 c k a b d e) && (z0 (s1 c k a b d e) && (z0 (s2 c k a b d e) && z0 (s3 c k a b d e)))) && (z0 (s4 c k a b d e) && z0 (s5 c k a b d e))
def sagB : Bool := sagH0 c k a b d e && (z0 (s6 c k a b d e) && (!decide ((s6 c k a b d e).lo ≤ 0) && (z0 (s7 c k a b d e) && (z0 (s8 c k a b d e) && (z0 (s9 c k a b d e) && z0 (s10 c k a b d e))))))
def sagD : Bool := sagH0 c k a b d e && (z0 (s6 c k a b d e) && decide ((s6 c k a b d e).lo ≤ 0))
def sagE : Bool := ((z0 (s0 c k a b d e) && (z0 (s1 c k a b d e) && (z0 (s2 c k a b d e) && z0 (u0 c k a b d e)))) && ((z0 (ca a0) && (z0 (ca a1) && (z0 (ca a2) && z0 (ca a3)))) && z0 (u1 c k a0 a1 a2 a3 a b d e))) && (z0 (u2 c k a b d e) && (z0 (u3 c k a0 a1 a2 a3 a b d e) && z0 (u4 c k a0 a1 a2 a3 a b d e)))
def sagC : Bool := sagB c k a b d e && bif asp a0 a1 a2 a3 then sagE c k a0 a1 a2 a3 a b d e else true
def sagS : Sp := ⟨bif sagC c k a0 a1 a2 a3 a b d e then bif asp a0 a1 a2 a3 then (u4 c k a0 a1 a2 a3 a b d e).lo else (s10 c k a b d e).lo else 0,
  bif sagC c k a0 a1 a2 a3 a b d e then bif asp a0 a1 a2 a3 then (u4 c k a0 a1 a2 a3 a b d e).hi else (s10 c k a b d e).hi else 0,
  bif sagC c k a0 a1 a2 a3 a b d e then 0 else bif sagD c k a b d e then 9 else 6⟩
end
section
variable (c k l m a b d e : Int)
def sagX0 : Bool := (z0 (b0 c k l m a b d e) && (z0 (b1 c k l m a b d e) && (z0 (b2 c k l m a b d e) && z0 (b3 c k l m a b d e)))) && ((z0 (b4 c k l m a b d e) && z0 (b6 c k l m a b d e)) && ((z0 (b5 c k l m a b d e) && z0 (b7 c k l m a b d e)) && z0 (b8 c k l m a b d e)))
def sagXC : Bool := sagX0 c k l m a b d e && (z0 (b9 c k l m a b d e) && (!decide ((b9 c k l m a b d e).lo ≤ 0) && (z0 (b10 c k l m a b d e) && (z0 (b11 c k l m a b d e) && (z0 (b12 c k l m a b d e) && z0 (b13 c k l m a b d e))))))
def sagXD : Bool := sagX0 c k l m a b d e && (z0 (b9 c k l m a b d e) && decide ((b9 c k l m a b d e).lo ≤ 0))
def sagX : Sp := ⟨bif sagXC c k l m a b d e then (b13 c k l m a b d e).lo else 0, bif sagXC c k l m a b d e then (b13 c k l m a b d e).hi else 0, bif sagXC c k l m a b d e then 0 else bif sagXD c k l m a b d e then 9 else 6⟩
end
def spV (s : Sp) : AV := .tuple [.agg [.int true .i64 s.lo, .int true .i64 s.hi], .int true .i64 s.e]
end Go.Rd
namespace Go.Rd
open Go Go.Eng Go.Ar
theorem okSc_of {n d M : Int} (hn : -M ≤ n ∧ n ≤ M) (h : 4503599627370496 * M < 18446744073709551615 * d) : okSc n d := fun _ => by
  have : sg n n ≤ M := by
    unfold sg
    cases h : decide (n < 0) with
    | true => show -n ≤ M; omega
    | false => show n ≤ M; omega
  omega
theorem okR_of {n d : Int} (h1 : -4611686018427387904 ≤ n) (h2 : n ≤ 4611686018427387904) (h3 : 1 ≤ d) (h4 : d ≤ 4611686018427387904) : okR n d = true := by
  unfold okR; simp [h1, h2, h3, h4]
theorem sc_c {c : Int} (h : inL c) : okSc c 1000000000 := okSc_of (M := 1000000000) h (by decide)
theorem sc_a {c : Int} (h : inL c) : okSc c 1000000 := okSc_of (M := 1000000000) h (by decide)
theorem ok_c {c : Int} (h : inL c) : okR c 1000000000 = true := by unfold inL at h; exact okR_of (by omega) (by omega) (by decide) (by decide)
theorem ok_a {c : Int} (h : inL c) : okR c 1000000 = true := by unfold inL at h; exact okR_of (by omega) (by omega) (by decide) (by decide)
theorem wkK {k : Int} (h : inK k) : IntKind.i64.wrap (1000000 + k) = 1000000 + k := i64w (by unfold inK at h; omega) (by unfold inK at h; omega)
theorem sc_k {k : Int} (h : inK k) : okSc (IntKind.i64.wrap (1000000 + k)) 1000000 := by
  rw [wkK h]
  exact okSc_of (M := 101000000) (by unfold inK at h; omega) (by decide)
theorem ok_k {k : Int} (h : inK k) : okR (IntKind.i64.wrap (1000000 + k)) 1000000 = true := by
  rw [wkK h]; unfold inK at h; exact okR_of (by omega) (by omega) (by decide) (by decide)
theorem sc_h : okSc 1 100 := okSc_of (M := 1) (by decide) (by decide)
theorem z0e {s : Sp} (h : z0 s = true) : s.e = 0 := by unfold z0 at h; simpa using h
theorem one_ri : Ri ⟨4294967296, 4294967296, 0⟩ := ⟨by decide, by decide, by decide⟩
theorem dom_pos {s : Sp} (h : (!decide (s.lo ≤ 0)) = true) : 0 < s.lo := by simpa using h
section
variable {c k a0 a1 a2 a3 a b x y : Int} (hc : inL c) (hk : inK k) (hx : okSp a b = true) (hy : okSp x y = true)
include hx in theorem K0 : okE (s0 c k a b x y) := e_sqr (s := ⟨a, b, 0⟩) (Ri.of hx)
include hx in theorem R0 (h : z0 (s0 c k a b x y) = true) : Ri (s0 c k a b x y) := r_sqr (s := ⟨a, b, 0⟩) (Ri.of hx) (z0e h)
include hy in theorem K1 : okE (s1 c k a b x y) := e_sqr (s := ⟨x, y, 0⟩) (Ri.of hy)
include hy in theorem R1 (h : z0 (s1 c k a b x y) = true) : Ri (s1 c k a b x y) := r_sqr (s := ⟨x, y, 0⟩) (Ri.of hy) (z0e h)
include hx hy in theorem K2 (h0 : z0 (s0 c k a b x y) = true) (h1 : z0 (s1 c k a b x y) = true) : okE (s2 c k a b x y) := e_add (R0 hx h0) (R1 hy h1)
include hx hy in theorem R2 (h0 : z0 (s0 c k a b x y) = true) (h1 : z0 (s1 c k a b x y) = true) (h2 : z0 (s2 c k a b x y) = true) : Ri (s2 c k a b x y) := r_add (R0 hx h0) (R1 hy h1) (z0e h2)
include hx hy hc in theorem K3 (h0 : z0 (s0 c k a b x y) = true) (h1 : z0 (s1 c k a b x y) = true) (h2 : z0 (s2 c k a b x y) = true) : okE (s3 c k a b x y) := e_sc (R2 hx hy h0 h1 h2) (sc_c hc) (ok_c hc)
include hx hy hc in theorem R3 (h0 : z0 (s0 c k a b x y) = true) (h1 : z0 (s1 c k a b x y) = true) (h2 : z0 (s2 c k a b x y) = true) (h3 : z0 (s3 c k a b x y) = true) : Ri (s3 c k a b x y) := r_sc (R2 hx hy h0 h1 h2) (sc_c hc) (z0e h3)
include hx hy hc in theorem K4 (h0 : z0 (s0 c k a b x y) = true) (h1 : z0 (s1 c k a b x y) = true) (h2 : z0 (s2 c k a b x y) = true) (h3 : z0 (s3 c k a b x y) = true) : okE (s4 c k a b x y) := e_sc (R3 hc hx hy h0 h1 h2 h3) (sc_c hc) (ok_c hc)
include hx hy hc in theorem R4 (h0 : z0 (s0 c k a b x y) = true) (h1 : z0 (s1 c k a b x y) = true) (h2 : z0 (s2 c k a b x y) = true) (h3 : z0 (s3 c k a b x y) = true) (h4 : z0 (s4 c k a b x y) = true) : Ri (s4 c k a b x y) := r_sc (R3 hc hx hy h0 h1 h2 h3) (sc_c hc) (z0e h4)
include hx hy hc hk in theorem K5 (h0 : z0 (s0 c k a b x y) = true) (h1 : z0 (s1 c k a b x y) = true) (h2 : z0 (s2 c k a b x y) = true) (h3 : z0 (s3 c k a b x y) = true) (h4 : z0 (s4 c k a b x y) = true) : okE (s5 c k a b x y) := e_sc (R4 hc hx hy h0 h1 h2 h3 h4) (sc_k hk) (ok_k hk)
include hx hy hc hk in theorem R5 (h0 : z0 (s0 c k a b x y) = true) (h1 : z0 (s1 c k a b x y) = true) (h2 : z0 (s2 c k a b x y) = true) (h3 : z0 (s3 c k a b x y) = true) (h4 : z0 (s4 c k a b x y) = true) (h5 : z0 (s5 c k a b x y) = true) : Ri (s5 c k a b x y) := r_sc (R4 hc hx hy h0 h1 h2 h3 h4) (sc_k hk) (z0e h5)
include hx hy hc hk in theorem K6 (h0 : z0 (s0 c k a b x y) = true) (h1 : z0 (s1 c k a b x y) = true) (h2 : z0 (s2 c k a b x y) = true) (h3 : z0 (s3 c k a b x y) = true) (h4 : z0 (s4 c k a b x y) = true) (h5 : z0 (s5 c k a b x y) = true) : okE (s6 c k a b x y) := e_sub one_ri (R5 hc hk hx hy h0 h1 h2 h3 h4 h5)
def H6 (c k a b x y : Int) : Prop := z0 (s0 c k a b x y) = true ∧ z0 (s1 c k a b x y) = true ∧ z0 (s2 c k a b x y) = true ∧ z0 (s3 c k a b x y) = true ∧ z0 (s4 c k a b x y) = true ∧ z0 (s5 c k a b x y) = true ∧ z0 (s6 c k a b x y) = true
include hx hy hc hk in theorem R6 (h : H6 c k a b x y) : Ri (s6 c k a b x y) := r_sub one_ri (R5 hc hk hx hy h.1 h.2.1 h.2.2.1 h.2.2.2.1 h.2.2.2.2.1 h.2.2.2.2.2.1) (z0e h.2.2.2.2.2.2)
include hx hy hc hk in theorem K7 (h : H6 c k a b x y) (p : 0 < (s6 c k a b x y).lo) : okE (s7 c k a b x y) := e_rt (R6 hc hk hx hy h) p
include hx hy hc hk in theorem R7 (h : H6 c k a b x y) (h7 : z0 (s7 c k a b x y) = true) : Ri (s7 c k a b x y) := r_rt (R6 hc hk hx hy h) (z0e h7)
include hx hy hc hk in theorem P7 (h : H6 c k a b x y) (p : 0 < (s6 c k a b x y).lo) : 0 < (s7 c k a b x y).lo := rt_pos (R6 hc hk hx hy h) p
include hx hy hc in theorem K8 (h : H6 c k a b x y) : okE (s8 c k a b x y) := e_add (R3 hc hx hy h.1 h.2.1 h.2.2.1 h.2.2.2.1) (t := ⟨0, 0, 0⟩) zero_ri
include hx hy hc in theorem R8 (h : H6 c k a b x y) (h8 : z0 (s8 c k a b x y) = true) : Ri (s8 c k a b x y) := r_add (R3 hc hx hy h.1 h.2.1 h.2.2.1 h.2.2.2.1) (t := ⟨0, 0, 0⟩) zero_ri (z0e h8)
include hx hy hc hk in theorem K9 (h : H6 c k a b x y) (h7 : z0 (s7 c k a b x y) = true) : okE (s9 c k a b x y) := e_add one_ri (R7 hc hk hx hy h h7)
include hx hy hc hk in theorem R9 (h : H6 c k a b x y) (h7 : z0 (s7 c k a b x y) = true) (h9 : z0 (s9 c k a b x y) = true) : Ri (s9 c k a b x y) := r_add one_ri (R7 hc hk hx hy h h7) (z0e h9)
include hx hy hc hk in theorem P9 (h : H6 c k a b x y) (p : 0 < (s6 c k a b x y).lo) (h7 : z0 (s7 c k a b x y) = true) (h9 : z0 (s9 c k a b x y) = true) : 0 < (s9 c k a b x y).lo := add_pos one_ri (R7 hc hk hx hy h h7) (z0e h9) (by decide) (by have := P7 hc hk hx hy h p; omega)
include hx hy hc hk in theorem K10 (h : H6 c k a b x y) (p : 0 < (s6 c k a b x y).lo) (h7 : z0 (s7 c k a b x y) = true) (h8 : z0 (s8 c k a b x y) = true) (h9 : z0 (s9 c k a b x y) = true) : okE (s10 c k a b x y) := e_div (R8 hc hx hy h h8) (R9 hc hk hx hy h h7 h9) (P9 hc hk hx hy h p h7 h9)
include hx hy hc hk in theorem R10 (h : H6 c k a b x y) (h7 : z0 (s7 c k a b x y) = true) (h8 : z0 (s8 c k a b x y) = true) (h9 : z0 (s9 c k a b x y) = true) (h10 : z0 (s10 c k a b x y) = true) : Ri (s10 c k a b x y) := r_div (R8 hc hx hy h h8) (R9 hc hk hx hy h h7 h9) (z0e h10)
include hx hy in theorem KU0 (h0 : z0 (s0 c k a b x y) = true) (h1 : z0 (s1 c k a b x y) = true) (h2 : z0 (s2 c k a b x y) = true) : okE (u0 c k a b x y) := e_sc (R2 hx hy h0 h1 h2) sc_h (by decide)
include hx hy in theorem RU0 (h0 : z0 (s0 c k a b x y) = true) (h1 : z0 (s1 c k a b x y) = true) (h2 : z0 (s2 c k a b x y) = true) (u : z0 (u0 c k a b x y) = true) : Ri (u0 c k a b x y) := r_sc (R2 hx hy h0 h1 h2) sc_h (z0e u)
theorem KCA {n : Int} (h : inL n) : okE (ca n) := e_sc (s := ⟨4294967296, 4294967296, 0⟩) one_ri (sc_a h) (ok_a h)
theorem RCA {n : Int} (h : inL n) (u : z0 (ca n) = true) : Ri (ca n) := r_sc (s := ⟨4294967296, 4294967296, 0⟩) one_ri (sc_a h) (z0e u)
variable (i0 : inL a0) (i1 : inL a1) (i2 : inL a2) (i3 : inL a3)
def HU (c k a0 a1 a2 a3 a b x y : Int) : Prop := (z0 (s0 c k a b x y) = true ∧ z0 (s1 c k a b x y) = true ∧ z0 (s2 c k a b x y) = true ∧ z0 (u0 c k a b x y) = true) ∧ z0 (ca a0) = true ∧ z0 (ca a1) = true ∧ z0 (ca a2) = true ∧ z0 (ca a3) = true
include hx hy in theorem HU.r (h : HU c k a0 a1 a2 a3 a b x y) : Ri (u0 c k a b x y) := RU0 hx hy h.1.1 h.1.2.1 h.1.2.2.1 h.1.2.2.2
include hx hy i0 i1 i2 i3 in theorem KU1 (h : HU c k a0 a1 a2 a3 a b x y) : okE (u1 c k a0 a1 a2 a3 a b x y) := evl_e (h.r hx hy) (RCA i0 h.2.1) (RCA i1 h.2.2.1) (RCA i2 h.2.2.2.1) (RCA i3 h.2.2.2.2)
include hx hy i0 i1 i2 i3 in theorem RU1 (h : HU c k a0 a1 a2 a3 a b x y) (u : z0 (u1 c k a0 a1 a2 a3 a b x y) = true) : Ri (u1 c k a0 a1 a2 a3 a b x y) := evl_r (h.r hx hy) (RCA i0 h.2.1) (RCA i1 h.2.2.1) (RCA i2 h.2.2.2.1) (RCA i3 h.2.2.2.2) (z0e u)
include hx hy in theorem KU2 (h : HU c k a0 a1 a2 a3 a b x y) : okE (u2 c k a b x y) := e_sqr (h.r hx hy)
include hx hy in theorem RU2 (h : HU c k a0 a1 a2 a3 a b x y) (u : z0 (u2 c k a b x y) = true) : Ri (u2 c k a b x y) := r_sqr (h.r hx hy) (z0e u)
include hx hy i0 i1 i2 i3 in theorem KU3 (h : HU c k a0 a1 a2 a3 a b x y) (v1 : z0 (u1 c k a0 a1 a2 a3 a b x y) = true) (v2 : z0 (u2 c k a b x y) = true) : okE (u3 c k a0 a1 a2 a3 a b x y) := e_mul (RU2 hx hy h v2) (RU1 hx hy i0 i1 i2 i3 h v1)
include hx hy i0 i1 i2 i3 in theorem RU3 (h : HU c k a0 a1 a2 a3 a b x y) (v1 : z0 (u1 c k a0 a1 a2 a3 a b x y) = true) (v2 : z0 (u2 c k a b x y) = true) (v3 : z0 (u3 c k a0 a1 a2 a3 a b x y) = true) : Ri (u3 c k a0 a1 a2 a3 a b x y) := r_mul (RU2 hx hy h v2) (RU1 hx hy i0 i1 i2 i3 h v1) (z0e v3)
include hx hy hc hk i0 i1 i2 i3 in theorem KU4 (g : H6 c k a b x y) (h7 : z0 (s7 c k a b x y) = true) (h8 : z0 (s8 c k a b x y) = true) (h9 : z0 (s9 c k a b x y) = true) (h10 : z0 (s10 c k a b x y) = true) (h : HU c k a0 a1 a2 a3 a b x y) (v1 : z0 (u1 c k a0 a1 a2 a3 a b x y) = true) (v2 : z0 (u2 c k a b x y) = true) (v3 : z0 (u3 c k a0 a1 a2 a3 a b x y) = true) : okE (u4 c k a0 a1 a2 a3 a b x y) := e_add (R10 hc hk hx hy g h7 h8 h9 h10) (RU3 hx hy i0 i1 i2 i3 h v1 v2 v3)
end
end Go.Rd
namespace Go.Rd
open Go Go.Eng Go.Ar
section
variable {c k l m a b x y : Int} (hc : inL c) (hk : inK k) (hl : inL l) (hm : inK m) (hx : okSp a b = true) (hy : okSp x y = true)
include hc hk hl hm hx hy in theorem BK0  : okE (b0 c k l m a b x y) := e_sqr (Ri.of (s := ⟨a, b, 0⟩) hx)
include hc hk hl hm hx hy in theorem BR0 (e0 : z0 (b0 c k l m a b x y) = true) : Ri (b0 c k l m a b x y) := r_sqr (Ri.of (s := ⟨a, b, 0⟩) hx) (z0e e0)
include hc hk hl hm hx hy in theorem BK1 (e0 : z0 (b0 c k l m a b x y) = true) : okE (b1 c k l m a b x y) := e_sc (BR0 hc hk hl hm hx hy e0) (sc_c hl) (ok_c hl)
include hc hk hl hm hx hy in theorem BR1 (e0 : z0 (b0 c k l m a b x y) = true) (e1 : z0 (b1 c k l m a b x y) = true) : Ri (b1 c k l m a b x y) := r_sc (BR0 hc hk hl hm hx hy e0) (sc_c hl) (z0e e1)
include hc hk hl hm hx hy in theorem BK2  : okE (b2 c k l m a b x y) := e_sqr (Ri.of (s := ⟨x, y, 0⟩) hy)
include hc hk hl hm hx hy in theorem BR2 (e2 : z0 (b2 c k l m a b x y) = true) : Ri (b2 c k l m a b x y) := r_sqr (Ri.of (s := ⟨x, y, 0⟩) hy) (z0e e2)
include hc hk hl hm hx hy in theorem BK3 (e2 : z0 (b2 c k l m a b x y) = true) : okE (b3 c k l m a b x y) := e_sc (BR2 hc hk hl hm hx hy e2) (sc_c hc) (ok_c hc)
include hc hk hl hm hx hy in theorem BR3 (e2 : z0 (b2 c k l m a b x y) = true) (e3 : z0 (b3 c k l m a b x y) = true) : Ri (b3 c k l m a b x y) := r_sc (BR2 hc hk hl hm hx hy e2) (sc_c hc) (z0e e3)
include hc hk hl hm hx hy in theorem BK4 (e0 : z0 (b0 c k l m a b x y) = true) (e1 : z0 (b1 c k l m a b x y) = true) : okE (b4 c k l m a b x y) := e_sc (BR1 hc hk hl hm hx hy e0 e1) (sc_c hl) (ok_c hl)
include hc hk hl hm hx hy in theorem BR4 (e0 : z0 (b0 c k l m a b x y) = true) (e1 : z0 (b1 c k l m a b x y) = true) (e4 : z0 (b4 c k l m a b x y) = true) : Ri (b4 c k l m a b x y) := r_sc (BR1 hc hk hl hm hx hy e0 e1) (sc_c hl) (z0e e4)
include hc hk hl hm hx hy in theorem BK5 (e2 : z0 (b2 c k l m a b x y) = true) (e3 : z0 (b3 c k l m a b x y) = true) : okE (b5 c k l m a b x y) := e_sc (BR3 hc hk hl hm hx hy e2 e3) (sc_c hc) (ok_c hc)
include hc hk hl hm hx hy in theorem BR5 (e2 : z0 (b2 c k l m a b x y) = true) (e3 : z0 (b3 c k l m a b x y) = true) (e5 : z0 (b5 c k l m a b x y) = true) : Ri (b5 c k l m a b x y) := r_sc (BR3 hc hk hl hm hx hy e2 e3) (sc_c hc) (z0e e5)
include hc hk hl hm hx hy in theorem BK6 (e0 : z0 (b0 c k l m a b x y) = true) (e1 : z0 (b1 c k l m a b x y) = true) (e4 : z0 (b4 c k l m a b x y) = true) : okE (b6 c k l m a b x y) := e_sc (BR4 hc hk hl hm hx hy e0 e1 e4) (sc_k hm) (ok_k hm)
include hc hk hl hm hx hy in theorem BR6 (e0 : z0 (b0 c k l m a b x y) = true) (e1 : z0 (b1 c k l m a b x y) = true) (e4 : z0 (b4 c k l m a b x y) = true) (e6 : z0 (b6 c k l m a b x y) = true) : Ri (b6 c k l m a b x y) := r_sc (BR4 hc hk hl hm hx hy e0 e1 e4) (sc_k hm) (z0e e6)
include hc hk hl hm hx hy in theorem BK7 (e2 : z0 (b2 c k l m a b x y) = true) (e3 : z0 (b3 c k l m a b x y) = true) (e5 : z0 (b5 c k l m a b x y) = true) : okE (b7 c k l m a b x y) := e_sc (BR5 hc hk hl hm hx hy e2 e3 e5) (sc_k hk) (ok_k hk)
include hc hk hl hm hx hy in theorem BR7 (e2 : z0 (b2 c k l m a b x y) = true) (e3 : z0 (b3 c k l m a b x y) = true) (e5 : z0 (b5 c k l m a b x y) = true) (e7 : z0 (b7 c k l m a b x y) = true) : Ri (b7 c k l m a b x y) := r_sc (BR5 hc hk hl hm hx hy e2 e3 e5) (sc_k hk) (z0e e7)
include hc hk hl hm hx hy in theorem BK8 (e0 : z0 (b0 c k l m a b x y) = true) (e1 : z0 (b1 c k l m a b x y) = true) (e2 : z0 (b2 c k l m a b x y) = true) (e3 : z0 (b3 c k l m a b x y) = true) (e4 : z0 (b4 c k l m a b x y) = true) (e5 : z0 (b5 c k l m a b x y) = true) (e6 : z0 (b6 c k l m a b x y) = true) (e7 : z0 (b7 c k l m a b x y) = true) : okE (b8 c k l m a b x y) := e_add (BR6 hc hk hl hm hx hy e0 e1 e4 e6) (BR7 hc hk hl hm hx hy e2 e3 e5 e7)
include hc hk hl hm hx hy in theorem BR8 (e0 : z0 (b0 c k l m a b x y) = true) (e1 : z0 (b1 c k l m a b x y) = true) (e2 : z0 (b2 c k l m a b x y) = true) (e3 : z0 (b3 c k l m a b x y) = true) (e4 : z0 (b4 c k l m a b x y) = true) (e5 : z0 (b5 c k l m a b x y) = true) (e6 : z0 (b6 c k l m a b x y) = true) (e7 : z0 (b7 c k l m a b x y) = true) (e8 : z0 (b8 c k l m a b x y) = true) : Ri (b8 c k l m a b x y) := r_add (BR6 hc hk hl hm hx hy e0 e1 e4 e6) (BR7 hc hk hl hm hx hy e2 e3 e5 e7) (z0e e8)
include hc hk hl hm hx hy in theorem BK9 (e0 : z0 (b0 c k l m a b x y) = true) (e1 : z0 (b1 c k l m a b x y) = true) (e2 : z0 (b2 c k l m a b x y) = true) (e3 : z0 (b3 c k l m a b x y) = true) (e4 : z0 (b4 c k l m a b x y) = true) (e5 : z0 (b5 c k l m a b x y) = true) (e6 : z0 (b6 c k l m a b x y) = true) (e7 : z0 (b7 c k l m a b x y) = true) (e8 : z0 (b8 c k l m a b x y) = true) : okE (b9 c k l m a b x y) := e_sub one_ri (BR8 hc hk hl hm hx hy e0 e1 e2 e3 e4 e5 e6 e7 e8)
include hc hk hl hm hx hy in theorem BR9 (e0 : z0 (b0 c k l m a b x y) = true) (e1 : z0 (b1 c k l m a b x y) = true) (e2 : z0 (b2 c k l m a b x y) = true) (e3 : z0 (b3 c k l m a b x y) = true) (e4 : z0 (b4 c k l m a b x y) = true) (e5 : z0 (b5 c k l m a b x y) = true) (e6 : z0 (b6 c k l m a b x y) = true) (e7 : z0 (b7 c k l m a b x y) = true) (e8 : z0 (b8 c k l m a b x y) = true) (e9 : z0 (b9 c k l m a b x y) = true) : Ri (b9 c k l m a b x y) := r_sub one_ri (BR8 hc hk hl hm hx hy e0 e1 e2 e3 e4 e5 e6 e7 e8) (z0e e9)
include hc hk hl hm hx hy in theorem BK10 (e0 : z0 (b0 c k l m a b x y) = true) (e1 : z0 (b1 c k l m a b x y) = true) (e2 : z0 (b2 c k l m a b x y) = true) (e3 : z0 (b3 c k l m a b x y) = true) (e4 : z0 (b4 c k l m a b x y) = true) (e5 : z0 (b5 c k l m a b x y) = true) (e6 : z0 (b6 c k l m a b x y) = true) (e7 : z0 (b7 c k l m a b x y) = true) (e8 : z0 (b8 c k l m a b x y) = true) (e9 : z0 (b9 c k l m a b x y) = true) (p : 0 < (b9 c k l m a b x y).lo) : okE (b10 c k l m a b x y) := e_rt (BR9 hc hk hl hm hx hy e0 e1 e2 e3 e4 e5 e6 e7 e8 e9) p
include hc hk hl hm hx hy in theorem BR10 (e0 : z0 (b0 c k l m a b x y) = true) (e1 : z0 (b1 c k l m a b x y) = true) (e2 : z0 (b2 c k l m a b x y) = true) (e3 : z0 (b3 c k l m a b x y) = true) (e4 : z0 (b4 c k l m a b x y) = true) (e5 : z0 (b5 c k l m a b x y) = true) (e6 : z0 (b6 c k l m a b x y) = true) (e7 : z0 (b7 c k l m a b x y) = true) (e8 : z0 (b8 c k l m a b x y) = true) (e9 : z0 (b9 c k l m a b x y) = true) (e10 : z0 (b10 c k l m a b x y) = true) : Ri (b10 c k l m a b x y) := r_rt (BR9 hc hk hl hm hx hy e0 e1 e2 e3 e4 e5 e6 e7 e8 e9) (z0e e10)
include hc hk hl hm hx hy in theorem BK11 (e0 : z0 (b0 c k l m a b x y) = true) (e1 : z0 (b1 c k l m a b x y) = true) (e2 : z0 (b2 c k l m a b x y) = true) (e3 : z0 (b3 c k l m a b x y) = true) : okE (b11 c k l m a b x y) := e_add (BR1 hc hk hl hm hx hy e0 e1) (BR3 hc hk hl hm hx hy e2 e3)
include hc hk hl hm hx hy in theorem BR11 (e0 : z0 (b0 c k l m a b x y) = true) (e1 : z0 (b1 c k l m a b x y) = true) (e2 : z0 (b2 c k l m a b x y) = true) (e3 : z0 (b3 c k l m a b x y) = true) (e11 : z0 (b11 c k l m a b x y) = true) : Ri (b11 c k l m a b x y) := r_add (BR1 hc hk hl hm hx hy e0 e1) (BR3 hc hk hl hm hx hy e2 e3) (z0e e11)
include hc hk hl hm hx hy in theorem BK12 (e0 : z0 (b0 c k l m a b x y) = true) (e1 : z0 (b1 c k l m a b x y) = true) (e2 : z0 (b2 c k l m a b x y) = true) (e3 : z0 (b3 c k l m a b x y) = true) (e4 : z0 (b4 c k l m a b x y) = true) (e5 : z0 (b5 c k l m a b x y) = true) (e6 : z0 (b6 c k l m a b x y) = true) (e7 : z0 (b7 c k l m a b x y) = true) (e8 : z0 (b8 c k l m a b x y) = true) (e9 : z0 (b9 c k l m a b x y) = true) (e10 : z0 (b10 c k l m a b x y) = true) : okE (b12 c k l m a b x y) := e_add one_ri (BR10 hc hk hl hm hx hy e0 e1 e2 e3 e4 e5 e6 e7 e8 e9 e10)
include hc hk hl hm hx hy in theorem BR12 (e0 : z0 (b0 c k l m a b x y) = true) (e1 : z0 (b1 c k l m a b x y) = true) (e2 : z0 (b2 c k l m a b x y) = true) (e3 : z0 (b3 c k l m a b x y) = true) (e4 : z0 (b4 c k l m a b x y) = true) (e5 : z0 (b5 c k l m a b x y) = true) (e6 : z0 (b6 c k l m a b x y) = true) (e7 : z0 (b7 c k l m a b x y) = true) (e8 : z0 (b8 c k l m a b x y) = true) (e9 : z0 (b9 c k l m a b x y) = true) (e10 : z0 (b10 c k l m a b x y) = true) (e12 : z0 (b12 c k l m a b x y) = true) : Ri (b12 c k l m a b x y) := r_add one_ri (BR10 hc hk hl hm hx hy e0 e1 e2 e3 e4 e5 e6 e7 e8 e9 e10) (z0e e12)
include hc hk hl hm hx hy in theorem BK13 (e0 : z0 (b0 c k l m a b x y) = true) (e1 : z0 (b1 c k l m a b x y) = true) (e2 : z0 (b2 c k l m a b x y) = true) (e3 : z0 (b3 c k l m a b x y) = true) (e4 : z0 (b4 c k l m a b x y) = true) (e5 : z0 (b5 c k l m a b x y) = true) (e6 : z0 (b6 c k l m a b x y) = true) (e7 : z0 (b7 c k l m a b x y) = true) (e8 : z0 (b8 c k l m a b x y) = true) (e9 : z0 (b9 c k l m a b x y) = true) (e10 : z0 (b10 c k l m a b x y) = true) (e11 : z0 (b11 c k l m a b x y) = true) (e12 : z0 (b12 c k l m a b x y) = true) (p : 0 < (b12 c k l m a b x y).lo) : okE (b13 c k l m a b x y) := e_div (BR11 hc hk hl hm hx hy e0 e1 e2 e3 e11) (BR12 hc hk hl hm hx hy e0 e1 e2 e3 e4 e5 e6 e7 e8 e9 e10 e12) p
include hc hk hl hm hx hy in theorem BR13 (e0 : z0 (b0 c k l m a b x y) = true) (e1 : z0 (b1 c k l m a b x y) = true) (e2 : z0 (b2 c k l m a b x y) = true) (e3 : z0 (b3 c k l m a b x y) = true) (e4 : z0 (b4 c k l m a b x y) = true) (e5 : z0 (b5 c k l m a b x y) = true) (e6 : z0 (b6 c k l m a b x y) = true) (e7 : z0 (b7 c k l m a b x y) = true) (e8 : z0 (b8 c k l m a b x y) = true) (e9 : z0 (b9 c k l m a b x y) = true) (e10 : z0 (b10 c k l m a b x y) = true) (e11 : z0 (b11 c k l m a b x y) = true) (e12 : z0 (b12 c k l m a b x y) = true) (e13 : z0 (b13 c k l m a b x y) = true) : Ri (b13 c k l m a b x y) := r_div (BR11 hc hk hl hm hx hy e0 e1 e2 e3 e11) (BR12 hc hk hl hm hx hy e0 e1 e2 e3 e4 e5 e6 e7 e8 e9 e10 e12) (z0e e13)
include hc hk hl hm hx hy in theorem BP12 (e0 : z0 (b0 c k l m a b x y) = true) (e1 : z0 (b1 c k l m a b x y) = true) (e2 : z0 (b2 c k l m a b x y) = true) (e3 : z0 (b3 c k l m a b x y) = true) (e4 : z0 (b4 c k l m a b x y) = true) (e5 : z0 (b5 c k l m a b x y) = true) (e6 : z0 (b6 c k l m a b x y) = true) (e7 : z0 (b7 c k l m a b x y) = true) (e8 : z0 (b8 c k l m a b x y) = true) (e9 : z0 (b9 c k l m a b x y) = true) (e10 : z0 (b10 c k l m a b x y) = true) (e12 : z0 (b12 c k l m a b x y) = true) (p : 0 < (b9 c k l m a b x y).lo) : 0 < (b12 c k l m a b x y).lo := add_pos one_ri (BR10 hc hk hl hm hx hy e0 e1 e2 e3 e4 e5 e6 e7 e8 e9 e10) (z0e e12) (by decide) (by have := rt_pos (BR9 hc hk hl hm hx hy e0 e1 e2 e3 e4 e5 e6 e7 e8 e9) p; exact Int.le_of_lt this)
end
end Go.Rd
namespace Go.Rd
open Go Go.Eng Go.Ar
section
variable (c k a0 a1 a2 a3 a b d e : Int)
def cb (n m : Int) : Sp := xScaleS 4294967296 4294967296 (IntKind.i64.wrap (n * m)) 1000000
def q1 : Sp := evalS (u0 c k a b d e) (cb a0 2) (cb a1 3) (cb a2 4) (cb a3 5)
def q2 : Sp := mulS (u0 c k a b d e).lo (u0 c k a b d e).hi (q1 c k a0 a1 a2 a3 a b d e).lo (q1 c k a0 a1 a2 a3 a b d e).hi
def fif (a b : Int) : Sp := xScaleS a b 1 50
def q3 : Sp := mulS (fif a b).lo (fif a b).hi (q2 c k a0 a1 a2 a3 a b d e).lo (q2 c k a0 a1 a2 a3 a b d e).hi
def q4 : Sp := addS (s14 c k a b d e).lo (s14 c k a b d e).hi (q3 c k a0 a1 a2 a3 a b d e).lo (q3 c k a0 a1 a2 a3 a b d e).hi
def q5 : Sp := mulS (fif d e).lo (fif d e).hi (q2 c k a0 a1 a2 a3 a b d e).lo (q2 c k a0 a1 a2 a3 a b d e).hi
def q6 : Sp := addS (s12 c k a b d e).lo (s12 c k a b d e).hi (q5 c k a0 a1 a2 a3 a b d e).lo (q5 c k a0 a1 a2 a3 a b d e).hi
def slB : Bool := z0 (s2 c k a b d e) && (z0 (s8 c k a b d e) && (z0 (s9 c k a b d e) && z0 (s10 c k a b d e)))
def slE : Bool := z0 (s2 c k a b d e) && z0 (q1 c k a0 a1 a2 a3 a b d e)
def slA : Bool := (slB c k a b d e && (z0 (s14 c k a b d e) && (slE c k a0 a1 a2 a3 a b d e && (z0 (q2 c k a0 a1 a2 a3 a b d e) && (z0 (q3 c k a0 a1 a2 a3 a b d e) && z0 (q4 c k a0 a1 a2 a3 a b d e)))))) &&
  (slB c k a b d e && (z0 (s12 c k a b d e) && (slE c k a0 a1 a2 a3 a b d e && (z0 (q2 c k a0 a1 a2 a3 a b d e) && (z0 (q5 c k a0 a1 a2 a3 a b d e) && z0 (q6 c k a0 a1 a2 a3 a b d e))))))
def slP : Bool := (slB c k a b d e && z0 (s14 c k a b d e)) && (slB c k a b d e && z0 (s12 c k a b d e))
end
section
variable (c k l m a b d e : Int)
def slXB : Bool := z0 (b8 c k l m a b d e) && (z0 (b11 c k l m a b d e) && (z0 (b12 c k l m a b d e) && z0 (b13 c k l m a b d e)))
def slX : Bool := (slXB c k l m a b d e && (z0 (b17 c k l m a b d e) && (z0 (b26 c k l m a b d e) && (z0 (b28 c k l m a b d e) && (z0 (b12 c k l m a b d e) && z0 (b29 c k l m a b d e)))))) &&
  (slXB c k l m a b d e && (z0 (b21 c k l m a b d e) && (z0 (b22 c k l m a b d e) && (z0 (b24 c k l m a b d e) && (z0 (b12 c k l m a b d e) && z0 (b25 c k l m a b d e))))))
end
def t1 (g : Int) : Bool := bif g != 0 then true else false
def tw1 (g : Int) (p : Bool) (v : Int) : Int := bif t1 g || !t1 g && p then bif t1 g then 0 else v else 0
def twE (g : Int) (p : Bool) : Int := bif t1 g || !t1 g && p then bif t1 g then g else 0 else 6
def sp2V (g : Int) (p : Bool) (u v : Sp) : AV := .tuple [.agg [.int true .i64 (tw1 g p u.lo), .int true .i64 (tw1 g p u.hi)], .agg [.int true .i64 (tw1 g p v.lo), .int true .i64 (tw1 g p v.hi)], .int true .i64 (twE g p)]
end Go.Rd
namespace Go.Rd
open Go Go.Eng Go.Ar
section
variable (c k a0 a1 a2 a3 a b d e : Int)
def slC : Bool := bif asp a0 a1 a2 a3 then slA c k a0 a1 a2 a3 a b d e else slP c k a b d e
def slU : Sp := bif asp a0 a1 a2 a3 then q4 c k a0 a1 a2 a3 a b d e else s14 c k a b d e
def slV : Sp := bif asp a0 a1 a2 a3 then q6 c k a0 a1 a2 a3 a b d e else s12 c k a b d e
def slpV : AV := sp2V (sagS c k a0 a1 a2 a3 a b d e).e (slC c k a0 a1 a2 a3 a b d e) (slU c k a0 a1 a2 a3 a b d e) (slV c k a0 a1 a2 a3 a b d e)
theorem slpV_t (h : asp a0 a1 a2 a3 = true) : sp2V (sagS c k a0 a1 a2 a3 a b d e).e (slA c k a0 a1 a2 a3 a b d e) (q4 c k a0 a1 a2 a3 a b d e) (q6 c k a0 a1 a2 a3 a b d e) = slpV c k a0 a1 a2 a3 a b d e := by
  unfold slpV slC slU slV; rw [h]; rfl
theorem slpV_f (h : asp a0 a1 a2 a3 = false) : sp2V (sagS c k a0 a1 a2 a3 a b d e).e (slP c k a b d e) (s14 c k a b d e) (s12 c k a b d e) = slpV c k a0 a1 a2 a3 a b d e := by
  unfold slpV slC slU slV; rw [h]; rfl
end
def slpX (c k l m a b d e : Int) : AV := sp2V (sagX c k l m a b d e).e (slX c k l m a b d e) (b29 c k l m a b d e) (b25 c k l m a b d e)
end Go.Rd
namespace Go.Rd
open Go Go.Eng Go.Ar
theorem sc0 {s : Sp} {n d L : Int} (h : Ri s) (hn : -L ≤ n ∧ n ≤ L) (hL : L ≤ 4611686018427387904) (hd : 1 ≤ d) (hd' : d ≤ 4611686018427387904) (hb : L ≤ d) (hbig : 4503599627370496 * L < 18446744073709551615 * d) : (xScaleS s.lo s.hi n d).e = 0 :=
  (scale_op (s := ⟨s.lo, s.hi, 0⟩) (M := 4503599627370496) (L := L) (M' := 4503599627370496) ⟨rfl, h.lo, h.le, h.hi⟩ (by decide) hn hL hd hd' (by omega) (by decide) hbig).1.e
theorem cb_0 {n m : Int} (h : inL n) (hm : 2 ≤ m ∧ m ≤ 5) : (cb n m).e = 0 ∧ Ri (cb n m) := by
  unfold inL at h
  have p1 : -5000000000 ≤ n * m ∧ n * m ≤ 5000000000 := by
    have a1 := Int.mul_le_mul_of_nonneg_right h.2 (show 0 ≤ m by omega)
    have a2 := Int.mul_le_mul_of_nonneg_right h.1 (show 0 ≤ m by omega)
    omega
  have w : IntKind.i64.wrap (n * m) = n * m := i64w (by omega) (by omega)
  have r : Bd (cb n m) 4503599627370496 := by
    unfold cb
    rw [w]
    exact (scale_op (s := ⟨4294967296, 4294967296, 0⟩) (M := 4294967296) (L := 5000000000) ⟨rfl, by decide, by decide, by decide⟩ (by decide) p1 (by decide) (by decide) (by decide) (by decide) (by decide) (by decide)).1
  exact ⟨r.e, r.lo, r.le, r.hi⟩
theorem fif_0 {a b : Int} (h : okSp a b = true) : (fif a b).e = 0 ∧ Ri (fif a b) := by
  have e : (fif a b).e = 0 := sc0 (s := ⟨a, b, 0⟩) (L := 1) (Ri.of h) (by decide) (by decide) (by decide) (by decide) (by decide) (by decide)
  exact ⟨e, r_sc (s := ⟨a, b, 0⟩) (Ri.of h) (okSc_of (M := 1) (by decide) (by decide)) e⟩
theorem cur_0 {a b c : Int} (h : okSp a b = true) (hc : inL c) : (xScaleS a b c 1000000000).e = 0 ∧ Ri (xScaleS a b c 1000000000) := by
  have e : (xScaleS a b c 1000000000).e = 0 := sc0 (s := ⟨a, b, 0⟩) (L := 1000000000) (Ri.of h) hc (by decide) (by decide) (by decide) (by decide) (by decide)
  exact ⟨e, r_sc (s := ⟨a, b, 0⟩) (Ri.of h) (sc_c hc) e⟩
structure BaseF (c k a b x y : Int) : Prop where
  h : H6 c k a b x y
  p : 0 < (s6 c k a b x y).lo
  h7 : z0 (s7 c k a b x y) = true
  h8 : z0 (s8 c k a b x y) = true
  h9 : z0 (s9 c k a b x y) = true
  h10 : z0 (s10 c k a b x y) = true
theorem base_of {c k a b x y : Int} (h : sagB c k a b x y = true) : BaseF c k a b x y := by
  unfold sagB sagH0 at h
  simp only [Bool.and_eq_true] at h
  obtain ⟨⟨⟨e0, e1, e2, e3⟩, e4, e5⟩, e6, d, e7, e8, e9, e10⟩ := h
  exact ⟨⟨e0, e1, e2, e3, e4, e5, e6⟩, dom_pos d, e7, e8, e9, e10⟩
theorem sag_c {c k a0 a1 a2 a3 a b x y : Int} (g : (sagS c k a0 a1 a2 a3 a b x y).e = 0) : sagC c k a0 a1 a2 a3 a b x y = true := by
  cases e : sagC c k a0 a1 a2 a3 a b x y with
  | true => rfl
  | false =>
    have g : (bif sagC c k a0 a1 a2 a3 a b x y then 0 else bif sagD c k a b x y then 9 else 6 : Int) = 0 := g
    rw [e, cond_false] at g
    cases d : sagD c k a b x y <;> rw [d] at g <;> cases g
theorem sag_base {c k a0 a1 a2 a3 a b x y : Int} (g : (sagS c k a0 a1 a2 a3 a b x y).e = 0) : BaseF c k a b x y := by
  have := sag_c g
  unfold sagC at this
  rw [Bool.and_eq_true] at this
  exact base_of this.1
theorem sag_even {c k a0 a1 a2 a3 a b x y : Int} (g : (sagS c k a0 a1 a2 a3 a b x y).e = 0) (has : asp a0 a1 a2 a3 = true) : z0 (u0 c k a b x y) = true := by
  have := sag_c g
  unfold sagC at this
  rw [Bool.and_eq_true, has] at this
  have := this.2
  unfold sagE at this
  simp only [cond_true, Bool.and_eq_true] at this
  exact this.1.1.2.2.2
theorem t1_0 {g : Int} (h : (!(bif g != 0 then true else false)) = true) : g = 0 := by
  rcases Decidable.em (g = 0) with e | e
  · exact e
  · have : (g != 0) = true := by simpa using e
    rw [this] at h
    cases h
section
variable {c k a0 a1 a2 a3 a b x y : Int} (hc : inL c) (hk : inK k) (hx : okSp a b = true) (hy : okSp x y = true) (f : BaseF c k a b x y)
include hc hk hx hy f
theorem F14 : okE (s14 c k a b x y) := e_div (s := s13 c k a b x y) (cur_0 hx hc).2 (R7 hc hk hx hy f.h f.h7) (P7 hc hk hx hy f.h f.p)
theorem F14r (e : z0 (s14 c k a b x y) = true) : Ri (s14 c k a b x y) := r_div (s := s13 c k a b x y) (cur_0 hx hc).2 (R7 hc hk hx hy f.h f.h7) (z0e e)
theorem F12 : okE (s12 c k a b x y) := e_div (s := s11 c k a b x y) (cur_0 hy hc).2 (R7 hc hk hx hy f.h f.h7) (P7 hc hk hx hy f.h f.p)
theorem F12r (e : z0 (s12 c k a b x y) = true) : Ri (s12 c k a b x y) := r_div (s := s11 c k a b x y) (cur_0 hy hc).2 (R7 hc hk hx hy f.h f.h7) (z0e e)
variable (i0 : inL a0) (i1 : inL a1) (i2 : inL a2) (i3 : inL a3) (u : z0 (u0 c k a b x y) = true)
include u
omit hc hk in
theorem FU : Ri (u0 c k a b x y) := RU0 hx hy f.h.1 f.h.2.1 f.h.2.2.1 u
include i0 i1 i2 i3
theorem FQ1 : okE (q1 c k a0 a1 a2 a3 a b x y) := evl_e (FU hx hy f u) (cb_0 i0 (by decide)).2 (cb_0 i1 (by decide)).2 (cb_0 i2 (by decide)).2 (cb_0 i3 (by decide)).2
theorem FQ1r (e : z0 (q1 c k a0 a1 a2 a3 a b x y) = true) : Ri (q1 c k a0 a1 a2 a3 a b x y) := evl_r (FU hx hy f u) (cb_0 i0 (by decide)).2 (cb_0 i1 (by decide)).2 (cb_0 i2 (by decide)).2 (cb_0 i3 (by decide)).2 (z0e e)
theorem FQ2 (e : z0 (q1 c k a0 a1 a2 a3 a b x y) = true) : okE (q2 c k a0 a1 a2 a3 a b x y) := e_mul (FU hx hy f u) (FQ1r hc hk hx hy f i0 i1 i2 i3 u e)
theorem FQ2r (e : z0 (q1 c k a0 a1 a2 a3 a b x y) = true) (e2 : z0 (q2 c k a0 a1 a2 a3 a b x y) = true) : Ri (q2 c k a0 a1 a2 a3 a b x y) := r_mul (FU hx hy f u) (FQ1r hc hk hx hy f i0 i1 i2 i3 u e) (z0e e2)
theorem FQ3 (e : z0 (q1 c k a0 a1 a2 a3 a b x y) = true) (e2 : z0 (q2 c k a0 a1 a2 a3 a b x y) = true) : okE (q3 c k a0 a1 a2 a3 a b x y) := e_mul (fif_0 hx).2 (FQ2r hc hk hx hy f i0 i1 i2 i3 u e e2)
theorem FQ4 (e14 : z0 (s14 c k a b x y) = true) (e : z0 (q1 c k a0 a1 a2 a3 a b x y) = true) (e2 : z0 (q2 c k a0 a1 a2 a3 a b x y) = true) (e3 : z0 (q3 c k a0 a1 a2 a3 a b x y) = true) : okE (q4 c k a0 a1 a2 a3 a b x y) := e_add (F14r hc hk hx hy f e14) (r_mul (fif_0 hx).2 (FQ2r hc hk hx hy f i0 i1 i2 i3 u e e2) (z0e e3))
theorem FQ5 (e : z0 (q1 c k a0 a1 a2 a3 a b x y) = true) (e2 : z0 (q2 c k a0 a1 a2 a3 a b x y) = true) : okE (q5 c k a0 a1 a2 a3 a b x y) := e_mul (fif_0 hy).2 (FQ2r hc hk hx hy f i0 i1 i2 i3 u e e2)
theorem FQ6 (e12 : z0 (s12 c k a b x y) = true) (e : z0 (q1 c k a0 a1 a2 a3 a b x y) = true) (e2 : z0 (q2 c k a0 a1 a2 a3 a b x y) = true) (e5 : z0 (q5 c k a0 a1 a2 a3 a b x y) = true) : okE (q6 c k a0 a1 a2 a3 a b x y) := e_add (F12r hc hk hx hy f e12) (r_mul (fif_0 hy).2 (FQ2r hc hk hx hy f i0 i1 i2 i3 u e e2) (z0e e5))
end
end Go.Rd
namespace Go.Rd
open Go Go.Eng Go.Ar
theorem sq_bound {a b : Int} (h : okSp a b = true) (e : (sqrS a b).e = 0) : Bd ⟨a, b, 0⟩ 4398046511104 := by
  obtain ⟨h1, h2, h3⟩ := okSp_iff.1 h
  unfold sqrS at e
  rw [h, cond_true] at e
  have t := (told_ok e).2.2.2.2
  have q : abH a b * abH a b ≤ 4503599627370496 * 4294967296 := (rd_le_iff (by decide)).1 t
  have p : 0 ≤ abH a b := (abH_le h).1
  have r : abH a b ≤ 4398046511104 := le_of_sq (by decide) (by omega)
  unfold abH at r
  have := le_mx b (-a)
  exact ⟨rfl, by show -4398046511104 ≤ a; omega, h2, by show b ≤ 4398046511104; omega⟩
theorem bd_ri {s : Sp} {M : Int} (h : Bd s M) (hM : M ≤ 4503599627370496) : Ri s := ⟨by have := h.lo; omega, h.le, by have := h.hi; omega⟩
structure BaseX (c k l m a b x y : Int) : Prop where
  e0 : z0 (b0 c k l m a b x y) = true
  e1 : z0 (b1 c k l m a b x y) = true
  e2 : z0 (b2 c k l m a b x y) = true
  e3 : z0 (b3 c k l m a b x y) = true
  e4 : z0 (b4 c k l m a b x y) = true
  e5 : z0 (b5 c k l m a b x y) = true
  e6 : z0 (b6 c k l m a b x y) = true
  e7 : z0 (b7 c k l m a b x y) = true
  e8 : z0 (b8 c k l m a b x y) = true
  e9 : z0 (b9 c k l m a b x y) = true
  p : 0 < (b9 c k l m a b x y).lo
  e10 : z0 (b10 c k l m a b x y) = true
  e11 : z0 (b11 c k l m a b x y) = true
  e12 : z0 (b12 c k l m a b x y) = true
  e13 : z0 (b13 c k l m a b x y) = true
theorem sagX_base {c k l m a b x y : Int} (g : (sagX c k l m a b x y).e = 0) : BaseX c k l m a b x y := by
  have h : sagXC c k l m a b x y = true := by
    cases e : sagXC c k l m a b x y with
    | true => rfl
    | false =>
      have g : (bif sagXC c k l m a b x y then 0 else bif sagXD c k l m a b x y then 9 else 6 : Int) = 0 := g
      rw [e, cond_false] at g
      cases d : sagXD c k l m a b x y <;> rw [d] at g <;> cases g
  unfold sagXC sagX0 at h
  simp only [Bool.and_eq_true] at h
  obtain ⟨⟨⟨e0, e1, e2, e3⟩, ⟨e4, e6⟩, ⟨e5, e7⟩, e8⟩, e9, d, e10, e11, e12, e13⟩ := h
  exact ⟨e0, e1, e2, e3, e4, e5, e6, e7, e8, e9, dom_pos d, e10, e11, e12, e13⟩
section
variable {c k l m a b x y : Int} (hc : inL c) (hk : inK k) (hl : inL l) (hm : inK m) (hx : okSp a b = true) (hy : okSp x y = true) (f : BaseX c k l m a b x y)
include hc hk hl hm hx hy f
theorem X10r : Ri (b10 c k l m a b x y) := BR10 hc hk hl hm hx hy f.e0 f.e1 f.e2 f.e3 f.e4 f.e5 f.e6 f.e7 f.e8 f.e9 f.e10
theorem X10p : 0 < (b10 c k l m a b x y).lo := rt_pos (BR9 hc hk hl hm hx hy f.e0 f.e1 f.e2 f.e3 f.e4 f.e5 f.e6 f.e7 f.e8 f.e9) f.p
theorem X12r : Ri (b12 c k l m a b x y) := BR12 hc hk hl hm hx hy f.e0 f.e1 f.e2 f.e3 f.e4 f.e5 f.e6 f.e7 f.e8 f.e9 f.e10 f.e12
theorem X12p : 0 < (b12 c k l m a b x y).lo := BP12 hc hk hl hm hx hy f.e0 f.e1 f.e2 f.e3 f.e4 f.e5 f.e6 f.e7 f.e8 f.e9 f.e10 f.e12 f.p
theorem X13r : Ri (b13 c k l m a b x y) := BR13 hc hk hl hm hx hy f.e0 f.e1 f.e2 f.e3 f.e4 f.e5 f.e6 f.e7 f.e8 f.e9 f.e10 f.e11 f.e12 f.e13
theorem X14_b : Bd (b14 c k l m a b x y) 4398046511104 := (scale_op (M := 4398046511104) (L := 1000000000) (sq_bound hx (z0e f.e0)) (by decide) hl (by decide) (by decide) (by decide) (by decide) (by decide) (by decide)).1
theorem X15_b : Bd (b15 c k l m a b x y) 4398046511104 := (scale_op (M := 4398046511104) (L := 1000000000) (X14_b hc hk hl hm hx hy f) (by decide) hl (by decide) (by decide) (by decide) (by decide) (by decide) (by decide)).1
theorem X16_b : Bd (b16 c k l m a b x y) 444202697621504 := (scale_op (M := 4398046511104) (L := 101000000) (X15_b hc hk hl hm hx hy f) (by decide) (by rw [wkK hm]; unfold inK at hm; omega) (by decide) (by decide) (by decide) (by decide) (by decide) (by decide)).1
theorem X27_b : Bd (b27 c k l m a b x y) 8796093022208 := (scale_op (M := 4398046511104) (L := 2) (X14_b hc hk hl hm hx hy f) (by decide) (by decide) (by decide) (by decide) (by decide) (by decide) (by decide) (by decide)).1
theorem X18_b : Bd (b18 c k l m a b x y) 4398046511104 := (scale_op (M := 4398046511104) (L := 1000000000) (sq_bound hy (z0e f.e2)) (by decide) hc (by decide) (by decide) (by decide) (by decide) (by decide) (by decide)).1
theorem X19_b : Bd (b19 c k l m a b x y) 4398046511104 := (scale_op (M := 4398046511104) (L := 1000000000) (X18_b hc hk hl hm hx hy f) (by decide) hc (by decide) (by decide) (by decide) (by decide) (by decide) (by decide)).1
theorem X20_b : Bd (b20 c k l m a b x y) 444202697621504 := (scale_op (M := 4398046511104) (L := 101000000) (X19_b hc hk hl hm hx hy f) (by decide) (by rw [wkK hk]; unfold inK at hk; omega) (by decide) (by decide) (by decide) (by decide) (by decide) (by decide)).1
theorem X23_b : Bd (b23 c k l m a b x y) 8796093022208 := (scale_op (M := 4398046511104) (L := 2) (X18_b hc hk hl hm hx hy f) (by decide) (by decide) (by decide) (by decide) (by decide) (by decide) (by decide) (by decide)).1
theorem X17_b : okE (b17 c k l m a b x y) := e_div (bd_ri (X16_b hc hk hl hm hx hy f) (by decide)) (X10r hc hk hl hm hx hy f) (X10p hc hk hl hm hx hy f)
theorem X17r_b (e : z0 (b17 c k l m a b x y) = true) : Ri (b17 c k l m a b x y) := r_div (bd_ri (X16_b hc hk hl hm hx hy f) (by decide)) (X10r hc hk hl hm hx hy f) (z0e e)
theorem X26_b (e : z0 (b17 c k l m a b x y) = true) : okE (b26 c k l m a b x y) := e_mul (X13r hc hk hl hm hx hy f) (X17r_b hc hk hl hm hx hy f e)
theorem X28_b (e : z0 (b17 c k l m a b x y) = true) (e2 : z0 (b26 c k l m a b x y) = true) : okE (b28 c k l m a b x y) := e_add (bd_ri (X27_b hc hk hl hm hx hy f) (by decide)) (r_mul (X13r hc hk hl hm hx hy f) (X17r_b hc hk hl hm hx hy f e) (z0e e2))
theorem X29_b (e : z0 (b17 c k l m a b x y) = true) (e2 : z0 (b26 c k l m a b x y) = true) (e3 : z0 (b28 c k l m a b x y) = true) : okE (b29 c k l m a b x y) := e_div (r_add (bd_ri (X27_b hc hk hl hm hx hy f) (by decide)) (r_mul (X13r hc hk hl hm hx hy f) (X17r_b hc hk hl hm hx hy f e) (z0e e2)) (z0e e3)) (X12r hc hk hl hm hx hy f) (X12p hc hk hl hm hx hy f)
theorem X21_b : okE (b21 c k l m a b x y) := e_div (bd_ri (X20_b hc hk hl hm hx hy f) (by decide)) (X10r hc hk hl hm hx hy f) (X10p hc hk hl hm hx hy f)
theorem X21r_b (e : z0 (b21 c k l m a b x y) = true) : Ri (b21 c k l m a b x y) := r_div (bd_ri (X20_b hc hk hl hm hx hy f) (by decide)) (X10r hc hk hl hm hx hy f) (z0e e)
theorem X22_b (e : z0 (b21 c k l m a b x y) = true) : okE (b22 c k l m a b x y) := e_mul (X13r hc hk hl hm hx hy f) (X21r_b hc hk hl hm hx hy f e)
theorem X24_b (e : z0 (b21 c k l m a b x y) = true) (e2 : z0 (b22 c k l m a b x y) = true) : okE (b24 c k l m a b x y) := e_add (bd_ri (X23_b hc hk hl hm hx hy f) (by decide)) (r_mul (X13r hc hk hl hm hx hy f) (X21r_b hc hk hl hm hx hy f e) (z0e e2))
theorem X25_b (e : z0 (b21 c k l m a b x y) = true) (e2 : z0 (b22 c k l m a b x y) = true) (e3 : z0 (b24 c k l m a b x y) = true) : okE (b25 c k l m a b x y) := e_div (r_add (bd_ri (X23_b hc hk hl hm hx hy f) (by decide)) (r_mul (X13r hc hk hl hm hx hy f) (X21r_b hc hk hl hm hx hy f e) (z0e e2)) (z0e e3)) (X12r hc hk hl hm hx hy f) (X12p hc hk hl hm hx hy f)
end
end Go.Rd
namespace Go.Rd
open Go Go.Eng Go.Ar
theorem tm_nn {a k : Int} (ha : 0 ≤ a) (hk : 0 < k) : 0 ≤ a.tmod k ∧ a.tmod k < k := by
  rw [Int.tmod_eq_emod_of_nonneg ha]
  exact ⟨Int.emod_nonneg _ (by omega), Int.emod_lt_of_pos _ hk⟩
theorem tm_bd (a : Int) {k : Int} (hk : 0 < k) : -k < a.tmod k ∧ a.tmod k < k := by
  rcases Int.le_total 0 a with h | h
  · have := tm_nn h hk; omega
  · have h2 := tm_nn (a := -a) (k := k) (by omega) hk
    rw [Int.neg_tmod] at h2; omega
theorem wz {z : Int} (z0 : -40000 ≤ z) (z1 : z ≤ 70000) : IntKind.i64.wrap z = z := i64w (by omega) (by omega)
theorem wk {k z : Int} (k0 : 0 ≤ k) (k1 : k ≤ 100000) (z0 : -40000 ≤ z) (z1 : z ≤ 70000) : IntKind.i64.wrap (k * IntKind.i64.wrap z) = k * z := by
  have h := mul_bd (a := k) (n := z) (M := 100000) (L := 70000) (by omega) k1 (by omega) (by omega)
  rw [wz z0 z1]
  exact i64w (by omega) (by omega)
structure Dr (z0 z1 z2 z3 z4 z5 z6 z7 z8 z9 z10 z11 z12 z13 z14 z15 z16 z17 z18 z19 z20 : Int) : Prop where
  r0 : 0 ≤ z0 ∧ z0 ≤ 255
  r1 : -32768 ≤ z1 ∧ z1 ≤ 32767
  r2 : -32768 ≤ z2 ∧ z2 ≤ 32767
  r3 : -32768 ≤ z3 ∧ z3 ≤ 32767
  r4 : -32768 ≤ z4 ∧ z4 ≤ 32767
  r5 : -128 ≤ z5 ∧ z5 ≤ 127
  r6 : -128 ≤ z6 ∧ z6 ≤ 127
  r7 : -128 ≤ z7 ∧ z7 ≤ 127
  r8 : -128 ≤ z8 ∧ z8 ≤ 127
  r9 : -128 ≤ z9 ∧ z9 ≤ 127
  r10 : -128 ≤ z10 ∧ z10 ≤ 127
  r11 : -128 ≤ z11 ∧ z11 ≤ 127
  r12 : -32768 ≤ z12 ∧ z12 ≤ 32767
  r13 : 0 ≤ z13 ∧ z13 ≤ 255
  r14 : 0 ≤ z14 ∧ z14 ≤ 255
  r15 : 0 ≤ z15 ∧ z15 ≤ 255
  r16 : -128 ≤ z16 ∧ z16 ≤ 127
  r17 : -128 ≤ z17 ∧ z17 ≤ 127
  r18 : -128 ≤ z18 ∧ z18 ≤ 127
  r19 : -128 ≤ z19 ∧ z19 ≤ 127
  r20 : -128 ≤ z20 ∧ z20 ≤ 127
structure Xd4 (x0 x1 x2 x3 : Int) : Prop where
  s0 : -32768 ≤ x0 ∧ x0 ≤ 32767
  s1 : -32768 ≤ x1 ∧ x1 ≤ 32767
  s2 : -32768 ≤ x2 ∧ x2 ≤ 32767
  s3 : -32768 ≤ x3 ∧ x3 ≤ 32767
theorem hole_ex {z14 : Int} (h : 0 ≤ z14 ∧ z14 ≤ 255) (z15 : Int) : ∃ HO, (bif (bif z15.tmod (4 : Int) == 1 then decide (100000 * z14 > 0) else false) then IntKind.i64.wrap ((100000 * z14).tdiv 4) else 0) = HO ∧ inSH (100000 * z14) HO := by
  refine ⟨_, rfl, ?_⟩
  cases h1 : (bif z15.tmod (4 : Int) == 1 then decide (100000 * z14 > 0) else false) with
  | false =>
    rw [cond_false]
    exact ⟨by omega, by omega, by omega, by omega, by omega⟩
  | true =>
    have h2 : 0 < z14 := by
      cases h3 : z15.tmod (4 : Int) == 1 with
      | false => rw [h3] at h1; cases h1
      | true => rw [h3] at h1; have := of_decide_eq_true h1; omega
    have h4 : (100000 * z14).tdiv 4 = 25000 * z14 := by
      rw [show 100000 * z14 = 4 * (25000 * z14) by omega, Int.mul_tdiv_cancel_left _ (by decide)]
    rw [h4, cond_true, i64w (by omega) (by omega)]
    exact ⟨by omega, by omega, by omega, by omega, by omega⟩
def mnI (a b : Int) : Int := if a < b then a else b
def mxI (a b : Int) : Int := if a > b then a else b
theorem mn_ok (a b : Int) : mnI a b ≤ a ∧ mnI a b ≤ b ∧ (mnI a b = a ∨ mnI a b = b) := by unfold mnI; split <;> omega
theorem mx_ok (a b : Int) : a ≤ mxI a b ∧ b ≤ mxI a b ∧ (mxI a b = a ∨ mxI a b = b) := by unfold mxI; split <;> omega
theorem pl_mn {a b : Int} (ha : -32768 ≤ a ∧ a ≤ 32767) (hb : -32768 ≤ b ∧ b ≤ 32767) : IntKind.i64.wrap ((if IntKind.i64.wrap a < IntKind.i64.wrap b then IntKind.i64.wrap a else IntKind.i64.wrap b) * 16777216) = mnI a b * 16777216 := by
  rw [wz (z := a) (by omega) (by omega), wz (z := b) (by omega) (by omega)]
  have := mn_ok a b
  exact i64w (n := mnI a b * 16777216) (by omega) (by omega)
theorem pl_mx {a b : Int} (ha : -32768 ≤ a ∧ a ≤ 32767) (hb : -32768 ≤ b ∧ b ≤ 32767) : IntKind.i64.wrap ((if IntKind.i64.wrap a > IntKind.i64.wrap b then IntKind.i64.wrap a else IntKind.i64.wrap b) * 16777216) = mxI a b * 16777216 := by
  rw [wz (z := a) (by omega) (by omega), wz (z := b) (by omega) (by omega)]
  have := mx_ok a b
  exact i64w (n := mxI a b * 16777216) (by omega) (by omega)
theorem film_in {e : Int} (h : 0 ≤ e ∧ e ≤ 255) : inF (IntKind.i64.wrap (13000000 + IntKind.i64.wrap (50000 * IntKind.i64.wrap e))) ((IntKind.i64.wrap e).tmod 7) (IntKind.i64.wrap (1 + (IntKind.i64.wrap e).tmod 5)) := by
  have a := tm_nn h.1 (show (0 : Int) < 7 by decide)
  have b := tm_nn h.1 (show (0 : Int) < 5 by decide)
  rw [wk (by omega) (by omega) (by omega) (by omega), wz (z := e) (by omega) (by omega), i64w (by omega) (by omega), i64w (by omega) (by omega)]
  exact ⟨by omega, by omega, by omega⟩
def glassB : Nat → ByteArray
  | 1 => ⟨#[66, 75, 55]⟩
  | 2 => ⟨#[83, 70, 45, 49]⟩
  | 3 => ⟨#[77, 73, 82, 82, 79, 82]⟩
  | 4 => ⟨#[102, 95, 50]⟩
  | _ => ⟨#[]⟩
end Go.Rd
namespace Go.Rd
open Go Go.Eng Go.Ar
section
variable {c k a0 a1 a2 a3 a b x y a' b' x' y' : Int} (hc : inL c) (hk : inK k) (wx : Wi ⟨a', b', 0⟩ ⟨a, b, 0⟩) (wy : Wi ⟨x', y', 0⟩ ⟨x, y, 0⟩)
include hc hk wx wy
structure BaseW (c k a b x y a' b' x' y' : Int) : Prop where
  f : BaseF c k a' b' x' y'
  w2 : Wi (s2 c k a' b' x' y') (s2 c k a b x y)
  w7 : Wi (s7 c k a' b' x' y') (s7 c k a b x y)
  w10 : Wi (s10 c k a' b' x' y') (s10 c k a b x y)
variable (i0 : inL a0) (i1 : inL a1) (i2 : inL a2) (i3 : inL a3)
include i0 i1 i2 i3
end
def slpW (g : Int) (p : Bool) (u : Sp) : Sp := ⟨tw1 g p u.lo, tw1 g p u.hi, 0⟩
section
variable {c k a0 a1 a2 a3 a b x y a' b' x' y' : Int} (hc : inL c) (hk : inK k) (hx : okSp a b = true) (hy : okSp x y = true) (wx : Wi ⟨a', b', 0⟩ ⟨a, b, 0⟩) (wy : Wi ⟨x', y', 0⟩ ⟨x, y, 0⟩) (i0 : inL a0) (i1 : inL a1) (i2 : inL a2) (i3 : inL a3)
include hc hk hx hy wx wy i0 i1 i2 i3
end
section
variable {c k l m a b x y a' b' x' y' : Int} (hc : inL c) (hk : inK k) (hl : inL l) (hm : inK m) (hx : okSp a b = true) (hy : okSp x y = true) (wx : Wi ⟨a', b', 0⟩ ⟨a, b, 0⟩) (wy : Wi ⟨x', y', 0⟩ ⟨x, y, 0⟩)
include hc hk hl hm hx hy wx wy
end
end Go.Rd
namespace Go.Rd
open Go Go.Eng Go.Ar
structure Sl where
  s : Sp
  f : Int
  u : Sp
  v : Sp
structure Mn (W P : Sl) : Prop where
  s : W.s.e = 0 → P.s.e = 0 ∧ Wi P.s W.s
  f : W.f = 0 → P.f = 0 ∧ Wi P.u W.u ∧ Wi P.v W.v
theorem wpt {a : Int} (ha : -32768 ≤ a ∧ a ≤ 32767) : IntKind.i64.wrap (IntKind.i64.wrap a * 16777216) = a * 16777216 := by
  have e := wz (z := a) (by omega) (by omega)
  rw [e]; exact i64w (by omega) (by omega)
end Go.Rd
namespace Go.Rd
open Go Go.Eng Go.Ar
theorem sc_ng {n d : Int} (h : okSc n d) (a b : Int) : xScaleS (-b) (-a) n d = ng (xScaleS a b n d) := by rw [sc_eq h, sc_eq h]; exact scale_ng a b n d
theorem ng_lo (s : Sp) : (ng s).lo = -s.hi := rfl
theorem ng_hi (s : Sp) : (ng s).hi = -s.lo := rfl
theorem ng_z (s : Sp) : z0 (ng s) = z0 s := rfl
theorem sc_50 : okSc 1 50 := fun _ => by decide
theorem sc_21 : okSc 2 1 := fun _ => by decide
theorem fif_ng (a b : Int) : fif (-b) (-a) = ng (fif a b) := sc_ng sc_50 a b
section
variable {c k l m a0 a1 a2 a3 a b d e : Int} (hc : inL c) (hk : inK k) (hl : inL l) (hm : inK m)
theorem ev_s0 : s0 c k (-b) (-a) d e = s0 c k a b d e := by
  exact sqr_ng a b
theorem ev_s1 : s1 c k (-b) (-a) d e = s1 c k a b d e := by
  rfl
theorem ev_s2 : s2 c k (-b) (-a) d e = s2 c k a b d e := by
  unfold s2
  simp only [ev_s0, ev_s1, ng_z]
theorem ev_s3 : s3 c k (-b) (-a) d e = s3 c k a b d e := by
  unfold s3
  simp only [ev_s2, ng_z]
theorem ev_s4 : s4 c k (-b) (-a) d e = s4 c k a b d e := by
  unfold s4
  simp only [ev_s3, ng_z]
theorem ev_s5 : s5 c k (-b) (-a) d e = s5 c k a b d e := by
  unfold s5
  simp only [ev_s4, ng_z]
theorem ev_s6 : s6 c k (-b) (-a) d e = s6 c k a b d e := by
  unfold s6
  simp only [ev_s5, ng_z]
theorem ev_s7 : s7 c k (-b) (-a) d e = s7 c k a b d e := by
  unfold s7
  simp only [ev_s6, ng_z]
theorem ev_s8 : s8 c k (-b) (-a) d e = s8 c k a b d e := by
  unfold s8
  simp only [ev_s3, ng_z]
theorem ev_s9 : s9 c k (-b) (-a) d e = s9 c k a b d e := by
  unfold s9
  simp only [ev_s7, ng_z]
theorem ev_s10 : s10 c k (-b) (-a) d e = s10 c k a b d e := by
  unfold s10
  simp only [ev_s8, ev_s9, ng_z]
theorem ev_s11 : s11 c k (-b) (-a) d e = s11 c k a b d e := by
  rfl
theorem ev_s12 : s12 c k (-b) (-a) d e = s12 c k a b d e := by
  unfold s12
  simp only [ev_s7, ev_s11, ng_z]
include hc in
theorem ev_s13 : s13 c k (-b) (-a) d e = ng (s13 c k a b d e) := by
  unfold s13
  exact sc_ng (sc_c hc) a b
include hc in
theorem ev_s14 : s14 c k (-b) (-a) d e = ng (s14 c k a b d e) := by
  unfold s14
  rw [ev_s7, ev_s13 hc]
  exact div_ng _ _ _ _
theorem ev_u0 : u0 c k (-b) (-a) d e = u0 c k a b d e := by
  unfold u0
  simp only [ev_s2, ng_z]
theorem ev_u1 : u1 c k a0 a1 a2 a3 (-b) (-a) d e = u1 c k a0 a1 a2 a3 a b d e := by
  unfold u1
  simp only [ev_u0, ng_z]
theorem ev_u2 : u2 c k (-b) (-a) d e = u2 c k a b d e := by
  unfold u2
  simp only [ev_u0, ng_z]
theorem ev_u3 : u3 c k a0 a1 a2 a3 (-b) (-a) d e = u3 c k a0 a1 a2 a3 a b d e := by
  unfold u3
  simp only [ev_u1, ev_u2, ng_z]
theorem ev_u4 : u4 c k a0 a1 a2 a3 (-b) (-a) d e = u4 c k a0 a1 a2 a3 a b d e := by
  unfold u4
  simp only [ev_s10, ev_u3, ng_z]
theorem ev_sagH0 : sagH0 c k (-b) (-a) d e = sagH0 c k a b d e := by
  unfold sagH0
  simp only [ev_s0, ev_s1, ev_s2, ev_s3, ev_s4, ev_s5, ng_z]
theorem ev_sagB : sagB c k (-b) (-a) d e = sagB c k a b d e := by
  unfold sagB
  simp only [ev_s6, ev_s7, ev_s8, ev_s9, ev_s10, ev_sagH0, ng_z]
theorem ev_sagD : sagD c k (-b) (-a) d e = sagD c k a b d e := by
  unfold sagD
  simp only [ev_s6, ev_sagH0, ng_z]
theorem ev_sagE : sagE c k a0 a1 a2 a3 (-b) (-a) d e = sagE c k a0 a1 a2 a3 a b d e := by
  unfold sagE
  simp only [ev_s0, ev_s1, ev_s2, ev_u0, ev_u1, ev_u2, ev_u3, ev_u4, ng_z]
theorem ev_sagC : sagC c k a0 a1 a2 a3 (-b) (-a) d e = sagC c k a0 a1 a2 a3 a b d e := by
  unfold sagC
  simp only [ev_sagB, ev_sagE, ng_z]
theorem ev_sagS : sagS c k a0 a1 a2 a3 (-b) (-a) d e = sagS c k a0 a1 a2 a3 a b d e := by
  unfold sagS
  simp only [ev_s10, ev_u4, ev_sagD, ev_sagC, ng_z]
theorem ev_q1 : q1 c k a0 a1 a2 a3 (-b) (-a) d e = q1 c k a0 a1 a2 a3 a b d e := by
  unfold q1
  simp only [ev_u0, ng_z]
theorem ev_q2 : q2 c k a0 a1 a2 a3 (-b) (-a) d e = q2 c k a0 a1 a2 a3 a b d e := by
  unfold q2
  simp only [ev_u0, ev_q1, ng_z]
theorem ev_q3 : q3 c k a0 a1 a2 a3 (-b) (-a) d e = ng (q3 c k a0 a1 a2 a3 a b d e) := by
  unfold q3
  rw [ev_q2]
  rw [fif_ng]
  exact mul_ng _ _ _ _
include hc in
theorem ev_q4 : q4 c k a0 a1 a2 a3 (-b) (-a) d e = ng (q4 c k a0 a1 a2 a3 a b d e) := by
  unfold q4
  rw [ev_s14 hc, ev_q3]
  exact add_ng _ _ _ _
theorem ev_q5 : q5 c k a0 a1 a2 a3 (-b) (-a) d e = q5 c k a0 a1 a2 a3 a b d e := by
  unfold q5
  simp only [ev_q2, ng_z]
theorem ev_q6 : q6 c k a0 a1 a2 a3 (-b) (-a) d e = q6 c k a0 a1 a2 a3 a b d e := by
  unfold q6
  simp only [ev_s12, ev_q5, ng_z]
theorem ev_slB : slB c k (-b) (-a) d e = slB c k a b d e := by
  unfold slB
  simp only [ev_s2, ev_s8, ev_s9, ev_s10, ng_z]
theorem ev_slE : slE c k a0 a1 a2 a3 (-b) (-a) d e = slE c k a0 a1 a2 a3 a b d e := by
  unfold slE
  simp only [ev_s2, ev_q1, ng_z]
include hc in
theorem ev_slA : slA c k a0 a1 a2 a3 (-b) (-a) d e = slA c k a0 a1 a2 a3 a b d e := by
  unfold slA
  simp only [ev_s12, ev_s14 hc, ev_q2, ev_q3, ev_q4 hc, ev_q5, ev_q6, ev_slB, ev_slE, ng_z]
include hc in
theorem ev_slP : slP c k (-b) (-a) d e = slP c k a b d e := by
  unfold slP
  simp only [ev_s12, ev_s14 hc, ev_slB, ng_z]
include hc in
theorem ev_slC : slC c k a0 a1 a2 a3 (-b) (-a) d e = slC c k a0 a1 a2 a3 a b d e := by
  unfold slC
  simp only [ev_slA hc, ev_slP hc, ng_z]
include hc in
theorem ev_slU : slU c k a0 a1 a2 a3 (-b) (-a) d e = ng (slU c k a0 a1 a2 a3 a b d e) := by
  unfold slU
  rw [ev_q4 hc, ev_s14 hc]
  cases asp a0 a1 a2 a3 <;> rfl
theorem ev_slV : slV c k a0 a1 a2 a3 (-b) (-a) d e = slV c k a0 a1 a2 a3 a b d e := by
  unfold slV
  simp only [ev_s12, ev_q6, ng_z]
theorem ev_b0 : b0 c k l m (-b) (-a) d e = b0 c k l m a b d e := by
  exact sqr_ng a b
theorem ev_b1 : b1 c k l m (-b) (-a) d e = b1 c k l m a b d e := by
  unfold b1
  simp only [ev_b0, ng_z]
theorem ev_b2 : b2 c k l m (-b) (-a) d e = b2 c k l m a b d e := by
  rfl
theorem ev_b3 : b3 c k l m (-b) (-a) d e = b3 c k l m a b d e := by
  unfold b3
  simp only [ev_b2, ng_z]
theorem ev_b4 : b4 c k l m (-b) (-a) d e = b4 c k l m a b d e := by
  unfold b4
  simp only [ev_b1, ng_z]
theorem ev_b5 : b5 c k l m (-b) (-a) d e = b5 c k l m a b d e := by
  unfold b5
  simp only [ev_b3, ng_z]
theorem ev_b6 : b6 c k l m (-b) (-a) d e = b6 c k l m a b d e := by
  unfold b6
  simp only [ev_b4, ng_z]
theorem ev_b7 : b7 c k l m (-b) (-a) d e = b7 c k l m a b d e := by
  unfold b7
  simp only [ev_b5, ng_z]
theorem ev_b8 : b8 c k l m (-b) (-a) d e = b8 c k l m a b d e := by
  unfold b8
  simp only [ev_b6, ev_b7, ng_z]
theorem ev_b9 : b9 c k l m (-b) (-a) d e = b9 c k l m a b d e := by
  unfold b9
  simp only [ev_b8, ng_z]
theorem ev_b10 : b10 c k l m (-b) (-a) d e = b10 c k l m a b d e := by
  unfold b10
  simp only [ev_b9, ng_z]
theorem ev_b11 : b11 c k l m (-b) (-a) d e = b11 c k l m a b d e := by
  unfold b11
  simp only [ev_b1, ev_b3, ng_z]
theorem ev_b12 : b12 c k l m (-b) (-a) d e = b12 c k l m a b d e := by
  unfold b12
  simp only [ev_b10, ng_z]
theorem ev_b13 : b13 c k l m (-b) (-a) d e = b13 c k l m a b d e := by
  unfold b13
  simp only [ev_b11, ev_b12, ng_z]
include hl in
theorem ev_b14 : b14 c k l m (-b) (-a) d e = ng (b14 c k l m a b d e) := by
  unfold b14
  exact sc_ng (sc_c hl) a b
include hl in
theorem ev_b15 : b15 c k l m (-b) (-a) d e = ng (b15 c k l m a b d e) := by
  unfold b15
  rw [ev_b14 hl]
  exact sc_ng (sc_c hl) _ _
include hl hm in
theorem ev_b16 : b16 c k l m (-b) (-a) d e = ng (b16 c k l m a b d e) := by
  unfold b16
  rw [ev_b15 hl]
  exact sc_ng (sc_k hm) _ _
include hl hm in
theorem ev_b17 : b17 c k l m (-b) (-a) d e = ng (b17 c k l m a b d e) := by
  unfold b17
  rw [ev_b10, ev_b16 hl hm]
  exact div_ng _ _ _ _
theorem ev_b18 : b18 c k l m (-b) (-a) d e = b18 c k l m a b d e := by
  rfl
theorem ev_b19 : b19 c k l m (-b) (-a) d e = b19 c k l m a b d e := by
  unfold b19
  simp only [ev_b18, ng_z]
theorem ev_b20 : b20 c k l m (-b) (-a) d e = b20 c k l m a b d e := by
  unfold b20
  simp only [ev_b19, ng_z]
theorem ev_b21 : b21 c k l m (-b) (-a) d e = b21 c k l m a b d e := by
  unfold b21
  simp only [ev_b10, ev_b20, ng_z]
theorem ev_b22 : b22 c k l m (-b) (-a) d e = b22 c k l m a b d e := by
  unfold b22
  simp only [ev_b13, ev_b21, ng_z]
theorem ev_b23 : b23 c k l m (-b) (-a) d e = b23 c k l m a b d e := by
  unfold b23
  simp only [ev_b18, ng_z]
theorem ev_b24 : b24 c k l m (-b) (-a) d e = b24 c k l m a b d e := by
  unfold b24
  simp only [ev_b22, ev_b23, ng_z]
theorem ev_b25 : b25 c k l m (-b) (-a) d e = b25 c k l m a b d e := by
  unfold b25
  simp only [ev_b12, ev_b24, ng_z]
include hl hm in
theorem ev_b26 : b26 c k l m (-b) (-a) d e = ng (b26 c k l m a b d e) := by
  unfold b26
  rw [ev_b13, ev_b17 hl hm]
  exact mul_ng' _ _ _ _
include hl in
theorem ev_b27 : b27 c k l m (-b) (-a) d e = ng (b27 c k l m a b d e) := by
  unfold b27
  rw [ev_b14 hl]
  exact sc_ng sc_21 _ _
include hl hm in
theorem ev_b28 : b28 c k l m (-b) (-a) d e = ng (b28 c k l m a b d e) := by
  unfold b28
  rw [ev_b26 hl hm, ev_b27 hl]
  exact add_ng _ _ _ _
include hl hm in
theorem ev_b29 : b29 c k l m (-b) (-a) d e = ng (b29 c k l m a b d e) := by
  unfold b29
  rw [ev_b12, ev_b28 hl hm]
  exact div_ng _ _ _ _
theorem ev_sagX0 : sagX0 c k l m (-b) (-a) d e = sagX0 c k l m a b d e := by
  unfold sagX0
  simp only [ev_b0, ev_b1, ev_b2, ev_b3, ev_b4, ev_b5, ev_b6, ev_b7, ev_b8, ng_z]
theorem ev_sagXC : sagXC c k l m (-b) (-a) d e = sagXC c k l m a b d e := by
  unfold sagXC
  simp only [ev_b9, ev_b10, ev_b11, ev_b12, ev_b13, ev_sagX0, ng_z]
theorem ev_sagXD : sagXD c k l m (-b) (-a) d e = sagXD c k l m a b d e := by
  unfold sagXD
  simp only [ev_b9, ev_sagX0, ng_z]
theorem ev_sagX : sagX c k l m (-b) (-a) d e = sagX c k l m a b d e := by
  unfold sagX
  simp only [ev_b13, ev_sagXC, ev_sagXD, ng_z]
theorem ev_slXB : slXB c k l m (-b) (-a) d e = slXB c k l m a b d e := by
  unfold slXB
  simp only [ev_b8, ev_b11, ev_b12, ev_b13, ng_z]
include hl hm in
theorem ev_slX : slX c k l m (-b) (-a) d e = slX c k l m a b d e := by
  unfold slX
  simp only [ev_b12, ev_b17 hl hm, ev_b21, ev_b22, ev_b24, ev_b25, ev_b26 hl hm, ev_b28 hl hm, ev_b29 hl hm, ev_slXB, ng_z]
end
def sp0 : Sp := ⟨0, 0, 0⟩
def sp20 : Sp := ⟨0, 0, 20⟩
def sagT (a b x y : Int) (s : Sp) : Sp := bif okSp a b && okSp x y then s else sp20
section
end
structure Ev (W P : Sl) : Prop where
  s : P.s = W.s
  f : P.f = W.f
  u : P.u = ng W.u
  v : P.v = W.v
def slStT (c k a0 a1 a2 a3 a b d e : Int) : Sl := ⟨sagT a b d e (sagS c k a0 a1 a2 a3 a b d e), twE (sagT a b d e (sagS c k a0 a1 a2 a3 a b d e)).e (slC c k a0 a1 a2 a3 a b d e), slpW (sagT a b d e (sagS c k a0 a1 a2 a3 a b d e)).e (slC c k a0 a1 a2 a3 a b d e) (slU c k a0 a1 a2 a3 a b d e), slpW (sagT a b d e (sagS c k a0 a1 a2 a3 a b d e)).e (slC c k a0 a1 a2 a3 a b d e) (slV c k a0 a1 a2 a3 a b d e)⟩
def slBiT (c k l m a b d e : Int) : Sl := ⟨sagT a b d e (sagX c k l m a b d e), twE (sagT a b d e (sagX c k l m a b d e)).e (slX c k l m a b d e), slpW (sagT a b d e (sagX c k l m a b d e)).e (slX c k l m a b d e) (b29 c k l m a b d e), slpW (sagT a b d e (sagX c k l m a b d e)).e (slX c k l m a b d e) (b25 c k l m a b d e)⟩
def slIdT (a b d e : Int) : Sl := ⟨sagT a b d e sp0, twE (sagT a b d e sp0).e true, slpW (sagT a b d e sp0).e true sp0, slpW (sagT a b d e sp0).e true sp0⟩
theorem tw_ng (g : Int) (p : Bool) (u : Sp) : slpW g p (ng u) = ng (slpW g p u) := by
  unfold slpW ng tw1
  cases (t1 g || !t1 g && p) <;> cases t1 g <;> simp
theorem sagT_ev (a b d e : Int) (s : Sp) : sagT (-b) (-a) d e s = sagT a b d e s := by unfold sagT; rw [okSp_ng]
theorem st_ev {c k a0 a1 a2 a3 a b d e : Int} (hc : inL c) : Ev (slStT c k a0 a1 a2 a3 a b d e) (slStT c k a0 a1 a2 a3 (-b) (-a) d e) := by
  refine ⟨?_, ?_, ?_, ?_⟩ <;> simp only [slStT, sagT_ev, ev_sagS, ev_slC hc, ev_slU hc, ev_slV, tw_ng]
theorem bi_ev {c k l m a b d e : Int} (hl : inL l) (hm : inK m) : Ev (slBiT c k l m a b d e) (slBiT c k l m (-b) (-a) d e) := by
  refine ⟨?_, ?_, ?_, ?_⟩ <;> simp only [slBiT, sagT_ev, ev_sagX, ev_slX hl hm, ev_b29 hl hm, ev_b25, tw_ng]
theorem id_ev {a b d e : Int} : Ev (slIdT a b d e) (slIdT (-b) (-a) d e) := by
  have h : ∀ (g : Int), slpW g true sp0 = ng (slpW g true sp0) := fun g => by
    unfold slpW ng tw1 sp0
    cases t1 g <;> rfl
  refine ⟨?_, ?_, ?_, ?_⟩ <;> simp only [slIdT, sagT_ev]
  exact h _
end Go.Rd
namespace Go.Rd
open Go Go.Eng Go.Ar
def badR (a b : Int) : Bool := bif decide (a > b) then true else bif decide (a < (-4503599627370496 : Int)) then true else decide (b > 4503599627370496)
def neq (W P : Sl) : Bool := bif !(W.s.lo == P.s.lo && (W.s.hi == P.s.hi && true)) then true else bif W.s.e != P.s.e then true else bif W.f != P.f then true else bif !(W.v.lo == P.v.lo && (W.v.hi == P.v.hi && true)) then true else !(W.u.lo == IntKind.i64.wrap (0 - P.u.hi) && (W.u.hi == IntKind.i64.wrap (0 - P.u.lo) && true))
def plc (b : Bool) (W P : Sl) : Bool := (!b && !neq W P) || b
def evV (a b c d : Bool) : Bool := bif a && (b && (c && d)) then true else false
structure Bx (s : Sp) : Prop where
  l : -4503599627370496 ≤ s.lo ∧ s.lo ≤ 4503599627370496
  h : -4503599627370496 ≤ s.hi ∧ s.hi ≤ 4503599627370496
theorem bd_0 (e : Int) : Bx ⟨0, 0, e⟩ := by refine ⟨⟨?_, ?_⟩, ⟨?_, ?_⟩⟩ <;> simp
theorem bd_told (a b : Int) : Bx (toldS a b) := by
  unfold toldS
  cases h : okF a && okF b with
  | false => exact bd_0 6
  | true =>
    simp only [okF, Bool.and_eq_true, decide_eq_true_eq] at h
    exact ⟨by simp only [cond_true]; omega, by simp only [cond_true]; omega⟩
theorem bd_both {a b c d : Int} {r : Sp} (h : Bx r) : Bx (both a b c d r) := by
  unfold both
  cases okSp a b && okSp c d with
  | false => exact bd_0 20
  | true => exact h
theorem bd_add (a b c d : Int) : Bx (addS a b c d) := bd_both (bd_told _ _)
theorem bd_div (a b c d : Int) : Bx (divS a b c d) := by
  refine bd_both ?_
  cases decide (c ≤ 0) && decide (0 ≤ d) with
  | true => exact bd_0 7
  | false => exact bd_told _ _
theorem bd_w {g : Int} {p : Bool} {u : Sp} (h : Bx u) : Bx (slpW g p u) := by
  unfold slpW tw1
  cases (t1 g || !t1 g && p) <;> cases t1 g <;> first | exact bd_0 0 | exact ⟨h.l, h.h⟩
theorem bd_slU (c k a0 a1 a2 a3 a b d e : Int) : Bx (slU c k a0 a1 a2 a3 a b d e) := by
  unfold slU
  cases asp a0 a1 a2 a3 with
  | true => exact bd_add _ _ _ _
  | false => exact bd_div _ _ _ _
theorem bd_st (c k a0 a1 a2 a3 a b d e : Int) : Bx (slStT c k a0 a1 a2 a3 a b d e).u := bd_w (bd_slU ..)
theorem bd_bi (c k l m a b d e : Int) : Bx (slBiT c k l m a b d e).u := bd_w (bd_div _ _ _ _)
theorem bd_id (a b d e : Int) : Bx (slIdT a b d e).u := bd_w (bd_0 0)
theorem wrap_in {x : Int} (h : -4503599627370496 ≤ x ∧ x ≤ 4503599627370496) : IntKind.i64.wrap (0 - -x) = x := by
  rw [show 0 - -x = x by omega]
  exact i64w (by omega) (by omega)
theorem neq_f {W P : Sl} (h : Ev W P) (b : Bx W.u) : neq W P = false := by
  obtain ⟨h1, h2, h3, h4⟩ := h
  unfold neq
  rw [h1, h2, h3, h4, ng_lo, ng_hi, wrap_in b.l, wrap_in b.h]
  simp
theorem plc_t {b : Bool} {W P : Sl} (h : b = false → Ev W P) (k : Bx W.u) : plc b W P = true := by
  unfold plc
  cases b with
  | true => simp
  | false => rw [neq_f (h rfl) k]; rfl
theorem evV_t {a b c d : Bool} (h1 : a = true) (h2 : b = true) (h3 : c = true) (h4 : d = true) : evV a b c d = true := by subst h1 h2 h3 h4; rfl
theorem bad_f {a b : Int} (h : badR a b = false) : -4503599627370496 ≤ a ∧ a ≤ b ∧ b ≤ 4503599627370496 := by
  unfold badR at h
  by_cases h1 : a > b
  · rw [decide_eq_true h1] at h; cases h
  rw [decide_eq_false h1, cond_false] at h
  by_cases h2 : a < (-4503599627370496 : Int)
  · rw [decide_eq_true h2] at h; cases h
  rw [decide_eq_false h2, cond_false] at h
  have h3 := of_decide_eq_false h
  omega
theorem wrap_n {x : Int} (h : -4503599627370496 ≤ x ∧ x ≤ 4503599627370496) : IntKind.i64.wrap (0 - x) = -x := by
  rw [show 0 - x = -x by omega]
  exact i64w (by omega) (by omega)
theorem turn_st {c k a0 a1 a2 a3 a b d e : Int} (hc : inL c) : plc (badR a b) (slStT c k a0 a1 a2 a3 a b d e) (slStT c k a0 a1 a2 a3 (IntKind.i64.wrap (0 - b)) (IntKind.i64.wrap (0 - a)) d e) = true :=
  plc_t (fun h => by
    have := bad_f h
    rw [wrap_n (by omega), wrap_n (by omega)]
    exact st_ev hc) (bd_st ..)
theorem turn_bi {c k l m a b d e : Int} (hl : inL l) (hm : inK m) : plc (badR a b) (slBiT c k l m a b d e) (slBiT c k l m (IntKind.i64.wrap (0 - b)) (IntKind.i64.wrap (0 - a)) d e) = true :=
  plc_t (fun h => by
    have := bad_f h
    rw [wrap_n (by omega), wrap_n (by omega)]
    exact bi_ev hl hm) (bd_bi ..)
theorem turn_id {a b d e : Int} : plc (badR a b) (slIdT a b d e) (slIdT (IntKind.i64.wrap (0 - b)) (IntKind.i64.wrap (0 - a)) d e) = true :=
  plc_t (fun h => by
    have := bad_f h
    rw [wrap_n (by omega), wrap_n (by omega)]
    exact id_ev) (bd_id ..)
end Go.Rd
