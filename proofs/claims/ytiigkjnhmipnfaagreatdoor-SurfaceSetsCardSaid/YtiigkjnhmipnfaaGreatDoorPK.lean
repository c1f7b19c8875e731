/- What is proved: SurfaceSets returns true, whatever the input (part 11 of 31). No conditions beyond those of the row. -/
import Derived.Test.YtiigkjnhmipnfaaGreatDoorPI
import Derived.Test.YtiigkjnhmipnfaaGreatDoorPJ
set_option linter.unusedVariables false
set_option linter.unusedSimpArgs false
set_option linter.unusedSectionVars false
namespace Go.Rd
open Go Go.Eng Go.Ar
def gt : List Sp → Nat → Sp
 | [], _ => ⟨0, 0, 0⟩
 | a :: _, 0 => a
 | _ :: l, i + 1 => gt l i
def sq1 (i : Nat) (r : List Sp) : Sp := sqrS (gt r i).lo (gt r i).hi
def rt1 (i : Nat) (r : List Sp) : Sp := sqrtS (gt r i).lo (gt r i).hi
def ad2 (i j : Nat) (r : List Sp) : Sp := addS (gt r i).lo (gt r i).hi (gt r j).lo (gt r j).hi
def sb2 (i j : Nat) (r : List Sp) : Sp := subS (gt r i).lo (gt r i).hi (gt r j).lo (gt r j).hi
def ml2 (i j : Nat) (r : List Sp) : Sp := mulS (gt r i).lo (gt r i).hi (gt r j).lo (gt r j).hi
def dv2 (i j : Nat) (r : List Sp) : Sp := divS (gt r i).lo (gt r i).hi (gt r j).lo (gt r j).hi
def sc1 (i : Nat) (n d : Int) (r : List Sp) : Sp := xScaleS (gt r i).lo (gt r i).hi n d
inductive Wis : List Sp → List Sp → Prop where
 | nil : Wis [] []
 | cons {a b : Sp} {l m : List Sp} : Wi a b → Wis l m → Wis (a :: l) (b :: m)
theorem Wis.gt {l m : List Sp} (h : Wis l m) : ∀ i, Wi (gt l i) (gt m i) := by
 induction h with
 | nil => exact fun _ => ⟨Int.le_refl _, Int.le_refl _, Int.le_refl _⟩
 | cons w _ ih =>
  intro i
  cases i with
  | zero => exact w
  | succ i => exact ih i
def Mo (f : List Sp → Sp) : Prop := ∀ {l m : List Sp}, Wis l m → (f m).e = 0 → (f l).e = 0 ∧ Wi (f l) (f m)
theorem sq1_mo (i : Nat) : Mo (sq1 i) := fun h e => sqr_mo (h.gt i) e
theorem rt1_mo (i : Nat) : Mo (rt1 i) := fun h e => sqrt_mo (h.gt i) e
theorem ad2_mo (i j : Nat) : Mo (ad2 i j) := fun h e => add_mo (h.gt i) (h.gt j) e
theorem sb2_mo (i j : Nat) : Mo (sb2 i j) := fun h e => sub_mo (h.gt i) (h.gt j) e
theorem ml2_mo (i j : Nat) : Mo (ml2 i j) := fun h e => mul_mo (h.gt i) (h.gt j) e
theorem dv2_mo (i j : Nat) : Mo (dv2 i j) := fun h e => div_mo (h.gt i) (h.gt j) e
def okSc (n d : Int) : Prop := okR n d = true → 4503599627370496 * sg n n < 18446744073709551615 * d
theorem abH_le {a b : Int} (h : okSp a b = true) : 0 ≤ abH a b ∧ abH a b ≤ 4503599627370496 := by
 have := okSp_iff.1 h
 unfold abH
 have := le_mx b (-a)
 omega
theorem sc_eq {a b n d : Int} (k : okSc n d) : xScaleS a b n d = scaleS a b n d := by
 refine xScaleS_eq a b n d fun h1 h2 => ?_
 have := k h2
 have p := abH_le h1
 have q : 0 ≤ sg n n := by
  unfold sg
  cases h : decide (n < 0) with
  | true => have := of_decide_eq_true h; show 0 ≤ -n; omega
  | false => have := of_decide_eq_false h; show 0 ≤ n; omega
 have := Int.mul_le_mul_of_nonneg_right p.2 q
 omega
theorem sc1_mo (i : Nat) {n d : Int} (k : okSc n d) : Mo (sc1 i n d) := fun {l m} h e => by
 unfold sc1 at e ⊢
 rw [sc_eq k] at e ⊢
 rw [sc_eq k]
 exact scale_mo n d (h.gt i) e
theorem bne0 {E : Int} (h : E ≠ 0) : (E != 0) = true := by simpa using h
theorem beq0 {E : Int} (h : E ≠ 0) : (E == 0) = false := by simpa using h
def tn (b : Bool) (s : Sp) : Sp := bif b then ng s else s
inductive Tns : List Bool → List Sp → List Sp → Prop where
 | nil : Tns [] [] []
 | cons {b : Bool} {a c : Sp} {bs : List Bool} {l m : List Sp} : a = tn b c → Tns bs l m → Tns (b :: bs) (a :: l) (c :: m)
def bt : List Bool → Nat → Bool
 | [], _ => false
 | a :: _, 0 => a
 | _ :: l, i + 1 => bt l i
theorem Tns.gt {bs : List Bool} {l m : List Sp} (h : Tns bs l m) : ∀ i, gt l i = tn (bt bs i) (gt m i) := by
 induction h with
 | nil => exact fun _ => rfl
 | cons e _ ih => intro i; cases i with
  | zero => exact e
  | succ i => exact ih i
theorem Tns.e {bs : List Bool} {l m : List Sp} (h : Tns bs l m) (i : Nat) : (Go.Rd.gt l i).e = (Go.Rd.gt m i).e := by
 rw [h.gt i]; cases bt bs i <;> rfl
def evS (acc v c : Sp) : Sp :=
 ⟨bif (mulS acc.lo acc.hi v.lo v.hi).e == 0 then (addS (mulS acc.lo acc.hi v.lo v.hi).lo (mulS acc.lo acc.hi v.lo v.hi).hi c.lo c.hi).lo else (mulS acc.lo acc.hi v.lo v.hi).lo,
  bif (mulS acc.lo acc.hi v.lo v.hi).e == 0 then (addS (mulS acc.lo acc.hi v.lo v.hi).lo (mulS acc.lo acc.hi v.lo v.hi).hi c.lo c.hi).hi else (mulS acc.lo acc.hi v.lo v.hi).hi,
  bif (mulS acc.lo acc.hi v.lo v.hi).e == 0 then (addS (mulS acc.lo acc.hi v.lo v.hi).lo (mulS acc.lo acc.hi v.lo v.hi).hi c.lo c.hi).e else (mulS acc.lo acc.hi v.lo v.hi).e⟩
def ev1 (v c3 : Sp) : Sp := evS ⟨0, 0, 0⟩ v c3
def ev2 (v c2 c3 : Sp) : Sp := evS (ev1 v c3) v c2
def ev3 (v c1 c2 c3 : Sp) : Sp := evS (ev2 v c2 c3) v c1
def ev4 (v c0 c1 c2 c3 : Sp) : Sp := evS (ev3 v c1 c2 c3) v c0
def evB (v c0 c1 c2 c3 : Sp) : Bool :=
 (ev1 v c3).e != 0 || !((ev1 v c3).e != 0) && ((ev2 v c2 c3).e != 0 || !((ev2 v c2 c3).e != 0) && ((ev3 v c1 c2 c3).e != 0 || !((ev3 v c1 c2 c3).e != 0) && (ev4 v c0 c1 c2 c3).e != 0))
def evG (v c0 c1 c2 c3 : Sp) (g : Sp → Int) : Int :=
 bif evB v c0 c1 c2 c3 then bif (ev1 v c3).e != 0 then g (ev1 v c3) else bif (ev2 v c2 c3).e != 0 then g (ev2 v c2 c3) else bif (ev3 v c1 c2 c3).e != 0 then g (ev3 v c1 c2 c3) else g (ev4 v c0 c1 c2 c3) else g (ev4 v c0 c1 c2 c3)
def evalS (v c0 c1 c2 c3 : Sp) : Sp := ⟨evG v c0 c1 c2 c3 Sp.lo, evG v c0 c1 c2 c3 Sp.hi, evG v c0 c1 c2 c3 Sp.e⟩
theorem evG_ok {v c0 c1 c2 c3 : Sp} (h : (evalS v c0 c1 c2 c3).e = 0) : (ev1 v c3).e = 0 ∧ (ev2 v c2 c3).e = 0 ∧ (ev3 v c1 c2 c3).e = 0 ∧ (ev4 v c0 c1 c2 c3).e = 0 := by
 have h : evG v c0 c1 c2 c3 Sp.e = 0 := h
 unfold evG evB at h
 rcases Decidable.em ((ev1 v c3).e = 0) with d1 | d1
 ·rcases Decidable.em ((ev2 v c2 c3).e = 0) with d2 | d2
  ·rcases Decidable.em ((ev3 v c1 c2 c3).e = 0) with d3 | d3
   ·refine ⟨d1, d2, d3, ?_⟩
    simp only [d1, d2, d3] at h
    simpa using h
   ·simp only [d1, d2, bne0 d3, Bool.true_or, Bool.or_true, Bool.and_true, bne_self_eq_false, Bool.not_false, Bool.true_and, cond_true, cond_false] at h
    exact absurd h d3
  ·simp only [d1, bne0 d2, Bool.true_or, Bool.or_true, Bool.and_true, bne_self_eq_false, Bool.not_false, Bool.true_and, cond_true, cond_false] at h
   exact absurd h d2
 ·simp only [bne0 d1, Bool.true_or, cond_true] at h
  exact absurd h d1
theorem evG_of {v c0 c1 c2 c3 : Sp} (h1 : (ev1 v c3).e = 0) (h2 : (ev2 v c2 c3).e = 0) (h3 : (ev3 v c1 c2 c3).e = 0) (h4 : (ev4 v c0 c1 c2 c3).e = 0) : evalS v c0 c1 c2 c3 = ev4 v c0 c1 c2 c3 := by
 unfold evalS evG evB
 simp only [h1, h2, h3, h4, bne_self_eq_false, Bool.not_false, Bool.true_and, Bool.or_self, cond_false]
 exact Eq.trans (by rw [h4]) (show (⟨(ev4 v c0 c1 c2 c3).lo, (ev4 v c0 c1 c2 c3).hi, (ev4 v c0 c1 c2 c3).e⟩ : Sp) = _ from rfl)
def Oks (l : List Sp) : Prop := ∀ i, Ri (gt l i)
theorem Wis.refl : ∀ {l : List Sp}, Oks l → Wis l l
 | [], _ => .nil
 | _ :: _, h => .cons ⟨Int.le_refl _, (h 0).le, Int.le_refl _⟩ (Wis.refl fun i => h (i + 1))
def Ok (f : List Sp → Sp) : Prop := ∀ {l : List Sp}, Oks l → (f l).e = 0 → Ri (f l)
theorem told_ri {lo hi : Int} (h : (toldS lo hi).e = 0) (k : (toldS lo hi).lo ≤ (toldS lo hi).hi) : Ri (toldS lo hi) := by
 obtain ⟨h1, h2, h3, h4, h5⟩ := told_ok h
 rw [h1] at k ⊢
 exact ⟨h2, k, h5⟩
theorem sq1_ok (i : Nat) : Ok (sq1 i) := fun {l} h e => by
 have w := (sq1_mo i (Wis.refl h) e).2.le
 unfold sq1 sqrS at e w ⊢
 rw [(h i).ok] at e w ⊢
 exact told_ri e w
theorem ad2_ok (i j : Nat) : Ok (ad2 i j) := fun {l} h e => by
 have w := (ad2_mo i j (Wis.refl h) e).2.le
 unfold ad2 addS at e w ⊢
 rw [both_of (h i).ok (h j).ok] at e w ⊢
 exact told_ri e w
theorem sb2_ok (i j : Nat) : Ok (sb2 i j) := fun {l} h e => by
 have w := (sb2_mo i j (Wis.refl h) e).2.le
 unfold sb2 subS at e w ⊢
 rw [both_of (h i).ok (h j).ok] at e w ⊢
 exact told_ri e w
theorem ml2_ok (i j : Nat) : Ok (ml2 i j) := fun {l} h e => by
 have w := (ml2_mo i j (Wis.refl h) e).2.le
 unfold ml2 mulS at e w ⊢
 rw [both_of (h i).ok (h j).ok] at e w ⊢
 exact told_ri e w
theorem dv2_ok (i j : Nat) : Ok (dv2 i j) := fun {l} h e => by
 have w := (dv2_mo i j (Wis.refl h) e).2.le
 unfold dv2 at e w ⊢
 have q := (div_ok e).2.2.2
 rw [q] at e w ⊢
 exact told_ri e w
theorem sc1_ok (i : Nat) {n d : Int} (k : okSc n d) : Ok (sc1 i n d) := fun {l} h e => by
 have w := (sc1_mo i k (Wis.refl h) e).2.le
 unfold sc1 at e w ⊢
 rw [sc_eq k] at e w ⊢
 unfold scaleS at e w ⊢
 rw [(h i).ok] at e w ⊢
 cases q : okR n d with
 | false => rw [q] at e; cases e
 | true => rw [q] at e w; exact told_ri e w
theorem rt1_ok (i : Nat) : Ok (rt1 i) := fun {l} h e => by
 have w := (rt1_mo i (Wis.refl h) e).2.le
 unfold rt1 sqrtS at e w ⊢
 have r := h i
 have r1 := r.lo
 have r2 := r.le
 have r3 := r.hi
 rw [r.ok] at e w ⊢
 cases q : decide ((gt l i).lo < 0) with
 | true => rw [q] at e; cases e
 | false =>
  have := of_decide_eq_false q
  rw [q] at w
  have k1 : sqOk (gt l i).lo = true := by unfold sqOk; rw [okF_iff.2 (by omega)]; simpa using (show 0 ≤ (gt l i).lo by omega)
  have k2 : sqOk (gt l i).hi = true := by unfold sqOk; rw [okF_iff.2 (by omega)]; simpa using (show 0 ≤ (gt l i).hi by omega)
  have a := rtV_range k1 false
  have b := rtV_range k2 true
  exact ⟨by show -4503599627370496 ≤ rtV (gt l i).lo false; omega, w, by
   rcases (rtV_t k2).2.2 with c | ⟨c, _⟩
   ·show rtV (gt l i).hi true ≤ 4503599627370496
    have := (sqR_spec k2).2.1
    have : rtV (gt l i).hi true ≤ 4398046511104 := by
     rw [c]; exact le_of_sq (by omega) (by omega)
    omega
   ·show rtV (gt l i).hi true ≤ 4503599627370496
    have := (sqR_spec k2).2.1
    have : sqR (gt l i).hi ≤ 4398046511104 := le_of_sq (by omega) (by omega)
    omega⟩
theorem zero_ri : Ri ⟨0, 0, 0⟩ := ⟨by decide, by decide, by decide⟩
theorem evS_ok {a v c : Sp} (ha : Ri a) (hv : Ri v) (hc : Ri c) (e : (evS a v c).e = 0) : Ri (evS a v c) := by
 have e0 : (mulS a.lo a.hi v.lo v.hi).e = 0 := by
  rcases Decidable.em ((mulS a.lo a.hi v.lo v.hi).e = 0) with d | d
  ·exact d
  ·unfold evS at e
   simp only [beq0 d, cond_false] at e
   exact e
 have m : Ri (mulS a.lo a.hi v.lo v.hi) := ml2_ok 0 1 (l := [a, v]) (fun i => match i with | 0 => ha | 1 => hv | i + 2 => zero_ri) e0
 have s : (addS (mulS a.lo a.hi v.lo v.hi).lo (mulS a.lo a.hi v.lo v.hi).hi c.lo c.hi).e = 0 := by
  unfold evS at e
  simp only [e0] at e
  exact e
 have r : Ri (addS (mulS a.lo a.hi v.lo v.hi).lo (mulS a.lo a.hi v.lo v.hi).hi c.lo c.hi) := ad2_ok 0 1 (l := [mulS a.lo a.hi v.lo v.hi, c]) (fun i => match i with | 0 => m | 1 => hc | i + 2 => zero_ri) s
 unfold evS
 simp only [e0]
 exact r
def okE (s : Sp) : Prop := s.e = 0 ∨ s = ⟨0, 0, 6⟩
theorem told_six (lo hi : Int) : okE (toldS lo hi) := by
 unfold toldS
 cases okF lo && okF hi
 ·exact .inr rfl
 ·exact .inl rfl
theorem e_sqr {s : Sp} (h : Ri s) : okE (sqrS s.lo s.hi) := by unfold sqrS; rw [h.ok]; exact told_six _ _
theorem e_add {s t : Sp} (h : Ri s) (k : Ri t) : okE (addS s.lo s.hi t.lo t.hi) := by unfold addS; rw [both_of h.ok k.ok]; exact told_six _ _
theorem e_sub {s t : Sp} (h : Ri s) (k : Ri t) : okE (subS s.lo s.hi t.lo t.hi) := by unfold subS; rw [both_of h.ok k.ok]; exact told_six _ _
theorem e_mul {s t : Sp} (h : Ri s) (k : Ri t) : okE (mulS s.lo s.hi t.lo t.hi) := by unfold mulS; rw [both_of h.ok k.ok]; exact told_six _ _
theorem e_div {s t : Sp} (h : Ri s) (k : Ri t) (p : 0 < t.lo) : okE (divS s.lo s.hi t.lo t.hi) := by rw [div_of h.ok k.ok (.inl p)]; exact told_six _ _
theorem e_sc {s : Sp} {n d : Int} (h : Ri s) (k : okSc n d) (o : okR n d = true) : okE (xScaleS s.lo s.hi n d) := by
 rw [sc_eq k]; unfold scaleS; rw [h.ok, o]; exact told_six _ _
theorem e_rt {s : Sp} (h : Ri s) (p : 0 < s.lo) : okE (sqrtS s.lo s.hi) := by
 unfold sqrtS; rw [h.ok, decide_eq_false (show ¬ s.lo < 0 by omega)]; exact .inl rfl
theorem fn2_ok {s t : Sp} (h : Ri s) (k : Ri t) : Oks [s, t] := fun i => match i with | 0 => h | 1 => k | i + 2 => zero_ri
theorem r_sqr {s : Sp} (h : Ri s) (e : (sqrS s.lo s.hi).e = 0) : Ri (sqrS s.lo s.hi) := sq1_ok 0 (fn2_ok h h) e
theorem r_rt {s : Sp} (h : Ri s) (e : (sqrtS s.lo s.hi).e = 0) : Ri (sqrtS s.lo s.hi) := rt1_ok 0 (fn2_ok h h) e
theorem r_add {s t : Sp} (h : Ri s) (k : Ri t) (e : (addS s.lo s.hi t.lo t.hi).e = 0) : Ri (addS s.lo s.hi t.lo t.hi) := ad2_ok 0 1 (fn2_ok h k) e
theorem r_sub {s t : Sp} (h : Ri s) (k : Ri t) (e : (subS s.lo s.hi t.lo t.hi).e = 0) : Ri (subS s.lo s.hi t.lo t.hi) := sb2_ok 0 1 (fn2_ok h k) e
theorem r_mul {s t : Sp} (h : Ri s) (k : Ri t) (e : (mulS s.lo s.hi t.lo t.hi).e = 0) : Ri (mulS s.lo s.hi t.lo t.hi) := ml2_ok 0 1 (fn2_ok h k) e
theorem r_div {s t : Sp} (h : Ri s) (k : Ri t) (e : (divS s.lo s.hi t.lo t.hi).e = 0) : Ri (divS s.lo s.hi t.lo t.hi) := dv2_ok 0 1 (fn2_ok h k) e
theorem r_sc {s : Sp} {n d : Int} (h : Ri s) (k : okSc n d) (e : (xScaleS s.lo s.hi n d).e = 0) : Ri (xScaleS s.lo s.hi n d) := sc1_ok 0 k (fn2_ok h h) e
theorem rt_pos {s : Sp} (h : Ri s) (p : 0 < s.lo) : 0 < (sqrtS s.lo s.hi).lo := by
 unfold sqrtS; rw [h.ok, decide_eq_false (show ¬ s.lo < 0 by omega)]
 show 0 < rtV s.lo false
 have r1 := h.lo
 have r2 := h.le
 have r3 := h.hi
 have k1 : sqOk s.lo = true := by unfold sqOk; rw [okF_iff.2 (by omega)]; simpa using (show 0 ≤ s.lo by omega)
 obtain ⟨u0, u1, u2, _⟩ := sqR_spec k1
 show 0 < sqR s.lo
 have := lt_of_sq (a := 1) (b := sqR s.lo + 1) (by omega) (by omega)
 omega
theorem add_pos {s t : Sp} (h : Ri s) (k : Ri t) (e : (addS s.lo s.hi t.lo t.hi).e = 0) (p : 0 < s.lo) (q : 0 ≤ t.lo) : 0 < (addS s.lo s.hi t.lo t.hi).lo := by
 unfold addS at e ⊢
 rw [both_of h.ok k.ok] at e ⊢
 rw [(told_ok e).1]
 show 0 < s.lo + t.lo
 omega
theorem six_of {s : Sp} (h : okE s) (e : s.e ≠ 0) : s = ⟨0, 0, 6⟩ := h.resolve_left e
theorem evS_e {a v c : Sp} (ha : Ri a) (hv : Ri v) (hc : Ri c) : okE (evS a v c) := by
 rcases e_mul ha hv with e0 | e0
 ·have m := r_mul ha hv e0
  unfold evS
  simp only [e0]
  exact e_add m hc
 ·unfold evS
  rw [e0]
  exact .inr rfl
theorem evl_e {v c0 c1 c2 c3 : Sp} (hv : Ri v) (h0 : Ri c0) (h1 : Ri c1) (h2 : Ri c2) (h3 : Ri c3) : okE (evalS v c0 c1 c2 c3) := by
 have z : Ri (⟨0, 0, 0⟩ : Sp) := zero_ri
 have k1 : okE (ev1 v c3) := evS_e z hv h3
 rcases Decidable.em ((ev1 v c3).e = 0) with d1 | d1
 ·have r1 : Ri (ev1 v c3) := evS_ok z hv h3 d1
  have k2 : okE (ev2 v c2 c3) := evS_e r1 hv h2
  rcases Decidable.em ((ev2 v c2 c3).e = 0) with d2 | d2
  ·have r2 : Ri (ev2 v c2 c3) := evS_ok r1 hv h2 d2
   have k3 : okE (ev3 v c1 c2 c3) := evS_e r2 hv h1
   rcases Decidable.em ((ev3 v c1 c2 c3).e = 0) with d3 | d3
   ·have r3 : Ri (ev3 v c1 c2 c3) := evS_ok r2 hv h1 d3
    have k4 : okE (ev4 v c0 c1 c2 c3) := evS_e r3 hv h0
    rcases Decidable.em ((ev4 v c0 c1 c2 c3).e = 0) with d4 | d4
    ·rw [evG_of d1 d2 d3 d4]; exact .inl d4
    ·right
     unfold evalS evG evB
     rw [d1, d2, d3, six_of k4 d4]; rfl
   ·right
    unfold evalS evG evB
    rw [d1, d2, six_of k3 d3]; rfl
  ·right
   unfold evalS evG evB
   rw [d1, six_of k2 d2]; rfl
 ·right
  unfold evalS evG evB
  rw [six_of k1 d1]; rfl
theorem evl_r {v c0 c1 c2 c3 : Sp} (hv : Ri v) (h0 : Ri c0) (h1 : Ri c1) (h2 : Ri c2) (h3 : Ri c3) (e : (evalS v c0 c1 c2 c3).e = 0) : Ri (evalS v c0 c1 c2 c3) := by
 obtain ⟨d1, d2, d3, d4⟩ := evG_ok e
 rw [evG_of d1 d2 d3 d4]
 exact evS_ok (evS_ok (evS_ok (evS_ok zero_ri hv h3 d1) hv h2 d2) hv h1 d3) hv h0 d4
end Go.Rd
namespace Go.Rd
open Go Go.Eng Go.Ar
end Go.Rd
namespace Go.Rd
open Go Go.Eng Go.Ar
def inL (x : Int) : Prop := -1000000000 ≤ x ∧ x ≤ 1000000000
def inK (x : Int) : Prop := -100000000 ≤ x ∧ x ≤ 100000000
def inA (x : Int) : Prop := -90000000 ≤ x ∧ x ≤ 90000000
def inSH (se ho : Int) : Prop := 0 ≤ se ∧ se ≤ 1000000000 ∧ 0 ≤ ho ∧ ho ≤ 1000000000 ∧ (se = 0 ∨ ho < se)
def inG (s : ByteArray) : Prop := s = ⟨#[]⟩ ∨ isG s
structure vStd (c k a0 a1 a2 a3 f0 f1 o th : Int) (s : ByteArray) (se ho : Int) : Prop where
 hc : inL c
 hk : inK k
 h0 : inL a0
 h1 : inL a1
 h2 : inL a2
 h3 : inL a3
 hf : inL f0
 hg : inL f1
 ho' : -3 ≤ o ∧ o ≤ 3
 ht : inL th
 hs : inG s
 sh : inSH se ho
 ph : (f0 = 0 ∧ f1 = 0 ∧ o = 0) ∨ (o ≠ 0 ∧ s ≠ g3)
structure vBic (c k l m th : Int) (s : ByteArray) (se ho : Int) : Prop where
 hc : inL c
 hk : inK k
 hl : inL l
 hm : inK m
 ht : inL th
 hs : inG s
 sh : inSH se ho
structure vBrk (th dx dy ax ay az : Int) : Prop where
 ht : inL th
 hx : inL dx
 hy : inL dy
 ha : inA ax
 hb : inA ay
 hc : inA az
structure vIdl (c th se ho : Int) : Prop where
 hc : inL c
 ht : inL th
 sh : inSH se ho
end Go.Rd
namespace Go.Rd
open Go Go.Eng Go.Ar
end Go.Rd
namespace Go.Rd
open Go Go.Eng Go.Ar
end Go.Rd
namespace Go.Rd
open Go Go.Eng Go.Ar
def z0 (s : Sp) : Bool := s.e == 0
section
variable (c k a0 a1 a2 a3 a b d e : Int)
def u0 : Sp := xScaleS (s2 c k a b d e).lo (s2 c k a b d e).hi 1 100
def ca (n : Int) : Sp := xScaleS 4294967296 4294967296 n 1000000
def u1 : Sp := evalS (u0 c k a b d e) (ca a0) (ca a1) (ca a2) (ca a3)
def u2 : Sp := sqrS (u0 c k a b d e).lo (u0 c k a b d e).hi
def u3 : Sp := mulS (u2 c k a b d e).lo (u2 c k a b d e).hi (u1 c k a0 a1 a2 a3 a b d e).lo (u1 c k a0 a1 a2 a3 a b d e).hi
def u4 : Sp := addS (s10 c k a b d e).lo (s10 c k a b d e).hi (u3 c k a0 a1 a2 a3 a b d e).lo (u3 c k a0 a1 a2 a3 a b d e).hi
end
section
variable (c k l m a b d e : Int)
end
end Go.Rd
namespace Go.Rd
open Go Go.Eng Go.Ar
structure Su where
 kd : Int
 c : Int
 k : Int
 l : Int
 m : Int
 a0 : Int
 a1 : Int
 a2 : Int
 a3 : Int
 f0 : Int
 f1 : Int
 o : Int
 th : Int
 g : ByteArray
 se : Int
 ho : Int
 dx : Int
 dy : Int
 ax : Int
 ay : Int
 az : Int
def Su.nus (s : Su) : List Nu := [.n s.kd, .n s.c, .n s.k, .n s.l, .n s.m, .n s.a0, .n s.a1, .n s.a2, .n s.a3, .n s.f0, .n s.f1, .n s.o, .n s.th, .s s.g, .n s.se, .n s.ho, .n s.dx, .n s.dy, .n s.ax, .n s.ay, .n s.az]
def Su.cells (s : Su) (kd : AV) : List AV := [kd, .int true .i64 s.c, .int true .i64 s.k, .int true .i64 s.l, .int true .i64 s.m, .int true .i64 s.a0, .int true .i64 s.a1, .int true .i64 s.a2, .int true .i64 s.a3, .int true .i64 s.f0, .int true .i64 s.f1, .int true .i64 s.o, .int true .i64 s.th, .str true s.g,
 .int true .i64 s.se, .int true .i64 s.ho, .int true .i64 s.dx, .int true .i64 s.dy, .int true .i64 s.ax, .int true .i64 s.ay, .int true .i64 s.az]
def Su.ini (s : Su) : List AV := s.cells (.int true .i64 s.kd)
def suI : List Sh := [.i .i64, .i .i64, .i .i64, .i .i64, .i .i64, .i .i64, .i .i64, .i .i64, .i .i64, .i .i64, .i .i64, .i .i64, .i .i64, .str, .i .i64, .i .i64, .i .i64, .i .i64, .i .i64, .i .i64, .i .i64]
def suOf : List Nu → Option Su
 | [.n kd, .n c, .n k, .n l, .n m, .n a0, .n a1, .n a2, .n a3, .n f0, .n f1, .n o, .n th, .s g, .n se, .n ho, .n dx, .n dy, .n ax, .n ay, .n az] => some ⟨kd, c, k, l, m, a0, a1, a2, a3, f0, f1, o, th, g, se, ho, dx, dy, ax, ay, az⟩
 | _ => none
theorem suOf_eq {xs : List Nu} {s : Su} (h : suOf xs = some s) : xs = s.nus := by
 unfold suOf at h
 split at h
 ·cases h; rfl
 ·cases h
def spinF : Nat → Nat → (Nat → Int) → List Int
 | 0, _, _ => []
 | n + 1, i, x => x i :: spinF n (i + 1) x
theorem spinF_of : ∀ (ys pre : List Int), spinF ys.length pre.length (fun i => (pre ++ ys).getD i 0) = ys
 | [], _ => rfl
 | y :: ys, pre => by
  have := spinF_of ys (pre ++ [y])
  simp only [List.length_cons, spinF]
  rw [List.append_assoc, List.length_append] at this
  simp only [List.length_cons, List.length_nil, List.cons_append, List.nil_append] at this
  rw [this]
  simp
def okF3 (n : Int) (ys : List Int) : Prop := 0 ≤ n ∧ n ≤ 12 ∧ ys.length = 3 * n.toNat
theorem okF3_of {n : Int} {ys : List Int} (h : okF3 n ys) : ∃ (k : Nat) (x : Nat → Int), k ≤ 12 ∧ n = (k : Int) ∧ ys = spinF (3 * k) 0 x := by
 obtain ⟨h1, h2, h3⟩ := h
 refine ⟨n.toNat, fun i => ys.getD i 0, by omega, by omega, ?_⟩
 have := spinF_of ys []
 simp only [List.nil_append, List.length_nil] at this
 rw [← h3, this]
def film1 (i p q : Int) : Bool := decide (10000000 ≤ i) && decide (i ≤ 40000000) && (decide (0 ≤ p) && decide (p ≤ 1000)) && (decide (1 ≤ q) && decide (q ≤ 1000))
def filmsB : List Int → Bool
 | i :: p :: q :: r => film1 i p q && filmsB r
 | _ => true
end Go.Rd
namespace Go.Proofs.YtiigkjnhmipnfaaGreatDoor.K
open Go Go.Eng Go.Ar Go.Rd
noncomputable section
theorem nmV2_eq (b : ByteArray) : nmV2 b = nameB b := by
 unfold nmV2 nameB
 cases nmAll letP b b.size 0 <;> rfl
def nameS : PSpec := fun args => match args with
 | [.str _ b] => some (.p (b.size < 1000000000), .bool true (nameB b))
 | _ => none
theorem gname_ok : PureOk Tryz.prog 56 nameS := by
 refine pure_runs (fun args nd v e hn => ?_) ⟨_, Tryz.func56, rfl⟩
 unfold nameS at e
 split at e
 ·rename_i s b
  cases e
  have := name_run b
  rw [nmV2_eq] at this
  exact ⟨cNa b, 300, [.str true b], _, _, cNa_ok hn, rfl, fun _ => rfl, fun σ L h => h, this, ⟨rfl, rfl, rfl⟩, fun τ V h σ => h⟩
 ·cases e
theorem rname_ok : PureOk Tryz.prog 120 nameS := by
 refine pure_runs (fun args nd v e hn => ?_) ⟨_, Tryz.func120, rfl⟩
 unfold nameS at e
 split at e
 ·rename_i s b
  cases e
  have := rname_run b
  rw [nmV2_eq] at this
  exact ⟨cRa b, 300, [.str true b], _, _, cRa_ok hn, rfl, fun _ => rfl, fun σ L h => h, this, ⟨rfl, rfl, rfl⟩, fun τ V h σ => h⟩
 ·cases e
def tblNm : List (FuncId × PSpec) := [(56, nameS), (120, nameS)]
theorem tblNm_g : ∀ x ∈ tblNm, GOk Tryz.prog glob hG x.1 x.2 := by
 intro x hx
 simp only [tblNm, List.mem_cons, List.not_mem_nil, or_false] at hx
 rcases hx with rfl | rfl
 ·exact gname_ok.g glob hG
 ·exact rname_ok.g glob hG
def cNm : Ctx := mkG Tryz.prog glob hG tblNm ext
theorem cNm_ok : CtxOk cNm := mkG_ok prog_ok ext_ok tblNm_g
def suA (s : Su) (kd : AV) (n : Nat) : AV := .agg (s.cells kd ++ [.pslice hG.size n false n])
def suH (n : Nat) (x : Nat → Int) : Hp := viewsH false hG [(.i64, spinF (3 * n) 0 x)]
end
end Go.Proofs.YtiigkjnhmipnfaaGreatDoor.K
namespace Go.Rd
open Go Go.Eng Go.Ar
def inR (lo hi n : Int) : Bool := decide (lo ≤ n) && decide (n ≤ hi)
def noG (s : Su) : Bool := eqBytes s.g ⟨#[]⟩
def isM (s : Su) : Bool := eqBytes s.g ⟨#[77, 73, 82, 82, 79, 82]⟩
def numsB (s : Su) : Bool :=
 (inR (-1000000000) 1000000000 s.c && inR (-1000000000) 1000000000 s.l && inR (-1000000000) 1000000000 s.th && inR (-1000000000) 1000000000 s.dx && inR (-1000000000) 1000000000 s.dy) &&
 (inR (-1000000000) 1000000000 s.a0 && inR (-1000000000) 1000000000 s.a1 && inR (-1000000000) 1000000000 s.a2 && inR (-1000000000) 1000000000 s.a3) && (inR (-1000000000) 1000000000 s.f0 && inR (-1000000000) 1000000000 s.f1) &&
 ((inR (-100000000) 100000000 s.k && inR (-100000000) 100000000 s.m) && (inR (-90000000) 90000000 s.ax && inR (-90000000) 90000000 s.ay && inR (-90000000) 90000000 s.az)) &&
 (inR (-3) 3 s.o && (inR 0 1000000000 s.se && inR 0 1000000000 s.ho)) && (s.se == 0 || decide (s.ho < s.se)) && (noG s || nameB s.g)
def noX (s : Su) : Bool := s.l == 0 && s.m == 0
def noA (s : Su) : Bool := s.a0 == 0 && s.a1 == 0 && s.a2 == 0 && s.a3 == 0
def noP (s : Su) : Bool := s.f0 == 0 && s.f1 == 0
def noT (s : Su) : Bool := s.dx == 0 && s.dy == 0 && s.ax == 0 && s.ay == 0 && s.az == 0
def kindB (s : Su) (e : Bool) : Bool :=
 (s.kd == 1 && (noX s && noT s && (!(s.o == 0 || isM s) || (s.o == 0 && noP s)))) ||
 (s.kd == 2 && (noA s && noP s && s.o == 0 && noT s)) ||
 (s.kd == 3 && (noX s && noA s && noP s && s.o == 0 && noG s && e && s.c == 0 && s.k == 0 && s.se == 0 && s.ho == 0)) ||
 (s.kd == 4 && (noX s && noA s && noP s && s.o == 0 && noT s && noG s && e && s.k == 0))
def rightS (s : Su) (ys : List Int) : Bool := numsB s && kindB s ys.isEmpty && filmsB ys && decide (ys.length ≤ 24)
def oR (lo hi n : Int) : Bool := bif decide (n < lo) then true else decide (n > hi)
theorem oR_eq (lo hi n : Int) : oR lo hi n = !inR lo hi n := by
 unfold oR inR
 cases h1 : decide (n < lo) <;> cases h2 : decide (n > hi) <;> simp_all <;> omega
def ix1 (p : Bool) : Int := bif p then 0 else -1
def ix2 (p q : Bool) : Int := bif !p && !q then -1 else bif p then 0 else 1
def ix3 (p q r : Bool) : Int := bif p || !p && (q || !q && r) then bif p then 0 else bif q then 1 else 2 else -1
def ix4 (p q r t : Bool) : Int := bif !p && (!q && (!r && !t)) then -1 else bif p then 0 else bif q then 1 else bif r then 2 else 3
def ix5 (p q r t u : Bool) : Int := bif p || !p && (q || !q && (r || !r && (t || !t && u))) then bif p then 0 else bif q then 1 else bif r then 2 else bif t then 3 else 4 else -1
theorem ix1_eq (p : Bool) : decide (ix1 p ≥ 0) = p := by cases p <;> rfl
theorem ix2_eq (p q : Bool) : decide (ix2 p q ≥ 0) = (p || q) := by cases p <;> cases q <;> rfl
theorem ix3_eq (p q r : Bool) : decide (ix3 p q r ≥ 0) = (p || q || r) := by cases p <;> cases q <;> cases r <;> rfl
theorem ix4_eq (p q r t : Bool) : decide (ix4 p q r t ≥ 0) = (p || q || r || t) := by cases p <;> cases q <;> cases r <;> cases t <;> rfl
theorem ix5_eq (p q r t u : Bool) : decide (ix5 p q r t u ≥ 0) = (p || q || r || t || u) := by cases p <;> cases q <;> cases r <;> cases t <;> cases u <;> rfl
section
variable (s : Su)
def cT2 : Bool := !bif !decide (ix5 (oR (-1000000000) 1000000000 s.c) (oR (-1000000000) 1000000000 s.l) (oR (-1000000000) 1000000000 s.th) (oR (-1000000000) 1000000000 s.dx) (oR (-1000000000) 1000000000 s.dy) ≥ 0) then
 bif !decide (ix4 (oR (-1000000000) 1000000000 s.a0) (oR (-1000000000) 1000000000 s.a1) (oR (-1000000000) 1000000000 s.a2) (oR (-1000000000) 1000000000 s.a3) ≥ 0) then !decide (ix2 (oR (-1000000000) 1000000000 s.f0) (oR (-1000000000) 1000000000 s.f1) ≥ 0) else false else false
def cT3 : Bool := !bif !decide (ix2 (oR (-100000000) 100000000 s.k) (oR (-100000000) 100000000 s.m) ≥ 0) then !decide (ix3 (oR (-90000000) 90000000 s.ax) (oR (-90000000) 90000000 s.ay) (oR (-90000000) 90000000 s.az) ≥ 0) else false
def cT4 : Bool := !bif !decide (ix1 (oR (-3) 3 s.o) ≥ 0) then !decide (ix2 (oR 0 1000000000 s.se) (oR 0 1000000000 s.ho) ≥ 0) else false
def cT5 : Bool := !bif s.se == 0 then true else decide (s.ho < s.se)
def cE0 (f : Bool) : Int := bif f then 110 else bif cT2 s then 110 else bif cT3 s then 110 else bif cT4 s then 110 else bif cT5 s then 110 else bif !bif noG s then true else nameB s.g then 110 else 0
theorem cT2_eq : cT2 s = !((inR (-1000000000) 1000000000 s.c && inR (-1000000000) 1000000000 s.l && inR (-1000000000) 1000000000 s.th && inR (-1000000000) 1000000000 s.dx && inR (-1000000000) 1000000000 s.dy) &&
 (inR (-1000000000) 1000000000 s.a0 && inR (-1000000000) 1000000000 s.a1 && inR (-1000000000) 1000000000 s.a2 && inR (-1000000000) 1000000000 s.a3) && (inR (-1000000000) 1000000000 s.f0 && inR (-1000000000) 1000000000 s.f1)) := by
 unfold cT2
 simp only [ix2_eq, ix4_eq, ix5_eq, oR_eq, ← Bool.not_and, Bool.not_not]
 generalize (inR (-1000000000) 1000000000 s.c && inR (-1000000000) 1000000000 s.l && inR (-1000000000) 1000000000 s.th && inR (-1000000000) 1000000000 s.dx && inR (-1000000000) 1000000000 s.dy) = x
 generalize (inR (-1000000000) 1000000000 s.a0 && inR (-1000000000) 1000000000 s.a1 && inR (-1000000000) 1000000000 s.a2 && inR (-1000000000) 1000000000 s.a3) = y
 generalize (inR (-1000000000) 1000000000 s.f0 && inR (-1000000000) 1000000000 s.f1) = z
 cases x <;> cases y <;> cases z <;> rfl
theorem cT3_eq : cT3 s = !((inR (-100000000) 100000000 s.k && inR (-100000000) 100000000 s.m) && (inR (-90000000) 90000000 s.ax && inR (-90000000) 90000000 s.ay && inR (-90000000) 90000000 s.az)) := by
 unfold cT3
 simp only [ix2_eq, ix3_eq, oR_eq, ← Bool.not_and, Bool.not_not]
 generalize (inR (-100000000) 100000000 s.k && inR (-100000000) 100000000 s.m) = x
 generalize (inR (-90000000) 90000000 s.ax && inR (-90000000) 90000000 s.ay && inR (-90000000) 90000000 s.az) = y
 cases x <;> cases y <;> rfl
theorem cT4_eq : cT4 s = !(inR (-3) 3 s.o && (inR 0 1000000000 s.se && inR 0 1000000000 s.ho)) := by
 unfold cT4
 simp only [ix1_eq, ix2_eq, oR_eq, ← Bool.not_and, Bool.not_not]
 cases inR (-3) 3 s.o <;> cases (inR 0 1000000000 s.se && inR 0 1000000000 s.ho) <;> rfl
theorem cT5_eq : cT5 s = !(s.se == 0 || decide (s.ho < s.se)) := by
 unfold cT5
 cases s.se == 0 <;> rfl
theorem cE0_eq (f : Bool) : cE0 s f = bif !f && numsB s then 0 else 110 := by
 unfold cE0 numsB
 rw [cT2_eq, cT3_eq, cT4_eq, cT5_eq]
 generalize ((inR (-1000000000) 1000000000 s.c && inR (-1000000000) 1000000000 s.l && inR (-1000000000) 1000000000 s.th && inR (-1000000000) 1000000000 s.dx && inR (-1000000000) 1000000000 s.dy) &&
 (inR (-1000000000) 1000000000 s.a0 && inR (-1000000000) 1000000000 s.a1 && inR (-1000000000) 1000000000 s.a2 && inR (-1000000000) 1000000000 s.a3) && (inR (-1000000000) 1000000000 s.f0 && inR (-1000000000) 1000000000 s.f1)) = x
 generalize ((inR (-100000000) 100000000 s.k && inR (-100000000) 100000000 s.m) && (inR (-90000000) 90000000 s.ax && inR (-90000000) 90000000 s.ay && inR (-90000000) 90000000 s.az)) = y
 generalize (inR (-3) 3 s.o && (inR 0 1000000000 s.se && inR 0 1000000000 s.ho)) = z
 generalize (s.se == 0 || decide (s.ho < s.se)) = t
 generalize nameB s.g = u
 cases f <;> cases x <;> cases y <;> cases z <;> cases t <;> cases noG s <;> cases u <;> rfl
def fStep (e i p q : Int) : Int :=
 bif bif e == 0 then !bif !decide (ix1 (oR 10000000 40000000 i) ≥ 0) then bif !decide (ix1 (oR 0 1000 p) ≥ 0) then !decide (ix1 (oR 1 1000 q) ≥ 0) else false else false else false then 110 else e
def fE (e : Int) : List Int → Int
 | i :: p :: q :: r => fE (fStep e i p q) r
 | _ => e
end
theorem fStep_0 (i p q : Int) : fStep 0 i p q = bif film1 i p q then 0 else 110 := by
 unfold fStep film1
 simp only [ix1_eq, oR_eq]
 show (bif (bif true then _ else false) then _ else _) = _
 simp only [cond_true, Bool.not_not]
 rw [show (decide (10000000 ≤ i) && decide (i ≤ 40000000)) = inR 10000000 40000000 i from rfl, show (decide (0 ≤ p) && decide (p ≤ 1000)) = inR 0 1000 p from rfl, show (decide (1 ≤ q) && decide (q ≤ 1000)) = inR 1 1000 q from rfl]
 cases inR 10000000 40000000 i <;> cases inR 0 1000 p <;> cases inR 1 1000 q <;> rfl
theorem fStep_1 (i p q : Int) : fStep 110 i p q = 110 := rfl
theorem fE_1 : ∀ ys : List Int, fE 110 ys = 110
 | [] => rfl
 | [_] => rfl
 | [_, _] => rfl
 | i :: p :: q :: r => by rw [fE, fStep_1]; exact fE_1 r
theorem fE_0 : ∀ ys : List Int, fE 0 ys = bif filmsB ys then 0 else 110
 | [] => rfl
 | [_] => rfl
 | [_, _] => rfl
 | i :: p :: q :: r => by
  rw [fE, fStep_0, filmsB]
  cases film1 i p q with
  | true => exact fE_0 r
  | false => exact fE_1 r
def dj : List Bool → Bool
 | [] => false
 | b :: l => match l with
  | [] => b
  | _ :: _ => b || !b && dj l
def cj : List Bool → Bool
 | [] => true
 | b :: l => match l with
  | [] => !b
  | _ :: _ => !b && cj l
def par {α : Type} : List α → Bool
 | [] => false
 | _ :: l => match par l with
  | true => false
  | false => true
def sel {β : Type} (l : List Bool) (bad good : β) : β := match l with
 | [] => good
 | b :: r => match par (b :: r) with
  | true => bif dj (b :: r) then bad else good
  | false => bif cj (b :: r) then good else bad
def anyB : List Bool → Bool
 | [] => false
 | b :: l => b || anyB l
theorem dj_eq : ∀ l : List Bool, dj l = anyB l
 | [] => rfl
 | [b] => by cases b <;> rfl
 | b :: c :: l => by
  have := dj_eq (c :: l)
  show (b || !b && dj (c :: l)) = (b || anyB (c :: l))
  rw [this]
  cases b <;> rfl
theorem cj_eq : ∀ l : List Bool, cj l = !anyB l
 | [] => rfl
 | [b] => by cases b <;> rfl
 | b :: c :: l => by
  have := cj_eq (c :: l)
  show (!b && cj (c :: l)) = !(b || anyB (c :: l))
  rw [this]
  cases b <;> rfl
theorem sel_eq {β : Type} (l : List Bool) (bad good : β) : sel l bad good = bif anyB l then bad else good := by
 unfold sel
 split
 ·rfl
 ·split
  ·rw [dj_eq]
  ·rw [cj_eq]
   generalize anyB _ = z
   cases z <;> rfl
def eqL : List Int → List Bool
 | i :: p :: q :: r => (!(i == i && (p == p && (q == q && true)))) :: eqL r
 | _ => []
theorem eqL_f : ∀ ys : List Int, anyB (eqL ys) = false
 | [] => rfl
 | [_] => rfl
 | [_, _] => rfl
 | i :: p :: q :: r => by
  simp only [eqL, anyB, eqL_f r]
  simp
def fQ (ys : List Int) : Bool := sel (eqL ys) false true
theorem fQ_t (ys : List Int) : fQ ys = true := by
 unfold fQ
 rw [sel_eq, eqL_f]; rfl
section
variable (s : Su) (ys : List Int)
def k1P : Bool := bif s.o != 0 then !isM s else false
def k1N : Bool := 1 == 1 && (s.c == s.c && (s.k == s.k && (s.l == 0 && (s.m == 0 && (s.o == (bif k1P s then s.o else 0) && (s.th == (bif k1P s then s.th else s.th) && (s.se == s.se && (s.ho == s.ho && (s.dx == 0 && (s.dy == 0 && (s.ax == 0 && (s.ay == 0 && (s.az == 0 && (0 == 0 && (0 == 0 &&
 (s.a0 == (bif k1P s then s.a0 else s.a0) && (s.a1 == (bif k1P s then s.a1 else s.a1) && (s.a2 == (bif k1P s then s.a2 else s.a2) && (s.a3 == (bif k1P s then s.a3 else s.a3) && (s.f0 == (bif k1P s then s.f0 else 0) && (s.f1 == (bif k1P s then s.f1 else 0) && (eqBytes s.g s.g && true))))))))))))))))))))))
def k2N : Bool := 2 == 2 && (s.c == s.c && (s.k == s.k && (s.l == s.l && (s.m == s.m && (s.o == 0 && (s.th == s.th && (s.se == s.se && (s.ho == s.ho && (s.dx == 0 && (s.dy == 0 && (s.ax == 0 && (s.ay == 0 && (s.az == 0 && (0 == 0 && (0 == 0 && (s.a0 == 0 && (s.a1 == 0 && (s.a2 == 0 && (s.a3 == 0 && (s.f0 == 0 && (s.f1 == 0 && (eqBytes s.g s.g && true))))))))))))))))))))))
def k3N : Bool := 3 == 3 && (s.c == 0 && (s.k == 0 && (s.l == 0 && (s.m == 0 && (s.o == 0 && (s.th == s.th && (s.se == 0 && (s.ho == 0 && (s.dx == s.dx && (s.dy == s.dy && (s.ax == s.ax && (s.ay == s.ay && (s.az == s.az && (0 == 0 && (0 == 0 && (s.a0 == 0 && (s.a1 == 0 && (s.a2 == 0 && (s.a3 == 0 && (s.f0 == 0 && (s.f1 == 0 && (noG s && true))))))))))))))))))))))
def k4N : Bool := 4 == 4 && (s.c == s.c && (s.k == 0 && (s.l == 0 && (s.m == 0 && (s.o == 0 && (s.th == s.th && (s.se == s.se && (s.ho == s.ho && (s.dx == 0 && (s.dy == 0 && (s.ax == 0 && (s.ay == 0 && (s.az == 0 && (0 == 0 && (0 == 0 && (s.a0 == 0 && (s.a1 == 0 && (s.a2 == 0 && (s.a3 == 0 && (s.f0 == 0 && (s.f1 == 0 && (noG s && true))))))))))))))))))))))
def k1F : Bool := !bif k1N s then fQ ys else false
def k2F : Bool := !bif k2N s then fQ ys else false
def k3F : Bool := !bif k3N s then true else false
def k4F : Bool := !bif k4N s then true else false
def chk1V : Int := fE (cE0 s (k1F s ys)) ys
def chk2V : Int := fE (cE0 s (k2F s ys)) ys
def nmC (f : Bool) : Prop := (!f) = true → (!cT2 s) = true → (!cT3 s) = true → (!cT4 s) = true → (!cT5 s) = true → noG s = false → s.g.size < 1000000000
def same20 : Prop := s.c = s.c ∧ s.k = s.k ∧ s.l = s.l ∧ s.m = s.m ∧ s.a0 = s.a0 ∧ s.a1 = s.a1 ∧ s.a2 = s.a2 ∧ s.a3 = s.a3 ∧ s.f0 = s.f0 ∧ s.f1 = s.f1 ∧ s.o = s.o ∧ s.th = s.th ∧ s.g = s.g ∧ s.se = s.se ∧ s.ho = s.ho ∧ s.dx = s.dx ∧ s.dy = s.dy ∧ s.ax = s.ax ∧ s.ay = s.ay ∧ s.az = s.az
def w1 : Prop := (s.ho = s.ho ∧ s.se = s.se ∧ s.g = s.g ∧ s.k = s.k) ∧ (s.ho = s.ho ∧ s.se = s.se ∧ s.g = s.g) ∧ (s.ho = s.ho ∧ s.se = s.se) ∧ s.ho = s.ho
def chk1N : Prop := (((k1P s = true → s.f0 = s.f0 ∧ s.f1 = s.f1) ∧ w1 s) ∧ same20 s ∧ s.c = s.c ∧ s.k = s.k ∧ (bif k1P s then s.a0 else s.a0) = (bif k1P s then s.a0 else s.a0) ∧ (bif k1P s then s.a1 else s.a1) = (bif k1P s then s.a1 else s.a1) ∧ (bif k1P s then s.a2 else s.a2) = (bif k1P s then s.a2 else s.a2) ∧ (bif k1P s then s.a3 else s.a3) = (bif k1P s then s.a3 else s.a3) ∧
 (bif k1P s then s.f0 else 0) = (bif k1P s then s.f0 else 0) ∧ (bif k1P s then s.f1 else 0) = (bif k1P s then s.f1 else 0) ∧ (bif k1P s then s.o else 0) = (bif k1P s then s.o else 0) ∧ (bif k1P s then s.th else s.th) = (bif k1P s then s.th else s.th) ∧ s.g = s.g ∧ s.se = s.se ∧ s.ho = s.ho) ∧ nmC s (k1F s ys)
def chk2N : Prop := ((s.m = s.m ∧ w1 s) ∧ same20 s ∧ s.c = s.c ∧ s.k = s.k ∧ s.l = s.l ∧ s.m = s.m ∧ s.th = s.th ∧ s.g = s.g ∧ s.se = s.se ∧ s.ho = s.ho) ∧ nmC s (k2F s ys)
def w3 : Prop := ((s.az = s.az ∧ s.ay = s.ay ∧ s.ax = s.ax ∧ s.dy = s.dy) ∧ (s.az = s.az ∧ s.ay = s.ay ∧ s.ax = s.ax) ∧ (s.az = s.az ∧ s.ay = s.ay) ∧ s.az = s.az) ∧ same20 s ∧ s.th = s.th ∧ s.dx = s.dx ∧ s.dy = s.dy ∧ s.ax = s.ax ∧ s.ay = s.ay ∧ s.az = s.az
def w4 : Prop := ((s.ho = s.ho ∧ s.se = s.se) ∧ s.ho = s.ho) ∧ same20 s ∧ s.c = s.c ∧ s.th = s.th ∧ s.se = s.se ∧ s.ho = s.ho
def chk3N : Prop := w3 s ∧ nmC s (k3F s)
def chk4N : Prop := w4 s ∧ nmC s (k4F s)
def kdO : Bool := !decide (ix1 (oR 1 4 s.kd) ≥ 0)
variable {s} {ys}
theorem same20_t : same20 s := by unfold same20; simp
theorem nmC_t {f : Bool} (h : s.g.size < 1000000000) : nmC s f := fun _ _ _ _ _ _ => h
theorem chk1N_t (h : s.g.size < 1000000000) : chk1N s ys := ⟨⟨⟨fun _ => ⟨rfl, rfl⟩, by unfold w1; simp⟩, same20_t, by simp⟩, nmC_t h⟩
theorem chk2N_t (h : s.g.size < 1000000000) : chk2N s ys := ⟨⟨⟨rfl, by unfold w1; simp⟩, same20_t, by simp⟩, nmC_t h⟩
theorem w3_t : w3 s := ⟨by simp, same20_t, by simp⟩
theorem w4_t : w4 s := ⟨by simp, same20_t, by simp⟩
end
section
variable (s : Su) (ys : List Int)
end
end Go.Rd
namespace Go.Proofs.YtiigkjnhmipnfaaGreatDoor.K
open Go Go.Eng Go.Ar Go.Rd
noncomputable section
def cNk : Ctx := { cNm with hintT := fun c => match Nat.beq c 79 with | true => some (5, .bool false false) | false => none }
theorem cNk_ok : CtxOk cNk := ⟨cNm_ok.prog, cNm_ok.con, cNm_ok.ext, cNm_ok.loop, cNm_ok.two⟩
def rn (C : Ctx) (f : FuncId) (s : Su) (kd : AV) (n : Nat) (x : Nat → Int) : Option (Nd × AV) := oneG (hG.size + 1) hG.clock ((run C 1000).call f [suA s kd n] (suH n x))
def fz (n : Nat) (x : Nat → Int) : List Int := spinF (3 * n) 0 x
end
end Go.Proofs.YtiigkjnhmipnfaaGreatDoor.K
