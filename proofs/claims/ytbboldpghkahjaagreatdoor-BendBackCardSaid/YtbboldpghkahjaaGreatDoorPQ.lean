/- What is proved: a law of bends returns true, whatever the input (part 17). No conditions beyond those of the row. -/
import Derived.Test.YtbboldpghkahjaaGreatDoorPF
import Derived.Test.YtbboldpghkahjaaGreatDoorPH
import Derived.Test.YtbboldpghkahjaaGreatDoorPM
import Derived.Test.YtbboldpghkahjaaGreatDoorPO
import Derived.Test.YtbboldpghkahjaaGreatDoorPP
set_option linter.unusedVariables false
set_option linter.unusedSimpArgs false
set_option linter.unusedSectionVars false
namespace Go.Proofs.YtbboldpghkahjaaGreatDoor.K
open Go Go.Eng Go.Ar Go.Rd Go.Vc
noncomputable section
def okI (its : List Itm) : Bool := match its with
 | .s xs n ys :: _ => match suOf xs with
  | some s => decide (n = 0) && (ys.isEmpty && Nat.ble s.g.size 100)
  | none => false
 | _ => false
def plV (V : List Itm -> Option (Prop × AV)) (its : List Itm) : Option AV := match okI its with
 | true => match V its with
  | some (_, v) => some v
  | none => none
 | false => none
theorem okI_p {xs : List Nu} {n : Int} {ys : List Int} {l : List Itm} {s : Su} (h : okI (.s xs n ys :: l) = true) (hs : suOf xs = some s) : okF3 n ys /\ s.g.size < 1000000000 := by
 simp only [okI, hs, Bool.and_eq_true, decide_eq_true_eq] at h
 obtain ⟨rfl, h1, h2⟩ := h
 have : ys = [] := by cases ys with
  | nil => rfl
  | cons a l => cases h1
 subst this
 exact ⟨⟨by decide, by decide, rfl⟩, by have := Nat.le_of_ble_eq_true h2; omega⟩
theorem plV_norm : ∀ its v, plV (normT nf0) its = some v -> ∃ p : Prop, normT nf0 its = some (p, v) /\ p := by
 intro its v e
 unfold plV at e
 split at e
 .rename_i ho
  split at e
  .rename_i p v' hV
   cases e
   refine ⟨p, hV, ?_⟩
   unfold normT at hV
   split at hV
   .split at hV
    .rename_i s hs
     cases hV
     exact okI_p ho hs
    .cases hV
   .cases hV
  .cases e
 .cases e
theorem plV_bend : ∀ its v, plV (bendT bAns) its = some v -> ∃ p : Prop, bendT bAns its = some (p, v) /\ p := by
 intro its v e
 unfold plV at e
 split at e
 .rename_i ho
  split at e
  .rename_i p v' hV
   cases e
   refine ⟨p, hV, ?_⟩
   unfold bendT at hV
   split at hV
   .split at hV
    .rename_i s hs
     cases hV
     exact okI_p ho hs
    .cases hV
   .cases hV
  .cases e
 .cases e
def tblWk : List (FuncId × NSpec) := [(12, tP hG 3 noPa (plV (normT nf0))), (11, tP hG 3 bdPa (plV (bendT bAns))), (42, hp (plainS (sSc scaleS)))]
def cWk : Ctx := mkN Tryz.prog glob hG tblWk [] ext
theorem cWk_ok : CtxOk cWk := mkN_ok prog_ok ext_ok (fun x hx => by
 simp only [tblWk, List.mem_cons, List.not_mem_nil, or_false] at hx
 rcases hx with rfl | rfl | rfl
 .exact tP_ok (normT_ok norm_ok) plV_norm
 .exact tP_ok (bendT_ok bend_ok) plV_bend
 .exact ((rsc_ok.plainS.g _ _).h).n) fun _ h => by cases h
theorem works_run : oneG hG.size hG.clock ((run cWk 5000).call 7 [] hG) = some (.tt, .bool false true) := by kernel_rfl
theorem works_ok : NOk Tryz.prog glob hG 7 (cSpec (.bool false true)) :=
 cSpec_ok hG_ok hG_plain glob_lt cWk_ok rfl rfl ⟨_, Tryz.func7, rfl⟩ works_run trivial rfl rfl
end
end Go.Proofs.YtbboldpghkahjaaGreatDoor.K
namespace Go.Vc
open Go Go.Eng Go.Ar
def f2 (a b : Int) : Int := bif !(a != 0) && !(b != 0) then 0 else bif a != 0 then a else b
def lsE (p q s : Sp) : Int := bif f2 p.e q.e != 0 then f2 p.e q.e else s.e
def lsI (p q : Sp) (x : Int) : Int := bif f2 p.e q.e != 0 then 0 else x
section
variable (F : VF) (v w : Ve)
def xp1 : Sp := F.mu v.c v.d w.e w.f
def xq1 : Sp := F.mu v.e v.f w.c w.d
def xs1 : Sp := F.su (xp1 F v w).lo (xp1 F v w).hi (xq1 F v w).lo (xq1 F v w).hi
def xp2 : Sp := F.mu v.e v.f w.a w.b
def xq2 : Sp := F.mu v.a v.b w.e w.f
def xs2 : Sp := F.su (xp2 F v w).lo (xp2 F v w).hi (xq2 F v w).lo (xq2 F v w).hi
def xp3 : Sp := F.mu v.a v.b w.c w.d
def xq3 : Sp := F.mu v.c v.d w.a w.b
def xs3 : Sp := F.su (xp3 F v w).lo (xp3 F v w).hi (xq3 F v w).lo (xq3 F v w).hi
def crE : Int := f3 (lsE (xp1 F v w) (xq1 F v w) (xs1 F v w)) (lsE (xp2 F v w) (xq2 F v w) (xs2 F v w)) (lsE (xp3 F v w) (xq3 F v w) (xs3 F v w))
def crI (x : Int) : Int := bif bBad F v w then 0 else bif crE F v w != 0 then 0 else x
def crV : Ve := ⟨crI F v w (lsI (xp1 F v w) (xq1 F v w) (xs1 F v w).lo), crI F v w (lsI (xp1 F v w) (xq1 F v w) (xs1 F v w).hi), crI F v w (lsI (xp2 F v w) (xq2 F v w) (xs2 F v w).lo), crI F v w (lsI (xp2 F v w) (xq2 F v w) (xs2 F v w).hi), crI F v w (lsI (xp3 F v w) (xq3 F v w) (xs3 F v w).lo), crI F v w (lsI (xp3 F v w) (xq3 F v w) (xs3 F v w).hi)⟩
def crO : Int := bif bBad F v w then 20 else bif crE F v w != 0 then crE F v w else 0
end
end Go.Vc
namespace Go.Proofs.YtbboldpghkahjaaGreatDoor.K
open Go Go.Eng Go.Ar Go.Rd Go.Vc
noncomputable section
theorem wcross_run (F : VF) (v w : Ve) : oneV ((run (cVeR F) 3000).call 15 [.agg v.cells, .agg w.cells] ⟨[], 0, 1⟩) = some (.tt, (outVe (crV F v w) (crO F v w)).av true) := by kernel_rfl
theorem wcross_ok : PureOk Tryz.prog 15 (sVV (crV vf0) (crO vf0)) := by
 refine num_ok (fun xs hk _ => ?_) ⟨_, Tryz.func15, rfl⟩
 obtain ⟨a, b, c, d, e, f, a1, b1, c1, d1, e1, f1, rfl⟩ := kVV hk
 exact ⟨cVeR vf0, 3000, _, cVeR_ok, rfl, fun _ => rfl, rfl, wcross_run vf0 ⟨a, b, c, d, e, f⟩ ⟨a1, b1, c1, d1, e1, f1⟩, trivial⟩
end
end Go.Proofs.YtbboldpghkahjaaGreatDoor.K
namespace Go.Iv
open Go Go.Ar Go.Rd
def cn (a b : Int) (x : Rat) : Prop := (a : Rat) <= x * 4294967296 /\ x * 4294967296 <= (b : Rat)
theorem cast_le {a b : Int} (h : a <= b) : (a : Rat) <= (b : Rat) := by exact_mod_cast h
theorem of_cast_le {a b : Int} (h : (a : Rat) <= (b : Rat)) : a <= b := by exact_mod_cast h
theorem cn_le {a b : Int} {x : Rat} (h : cn a b x) : a <= b := of_cast_le (Rat.le_trans h.1 h.2)
theorem cn_mono {a b a' b' : Int} {x : Rat} (h : cn a b x) (h1 : a' <= a) (h2 : b <= b') : cn a' b' x := ⟨Rat.le_trans (cast_le h1) h.1, Rat.le_trans h.2 (cast_le h2)⟩
theorem cn_touch {a b c d : Int} {x : Rat} (h : cn a b x) (k : cn c d x) : a <= d /\ c <= b := ⟨of_cast_le (Rat.le_trans h.1 k.2), of_cast_le (Rat.le_trans k.1 h.2)⟩
theorem cn_pt (a : Int) : cn a a ((a : Rat) / 4294967296) := by
 have : (a : Rat) / 4294967296 * 4294967296 = a := by grind
 unfold cn
 rw [this]
 exact ⟨Rat.le_refl, Rat.le_refl⟩
theorem cn_1 : cn 4294967296 4294967296 1 := by
 unfold cn
 push_cast
 grind
theorem near_touch {a b c d : Int} {x y : Rat} (h : cn a b x) (k : cn c d y) (n1 : (x - y) * 4294967296 < 1) (n2 : (y - x) * 4294967296 < 1) : a <= d /\ c <= b := by
 obtain ⟨h1, h2⟩ := h
 obtain ⟨k1, k2⟩ := k
 have p : (a : Rat) < ((d + 1 : Int) : Rat) := by
  have : ((d + 1 : Int) : Rat) = (d : Rat) + 1 := by push_cast; rfl
  rw [this]; grind
 have q : (c : Rat) < ((b + 1 : Int) : Rat) := by
  have : ((b + 1 : Int) : Rat) = (b : Rat) + 1 := by push_cast; rfl
  rw [this]; grind
 have p : a < d + 1 := by exact_mod_cast p
 have q : c < b + 1 := by exact_mod_cast q
 omega
theorem add_0 {a b c d : Int} (e : (addS a b c d).e = 0) : addS a b c d = ⟨a + c, b + d, 0⟩ := by
 unfold addS at e ⊢
 have h := (both_ok e).2.2
 rw [h] at e ⊢
 exact (told_ok e).1
theorem sub_0 {a b c d : Int} (e : (subS a b c d).e = 0) : subS a b c d = ⟨a - d, b - c, 0⟩ := by
 unfold subS at e ⊢
 have h := (both_ok e).2.2
 rw [h] at e ⊢
 exact (told_ok e).1
theorem neg_0 {a b : Int} (e : (negS a b).e = 0) : negS a b = ⟨-b, -a, 0⟩ := by
 unfold negS at e ⊢
 cases h : okSp a b with
 | true => rfl
 | false => rw [h] at e; cases e
theorem add_cn {a b c d : Int} {x y : Rat} (e : (addS a b c d).e = 0) (h : cn a b x) (k : cn c d y) : cn (addS a b c d).lo (addS a b c d).hi (x + y) := by
 rw [add_0 e]
 obtain ⟨h1, h2⟩ := h
 obtain ⟨k1, k2⟩ := k
 unfold cn
 push_cast
 grind
theorem sub_cn {a b c d : Int} {x y : Rat} (e : (subS a b c d).e = 0) (h : cn a b x) (k : cn c d y) : cn (subS a b c d).lo (subS a b c d).hi (x - y) := by
 rw [sub_0 e]
 obtain ⟨h1, h2⟩ := h
 obtain ⟨k1, k2⟩ := k
 unfold cn
 push_cast
 grind
theorem neg_cn {a b : Int} {x : Rat} (e : (negS a b).e = 0) (h : cn a b x) : cn (negS a b).lo (negS a b).hi (-x) := by
 rw [neg_0 e]
 obtain ⟨h1, h2⟩ := h
 unfold cn
 push_cast
 grind
theorem le_tot (a b : Rat) : a <= b ∨ b <= a := Rat.le_total
theorem mulr {a b c : Rat} (h : a <= b) (hc : 0 <= c) : a * c <= b * c := Rat.mul_le_mul_of_nonneg_right h hc
theorem mull {a b c : Rat} (h : a <= b) (hc : 0 <= c) : c * a <= c * b := Rat.mul_le_mul_of_nonneg_left h hc
theorem mulr_n {a b c : Rat} (h : a <= b) (hc : c <= 0) : b * c <= a * c := by
 have := mulr h (c := -c) (by grind)
 grind
theorem mull_n {a b c : Rat} (h : a <= b) (hc : c <= 0) : c * b <= c * a := by
 have := mull h (c := -c) (by grind)
 grind
theorem lb4 {a b c d X Y : Rat} (h1 : a <= X) (h2 : X <= b) (k1 : c <= Y) (k2 : Y <= d) : a * c <= X * Y ∨ a * d <= X * Y ∨ b * c <= X * Y ∨ b * d <= X * Y := by
 rcases le_tot 0 Y with hy | hy
 .have p := mulr h1 hy
  rcases le_tot 0 a with ha | ha
  .exact .inl (Rat.le_trans (mull k1 ha) p)
  .exact .inr (.inl (Rat.le_trans (mull_n k2 ha) p))
 .have p := mulr_n h2 hy
  rcases le_tot 0 b with hb | hb
  .exact .inr (.inr (.inl (Rat.le_trans (mull k1 hb) p)))
  .exact .inr (.inr (.inr (Rat.le_trans (mull_n k2 hb) p)))
theorem ub4 {a b c d X Y : Rat} (h1 : a <= X) (h2 : X <= b) (k1 : c <= Y) (k2 : Y <= d) : X * Y <= a * c ∨ X * Y <= a * d ∨ X * Y <= b * c ∨ X * Y <= b * d := by
 rcases le_tot 0 Y with hy | hy
 .have p := mulr h2 hy
  rcases le_tot 0 b with hb | hb
  .exact .inr (.inr (.inr (Rat.le_trans p (mull k2 hb))))
  .exact .inr (.inr (.inl (Rat.le_trans p (mull_n k1 hb))))
 .have p := mulr_n h1 hy
  rcases le_tot 0 a with ha | ha
  .exact .inr (.inl (Rat.le_trans p (mull k2 ha)))
  .exact .inl (Rat.le_trans p (mull_n k1 ha))
theorem mn4 (p q r s : Int) : mn (mn (mn p q) r) s <= p /\ mn (mn (mn p q) r) s <= q /\ mn (mn (mn p q) r) s <= r /\ mn (mn (mn p q) r) s <= s := by
 have h1 := mn_le p q
 have h2 := mn_le (mn p q) r
 have h3 := mn_le (mn (mn p q) r) s
 omega
theorem mx4 (p q r s : Int) : p <= mx (mx (mx p q) r) s /\ q <= mx (mx (mx p q) r) s /\ r <= mx (mx (mx p q) r) s /\ s <= mx (mx (mx p q) r) s := by
 have h1 := le_mx p q
 have h2 := le_mx (mx p q) r
 have h3 := le_mx (mx (mx p q) r) s
 omega
theorem rdf {n d : Int} (hd : 0 < d) : ((rd n d false : Int) : Rat) * (d : Rat) <= (n : Rat) := by exact_mod_cast (rd_ge_iff hd).1 (Int.le_refl _)
theorem rdt {n d : Int} (hd : 0 < d) : (n : Rat) <= ((rd n d true : Int) : Rat) * (d : Rat) := by exact_mod_cast (rd_le_iff hd).1 (Int.le_refl _)
theorem two32 : (0 : Int) < 4294967296 := by decide
theorem lo_of {l f : Int} {n D z : Rat} (hD : 0 < D) (h : l <= f) (hf : (f : Rat) * D <= n) (hz : n <= z * D) : (l : Rat) <= z := by
 have h := cast_le h
 exact Rat.le_trans h (Rat.le_of_mul_le_mul_right (Rat.le_trans hf hz) hD)
theorem hi_of {l f : Int} {n D z : Rat} (hD : 0 < D) (h : f <= l) (hf : n <= (f : Rat) * D) (hz : z * D <= n) : z <= (l : Rat) := by
 have h := cast_le h
 exact Rat.le_trans (Rat.le_of_mul_le_mul_right (Rat.le_trans hz hf) hD) h
theorem mul_0 {a b c d : Int} (e : (mulS a b c d).e = 0) : mulS a b c d = ⟨mn (mn (mn (mF a c false) (mF a d false)) (mF b c false)) (mF b d false), mx (mx (mx (mF a c true) (mF a d true)) (mF b c true)) (mF b d true), 0⟩ := by
 unfold mulS at e ⊢
 have h := (both_ok e).2.2
 rw [h] at e ⊢
 exact (told_ok e).1
theorem mul_cn {a b c d : Int} {x y : Rat} (e : (mulS a b c d).e = 0) (h : cn a b x) (k : cn c d y) : cn (mulS a b c d).lo (mulS a b c d).hi (x * y) := by
 rw [mul_0 e]
 obtain ⟨h1, h2⟩ := h
 obtain ⟨k1, k2⟩ := k
 have ff : ∀ u v : Int, ((mF u v false : Int) : Rat) * 4294967296 <= (u : Rat) * (v : Rat) := fun u v => by
  have := rdf (n := u * v) two32
  push_cast at this
  exact this
 have ft : ∀ u v : Int, (u : Rat) * (v : Rat) <= ((mF u v true : Int) : Rat) * 4294967296 := fun u v => by
  have := rdt (n := u * v) two32
  push_cast at this
  exact this
 have D : (0 : Rat) < 4294967296 := by decide
 obtain ⟨m1, m2, m3, m4⟩ := mn4 (mF a c false) (mF a d false) (mF b c false) (mF b d false)
 obtain ⟨x1, x2, x3, x4⟩ := mx4 (mF a c true) (mF a d true) (mF b c true) (mF b d true)
 have ez : x * y * 4294967296 * 4294967296 = x * 4294967296 * (y * 4294967296) := by grind
 constructor
 .rcases lb4 h1 h2 k1 k2 with p | p | p | p
  .exact lo_of D m1 (ff _ _) (by rw [ez]; exact p)
  .exact lo_of D m2 (ff _ _) (by rw [ez]; exact p)
  .exact lo_of D m3 (ff _ _) (by rw [ez]; exact p)
  .exact lo_of D m4 (ff _ _) (by rw [ez]; exact p)
 .rcases ub4 h1 h2 k1 k2 with p | p | p | p
  .exact hi_of D x1 (ft _ _) (by rw [ez]; exact p)
  .exact hi_of D x2 (ft _ _) (by rw [ez]; exact p)
  .exact hi_of D x3 (ft _ _) (by rw [ez]; exact p)
  .exact hi_of D x4 (ft _ _) (by rw [ez]; exact p)
theorem sq_abs {l X : Rat} (h0 : 0 <= l) (h : l <= X ∨ l <= -X) : l * l <= X * X := by
 rcases h with h | h
 .exact Rat.le_trans (mull h h0) (mulr h (by grind))
 .have := Rat.le_trans (mull h h0) (mulr h (c := -X) (by grind))
  grind
theorem sq_le {l X : Rat} (h : X <= l) (k : -X <= l) : X * X <= l * l := by
 rcases le_tot 0 X with h0 | h0
 .exact Rat.le_trans (mull h h0) (mulr h (by grind))
 .have := Rat.le_trans (mull k (c := -X) (by grind)) (mulr k (c := l) (by grind))
  grind
theorem sqr_0 {a b : Int} (e : (sqrS a b).e = 0) : okSp a b = true /\ sqrS a b = ⟨rd (abL a b * abL a b) 4294967296 false, rd (abH a b * abH a b) 4294967296 true, 0⟩ := by
 unfold sqrS at e ⊢
 cases h : okSp a b with
 | false => rw [h] at e; cases e
 | true => rw [h] at e; exact ⟨rfl, (told_ok e).1⟩
theorem sqr_cn {a b : Int} {x : Rat} (e : (sqrS a b).e = 0) (h : cn a b x) : cn (sqrS a b).lo (sqrS a b).hi (x * x) := by
 obtain ⟨ho, e0⟩ := sqr_0 e
 rw [e0]
 obtain ⟨h1, h2⟩ := h
 have hL0 : 0 <= abL a b := (le_mx _ 0).2.1
 have hL : abL a b = a ∨ abL a b = -b ∨ abL a b = 0 := by
  unfold abL
  have p := le_mx a (-b)
  have q := le_mx (mx a (-b)) 0
  omega
 have hH := le_mx b (-a)
 have D : (0 : Rat) < 4294967296 := by decide
 have ez : x * x * 4294967296 * 4294967296 = x * 4294967296 * (x * 4294967296) := by grind
 have f1 := rdf (n := abL a b * abL a b) two32
 have f2 := rdt (n := abH a b * abH a b) two32
 push_cast at f1 f2
 constructor
 .refine lo_of D (Int.le_refl _) f1 ?_
  rw [ez]
  have c0 : (0 : Rat) <= (abL a b : Rat) := by exact_mod_cast hL0
  rcases hL with p | p | p
  .refine sq_abs c0 (.inl ?_)
   rw [p]; exact h1
  .refine sq_abs c0 (.inr ?_)
   rw [p]; push_cast; grind
  .rw [p]
   have := sq_abs (l := 0) (X := x * 4294967296) Rat.le_refl (by rcases le_tot 0 (x * 4294967296) with h | h <;> grind)
   exact this
 .refine hi_of D (Int.le_refl _) f2 ?_
  rw [ez]
  have p : (b : Rat) <= (abH a b : Rat) := by exact_mod_cast hH.1
  have q : ((-a : Int) : Rat) <= (abH a b : Rat) := cast_le hH.2.1
  push_cast at q
  exact sq_le (Rat.le_trans h2 p) (by grind)
theorem scale_0 {a b n d : Int} (e : (scaleS a b n d).e = 0) : 0 < d /\ scaleS a b n d = ⟨rd (mn (a * n) (b * n)) d false, rd (mx (a * n) (b * n)) d true, 0⟩ := by
 unfold scaleS at e ⊢
 cases h : okSp a b with
 | false => rw [h] at e; cases e
 | true =>
  cases k : okR n d with
  | false => rw [h, k] at e; cases e
  | true =>
   rw [h, k] at e
   refine ⟨?_, (told_ok e).1⟩
   unfold okR at k
   simp only [Bool.and_eq_true, decide_eq_true_eq] at k
   omega
theorem scale_cn {a b n d : Int} {x : Rat} (e : (scaleS a b n d).e = 0) (h : cn a b x) : cn (scaleS a b n d).lo (scaleS a b n d).hi (x * (n : Rat) / (d : Rat)) := by
 obtain ⟨hd, e0⟩ := scale_0 e
 rw [e0]
 obtain ⟨h1, h2⟩ := h
 have D : (0 : Rat) < (d : Rat) := by exact_mod_cast hd
 have ez : x * (n : Rat) / (d : Rat) * 4294967296 * (d : Rat) = x * 4294967296 * (n : Rat) := by grind
 have m := mn_le (a * n) (b * n)
 have M := le_mx (a * n) (b * n)
 have lm : ∀ z : Rat, ((a * n : Int) : Rat) <= z ∨ ((b * n : Int) : Rat) <= z -> ((mn (a * n) (b * n) : Int) : Rat) <= z := fun z hz => by
  rcases hz with hz | hz
  .exact Rat.le_trans (cast_le m.1) hz
  .exact Rat.le_trans (cast_le m.2.1) hz
 have lM : ∀ z : Rat, z <= ((a * n : Int) : Rat) ∨ z <= ((b * n : Int) : Rat) -> z <= ((mx (a * n) (b * n) : Int) : Rat) := fun z hz => by
  rcases hz with hz | hz
  .exact Rat.le_trans hz (cast_le M.1)
  .exact Rat.le_trans hz (cast_le M.2.1)
 constructor
 .refine lo_of D (Int.le_refl _) (rdf hd) ?_
  rw [ez]
  refine lm _ ?_
  push_cast
  rcases le_tot 0 (n : Rat) with hn | hn
  .exact .inl (mulr h1 hn)
  .exact .inr (mulr_n h2 hn)
 .refine hi_of D (Int.le_refl _) (rdt hd) ?_
  rw [ez]
  refine lM _ ?_
  push_cast
  rcases le_tot 0 (n : Rat) with hn | hn
  .exact .inr (mulr h2 hn)
  .exact .inl (mulr_n h1 hn)
end Go.Iv
namespace Go.Iv
open Go Go.Ar Go.Rd Go.Vc
theorem inv_le {u v : Rat} (h : u <= v) (p : 0 < u * v) : v⁻¹ <= u⁻¹ := by
 have hu : u ≠ 0 := fun e => by rw [e] at p; grind
 have hv : v ≠ 0 := fun e => by rw [e] at p; grind
 refine Rat.le_of_mul_le_mul_right (c := u * v) ?_ p
 have e1 : v⁻¹ * (u * v) = u := by grind
 have e2 : u⁻¹ * (u * v) = v := by grind
 rw [e1, e2]
 exact h
theorem div_0 {a b c d : Int} (e : (divS a b c d).e = 0) : okSp c d = true /\ (0 < c ∨ d < 0) /\ divS a b c d = ⟨mn (mn (mn (dF a c false) (dF a d false)) (dF b c false)) (dF b d false), mx (mx (mx (dF a c true) (dF a d true)) (dF b c true)) (dF b d true), 0⟩ := by
 unfold divS at e ⊢
 have h := both_ok e
 rw [h.2.2] at e ⊢
 cases k : decide (c <= 0) && decide (0 <= d) with
 | true => rw [k] at e; cases e
 | false =>
  rw [k] at e
  refine ⟨h.2.1, ?_, (told_ok e).1⟩
  simp only [Bool.and_eq_false_iff, decide_eq_false_iff_not] at k
  omega
theorem dF_lo {x y : Int} (hy : y ≠ 0) : ((dF x y false : Int) : Rat) <= (x : Rat) * (y : Rat)⁻¹ * 4294967296 := by
 have hq : (y : Rat) ≠ 0 := by exact_mod_cast hy
 unfold dF sg
 cases h : decide (y < 0) with
 | true =>
  have h := of_decide_eq_true h
  have hd : 0 < -y := by omega
  have := rdf (n := -(x * 4294967296)) hd
  push_cast at this
  have p : (0 : Rat) < -(y : Rat) := by exact_mod_cast hd
  refine Rat.le_of_mul_le_mul_right (c := -(y : Rat)) (Rat.le_trans this ?_) p
  have : (x : Rat) * (y : Rat)⁻¹ * 4294967296 * -(y : Rat) = -((x : Rat) * 4294967296) := by grind
  rw [this]
  exact Rat.le_refl
 | false =>
  have h := of_decide_eq_false h
  have hd : 0 < y := by omega
  have := rdf (n := x * 4294967296) hd
  push_cast at this
  have p : (0 : Rat) < (y : Rat) := by exact_mod_cast hd
  refine Rat.le_of_mul_le_mul_right (c := (y : Rat)) (Rat.le_trans this ?_) p
  have : (x : Rat) * (y : Rat)⁻¹ * 4294967296 * (y : Rat) = (x : Rat) * 4294967296 := by grind
  rw [this]
  exact Rat.le_refl
theorem dF_hi {x y : Int} (hy : y ≠ 0) : (x : Rat) * (y : Rat)⁻¹ * 4294967296 <= ((dF x y true : Int) : Rat) := by
 have hq : (y : Rat) ≠ 0 := by exact_mod_cast hy
 unfold dF sg
 cases h : decide (y < 0) with
 | true =>
  have h := of_decide_eq_true h
  have hd : 0 < -y := by omega
  have := rdt (n := -(x * 4294967296)) hd
  push_cast at this
  have p : (0 : Rat) < -(y : Rat) := by exact_mod_cast hd
  refine Rat.le_of_mul_le_mul_right (c := -(y : Rat)) (Rat.le_trans ?_ this) p
  have : (x : Rat) * (y : Rat)⁻¹ * 4294967296 * -(y : Rat) = -((x : Rat) * 4294967296) := by grind
  rw [this]
  exact Rat.le_refl
 | false =>
  have h := of_decide_eq_false h
  have hd : 0 < y := by omega
  have := rdt (n := x * 4294967296) hd
  push_cast at this
  have p : (0 : Rat) < (y : Rat) := by exact_mod_cast hd
  refine Rat.le_of_mul_le_mul_right (c := (y : Rat)) (Rat.le_trans ?_ this) p
  have : (x : Rat) * (y : Rat)⁻¹ * 4294967296 * (y : Rat) = (x : Rat) * 4294967296 := by grind
  rw [this]
  exact Rat.le_refl
theorem cn_ne {c d : Int} {y : Rat} (k : cn c d y) (hs : 0 < c ∨ d < 0) : y ≠ 0 := by
 intro e
 subst e
 obtain ⟨k1, k2⟩ := k
 have k1 : (c : Rat) <= ((0 : Int) : Rat) := by push_cast; grind
 have k2 : ((0 : Int) : Rat) <= (d : Rat) := by push_cast; grind
 have k1 := of_cast_le k1
 have k2 := of_cast_le k2
 omega
theorem div_cn {a b c d : Int} {x y : Rat} (e : (divS a b c d).e = 0) (h : cn a b x) (k : cn c d y) : y ≠ 0 /\ cn (divS a b c d).lo (divS a b c d).hi (x / y) := by
 obtain ⟨ho, hs, e0⟩ := div_0 e
 have hy := cn_ne k hs
 refine ⟨hy, ?_⟩
 rw [e0]
 have kle := cn_le k
 obtain ⟨h1, h2⟩ := h
 obtain ⟨k1, k2⟩ := k
 have hc : c ≠ 0 := by omega
 have hd : d ≠ 0 := by omega
 have i1 : (d : Rat)⁻¹ <= (y * 4294967296)⁻¹ := by
  refine inv_le k2 ?_
  rcases hs with hs | hs
  .have : (0 : Rat) < (c : Rat) := by exact_mod_cast hs
   exact Rat.mul_pos (by grind) (by grind)
  .have : (d : Rat) < 0 := by exact_mod_cast hs
   have := Rat.mul_pos (a := -(y * 4294967296)) (b := -(d : Rat)) (by grind) (by grind)
   grind
 have i2 : (y * 4294967296)⁻¹ <= (c : Rat)⁻¹ := by
  refine inv_le k1 ?_
  rcases hs with hs | hs
  .have : (0 : Rat) < (c : Rat) := by exact_mod_cast hs
   exact Rat.mul_pos (by grind) (by grind)
  .have : (d : Rat) < 0 := by exact_mod_cast hs
   have := Rat.mul_pos (a := -(c : Rat)) (b := -(y * 4294967296)) (by grind) (by grind)
   grind
 have ez : x / y * 4294967296 = x * 4294967296 * (y * 4294967296)⁻¹ * 4294967296 := by grind
 have D : (0 : Rat) <= 4294967296 := by decide
 obtain ⟨m1, m2, m3, m4⟩ := mn4 (dF a c false) (dF a d false) (dF b c false) (dF b d false)
 obtain ⟨x1, x2, x3, x4⟩ := mx4 (dF a c true) (dF a d true) (dF b c true) (dF b d true)
 unfold cn
 rw [ez]
 constructor
 .rcases lb4 h1 h2 i1 i2 with p | p | p | p
  .exact Rat.le_trans (Rat.le_trans (cast_le m2) (dF_lo hd)) (mulr p D)
  .exact Rat.le_trans (Rat.le_trans (cast_le m1) (dF_lo hc)) (mulr p D)
  .exact Rat.le_trans (Rat.le_trans (cast_le m4) (dF_lo hd)) (mulr p D)
  .exact Rat.le_trans (Rat.le_trans (cast_le m3) (dF_lo hc)) (mulr p D)
 .rcases ub4 h1 h2 i1 i2 with p | p | p | p
  .exact Rat.le_trans (mulr p D) (Rat.le_trans (dF_hi hd) (cast_le x2))
  .exact Rat.le_trans (mulr p D) (Rat.le_trans (dF_hi hc) (cast_le x1))
  .exact Rat.le_trans (mulr p D) (Rat.le_trans (dF_hi hd) (cast_le x4))
  .exact Rat.le_trans (mulr p D) (Rat.le_trans (dF_hi hc) (cast_le x3))
theorem last_ok {P : Nat -> Prop} (h0 : P 0) : ∀ n, ¬ P n -> ∃ k, P k /\ ¬ P (k + 1)
 | 0, h => absurd h0 h
 | n + 1, h => by
  classical
  by_cases hn : P n
  .exact ⟨n, hn, h⟩
  .exact last_ok h0 n hn
theorem lt_sq {u v : Rat} (hv : 0 <= v) (h : u * u <= v * v) : u <= v := by
 rcases le_tot u v with k | k
 .exact k
 .rcases Rat.le_iff_lt_or_eq.1 k with k | k
  .exfalso
   have hu : 0 < u := by grind
   have := Rat.mul_lt_mul_of_pos_right k hu
   have := mull (Rat.le_of_lt k) hv
   grind
  .rw [k]; exact Rat.le_refl
theorem sqrt_0 {a b : Int} (e : (sqrtS a b).e = 0) : okSp a b = true /\ 0 <= a /\ sqrtS a b = ⟨rtV a false, rtV b true, 0⟩ := by
 unfold sqrtS at e ⊢
 cases h : okSp a b with
 | false => rw [h] at e; cases e
 | true =>
  cases k : decide (a < 0) with
  | true => rw [h, k] at e; cases e
  | false => exact ⟨rfl, by have := of_decide_eq_false k; omega, rfl⟩
theorem sqrt_cn {a b : Int} {x : Rat} (e : (sqrtS a b).e = 0) (h : cn a b x) (K : Nat) (hK : 0 < K) : ∃ s : Rat, 0 <= s /\ cn (sqrtS a b).lo (sqrtS a b).hi s /\ s * s <= x /\ (x - s * s) * (K : Rat) <= 1 := by
 obtain ⟨ho, h0, e0⟩ := sqrt_0 e
 have hb := okSp_iff.1 ho
 have oa : sqOk a = true := by unfold sqOk okF; simp only [Bool.and_eq_true, decide_eq_true_eq]; omega
 have ob : sqOk b = true := by unfold sqOk okF; simp only [Bool.and_eq_true, decide_eq_true_eq]; omega
 obtain ⟨p0, p1, _, _⟩ := sqR_spec oa
 obtain ⟨q0, q1, q2, q3⟩ := sqR_spec ob
 have H : 0 <= rtV b true /\ b * 4294967296 <= rtV b true * rtV b true /\ rtV b true <= 8796093022208 := by
  unfold rtV
  cases k : sqR b * sqR b == b * 4294967296 with
  | true => exact ⟨q0, by have := beq_iff_eq.1 k; show _ <= sqR b * sqR b; omega, by show sqR b <= _; omega⟩
  | false => exact ⟨by show 0 <= sqR b + 1; omega, by show _ <= (sqR b + 1) * (sqR b + 1); omega, by show sqR b + 1 <= _; omega⟩
 rw [e0]
 obtain ⟨h1, h2⟩ := h
 have hL : rtV a false = sqR a := rfl
 rw [hL]
 generalize rtV b true = hi at H ⊢
 generalize sqR a = lo at p0 p1 ⊢
 obtain ⟨H0, H1, H2⟩ := H
 have p0 : (0 : Rat) <= (lo : Rat) := by exact_mod_cast p0
 have p1 : (lo : Rat) * (lo : Rat) <= (a : Rat) * 4294967296 := by have := cast_le p1; push_cast at this; exact this
 have H0 : (0 : Rat) <= (hi : Rat) := by exact_mod_cast H0
 have H1 : (b : Rat) * 4294967296 <= (hi : Rat) * (hi : Rat) := by have := cast_le H1; push_cast at this; exact this
 have H2 : (hi : Rat) <= 8796093022208 := by have := cast_le H2; push_cast at this; exact this
 have kq : (0 : Rat) < (K : Rat) := by exact_mod_cast hK
 have f0 : ((0 : Nat) : Rat) * ((0 : Nat) : Rat) <= x * 4294967296 * 4294967296 * ((K : Rat) * (K : Rat)) := by
  have : (0 : Rat) <= (a : Rat) := by exact_mod_cast h0
  have := Rat.mul_nonneg (a := x * 4294967296) (b := 4294967296) (by grind) (by decide)
  have := Rat.mul_nonneg this (Rat.mul_nonneg (Rat.le_of_lt kq) (Rat.le_of_lt kq))
  push_cast
  grind
 obtain ⟨n, hn⟩ : ∃ n : Nat, (n : Rat) = (hi : Rat) * (K : Rat) + 1 := by
  have : 0 <= hi := by exact_mod_cast H0
  refine ⟨(hi * K + 1).toNat, ?_⟩
  have e : (((hi * K + 1).toNat : Nat) : Int) = hi * K + 1 := Int.toNat_of_nonneg (by have := Int.mul_nonneg this (Int.natCast_nonneg K); omega)
  have := congrArg (fun z : Int => (z : Rat)) e
  push_cast at this
  exact this
 have f1 : ¬ ((n : Rat) * (n : Rat) <= x * 4294967296 * 4294967296 * ((K : Rat) * (K : Rat))) := by
  intro hc
  have t1 := mulr h2 (c := 4294967296) (by decide)
  have t2 := Rat.le_trans t1 H1
  have t3 := mulr t2 (Rat.mul_nonneg (Rat.le_of_lt kq) (Rat.le_of_lt kq))
  rw [hn] at hc
  have t4 := Rat.mul_nonneg H0 (Rat.le_of_lt kq)
  grind
 obtain ⟨k, g1, g2⟩ := last_ok (P := fun k => (k : Rat) * (k : Rat) <= x * 4294967296 * 4294967296 * ((K : Rat) * (K : Rat))) f0 n f1
 have g2 := Rat.not_le.1 g2
 push_cast at g2
 obtain ⟨S, hS⟩ : ∃ S : Rat, S * (K : Rat) = (k : Rat) := ⟨(k : Rat) / (K : Rat), by grind⟩
 have hk : (0 : Rat) <= (k : Rat) := by exact_mod_cast Nat.zero_le k
 have S0 : 0 <= S := Rat.le_of_mul_le_mul_right (c := (K : Rat)) (by rw [hS]; grind) kq
 have kk : 0 < (K : Rat) * (K : Rat) := Rat.mul_pos kq kq
 have S1 : S * S <= x * 4294967296 * 4294967296 := Rat.le_of_mul_le_mul_right (c := (K : Rat) * (K : Rat)) (by rw [<- hS] at g1; grind) kk
 have Shi : S <= (hi : Rat) := lt_sq H0 (Rat.le_trans S1 (Rat.le_trans (mulr h2 (by decide)) H1))
 have Slo : (lo : Rat) <= S := by
  rcases le_tot (lo : Rat) S with h | h
  .exact h
  .-- lo K is a whole number at most k
   have q : (lo : Rat) * (K : Rat) * ((lo : Rat) * (K : Rat)) <= x * 4294967296 * 4294967296 * ((K : Rat) * (K : Rat)) := by
    have t1 := Rat.le_trans p1 (mulr h1 (c := 4294967296) (by decide))
    have t2 := mulr t1 (Rat.le_of_lt kk)
    grind
   have t : (lo : Rat) * (K : Rat) < (k : Rat) + 1 := by
    rcases le_tot ((k : Rat) + 1) ((lo : Rat) * (K : Rat)) with h | h
    .exfalso
     have := Rat.le_trans (mull h (c := (k : Rat) + 1) (by grind)) (mulr h (Rat.mul_nonneg p0 (Rat.le_of_lt kq)))
     grind
    .rcases Rat.le_iff_lt_or_eq.1 h with h | e
     .exact h
     .exfalso
      rw [e] at q
      grind
   have t : lo * (K : Int) < (k : Int) + 1 := by exact_mod_cast t
   have t : lo * (K : Int) <= (k : Int) := by omega
   have t : (lo : Rat) * (K : Rat) <= (k : Rat) := by exact_mod_cast t
   rw [<- hS] at t
   exact Rat.le_of_mul_le_mul_right t kq
 have gap : (x * 4294967296 * 4294967296 - S * S) * (K : Rat) <= 18446744073709551616 := by
  have kge : (1 : Rat) <= (K : Rat) := by exact_mod_cast hK
  have t1 : x * 4294967296 * 4294967296 * ((K : Rat) * (K : Rat)) - S * S * ((K : Rat) * (K : Rat)) <= 2 * (k : Rat) + 1 := by
   rw [<- hS] at g2 ⊢
   grind
  have t2 : 2 * (k : Rat) + 1 <= 18446744073709551616 * (K : Rat) := by
   rw [<- hS]
   have := mulr (Rat.le_trans Shi H2) (Rat.le_of_lt kq)
   grind
  refine Rat.le_of_mul_le_mul_right (c := (K : Rat)) ?_ kq
  grind
 have es : S / 4294967296 * 4294967296 = S := by grind
 refine ⟨S / 4294967296, by refine Rat.le_of_mul_le_mul_right (c := 4294967296) ?_ (by decide); rw [es]; grind, ⟨by rw [es]; exact Slo, by rw [es]; exact Shi⟩, ?_, ?_⟩
 .refine Rat.le_of_mul_le_mul_right (c := 4294967296 * 4294967296) ?_ (by grind)
  grind
 .refine Rat.le_of_mul_le_mul_right (c := 4294967296 * 4294967296) ?_ (by grind)
  grind
structure V3 where
 x : Rat
 y : Rat
 z : Rat
def cv (v : Ve) (u : V3) : Prop := cn v.a v.b u.x /\ cn v.c v.d u.y /\ cn v.e v.f u.z
def V3.dot (u v : V3) : Rat := u.x * v.x + u.y * v.y + u.z * v.z
def V3.add (u v : V3) : V3 := ⟨u.x + v.x, u.y + v.y, u.z + v.z⟩
def V3.sub (u v : V3) : V3 := ⟨u.x - v.x, u.y - v.y, u.z - v.z⟩
def V3.mul (u : V3) (t : Rat) : V3 := ⟨u.x * t, u.y * t, u.z * t⟩
def V3.neg (u : V3) : V3 := ⟨-u.x, -u.y, -u.z⟩
def V3.div (u : V3) (t : Rat) : V3 := ⟨u.x / t, u.y / t, u.z / t⟩
theorem tO_0 {e : Int} (h : tO e = 0) : e = 0 := by
 unfold tO at h
 cases k : e != 0 with
 | true => rw [k] at h; exact h
 | false => simpa using k
theorem tE_0 {X Y Z : Sp} {k : Int} (h : tE X Y Z k = 0) : X.e = 0 /\ Y.e = 0 /\ Z.e = 0 := by
 unfold tE at h
 obtain ⟨h, hz⟩ := fe_z.1 h
 obtain ⟨h, hy⟩ := fe_z.1 h
 exact ⟨(fe_z.1 h).2, hy, hz⟩
theorem dot_cn {v w : Ve} {u t : V3} (e : (dotF vf0 v w).e = 0) (h : cv v u) (k : cv w t) : cn (dotF vf0 v w).lo (dotF vf0 v w).hi (u.dot t) := by
 have e := tO_0 e
 obtain ⟨e1, eB⟩ := fe_z.1 e
 obtain ⟨e2, eA⟩ := fe_z.1 e1
 obtain ⟨x1, x2, x3⟩ := tE_0 e2
 have m1 := mul_cn x1 h.1 k.1
 have m2 := mul_cn x2 h.2.1 k.2.1
 have m3 := mul_cn x3 h.2.2 k.2.2
 have a1 := add_cn eA m1 m2
 have a2 := add_cn eB a1 m3
 unfold dotF
 rw [e]
 exact a2
theorem two_cn {v w : Ve} {f : Int -> Int -> Int -> Int -> Sp} (e : twoO vf0 v w f = 0) : (f v.a v.b w.a w.b).e = 0 /\ (f v.c v.d w.c w.d).e = 0 /\ (f v.e v.f w.e w.f).e = 0 /\ twoV vf0 v w f = ⟨(f v.a v.b w.a w.b).lo, (f v.a v.b w.a w.b).hi, (f v.c v.d w.c w.d).lo, (f v.c v.d w.c w.d).hi, (f v.e v.f w.e w.f).lo, (f v.e v.f w.e w.f).hi⟩ := by
 have e : tE (f v.a v.b w.a w.b) (f v.c v.d w.c w.d) (f v.e v.f w.e w.f) (bCk vf0 v w) = 0 := tO_0 e
 obtain ⟨x1, x2, x3⟩ := tE_0 e
 refine ⟨x1, x2, x3, ?_⟩
 show tV (f v.a v.b w.a w.b) (f v.c v.d w.c w.d) (f v.e v.f w.e w.f) (tE (f v.a v.b w.a w.b) (f v.c v.d w.c w.d) (f v.e v.f w.e w.f) (bCk vf0 v w)) = _
 rw [e]
 rfl
theorem vadd_cn {v w : Ve} {u t : V3} (e : twoO vf0 v w vf0.ad = 0) (h : cv v u) (k : cv w t) : cv (twoV vf0 v w vf0.ad) (u.add t) := by
 obtain ⟨e1, e2, e3, e0⟩ := two_cn e
 rw [e0]
 exact ⟨add_cn e1 h.1 k.1, add_cn e2 h.2.1 k.2.1, add_cn e3 h.2.2 k.2.2⟩
theorem vsub_cn {v w : Ve} {u t : V3} (e : twoO vf0 v w vf0.su = 0) (h : cv v u) (k : cv w t) : cv (twoV vf0 v w vf0.su) (u.sub t) := by
 obtain ⟨e1, e2, e3, e0⟩ := two_cn e
 rw [e0]
 exact ⟨sub_cn e1 h.1 k.1, sub_cn e2 h.2.1 k.2.1, sub_cn e3 h.2.2 k.2.2⟩
theorem vmul_cn {v : Ve} {x y : Int} {u : V3} {t : Rat} (e : twoO vf0 v (lk x y) vf0.mu = 0) (h : cv v u) (k : cn x y t) : cv (twoV vf0 v (lk x y) vf0.mu) (u.mul t) := by
 obtain ⟨e1, e2, e3, e0⟩ := two_cn e
 rw [e0]
 exact ⟨mul_cn e1 h.1 k, mul_cn e2 h.2.1 k, mul_cn e3 h.2.2 k⟩
theorem vneg_cn {v : Ve} {u : V3} (e : gO vf0 v = 0) (h : cv v u) : cv (gV vf0 v) u.neg := by
 have e := tO_0 e
 obtain ⟨x1, x2, x3⟩ := tE_0 e
 unfold gV
 rw [e]
 exact ⟨neg_cn x1 h.1, neg_cn x2 h.2.1, neg_cn x3 h.2.2⟩
theorem uO_0 {v : Ve} (h : uO vf0 v = 0) : uE vf0 v = 0 := by
 unfold uO at h
 cases k : uE vf0 v != 0 with
 | true => rw [k] at h; exact h
 | false => simpa using k
theorem cn_pos {a b : Int} {s : Rat} (h : cn a b s) (hs : 0 <= s) (hn : s ≠ 0) : 0 < s := by
 rcases Rat.le_iff_lt_or_eq.1 hs with h | h
 .exact h
 .exact absurd h.symm hn
theorem unit_cn {v : Ve} {u : V3} (e : uO vf0 v = 0) (h : cv v u) (K : Nat) (hK : 0 < K) : ∃ s : Rat, 0 < s /\ s * s <= u.dot u /\ (u.dot u - s * s) * (K : Rat) <= 1 /\ cv (uV vf0 v) (u.div s) := by
 have e := uO_0 e
 obtain ⟨k, e10⟩ := fe_z.1 e
 obtain ⟨k, e9⟩ := fe_z.1 k
 obtain ⟨k, e8⟩ := fe_z.1 k
 obtain ⟨k, e7⟩ := fe_z.1 k
 obtain ⟨k, e6⟩ := fe_z.1 k
 obtain ⟨k, e5⟩ := fe_z.1 k
 obtain ⟨k, e4⟩ := fe_z.1 k
 obtain ⟨k, e3⟩ := fe_z.1 k
 obtain ⟨_, e2⟩ := fe_z.1 k
 have q1 := sqr_cn e2 h.1
 have q2 := sqr_cn e3 h.2.1
 have q3 := sqr_cn e4 h.2.2
 have a1 := add_cn e5 q1 q2
 have a2 := add_cn e6 a1 q3
 obtain ⟨s, s0, sc, s1, s2⟩ := sqrt_cn e7 a2 K hK
 obtain ⟨n1, d1⟩ := div_cn e8 h.1 sc
 obtain ⟨_, d2⟩ := div_cn e9 h.2.1 sc
 obtain ⟨_, d3⟩ := div_cn e10 h.2.2 sc
 refine ⟨s, cn_pos sc s0 n1, s1, s2, ?_⟩
 unfold uV uI
 rw [e]
 exact ⟨d1, d2, d3⟩
def vv (v : Ve) : Prop := okSp v.a v.b = true /\ okSp v.c v.d = true /\ okSp v.e v.f = true
theorem told_b {l h : Int} {r : Sp} (hr : r = toldS l h) (e : r.e = 0) (hl : r.lo <= r.hi) : okSp r.lo r.hi = true := by
 subst hr
 have := told_ok e
 rw [this.1] at hl ⊢
 exact okSp_iff.2 ⟨this.2.1, hl, this.2.2.2.2⟩
theorem add_b {a b c d : Int} {z : Rat} (e : (addS a b c d).e = 0) (h : cn (addS a b c d).lo (addS a b c d).hi z) : okSp (addS a b c d).lo (addS a b c d).hi = true :=
 told_b (both_ok e).2.2 e (cn_le h)
theorem div_b {a b c d : Int} {z : Rat} (e : (divS a b c d).e = 0) (h : cn (divS a b c d).lo (divS a b c d).hi z) : okSp (divS a b c d).lo (divS a b c d).hi = true := by
 have q : divS a b c d = bif decide (c <= 0) && decide (0 <= d) then err 7 else hull4 dF a b c d := (both_ok e).2.2
 cases k : decide (c <= 0) && decide (0 <= d) with
 | true =>
  rw [k] at q
  have q : divS a b c d = err 7 := q
  rw [q] at e; cases e
 | false =>
  rw [k] at q
  exact told_b (r := divS a b c d) q e (cn_le h)
theorem vadd_v {v w : Ve} {u : V3} (e : twoO vf0 v w vf0.ad = 0) (h : cv (twoV vf0 v w vf0.ad) u) : vv (twoV vf0 v w vf0.ad) := by
 obtain ⟨e1, e2, e3, e0⟩ := two_cn e
 rw [e0] at h ⊢
 exact ⟨add_b e1 h.1, add_b e2 h.2.1, add_b e3 h.2.2⟩
theorem unit_v {v : Ve} {u : V3} (e : uO vf0 v = 0) (h : cv (uV vf0 v) u) : vv (uV vf0 v) := by
 have e := uO_0 e
 obtain ⟨k, e10⟩ := fe_z.1 e
 obtain ⟨k, e9⟩ := fe_z.1 k
 obtain ⟨_, e8⟩ := fe_z.1 k
 unfold uV uI at h ⊢
 rw [e] at h ⊢
 exact ⟨div_b e8 h.1, div_b e9 h.2.1, div_b e10 h.2.2⟩
theorem vneg_v {v : Ve} (h : vv v) : gO vf0 v = 0 /\ gV vf0 v = ⟨-v.b, -v.a, -v.d, -v.c, -v.f, -v.e⟩ /\ vv (gV vf0 v) := by
 obtain ⟨h1, h2, h3⟩ := h
 have n : ∀ {a b : Int}, okSp a b = true -> negS a b = ⟨-b, -a, 0⟩ := fun k => by unfold negS; rw [k]; rfl
 have c : vC0 vf0 v = 0 := by
  rw [vC0_eq vf0_law]
  have : wOk vf0 v = false := by
   show (!bif okSp v.a v.b then bif okSp v.c v.d then okSp v.e v.f else false else false) = false
   rw [h1, h2, h3]; rfl
  rw [this]; rfl
 have e : gE vf0 v = 0 := by
  unfold gE tE
  rw [c]
  show fe (fe (fe 0 (negS v.a v.b).e) (negS v.c v.d).e) (negS v.e v.f).e = 0
  rw [n h1, n h2, n h3]; rfl
 have ev : gV vf0 v = ⟨-v.b, -v.a, -v.d, -v.c, -v.f, -v.e⟩ := by
  unfold gV
  rw [e]
  show (⟨(negS v.a v.b).lo, (negS v.a v.b).hi, (negS v.c v.d).lo, (negS v.c v.d).hi, (negS v.e v.f).lo, (negS v.e v.f).hi⟩ : Ve) = _
  rw [n h1, n h2, n h3]
 refine ⟨by unfold gO; rw [e]; rfl, ev, ?_⟩
 rw [ev]
 have k1 := okSp_iff.1 h1; have k2 := okSp_iff.1 h2; have k3 := okSp_iff.1 h3
 exact ⟨okSp_iff.2 ⟨by show _ <= -v.b; omega, by show -v.b <= -v.a; omega, by show -v.a <= _; omega⟩, okSp_iff.2 ⟨by show _ <= -v.d; omega, by show -v.d <= -v.c; omega, by show -v.c <= _; omega⟩, okSp_iff.2 ⟨by show _ <= -v.f; omega, by show -v.f <= -v.e; omega, by show -v.e <= _; omega⟩⟩
def loV (v : Ve) : V3 := ⟨(v.a : Rat) / 4294967296, (v.c : Rat) / 4294967296, (v.e : Rat) / 4294967296⟩
theorem cv_lo {v : Ve} (h : vv v) : cv v (loV v) := by
 obtain ⟨h1, h2, h3⟩ := h
 exact ⟨cn_mono (cn_pt _) (Int.le_refl _) (okSp_iff.1 h1).2.1, cn_mono (cn_pt _) (Int.le_refl _) (okSp_iff.1 h2).2.1, cn_mono (cn_pt _) (Int.le_refl _) (okSp_iff.1 h3).2.1⟩
end Go.Iv
namespace Go.Iv
open Go Go.Ar Go.Rd Go.Vc
def gr (X : BX) (x y : Rat) : Rat := (1 * (X.p2f : Rat) / ((100000 : Int) : Rat) + (x * x + y * y) * (X.p4f : Rat) / ((10000000 : Int) : Rat)) * (X.pol : Rat) / ((1000000000 : Int) : Rat) * ((10000000 : Int) : Rat) / (X.b : Rat)
def thr (X : BX) (d : V3) (x y : Rat) : V3 :=
 bif X.o0 then (bif !X.mir then ⟨d.x * (X.a : Rat) / (X.b : Rat), d.y * (X.a : Rat) / (X.b : Rat), d.z * (X.a : Rat) / (X.b : Rat)⟩ else d)
 else bif !X.mir then ⟨d.x * (X.a : Rat) / (X.b : Rat) + x * gr X x y, d.y * (X.a : Rat) / (X.b : Rat) + y * gr X x y, d.z * (X.a : Rat) / (X.b : Rat)⟩ else ⟨d.x + x * gr X x y, d.y + y * gr X x y, d.z⟩
def tan3 (S n : V3) : V3 := S.sub (n.mul (S.dot n))
def ab (x m : Rat) : Prop := -m <= x /\ x <= m
structure Bent (X : BX) (n d : V3) (x y : Rat) (K : Nat) (r : Rat) : Prop where
 kp : X.k.hi < 0 ∨ 0 < X.k.lo
 kl : X.k.hi < 0 -> d.dot n * 4294967296 <= -1
 kh : 0 < X.k.lo -> 1 <= d.dot n * 4294967296
 ka : ab (d.dot n) 1048576
 sa : ab ((thr X d x y).dot n) 1048576
 r0 : 0 <= r
 r1 : r * r <= 1 - (tan3 (thr X d x y) n).dot (tan3 (thr X d x y) n)
 r2 : (1 - (tan3 (thr X d x y) n).dot (tan3 (thr X d x y) n) - r * r) * (K : Rat) <= 1
 out : cv X.out ((tan3 (thr X d x y) n).add (n.mul (bif X.fl then -r else r)))
 ov : vv X.out
theorem dot_bd {v w : Ve} {z : Rat} (e : (dotF vf0 v w).e = 0) (h : cn (dotF vf0 v w).lo (dotF vf0 v w).hi z) : ab z 1048576 := by
 have e := tO_0 e
 obtain ⟨e1, eB⟩ := fe_z.1 e
 unfold dotF at h
 rw [e] at h
 have h : cn (dB vf0 v w).lo (dB vf0 v w).hi z := h
 have eB : (addS (dA vf0 v w).lo (dA vf0 v w).hi (vf0.mu v.e v.f w.e w.f).lo (vf0.mu v.e v.f w.e w.f).hi).e = 0 := eB
 have b : -4503599627370496 <= (dB vf0 v w).lo /\ (dB vf0 v w).hi <= 4503599627370496 := by
  show -4503599627370496 <= (addS (dA vf0 v w).lo (dA vf0 v w).hi (vf0.mu v.e v.f w.e w.f).lo (vf0.mu v.e v.f w.e w.f).hi).lo /\ (addS (dA vf0 v w).lo (dA vf0 v w).hi (vf0.mu v.e v.f w.e w.f).lo (vf0.mu v.e v.f w.e w.f).hi).hi <= _
  have h0 := eB
  unfold addS at h0 ⊢
  have h1 := (both_ok h0).2.2
  rw [h1] at h0 ⊢
  obtain ⟨t, t1, t2, t3, t4⟩ := told_ok h0
  rw [t]
  exact ⟨t1, t4⟩
 obtain ⟨h1, h2⟩ := h
 have b1 := cast_le b.1
 have b2 := cast_le b.2
 push_cast at b1 b2
 constructor
 .refine Rat.le_of_mul_le_mul_right (c := 4294967296) ?_ (by decide)
  grind
 .refine Rat.le_of_mul_le_mul_right (c := 4294967296) ?_ (by decide)
  grind
theorem z_of {e : Int} {b : Eb} (h : eb e = b) (k : b.z = true) : e = 0 := by
 rw [<- h] at k
 exact beq_iff_eq.1 k
theorem bent_0 {X : BX} (h : X.bt.pc 9 9 9 0 = 0) : X.F1 = 0 /\ X.und = false /\ X.F2 = 0 /\ X.tot = false /\ X.neg = false /\ X.F3 = 0 := by
 have h := (X.bt.oc_eq).2.1.symm.trans h
 have h : X.bt.oc = 0 := by
  cases k : X.bt.oc != 0 with
  | true => rw [k] at h; cases h
  | false => simpa using k
 have w : ∀ e, whyB e ≠ 0 := fun e => by unfold whyB; cases e.s <;> decide
 unfold BT.oc at h
 cases h1 : X.bt.R1.z with
 | false => rw [h1] at h; exact absurd h (w _)
 | true =>
  cases h2 : X.bt.u with
  | true => rw [h1, h2] at h; cases h
  | false =>
   cases h3 : X.bt.R2.z with
   | false => rw [h1, h2, h3] at h; exact absurd h (w _)
   | true =>
    cases h4 : X.bt.t with
    | true => rw [h1, h2, h3, h4] at h; cases h
    | false =>
     cases h5 : X.bt.n with
     | true => rw [h1, h2, h3, h4, h5] at h; cases h
     | false =>
      cases h6 : X.bt.R3.z with
      | false => rw [h1, h2, h3, h4, h5, h6] at h; exact absurd h (w _)
      | true => exact ⟨z_of BX.eb1 h1, h2, z_of BX.eb2 h3, h4, h5, z_of BX.eb3 h6⟩
theorem norm_cn {X : BX} (hF : X.F = bf0) (h : X.F1 = 0) {p q : Rat} (hp : cn (X.sl 0) (X.sl 1) p) (hq : cn (X.sl 2) (X.sl 3) q) (K : Nat) (hK : 0 < K) : ∃ s : Rat, 0 < s /\ s * s <= V3.dot ⟨-p, -q, 1⟩ ⟨-p, -q, 1⟩ /\ (V3.dot ⟨-p, -q, 1⟩ ⟨-p, -q, 1⟩ - s * s) * (K : Rat) <= 1 /\ cv X.u (V3.div ⟨-p, -q, 1⟩ s) := by
 obtain ⟨g, _⟩ := fe_z.1 h
 obtain ⟨g, e4⟩ := fe_z.1 g
 obtain ⟨g, e3⟩ := fe_z.1 g
 obtain ⟨_, e2⟩ := fe_z.1 g
 have c1 : cn X.n1.lo X.n1.hi (-p) := by
  rw [show X.n1 = negS (X.sl 0) (X.sl 1) from by show X.F.ng (X.sl 0) (X.sl 1) = _; rw [hF]; rfl] at e2 ⊢
  exact neg_cn e2 hp
 have c2 : cn X.n2.lo X.n2.hi (-q) := by
  rw [show X.n2 = negS (X.sl 2) (X.sl 3) from by show X.F.ng (X.sl 2) (X.sl 3) = _; rw [hF]; rfl] at e3 ⊢
  exact neg_cn e3 hq
 have cw : cv X.nw ⟨-p, -q, 1⟩ := ⟨c1, c2, cn_1⟩
 have eu : X.u = uV vf0 X.nw /\ X.uo = uO vf0 X.nw := by show X.F.uV X.nw = _ /\ X.F.uO X.nw = _; rw [hF]; exact ⟨rfl, rfl⟩
 rw [eu.2] at e4
 rw [eu.1]
 exact unit_cn e4 cw K hK
theorem bent_cn {X : BX} (hF : X.F = bf0) (h : X.bt.pc 9 9 9 0 = 0) {x y : Rat} {n d : V3} (cu : cv X.u n) (hd : cv X.w d) (hx : cn X.v.a X.v.b x) (hy : cn X.v.c X.v.d y) (K : Nat) (hK : 0 < K) : ∃ r, Bent X n d x y K r := by
 obtain ⟨S, ys, a, b, l, v, w, rfl⟩ : ∃ S ys a b l v w, X = ⟨bf0, S, ys, a, b, l, v, w⟩ := by
  cases X; cases hF; exact ⟨_, _, _, _, _, _, _, rfl⟩
 obtain ⟨f1, hu, f2, ht, hn, f3⟩ := bent_0 h
 generalize hX : (⟨bf0, S, ys, a, b, l, v, w⟩ : BX) = X at *
 have hF : X.F = bf0 := by rw [<- hX]
 obtain ⟨g, e5⟩ := fe_z.1 f1
 obtain ⟨g, e4⟩ := fe_z.1 g
 obtain ⟨g, e3⟩ := fe_z.1 g
 obtain ⟨_, e2⟩ := fe_z.1 g
 obtain ⟨g, j5⟩ := fe_z.1 f2
 obtain ⟨g, j4⟩ := fe_z.1 g
 obtain ⟨g, j3⟩ := fe_z.1 g
 obtain ⟨g, j2⟩ := fe_z.1 g
 obtain ⟨fo, j1⟩ := fe_z.1 g
 obtain ⟨g, m2⟩ := fe_z.1 f3
 obtain ⟨ff, m1⟩ := fe_z.1 g
 have ek : X.k = dotF vf0 X.w X.u := by show X.F.dt X.w X.u = _; rw [hF]; rfl
 rw [ek] at e5
 have ck : cn X.k.lo X.k.hi (d.dot n) := by rw [ek]; exact dot_cn e5 hd cu
 have ka : ab (d.dot n) 1048576 := by rw [ek] at ck; exact dot_bd e5 ck
 have kn : X.k.hi < 0 ∨ 0 < X.k.lo := by
  unfold BX.und at hu
  cases h1 : decide (X.k.lo <= 0) with
  | false => have := of_decide_eq_false h1; omega
  | true =>
   rw [h1] at hu
   have := of_decide_eq_false hu
   omega
 have ct : cv X.t (bif !X.mir then ⟨d.x * (X.a : Rat) / (X.b : Rat), d.y * (X.a : Rat) / (X.b : Rat), d.z * (X.a : Rat) / (X.b : Rat)⟩ else d) /\ X.Fm = 0 := by
  have fm : X.Fm = 0 := by
   unfold BX.Fo at fo
   cases ho : X.o0 with
   | true => rw [ho] at fo; exact fo
   | false =>
    rw [ho] at fo
    obtain ⟨g, _⟩ := fe_z.1 fo; obtain ⟨g, _⟩ := fe_z.1 g; obtain ⟨g, _⟩ := fe_z.1 g; obtain ⟨g, _⟩ := fe_z.1 g
    obtain ⟨g, _⟩ := fe_z.1 g; obtain ⟨g, _⟩ := fe_z.1 g; obtain ⟨g, _⟩ := fe_z.1 g; obtain ⟨g, _⟩ := fe_z.1 g
    obtain ⟨g, _⟩ := fe_z.1 g; obtain ⟨g, _⟩ := fe_z.1 g; obtain ⟨g, _⟩ := fe_z.1 g
    exact (fe_z.1 g).1
  refine ⟨?_, fm⟩
  unfold BX.Fm at fm
  unfold BX.t
  cases hm : X.mir with
  | true => exact hd
  | false =>
   rw [hm] at fm
   obtain ⟨g, k3⟩ := fe_z.1 fm
   obtain ⟨g, k2⟩ := fe_z.1 g
   obtain ⟨_, k1⟩ := fe_z.1 g
   subst hX
   exact ⟨scale_cn k1 hd.1, scale_cn k2 hd.2.1, scale_cn k3 hd.2.2⟩
 have ca : cv X.av (thr X d x y) := by
  unfold BX.Fo at fo
  unfold thr BX.av
  cases ho : X.o0 with
  | true =>
   refine ⟨?_, ?_, ?_⟩
   .exact ct.1.1
   .exact ct.1.2.1
   .exact ct.1.2.2
  | false =>
   rw [ho] at fo
   obtain ⟨g, k12⟩ := fe_z.1 fo
   obtain ⟨g, k11⟩ := fe_z.1 g
   obtain ⟨g, k10⟩ := fe_z.1 g
   obtain ⟨g, k9⟩ := fe_z.1 g
   obtain ⟨g, k8⟩ := fe_z.1 g
   obtain ⟨g, k7⟩ := fe_z.1 g
   obtain ⟨g, k6⟩ := fe_z.1 g
   obtain ⟨g, k5⟩ := fe_z.1 g
   obtain ⟨g, k4⟩ := fe_z.1 g
   obtain ⟨g, k3⟩ := fe_z.1 g
   obtain ⟨g, k2⟩ := fe_z.1 g
   obtain ⟨_, k1⟩ := fe_z.1 g
   have cg : cn X.w5.lo X.w5.hi (gr X x y) := by
    subst hX
    have a1 := sqr_cn k1 hx
    have a2 := sqr_cn k2 hy
    have a3 := add_cn k3 a1 a2
    have b1 := scale_cn k4 cn_1
    have b2 := scale_cn k5 a3
    have b3 := add_cn k6 b1 b2
    have b4 := scale_cn k7 b3
    exact scale_cn k8 b4
   have cx : cn X.m1.lo X.m1.hi (x * gr X x y) := by subst hX; exact mul_cn k9 hx cg
   have cy : cn X.m3.lo X.m3.hi (y * gr X x y) := by subst hX; exact mul_cn k11 hy cg
   cases hm : X.mir with
   | true =>
    have c0 := ct.1
    rw [hm] at c0
    refine ⟨?_, ?_, c0.2.2⟩
    .show cn X.m2.lo X.m2.hi _
     subst hX; exact add_cn k10 c0.1 cx
    .show cn X.m4.lo X.m4.hi _
     subst hX; exact add_cn k12 c0.2.1 cy
   | false =>
    have c0 := ct.1
    rw [hm] at c0
    refine ⟨?_, ?_, c0.2.2⟩
    .show cn X.m2.lo X.m2.hi _
     subst hX; exact add_cn k10 c0.1 cx
    .show cn X.m4.lo X.m4.hi _
     subst hX; exact add_cn k12 c0.2.1 cy
 have e1' : X.d1 = dotF vf0 X.av X.u := by show X.F.dt X.av X.u = _; rw [hF]; rfl
 have cd : cn X.d1.lo X.d1.hi ((thr X d x y).dot n) := by rw [e1'] at j1 ⊢; exact dot_cn j1 ca cu
 have sa : ab ((thr X d x y).dot n) 1048576 := by rw [e1'] at j1 cd; exact dot_bd j1 cd
 have e2' : X.mv1 = twoV vf0 X.u (lk X.d1.lo X.d1.hi) vf0.mu /\ X.mo1 = twoO vf0 X.u (lk X.d1.lo X.d1.hi) vf0.mu := by show X.F.mV X.u X.d1.lo X.d1.hi = _ /\ X.F.mO X.u X.d1.lo X.d1.hi = _; rw [hF]; exact ⟨rfl, rfl⟩
 have cm : cv X.mv1 (n.mul ((thr X d x y).dot n)) := by rw [e2'.1]; rw [e2'.2] at j2; exact vmul_cn j2 cu cd
 have e3' : X.bv = twoV vf0 X.av X.mv1 vf0.su /\ X.bo = twoO vf0 X.av X.mv1 vf0.su := by show X.F.bV X.av X.mv1 = _ /\ X.F.bO X.av X.mv1 = _; rw [hF]; exact ⟨rfl, rfl⟩
 have cb : cv X.bv (tan3 (thr X d x y) n) := by rw [e3'.1]; rw [e3'.2] at j3; exact vsub_cn j3 ca cm
 have c2 : cn X.d2.lo X.d2.hi ((tan3 (thr X d x y) n).dot (tan3 (thr X d x y) n)) := by rw [show X.d2 = dotF vf0 X.bv X.bv from by show X.F.dt X.bv X.bv = _; rw [hF]; rfl] at j4 ⊢; exact dot_cn j4 cb cb
 have ch : cn X.h.lo X.h.hi (1 - (tan3 (thr X d x y) n).dot (tan3 (thr X d x y) n)) := by rw [show X.h = subS 4294967296 4294967296 X.d2.lo X.d2.hi from by show X.F.su 4294967296 4294967296 X.d2.lo X.d2.hi = _; rw [hF]; rfl] at j5 ⊢; exact sub_cn j5 cn_1 c2
 have er : X.r.e = 0 /\ (X.fl = true -> X.r2.e = 0) := by
  unfold BX.Ff at ff
  cases hf : X.fl with
  | true => rw [hf] at ff; obtain ⟨g, k2⟩ := fe_z.1 ff; exact ⟨(fe_z.1 g).2, fun _ => k2⟩
  | false => rw [hf] at ff; exact ⟨(fe_z.1 ff).2, fun h => by cases h⟩
 obtain ⟨r, r0, cr, r1, r2⟩ : ∃ r : Rat, 0 <= r /\ cn X.r.lo X.r.hi r /\ r * r <= 1 - (tan3 (thr X d x y) n).dot (tan3 (thr X d x y) n) /\ (1 - (tan3 (thr X d x y) n).dot (tan3 (thr X d x y) n) - r * r) * (K : Rat) <= 1 := by
  have er := er.1
  rw [show X.r = sqrtS X.h.lo X.h.hi from by show X.F.rt X.h.lo X.h.hi = _; rw [hF]; rfl] at er ⊢
  exact sqrt_cn er ch K hK
 have cr2 : cn X.rl X.rh (bif X.fl then -r else r) := by
  unfold BX.rl BX.rh
  cases hf : X.fl with
  | true =>
   have := er.2 hf
   rw [show X.r2 = negS X.r.lo X.r.hi from by show X.F.ng X.r.lo X.r.hi = _; rw [hF]; rfl] at this ⊢
   exact neg_cn this cr
  | false => exact cr
 have cm2 : cv X.mv2 (n.mul (bif X.fl then -r else r)) := by
  have e2' : X.mv2 = twoV vf0 X.u (lk X.rl X.rh) vf0.mu /\ X.mo2 = twoO vf0 X.u (lk X.rl X.rh) vf0.mu := by show X.F.mV X.u X.rl X.rh = _ /\ X.F.mO X.u X.rl X.rh = _; rw [hF]; exact ⟨rfl, rfl⟩
  rw [e2'.1]; rw [e2'.2] at m1; exact vmul_cn m1 cu cr2
 have co : cv X.out ((tan3 (thr X d x y) n).add (n.mul (bif X.fl then -r else r))) := by
  have e3' : X.out = twoV vf0 X.bv X.mv2 vf0.ad /\ X.ao = twoO vf0 X.bv X.mv2 vf0.ad := by show X.F.aV X.bv X.mv2 = _ /\ X.F.aO X.bv X.mv2 = _; rw [hF]; exact ⟨rfl, rfl⟩
  rw [e3'.1]; rw [e3'.2] at m2; exact vadd_cn m2 cb cm2
 have ov : vv X.out := by
  have e3' : X.out = twoV vf0 X.bv X.mv2 vf0.ad /\ X.ao = twoO vf0 X.bv X.mv2 vf0.ad := by show X.F.aV X.bv X.mv2 = _ /\ X.F.aO X.bv X.mv2 = _; rw [hF]; exact ⟨rfl, rfl⟩
  rw [e3'.1] at co ⊢; rw [e3'.2] at m2; exact vadd_v m2 co
 refine ⟨r, ⟨kn, fun k => ?_, fun k => ?_, ka, sa, r0, r1, r2, co, ov⟩⟩
 .have := cast_le (show X.k.hi <= -1 by omega)
  push_cast at this
  exact Rat.le_trans ck.2 this
 .have := cast_le (show 1 <= X.k.lo by omega)
  push_cast at this
  exact Rat.le_trans this ck.1
end Go.Iv
namespace Go.Iv
open Go Go.Ar Go.Rd Go.Vc
def off (X : BX) (x : Rat) : Rat := x * (X.S.c : Rat) / ((1000000000 : Int) : Rat) * ((10000000 : Int) : Rat) / (X.b : Rat)
def idV (X : BX) (d : V3) (x y : Rat) : V3 := ⟨d.x / d.z - (bif X.bk then -off X x else off X x), d.y / d.z - (bif X.bk then -off X y else off X y), 1⟩
theorem ideal_0 {X : BX} (h : X.it.ok = true) : X.i1.e = 0 /\ X.i2.e = 0 /\ X.i3.e = 0 /\ X.i4.e = 0 /\ (X.bk = true -> X.i5.e = 0 /\ X.i6.e = 0) /\ X.i7.e = 0 /\ X.i8.e = 0 /\ X.i9.e = 0 /\ X.i10.e = 0 /\ X.io = 0 /\ (X.bk = true -> X.jo = 0) := by
 unfold IT.ok IT.p410 IT.p418 IT.p423 IT.p47 at h
 simp only [Bool.and_eq_true] at h
 obtain ⟨⟨⟨a1, a2⟩, a3, a4⟩, hb, ⟨⟨c1, c2⟩, c3, c4⟩, c5, hc⟩ := h
 have z : ∀ {e : Int}, (eb e).z = true -> e = 0 := fun k => beq_iff_eq.1 k
 refine ⟨z a1, z a2, z a3, z a4, fun k => ?_, z c1, z c2, z c3, z c4, z c5, fun k => ?_⟩
 .have hb : (bif X.bk then (eb X.i5.e).z && (eb X.i6.e).z else true) = true := hb
  rw [k] at hb
  simp only [cond_true, Bool.and_eq_true] at hb
  exact ⟨z hb.1, z hb.2⟩
 .have hc : (bif X.bk then (eb X.jo).z else true) = true := hc
  rw [k] at hc
  exact z hc
theorem ideal_cn {X : BX} (hF : X.F = bf0) (h : X.it.ok = true) {x y : Rat} {d : V3} (hd : cv X.w d) (hx : cn X.v.a X.v.b x) (hy : cn X.v.c X.v.d y) (K : Nat) (hK : 0 < K) :
  ((X.bk = true -> d.z * 4294967296 <= -1) /\ (X.bk = false -> 1 <= d.z * 4294967296)) /\ d.z ≠ 0 /\ ∃ s : Rat, 0 < s /\ s * s <= (idV X d x y).dot (idV X d x y) /\ ((idV X d x y).dot (idV X d x y) - s * s) * (K : Rat) <= 1 /\ cv X.iv (bif X.bk then ((idV X d x y).div s).neg else (idV X d x y).div s) /\ vv X.iv := by
 obtain ⟨e1, e2, e3, e4, e56, e7, e8, e9, e10, eo, ej⟩ := ideal_0 h
 have c1 : cn X.i1.lo X.i1.hi (x * (X.S.c : Rat) / ((1000000000 : Int) : Rat)) := by
  rw [show X.i1 = scaleS X.v.a X.v.b X.S.c 1000000000 from by show X.F.sc X.v.a X.v.b X.S.c 1000000000 = _; rw [hF]; rfl] at e1 ⊢
  exact scale_cn e1 hx
 have c2 : cn X.i2.lo X.i2.hi (off X x) := by
  rw [show X.i2 = scaleS X.i1.lo X.i1.hi 10000000 X.b from by show X.F.sc X.i1.lo X.i1.hi 10000000 X.b = _; rw [hF]; rfl] at e2 ⊢
  exact scale_cn e2 c1
 have c3 : cn X.i3.lo X.i3.hi (y * (X.S.c : Rat) / ((1000000000 : Int) : Rat)) := by
  rw [show X.i3 = scaleS X.v.c X.v.d X.S.c 1000000000 from by show X.F.sc X.v.c X.v.d X.S.c 1000000000 = _; rw [hF]; rfl] at e3 ⊢
  exact scale_cn e3 hy
 have c4 : cn X.i4.lo X.i4.hi (off X y) := by
  rw [show X.i4 = scaleS X.i3.lo X.i3.hi 10000000 X.b from by show X.F.sc X.i3.lo X.i3.hi 10000000 X.b = _; rw [hF]; rfl] at e4 ⊢
  exact scale_cn e4 c3
 have cx : cn X.xl X.xh (bif X.bk then -off X x else off X x) := by
  unfold BX.xl BX.xh
  cases hb : X.bk with
  | false => exact c2
  | true =>
   have e5 := (e56 hb).1
   rw [show X.i5 = negS X.i2.lo X.i2.hi from by show X.F.ng X.i2.lo X.i2.hi = _; rw [hF]; rfl] at e5 ⊢
   exact neg_cn e5 c2
 have cy : cn X.yl X.yh (bif X.bk then -off X y else off X y) := by
  unfold BX.yl BX.yh
  cases hb : X.bk with
  | false => exact c4
  | true =>
   have e6 := (e56 hb).2
   rw [show X.i6 = negS X.i4.lo X.i4.hi from by show X.F.ng X.i4.lo X.i4.hi = _; rw [hF]; rfl] at e6 ⊢
   exact neg_cn e6 c4
 obtain ⟨dz, c7⟩ : d.z ≠ 0 /\ cn X.i7.lo X.i7.hi (d.x / d.z) := by
  rw [show X.i7 = divS X.w.a X.w.b X.w.e X.w.f from by show X.F.di X.w.a X.w.b X.w.e X.w.f = _; rw [hF]; rfl] at e7 ⊢
  exact div_cn e7 hd.1 hd.2.2
 have c9 : cn X.i9.lo X.i9.hi (d.y / d.z) := by
  rw [show X.i9 = divS X.w.c X.w.d X.w.e X.w.f from by show X.F.di X.w.c X.w.d X.w.e X.w.f = _; rw [hF]; rfl] at e9 ⊢
  exact (div_cn e9 hd.2.1 hd.2.2).2
 have c8 : cn X.i8.lo X.i8.hi (d.x / d.z - (bif X.bk then -off X x else off X x)) := by
  rw [show X.i8 = subS X.i7.lo X.i7.hi X.xl X.xh from by show X.F.su X.i7.lo X.i7.hi X.xl X.xh = _; rw [hF]; rfl] at e8 ⊢
  exact sub_cn e8 c7 cx
 have c10 : cn X.i10.lo X.i10.hi (d.y / d.z - (bif X.bk then -off X y else off X y)) := by
  rw [show X.i10 = subS X.i9.lo X.i9.hi X.yl X.yh from by show X.F.su X.i9.lo X.i9.hi X.yl X.yh = _; rw [hF]; rfl] at e10 ⊢
  exact sub_cn e10 c9 cy
 have cw : cv X.iw (idV X d x y) := ⟨c8, c10, cn_1⟩
 have eu : X.iu = uV vf0 X.iw /\ X.io = uO vf0 X.iw := by show X.F.uV X.iw = _ /\ X.F.uO X.iw = _; rw [hF]; exact ⟨rfl, rfl⟩
 rw [eu.2] at eo
 obtain ⟨s, s0, s1, s2, cu⟩ := unit_cn eo cw K hK
 rw [<- eu.1] at cu
 have sgn : (X.bk = true -> d.z * 4294967296 <= -1) /\ (X.bk = false -> 1 <= d.z * 4294967296) := by
  have h7 := (show X.i7 = divS X.w.a X.w.b X.w.e X.w.f from by show X.F.di X.w.a X.w.b X.w.e X.w.f = _; rw [hF]; rfl)
  rw [h7] at e7
  have ns := (div_0 e7).2.1
  unfold BX.bk
  refine ⟨fun hb => ?_, fun hb => ?_⟩
  .have hb := of_decide_eq_true hb
   have := cast_le (show X.w.f <= -1 by omega)
   push_cast at this
   exact Rat.le_trans hd.2.2.2 this
  .have hb := of_decide_eq_false hb
   have hl := cn_le hd.2.2
   have := cast_le (show 1 <= X.w.e by omega)
   push_cast at this
   exact Rat.le_trans this hd.2.2.1
 refine ⟨sgn, dz, s, s0, s1, s2, ?_⟩
 have vu : vv X.iu := by rw [eu.1] at cu ⊢; exact unit_v eo cu
 unfold BX.iv
 cases hb : X.bk with
 | false => exact ⟨cu, vu⟩
 | true =>
  have ej := ej hb
  have ev : X.jv = gV vf0 X.iu /\ X.jo = gO vf0 X.iu := by show X.F.nV X.iu = _ /\ X.F.nO X.iu = _; rw [hF]; exact ⟨rfl, rfl⟩
  rw [ev.2] at ej
  show cv X.jv ((idV X d x y).div s).neg /\ vv X.jv
  rw [ev.1]
  exact ⟨vneg_cn ej cu, (vneg_v vu).2.2⟩
end Go.Iv
namespace Go.Iv
open Go Go.Ar Go.Rd Go.Vc
theorem ab_nn {x m : Rat} (h : ab x m) : 0 <= m := by obtain ⟨h1, h2⟩ := h; grind
theorem ab_mul {x y m n : Rat} (h : ab x m) (k : ab y n) : ab (x * y) (m * n) := by
 obtain ⟨h1, h2⟩ := h
 obtain ⟨k1, k2⟩ := k
 have a := Rat.mul_nonneg (a := m - x) (b := n + y) (by grind) (by grind)
 have b := Rat.mul_nonneg (a := m + x) (b := n - y) (by grind) (by grind)
 have c := Rat.mul_nonneg (a := m - x) (b := n - y) (by grind) (by grind)
 have d := Rat.mul_nonneg (a := m + x) (b := n + y) (by grind) (by grind)
 constructor <;> grind
theorem ab_add {x y m n : Rat} (h : ab x m) (k : ab y n) : ab (x + y) (m + n) := by
 obtain ⟨h1, h2⟩ := h
 obtain ⟨k1, k2⟩ := k
 constructor <;> grind
theorem ab_neg {x m : Rat} (h : ab x m) : ab (-x) m := by
 obtain ⟨h1, h2⟩ := h
 constructor <;> grind
theorem ab_mono {x m n : Rat} (h : ab x m) (k : m <= n) : ab x n := by
 obtain ⟨h1, h2⟩ := h
 constructor <;> grind
theorem sq_nn (x : Rat) : 0 <= x * x := by
 rcases le_tot 0 x with h | h
 .exact Rat.mul_nonneg h h
 .have := Rat.mul_nonneg (a := -x) (b := -x) (by grind) (by grind)
  grind
theorem ab_sq {x m : Rat} (hm : 0 <= m) (h : x * x <= m * m) : ab x m := by
 have a := lt_sq hm h
 have b := lt_sq (u := -x) hm (by grind)
 constructor <;> grind
theorem nrm {w : V3} {s t : Rat} (w1 : 1 / 2 <= w.dot w) (s0 : 0 < s) (s1 : s * s <= w.dot w) (s2 : w.dot w - s * s <= t) (t1 : t <= 1 / 4) : 1 <= (w.div s).dot (w.div s) /\ (w.div s).dot (w.div s) <= 1 + 4 * t := by
 have ss : 0 < s * s := Rat.mul_pos s0 s0
 have e : (w.div s).dot (w.div s) * (s * s) = w.dot w := by
  unfold V3.div V3.dot
  grind
 have t0 : 0 <= t := by grind
 have q : 1 / 4 <= s * s := by grind
 have p := mull q (c := 4 * t) (by grind)
 constructor
 .refine Rat.le_of_mul_le_mul_right (c := s * s) ?_ ss
  rw [e]; grind
 .refine Rat.le_of_mul_le_mul_right (c := s * s) ?_ ss
  rw [e]; grind
theorem unit_ab {n : V3} (h : n.dot n <= 4) : ab n.x 2 /\ ab n.y 2 /\ ab n.z 2 := by
 have a := sq_nn n.x
 have b := sq_nn n.y
 have c := sq_nn n.z
 unfold V3.dot at h
 refine ⟨ab_sq (by decide) (by grind), ab_sq (by decide) (by grind), ab_sq (by decide) (by grind)⟩
theorem near_sq {x y e : Rat} (h : 0 <= x * y) (k : ab (x * x - y * y) e) : (x - y) * (x - y) <= e := by
 have e0 := ab_nn k
 obtain ⟨k1, k2⟩ := k
 have a := Rat.mul_nonneg (a := e - (x * x - y * y)) (b := e + (x * x - y * y)) (by grind) (by grind)
 have b := Rat.mul_nonneg h (sq_nn (x - y))
 refine lt_sq e0 ?_
 grind
end Go.Iv
namespace Go.Iv
open Go Go.Ar Go.Rd Go.Vc
theorem ab_touch {a b c d : Int} {x y m : Rat} (h : cn a b x) (k : cn c d y) (n : ab (x - y) m) (hm : m * 4294967296 < 1) : a <= d /\ c <= b := by
 obtain ⟨n1, n2⟩ := n
 refine near_touch h k ?_ ?_
 .have := mulr n2 (c := 4294967296) (by decide)
  grind
 .have := mulr n1 (c := 4294967296) (by decide)
  grind
def tiny (t : Rat) : Prop := 0 <= t /\ t * 1606938044258990275541962092341162602522202993782792835301376 <= 1
theorem tiny_4 {t : Rat} (h : tiny t) : t <= 1 / 4 := by obtain ⟨a, b⟩ := h; grind
theorem root_near {κ ρ t : Rat} (h : 0 <= ρ * κ) (k : ab (ρ * ρ - κ * κ) (70368744177664 * t)) (ht : tiny t) : ab (ρ - κ) (1 / 151115727451828646838272) := by
 refine ab_sq (by grind) (Rat.le_trans (near_sq h k) ?_)
 obtain ⟨a, b⟩ := ht
 grind
theorem tan_dot (d n : V3) : (tan3 d n).dot (tan3 d n) = d.dot d - 2 * (d.dot n * d.dot n) + d.dot n * d.dot n * n.dot n := by
 unfold tan3 V3.mul V3.sub V3.dot
 grind
theorem keep_near {d n : V3} {ρ r t : Rat} (hN : 1 <= n.dot n /\ n.dot n <= 1 + 4 * t) (ht : tiny t) (dd : 1 <= d.dot d /\ d.dot d <= 1 + 4 * t) (ka : ab (d.dot n) 1048576) (r1 : r * r <= 1 - (tan3 d n).dot (tan3 d n)) (r2 : 1 - (tan3 d n).dot (tan3 d n) - r * r <= t) (hρ : ρ * ρ = r * r) (sg : 0 <= ρ * d.dot n) : ab (ρ - d.dot n) (1 / 151115727451828646838272) := by
 refine root_near sg ?_ ht
 have t0 := ht.1
 have aN : ab (1 - n.dot n) (4 * t) := ⟨by grind, by grind⟩
 have a1 := ab_mul (ab_mul ka ka) aN
 rw [tan_dot] at r1 r2
 obtain ⟨a2, a3⟩ := a1
 constructor <;> grind
theorem keep_out (d n : V3) (ρ : Rat) : ((tan3 d n).add (n.mul ρ)).x = d.x + n.x * (ρ - d.dot n) /\ ((tan3 d n).add (n.mul ρ)).y = d.y + n.y * (ρ - d.dot n) /\ ((tan3 d n).add (n.mul ρ)).z = d.z + n.z * (ρ - d.dot n) := by
 unfold tan3 V3.add V3.mul V3.sub V3.dot
 refine ⟨?_, ?_, ?_⟩ <;> grind
def tch (v w : Ve) : Prop := (v.a <= w.b /\ w.a <= v.b) /\ (v.c <= w.d /\ w.c <= v.d) /\ (v.e <= w.f /\ w.e <= v.f)
theorem keep_tch {v w : Ve} {d n : V3} {ρ t : Rat} (hv : cv v ((tan3 d n).add (n.mul ρ))) (hw : cv w d) (hN : 1 <= n.dot n /\ n.dot n <= 1 + 4 * t) (ht : tiny t) (h : ab (ρ - d.dot n) (1 / 151115727451828646838272)) : tch v w := by
 obtain ⟨x, y, z⟩ := unit_ab (n := n) (by have := tiny_4 ht; grind)
 obtain ⟨ex, ey, ez⟩ := keep_out d n ρ
 refine ⟨ab_touch hv.1 hw.1 (m := 2 * (1 / 151115727451828646838272)) ?_ (by grind), ab_touch hv.2.1 hw.2.1 (m := 2 * (1 / 151115727451828646838272)) ?_ (by grind), ab_touch hv.2.2 hw.2.2 (m := 2 * (1 / 151115727451828646838272)) ?_ (by grind)⟩
 .rw [ex]; have := ab_mul x h; obtain ⟨a, b⟩ := this; constructor <;> grind
 .rw [ey]; have := ab_mul y h; obtain ⟨a, b⟩ := this; constructor <;> grind
 .rw [ez]; have := ab_mul z h; obtain ⟨a, b⟩ := this; constructor <;> grind
theorem mirror_near {d n : V3} {ρ t : Rat} (hN : 1 <= n.dot n /\ n.dot n <= 1 + 4 * t) (ht : tiny t) (ka : ab (d.dot n) 1048576) (aρ : ab ρ 1) (h : ab (-ρ - d.dot n) (1 / 151115727451828646838272)) : ab (d.dot n - -(((tan3 d n).add (n.mul ρ)).dot n)) (1 / 37778931862957161709568) := by
 have t0 := ht.1
 have t2 := ht.2
 have aN : ab (1 - n.dot n) (4 * t) := ⟨by grind, by grind⟩
 have a1 := ab_mul ka aN
 have a2 := ab_mul aρ aN
 have e : ((tan3 d n).add (n.mul ρ)).dot n = d.dot n * (1 - n.dot n) + ρ * n.dot n := by
  unfold tan3 V3.add V3.mul V3.sub V3.dot
  grind
 rw [e]
 obtain ⟨a3, a4⟩ := a1
 obtain ⟨a5, a6⟩ := a2
 obtain ⟨a7, a8⟩ := h
 constructor <;> grind
theorem back_tan {d n : V3} {c k ρ : Rat} (cc : c * k = 1) : tan3 ((((tan3 (d.mul c) n).add (n.mul ρ)).neg).mul k) n = ⟨-(d.x - n.x * d.dot n) - n.x * (k * (1 - n.dot n) * (ρ - c * d.dot n)), -(d.y - n.y * d.dot n) - n.y * (k * (1 - n.dot n) * (ρ - c * d.dot n)), -(d.z - n.z * d.dot n) - n.z * (k * (1 - n.dot n) * (ρ - c * d.dot n))⟩ := by
 unfold tan3 V3.add V3.mul V3.sub V3.neg V3.dot
 simp only [V3.mk.injEq]
 refine ⟨?_, ?_, ?_⟩ <;> grind
theorem back_near {d n : V3} {c k ρ ρ' r' t : Rat} (cc : c * k = 1) (ak : ab k 4) (hN : 1 <= n.dot n /\ n.dot n <= 1 + 4 * t) (ht : tiny t) (dd : 1 <= d.dot d /\ d.dot d <= 1 + 4 * t) (ka : ab (d.dot n) 1048576) (sa : ab (c * d.dot n) 1048576) (aρ : ab ρ 1)
  (r1 : r' * r' <= 1 - (tan3 ((((tan3 (d.mul c) n).add (n.mul ρ)).neg).mul k) n).dot (tan3 ((((tan3 (d.mul c) n).add (n.mul ρ)).neg).mul k) n)) (r2 : 1 - (tan3 ((((tan3 (d.mul c) n).add (n.mul ρ)).neg).mul k) n).dot (tan3 ((((tan3 (d.mul c) n).add (n.mul ρ)).neg).mul k) n) - r' * r' <= t) (hρ : ρ' * ρ' = r' * r') (sg : 0 <= ρ' * -d.dot n) :
  ab (ρ' - -d.dot n) (1 / 151115727451828646838272) /\ ab (k * (1 - n.dot n) * (ρ - c * d.dot n)) (33554432 * t) := by
 have t0 := ht.1
 have t2 := ht.2
 have aN : ab (1 - n.dot n) (4 * t) := ⟨by grind, by grind⟩
 have ae : ab (k * (1 - n.dot n) * (ρ - c * d.dot n)) (33554432 * t) := by
  have p := ab_mul (ab_mul ak aN) (ab_add aρ (ab_neg sa))
  obtain ⟨p1, p2⟩ := p
  constructor <;> grind
 refine ⟨root_near sg ?_ ht, ae⟩
 rw [back_tan cc] at r1 r2
 generalize k * (1 - n.dot n) * (ρ - c * d.dot n) = e at *
 have ae1 : ab e 1 := ab_mono ae (by grind)
 have ed : V3.dot ⟨-(d.x - n.x * d.dot n) - n.x * e, -(d.y - n.y * d.dot n) - n.y * e, -(d.z - n.z * d.dot n) - n.z * e⟩ ⟨-(d.x - n.x * d.dot n) - n.x * e, -(d.y - n.y * d.dot n) - n.y * e, -(d.z - n.z * d.dot n) - n.z * e⟩ = d.dot d - 2 * (d.dot n * d.dot n) + d.dot n * d.dot n * n.dot n + 2 * (e * (d.dot n * (1 - n.dot n))) + e * e * n.dot n := by
  unfold V3.dot
  grind
 rw [ed] at r1 r2
 have a1 := ab_mul (ab_mul ka ka) aN
 have a2 := ab_mul ae1 (ab_mul ka aN)
 have a3 := ab_mul ae1 ae
 have a4 := ab_mul a3 aN
 obtain ⟨p1, p2⟩ := a1
 obtain ⟨p3, p4⟩ := a2
 obtain ⟨p5, p6⟩ := a3
 obtain ⟨p7, p8⟩ := a4
 generalize e * (d.dot n * (1 - n.dot n)) = ee at *
 have e4 : e * e * n.dot n = e * e - e * e * (1 - n.dot n) := by grind
 rw [e4] at r1 r2
 have e5 : d.dot n * d.dot n * n.dot n = d.dot n * d.dot n - d.dot n * d.dot n * (1 - n.dot n) := by grind
 rw [e5] at r1 r2
 generalize d.dot n * d.dot n * (1 - n.dot n) = q1 at *
 generalize e * e * (1 - n.dot n) = q2 at *
 have tt := mulr (tiny_4 ht) t0
 constructor <;> grind
theorem back_tch {v w : Ve} {d n : V3} {c k ρ ρ' t : Rat} (cc : c * k = 1) (hv : cv v ((tan3 ((((tan3 (d.mul c) n).add (n.mul ρ)).neg).mul k) n).add (n.mul ρ'))) (hw : cv w d.neg) (hN : 1 <= n.dot n /\ n.dot n <= 1 + 4 * t) (ht : tiny t) (h : ab (ρ' - -d.dot n) (1 / 151115727451828646838272)) (he : ab (k * (1 - n.dot n) * (ρ - c * d.dot n)) (33554432 * t)) : tch v w := by
 obtain ⟨x, y, z⟩ := unit_ab (n := n) (by have := tiny_4 ht; grind)
 rw [back_tan cc] at hv
 generalize k * (1 - n.dot n) * (ρ - c * d.dot n) = e at *
 have h2 : ab (ρ' - -d.dot n - e) (1 / 75557863725914323419136) := by
  obtain ⟨h1, h2⟩ := h
  obtain ⟨h3, h4⟩ := he
  obtain ⟨t0, t2⟩ := ht
  constructor <;> grind
 refine ⟨ab_touch hv.1 hw.1 (m := 2 * (1 / 75557863725914323419136)) ?_ (by grind), ab_touch hv.2.1 hw.2.1 (m := 2 * (1 / 75557863725914323419136)) ?_ (by grind), ab_touch hv.2.2 hw.2.2 (m := 2 * (1 / 75557863725914323419136)) ?_ (by grind)⟩
 .have := ab_mul x h2; obtain ⟨a, b⟩ := this
  show ab (-(d.x - n.x * d.dot n) - n.x * e + n.x * ρ' - -d.x) _
  constructor <;> grind
 .have := ab_mul y h2; obtain ⟨a, b⟩ := this
  show ab (-(d.y - n.y * d.dot n) - n.y * e + n.y * ρ' - -d.y) _
  constructor <;> grind
 .have := ab_mul z h2; obtain ⟨a, b⟩ := this
  show ab (-(d.z - n.z * d.dot n) - n.z * e + n.z * ρ' - -d.z) _
  constructor <;> grind
theorem back_sign {d n : V3} {c ρ t : Rat} (hN : 1 <= n.dot n /\ n.dot n <= 1 + 4 * t) (ht : tiny t) (sa : ab (c * d.dot n) 1048576) : (ρ <= 0 -> ¬ (((tan3 (d.mul c) n).add (n.mul ρ)).neg.dot n * 4294967296 <= -1)) /\ (0 <= ρ -> ¬ (1 <= ((tan3 (d.mul c) n).add (n.mul ρ)).neg.dot n * 4294967296)) := by
 have t0 := ht.1
 have t2 := ht.2
 have aN : ab (1 - n.dot n) (4 * t) := ⟨by grind, by grind⟩
 have e : ((tan3 (d.mul c) n).add (n.mul ρ)).neg.dot n = -(c * d.dot n * (1 - n.dot n)) - ρ * n.dot n := by
  unfold tan3 V3.add V3.mul V3.sub V3.neg V3.dot
  grind
 rw [e]
 have a1 := ab_mul sa aN
 obtain ⟨p1, p2⟩ := a1
 constructor
 .intro h
  have := Rat.mul_nonneg (a := -ρ) (b := n.dot n) (by grind) (by grind)
  grind
 .intro h
  have := Rat.mul_nonneg (a := ρ) (b := n.dot n) (by grind) (by grind)
  grind
end Go.Iv
namespace Go.Iv
open Go Go.Ar Go.Rd Go.Vc
structure ThR (t : Th) : Prop where
 a : -32768 <= t.a /\ t.a <= 32767
 b : -32768 <= t.b /\ t.b <= 32767
 c : -32768 <= t.c /\ t.c <= 32767
 d : -32768 <= t.d /\ t.d <= 32767
 e : -32768 <= t.e /\ t.e <= 32767
 w : 0 <= t.w /\ t.w <= 255
theorem bif_same {α : Type} (b : Bool) (x : α) : (bif b then x else x) = x := by cases b <;> rfl
theorem lwi {x : Int} (h : -9000000000000000000 <= x /\ x <= 9000000000000000000) : lw x = x := i64w (by omega) (by omega)
theorem l24_e : l24 = 16777216 := by decide
theorem l16_e : l16 = 65536 := by decide
theorem wd_e {t : Th} (h : ThR t) : t.wd = t.w % 4 /\ 0 <= t.wd /\ t.wd <= 3 := by
 have hw := h.w
 have e : t.wd = t.w % 4 := by
  unfold Th.wd
  rw [Int.tmod_eq_emod_of_nonneg hw.1]
  exact lwi (by omega)
 rw [e]; omega
theorem dL_e {x : Int} (h : -32768 <= x /\ x <= 32767) : dL x = x * 65536 := by
 unfold dL
 rw [lwi (x := x) (by omega), l16_e]
 exact lwi (by omega)
theorem pL_e {x : Int} (h : -32768 <= x /\ x <= 32767) : pL x = x * 16777216 := by
 unfold pL
 rw [lwi (x := x) (by omega), l24_e]
 exact lwi (by omega)
theorem dH_e {t : Th} (r : ThR t) {x : Int} (h : -32768 <= x /\ x <= 32767) : dH t x = x * 65536 + t.wd := by
 have := wd_e r
 unfold dH
 rw [dL_e h]
 exact lwi (by omega)
theorem pH_e {t : Th} (r : ThR t) {x i : Int} (h : -32768 <= x /\ x <= 32767) (hi : i = 0 ∨ i = 1) : pH t x i = x * 16777216 + t.wd * i := by
 have := wd_e r
 have k : lw (t.wd * i) = t.wd * i := lwi (by rcases hi with e | e <;> rw [e] <;> omega)
 unfold pH
 rw [pL_e h, k]
 exact lwi (by rcases hi with e | e <;> rw [e] <;> omega)
theorem at_v {t : Th} (r : ThR t) : vv (atV t) := by
 have := wd_e r
 have h1 := r.a; have h2 := r.b; have h3 := r.c
 unfold atV vv
 simp only [bif_same, pL_e r.a, pL_e r.b, pL_e r.c, pH_e r r.a (.inl rfl), pH_e r r.b (.inr rfl), pH_e r r.c (.inl rfl), okSp_iff]
 omega
theorem dir_e {t : Th} (r : ThR t) : dirV t = ⟨t.d * 65536, t.d * 65536 + t.wd, t.e * 65536, t.e * 65536 + t.wd, bif t.k then -4294967296 else 4294967296 - t.wd, bif t.k then -4294967296 + t.wd else 4294967296⟩ := by
 have := wd_e r
 unfold dirV
 rw [lwi (x := 4294967296 - t.wd) (by omega), lwi (x := -4294967296 + t.wd) (by omega)]
 simp only [bif_same, dL_e r.d, dL_e r.e, dH_e r r.d, dH_e r r.e]
theorem dir_v {t : Th} (r : ThR t) : vv (dirV t) := by
 have := wd_e r
 have h1 := r.d; have h2 := r.e
 rw [dir_e r]
 unfold vv
 simp only [okSp_iff]
 cases t.k <;> simp only [cond_true, cond_false] <;> omega
theorem told_0 {lo hi : Int} (h : -4503599627370496 <= lo /\ lo <= 4503599627370496) (k : -4503599627370496 <= hi /\ hi <= 4503599627370496) : (toldS lo hi).e = 0 := by
 rw [told_of (by omega) (by omega) (by omega) (by omega)]
theorem sqr_small {a b M m : Int} (ho : okSp a b = true) (ha : -M <= a) (hb : b <= M) (hm : M * M <= m * 4294967296) (h0 : 0 <= m) (h1 : m <= 4503599627370496) : (sqrS a b).e = 0 /\ 0 <= (sqrS a b).lo /\ (sqrS a b).lo <= m /\ 0 <= (sqrS a b).hi /\ (sqrS a b).hi <= m := by
 have hab := (okSp_iff.1 ho).2.1
 have L0 : 0 <= abL a b := (le_mx (mx a (-b)) 0).2.1
 have L1 : abL a b <= M := by unfold abL; have p := le_mx a (-b); have q := le_mx (mx a (-b)) 0; omega
 have H0 : 0 <= abH a b := by unfold abH; have p := le_mx b (-a); omega
 have H1 : abH a b <= M := by unfold abH; have p := le_mx b (-a); omega
 have LL : abL a b * abL a b <= m * 4294967296 := Int.le_trans (Int.mul_le_mul L1 L1 L0 (by omega)) hm
 have HH : abH a b * abH a b <= m * 4294967296 := Int.le_trans (Int.mul_le_mul H1 H1 H0 (by omega)) hm
 have l0 : 0 <= rd (abL a b * abL a b) 4294967296 false := (rd_ge_iff two32).2 (by have := Int.mul_nonneg L0 L0; omega)
 have l1 : rd (abL a b * abL a b) 4294967296 false <= m := Int.le_trans (rd_le _ _ two32) ((rd_le_iff two32).2 LL)
 have h2 : 0 <= rd (abH a b * abH a b) 4294967296 true := Int.le_trans ((rd_ge_iff two32).2 (by have := Int.mul_nonneg H0 H0; omega)) (rd_le _ _ two32)
 have h3 : rd (abH a b * abH a b) 4294967296 true <= m := (rd_le_iff two32).2 HH
 unfold sqrS
 rw [ho]
 show (toldS _ _).e = 0 /\ 0 <= (toldS _ _).lo /\ (toldS _ _).lo <= m /\ 0 <= (toldS _ _).hi /\ (toldS _ _).hi <= m
 rw [told_of (by omega) (by omega) (by omega) (by omega)]
 exact ⟨rfl, l0, l1, h2, h3⟩
theorem add_small {a b c d : Int} (h1 : okSp a b = true) (h2 : okSp c d = true) (k1 : -4503599627370496 <= a + c) (k2 : b + d <= 4503599627370496) : addS a b c d = ⟨a + c, b + d, 0⟩ := by
 have p := okSp_iff.1 h1
 have q := okSp_iff.1 h2
 unfold addS
 rw [both_of h1 h2, told_of (by omega) (by omega) (by omega) (by omega)]
theorem dF_small {x y : Int} {up : Bool} (hy : 2147483648 <= y) (hx : -4294967296 <= x /\ x <= 4294967296) : -8589934592 <= dF x y up /\ dF x y up <= 8589934592 := by
 have hd : 0 < y := by omega
 unfold dF sg
 rw [decide_eq_false (show ¬ y < 0 by omega)]
 show -8589934592 <= rd (x * 4294967296) y up /\ rd (x * 4294967296) y up <= 8589934592
 have a : -8589934592 <= rd (x * 4294967296) y false := (rd_ge_iff hd).2 (by omega)
 have b : rd (x * 4294967296) y true <= 8589934592 := (rd_le_iff hd).2 (by omega)
 have c := rd_le (x * 4294967296) y hd
 cases up <;> omega
theorem div_small {a b c d : Int} (h1 : okSp a b = true) (h2 : okSp c d = true) (hc : 2147483648 <= c) (ha : -4294967296 <= a) (hb : b <= 4294967296) : (divS a b c d).e = 0 := by
 have p := okSp_iff.1 h1
 have q := okSp_iff.1 h2
 unfold divS
 rw [both_of h1 h2, decide_eq_false (show ¬ c <= 0 by omega)]
 show (hull4 dF a b c d).e = 0
 unfold hull4
 have f := fun (x y : Int) (up : Bool) => @dF_small x y up
 have m1 := f a c false (by omega) (by omega)
 have m2 := f a d false (by omega) (by omega)
 have m3 := f b c false (by omega) (by omega)
 have m4 := f b d false (by omega) (by omega)
 have n1 := f a c true (by omega) (by omega)
 have n2 := f a d true (by omega) (by omega)
 have n3 := f b c true (by omega) (by omega)
 have n4 := f b d true (by omega) (by omega)
 refine told_0 ?_ ?_
 .generalize dF a c false = u1 at *; generalize dF a d false = u2 at *; generalize dF b c false = u3 at *; generalize dF b d false = u4 at *
  have t1 := mn_le u1 u2
  have t2 := mn_le (mn u1 u2) u3
  have t3 := mn_le (mn (mn u1 u2) u3) u4
  omega
 .generalize dF a c true = u1 at *; generalize dF a d true = u2 at *; generalize dF b c true = u3 at *; generalize dF b d true = u4 at *
  have t1 := le_mx u1 u2
  have t2 := le_mx (mx u1 u2) u3
  have t3 := le_mx (mx (mx u1 u2) u3) u4
  omega
theorem dir_u {t : Th} (r : ThR t) : uO vf0 (dirV t) = 0 := by
 have hv := dir_v r
 have hw := wd_e r
 have h1 := r.d; have h2 := r.e
 have e0 := dir_e r
 generalize dirV t = v at *
 obtain ⟨v1, v2, v3⟩ := hv
 have s1 := sqr_small (M := 2147483651) (m := 1073741828) v1 (by rw [e0]; show _ <= t.d * 65536; omega) (by rw [e0]; show t.d * 65536 + t.wd <= _; omega) (by decide) (by decide) (by decide)
 have s2 := sqr_small (M := 2147483651) (m := 1073741828) v2 (by rw [e0]; show _ <= t.e * 65536; omega) (by rw [e0]; show t.e * 65536 + t.wd <= _; omega) (by decide) (by decide) (by decide)
 have s3 := sqr_small (M := 4294967296) (m := 4294967296) v3 (by rw [e0]; show _ <= (bif t.k then -4294967296 else 4294967296 - t.wd); cases t.k <;> simp only [cond_true, cond_false] <;> omega) (by rw [e0]; show (bif t.k then -4294967296 + t.wd else 4294967296) <= _; cases t.k <;> simp only [cond_true, cond_false] <;> omega) (by decide) (by decide) (by decide)
 have L : 4294967290 <= (sqrS v.e v.f).lo := by
  have e1 := (sqr_0 s3.1).2
  rw [e1]
  refine (rd_ge_iff two32).2 ?_
  have : 4294967293 <= abL v.e v.f := by
   unfold abL
   have p := le_mx v.e (-v.f)
   have q := le_mx (mx v.e (-v.f)) 0
   have : 4294967293 <= v.e ∨ 4294967293 <= -v.f := by
    rw [e0]
    show 4294967293 <= (bif t.k then -4294967296 else 4294967296 - t.wd) ∨ 4294967293 <= -(bif t.k then -4294967296 + t.wd else 4294967296)
    cases t.k <;> simp only [cond_true, cond_false] <;> omega
   omega
  have := Int.mul_le_mul this this (by decide) (by omega)
  omega
 have o1 : okSp (sqrS v.a v.b).lo (sqrS v.a v.b).hi = true := (r_sqr (s := ⟨v.a, v.b, 0⟩) (Ri.of v1) s1.1).ok
 have o2 : okSp (sqrS v.c v.d).lo (sqrS v.c v.d).hi = true := (r_sqr (s := ⟨v.c, v.d, 0⟩) (Ri.of v2) s2.1).ok
 have o3 : okSp (sqrS v.e v.f).lo (sqrS v.e v.f).hi = true := (r_sqr (s := ⟨v.e, v.f, 0⟩) (Ri.of v3) s3.1).ok
 have a1 : nA vf0 v = ⟨(sqrS v.a v.b).lo + (sqrS v.c v.d).lo, (sqrS v.a v.b).hi + (sqrS v.c v.d).hi, 0⟩ := (show nA vf0 v = addS (sqrS v.a v.b).lo (sqrS v.a v.b).hi (sqrS v.c v.d).lo (sqrS v.c v.d).hi from rfl).trans (add_small o1 o2 (by omega) (by omega))
 have p1 := okSp_iff.1 o1; have p2 := okSp_iff.1 o2; have p3 := okSp_iff.1 o3
 have al : (nA vf0 v).lo = (sqrS v.a v.b).lo + (sqrS v.c v.d).lo := congrArg Sp.lo a1
 have ah : (nA vf0 v).hi = (sqrS v.a v.b).hi + (sqrS v.c v.d).hi := congrArg Sp.hi a1
 have oA : okSp (nA vf0 v).lo (nA vf0 v).hi = true := okSp_iff.2 ⟨by omega, by omega, by omega⟩
 have a2 : nB vf0 v = ⟨(nA vf0 v).lo + (sqrS v.e v.f).lo, (nA vf0 v).hi + (sqrS v.e v.f).hi, 0⟩ := (show nB vf0 v = addS (nA vf0 v).lo (nA vf0 v).hi (sqrS v.e v.f).lo (sqrS v.e v.f).hi from rfl).trans (add_small oA o3 (by omega) (by omega))
 have bl' : (nB vf0 v).lo = (nA vf0 v).lo + (sqrS v.e v.f).lo := congrArg Sp.lo a2
 have bh' : (nB vf0 v).hi = (nA vf0 v).hi + (sqrS v.e v.f).hi := congrArg Sp.hi a2
 have bl : 4294967290 <= (nB vf0 v).lo := by omega
 have bh : (nB vf0 v).hi <= 6442450952 := by omega
 have bb : (nB vf0 v).lo <= (nB vf0 v).hi := by omega
 have oB : okSp (nB vf0 v).lo (nB vf0 v).hi = true := okSp_iff.2 ⟨by omega, bb, by omega⟩
 have eR : nR vf0 v = ⟨rtV (nB vf0 v).lo false, rtV (nB vf0 v).hi true, 0⟩ := by
  show sqrtS (nB vf0 v).lo (nB vf0 v).hi = _
  unfold sqrtS
  rw [oB, decide_eq_false (show ¬ (nB vf0 v).lo < 0 by omega)]
  rfl
 have q1 : sqOk (nB vf0 v).lo = true := by unfold sqOk okF; simp only [Bool.and_eq_true, decide_eq_true_eq]; omega
 have q2 : sqOk (nB vf0 v).hi = true := by unfold sqOk okF; simp only [Bool.and_eq_true, decide_eq_true_eq]; omega
 have rl : 2147483648 <= (nR vf0 v).lo := by
  rw [eR]
  show 2147483648 <= sqR (nB vf0 v).lo
  obtain ⟨g0, _, g2, _⟩ := sqR_spec q1
  rcases Int.lt_or_le (sqR (nB vf0 v).lo) 2147483648 with h | h
  .exfalso
   have := Int.mul_le_mul (show sqR (nB vf0 v).lo + 1 <= 2147483648 by omega) (show sqR (nB vf0 v).lo + 1 <= 2147483648 by omega) (by omega) (by decide)
   omega
  .exact h
 have oR : okSp (nR vf0 v).lo (nR vf0 v).hi = true := by
  have l := (rtV_range q1 false)
  have h := (rtV_range q2 true)
  have hle : (nR vf0 v).lo <= (nR vf0 v).hi := by
   obtain ⟨s, _, sc, _⟩ := sqrt_cn (a := (nB vf0 v).lo) (b := (nB vf0 v).hi) (x := ((nB vf0 v).lo : Rat) / 4294967296) (by show (nR vf0 v).e = 0; rw [eR]) (cn_mono (cn_pt _) (Int.le_refl _) bb) 1 (by decide)
   exact cn_le sc
  refine okSp_iff.2 ⟨by omega, hle, ?_⟩
  rw [eR]
  show rtV (nB vf0 v).hi true <= _
  exact Int.le_trans h.2 (by decide)
 have d1 : (nD1 vf0 v).e = 0 := div_small v1 oR rl (by rw [e0]; show _ <= t.d * 65536; omega) (by rw [e0]; show t.d * 65536 + t.wd <= _; omega)
 have d2 : (nD2 vf0 v).e = 0 := div_small v2 oR rl (by rw [e0]; show _ <= t.e * 65536; omega) (by rw [e0]; show t.e * 65536 + t.wd <= _; omega)
 have d3 : (nD3 vf0 v).e = 0 := div_small v3 oR rl (by rw [e0]; show _ <= (bif t.k then -4294967296 else 4294967296 - t.wd); cases t.k <;> simp only [cond_true, cond_false] <;> omega) (by rw [e0]; show (bif t.k then -4294967296 + t.wd else 4294967296) <= _; cases t.k <;> simp only [cond_true, cond_false] <;> omega)
 have c0 : vC0 vf0 v = 0 := by
  rw [vC0_eq vf0_law]
  have : wOk vf0 v = false := by
   show (!bif okSp v.a v.b then bif okSp v.c v.d then okSp v.e v.f else false else false) = false
   rw [v1, v2, v3]; rfl
  rw [this]; rfl
 have eE : uE vf0 v = 0 := by
  unfold uE
  have z : ∀ x y : Int, x = 0 -> y = 0 -> fe x y = 0 := fun x y hx hy => fe_z.2 ⟨hx, hy⟩
  exact z _ _ (z _ _ (z _ _ (z _ _ (z _ _ (z _ _ (z _ _ (z _ _ (z _ _ c0 s1.1) s2.1) s3.1) (by rw [a1])) (by rw [a2])) (by rw [eR])) d1) d2) d3
 unfold uO
 rw [eE]
 rfl
end Go.Iv
namespace Go.Iv
open Go Go.Ar Go.Rd Go.Vc
noncomputable def bAn : BA := fun s ys a b l v w => BX.ans ⟨bf0, s, ys, a, b, l, v, w⟩ (rightS s ys)
noncomputable def nf1 : NF := ⟨fun s ys => bif rightS s ys then 0 else 110, rightS, vC0 vf0, slpB, uV vf0, uO vf0, negS, chkS⟩
noncomputable def nAn : Su -> List Int -> Ve -> BO := fun s ys v => ⟨Vc.pV nf1 s ys v, pC nf1 s ys v, pE nf1 s ys v⟩
structure Good (X : BX) : Prop where
 hF : X.F = bf0
 hR : rightS X.S X.ys = true
 bi : X.bi = false
 v : vv X.v
 w : vv X.w
theorem vC0_0 {v : Ve} (h : vv v) : vC0 vf0 v = 0 := by
 obtain ⟨h1, h2, h3⟩ := h
 rw [vC0_eq vf0_law]
 have : wOk vf0 v = false := by
  show (!bif okSp v.a v.b then bif okSp v.c v.d then okSp v.e v.f else false else false) = false
  rw [h1, h2, h3]; rfl
 rw [this]; rfl
theorem Good.vz {X : BX} (G : Good X) : X.vz = true := by
 unfold BX.vz
 rw [G.hF]
 show (!(vC0 vf0 X.v != 0) && !(vC0 vf0 X.w != 0)) = true
 rw [vC0_0 G.v, vC0_0 G.w]
 rfl
theorem Good.fr {X : BX} (G : Good X) (x y z : Int) : X.fr x y z = z := by
 unfold BX.fr
 rw [G.bi, G.vz]; rfl
theorem Good.cz {X : BX} (G : Good X) (f : Int -> Int) (v : Ve) : cz (fun z => X.fr 0 0 (f z)) v = cz f v := by
 unfold Go.Vc.cz
 simp only [G.fr]
theorem pc_z {B : BT} (h : B.pc 9 9 9 0 = 0) (x y z w : Int) : B.pc x y z w = w := by
 unfold BT.pc at h ⊢
 cases h1 : B.g2 with
 | true => rw [h1] at h; cases h
 | false =>
  cases h2 : B.g5 with
  | true => rw [h1, h2] at h; cases h
  | false =>
   cases h3 : B.g3 with
   | true => rw [h1, h2, h3] at h; cases h
   | false => rfl
theorem ans_1 {X : BX} (G : Good X) (hk : X.S.kd = 1 ∨ X.S.kd = 2) : X.ans true = X.an1 := by
 unfold BX.ans
 rcases hk with h | h <;> rw [h] <;> rfl
theorem ans_e {X : BX} (G : Good X) : (X.ans true).e = 0 ∨ (X.ans true).e = 9 /\ (X.ans true).c ≠ 0 := by
 rcases right_kd G.hR with h | h | h | h
 .rw [ans_1 G (.inl h)]
  show X.fr 2 X.er (X.bt.pc 9 9 9 0) = 0 ∨ X.fr 2 X.er (X.bt.pc 9 9 9 0) = 9 /\ X.fr 0 0 (X.bt.pc 2 5 3 0) ≠ 0
  rw [G.fr, G.fr, X.bt.oc_eq.1, X.bt.oc_eq.2.1]
  cases k : X.bt.oc != 0 with
  | true => exact .inr ⟨rfl, by simpa using k⟩
  | false => exact .inl rfl
 .rw [ans_1 G (.inr h)]
  show X.fr 2 X.er (X.bt.pc 9 9 9 0) = 0 ∨ X.fr 2 X.er (X.bt.pc 9 9 9 0) = 9 /\ X.fr 0 0 (X.bt.pc 2 5 3 0) ≠ 0
  rw [G.fr, G.fr, X.bt.oc_eq.1, X.bt.oc_eq.2.1]
  cases k : X.bt.oc != 0 with
  | true => exact .inr ⟨rfl, by simpa using k⟩
  | false => exact .inl rfl
 .left
  unfold BX.ans
  rw [h]
  show X.fr 2 X.er 0 = 0
  exact G.fr _ _ _
 .unfold BX.ans
  rw [h]
  show X.fr 2 X.er (bif X.it.ok then 0 else 9) = 0 ∨ X.fr 2 X.er (bif X.it.ok then 0 else 9) = 9 /\ X.fr 0 0 (bif X.it.ok then 0 else bif X.it.g5 then 5 else 2) ≠ 0
  rw [G.fr, G.fr]
  cases X.it.ok with
  | true => exact .inl rfl
  | false => exact .inr ⟨rfl, by cases X.it.g5 <;> decide⟩
theorem ans_bent {X : BX} (G : Good X) (hk : X.S.kd = 1 ∨ X.S.kd = 2) (h : (X.ans true).e = 0) : X.bt.pc 9 9 9 0 = 0 /\ (X.ans true).v = X.out := by
 rw [ans_1 G hk] at h ⊢
 have h : X.fr 2 X.er (X.bt.pc 9 9 9 0) = 0 := h
 rw [G.fr] at h
 refine ⟨h, ?_⟩
 show cz (fun z => X.fr 0 0 (X.bt.pc 0 0 0 z)) X.out = X.out
 rw [G.cz]
 unfold cz
 simp only [pc_z h]
theorem ans_ideal {X : BX} (G : Good X) (hk : X.S.kd = 4) (h : (X.ans true).e = 0) : X.it.ok = true /\ (X.ans true).v = X.iv := by
 have e : X.ans true = X.an4 := by unfold BX.ans; rw [hk]; rfl
 rw [e] at h ⊢
 have h : X.fr 2 X.er (bif X.it.ok then 0 else 9) = 0 := h
 rw [G.fr] at h
 have ho : X.it.ok = true := by
  cases k : X.it.ok with
  | true => rfl
  | false => rw [k] at h; cases h
 refine ⟨ho, ?_⟩
 show cz (fun z => X.fr 0 0 (bif X.it.ok then z else 0)) X.iv = X.iv
 rw [G.cz, ho]
 rfl
theorem ans_break {X : BX} (G : Good X) (hk : X.S.kd = 3) : (X.ans true).e = 0 /\ (X.ans true).v = X.w := by
 have e : X.ans true = X.an3 := by unfold BX.ans; rw [hk]; rfl
 rw [e]
 refine ⟨G.fr _ _ _, ?_⟩
 show cz (fun z => X.fr 0 0 z) X.w = X.w
 rw [G.cz (fun z => z)]
 rfl
theorem nI {s : Su} {ys : List Int} {v : Ve} (hr : rightS s ys = true) (hv : vv v) (k x : Int) : pI nf1 s ys v k x = bif pP2 nf1 s ys v then 0 else bif pP5 nf1 s ys v then 0 else bif nK s then k else x := by
 unfold pI
 have e1 : nf1.ck s ys = 0 := by show (bif rightS s ys then 0 else 110) = (0 : Int); rw [hr]; rfl
 have e2 : nf1.vc v = 0 := vC0_0 hv
 rw [e1, e2]; rfl
theorem nE {s : Su} {ys : List Int} {v : Ve} (hr : rightS s ys = true) (hv : vv v) : pE nf1 s ys v = bif pP2 nf1 s ys v then 9 else bif pP5 nf1 s ys v then 9 else 0 := by
 unfold pE
 have e1 : nf1.ck s ys = 0 := by show (bif rightS s ys then 0 else 110) = (0 : Int); rw [hr]; rfl
 have e2 : nf1.vc v = 0 := vC0_0 hv
 rw [e1, e2]; rfl
theorem norm_0 {X : BX} (G : Good X) (hk : X.S.kd = 1 ∨ X.S.kd = 2) (f1 : X.F1 = 0) : (nAn X.S X.ys X.v).e = 0 /\ (nAn X.S X.ys X.v).v = X.u := by
 obtain ⟨g, _⟩ := fe_z.1 f1
 obtain ⟨g, e4⟩ := fe_z.1 g
 obtain ⟨g, e3⟩ := fe_z.1 g
 obtain ⟨e1, e2⟩ := fe_z.1 g
 obtain ⟨F, S, ys, a, b, l, v, w⟩ := X
 obtain rfl : F = bf0 := G.hF
 have hr := G.hR
 have hv := G.v
 have nk : nK S = false := by
  unfold nK
  rcases hk with h | h <;> (have h : S.kd = _ := h; rw [h]; rfl)
 have s4 : nG nf1 S ys v 4 = 0 := e1
 have x1 : (nX1 nf1 S ys v).e = 0 := e2
 have x2 : (nX2 nf1 S ys v).e = 0 := e3
 have xu : nU nf1 S ys v = 0 := e4
 have p2 : pP2 nf1 S ys v = false := by unfold pP2; rw [nk, s4, x1, x2, xu]; rfl
 have p5 : pP5 nf1 S ys v = false := by unfold pP5; rw [nk, s4, x1, x2, xu]; rfl
 refine ⟨by show pE nf1 S ys v = 0; rw [nE hr hv, p2, p5]; rfl, ?_⟩
 show Vc.pV nf1 S ys v = _
 unfold Vc.pV
 simp only [nI hr hv, p2, p5, nk, cond_false]
 rfl
end Go.Iv
namespace Go.Iv
open Go Go.Ar Go.Rd Go.Vc
noncomputable def lf0 : LF := ⟨bAn, nAn, uV vf0, uO vf0, dotF vf0, Vc.crV vf0, crO vf0, fun v w => twoV vf0 v w vf0.ad, fun v w => twoO vf0 v w vf0.ad, gV vf0, gO vf0, scaleS, negS⟩
def KK : Nat := 1606938044258990275541962092341162602522202993782792835301376
def tt : Rat := 1 / 1606938044258990275541962092341162602522202993782792835301376
theorem KK_0 : 0 < KK := by decide
theorem KK_r : (KK : Rat) = 1606938044258990275541962092341162602522202993782792835301376 := rfl
theorem tiny_tt : tiny tt := by unfold tiny tt; grind
theorem le_tt {z : Rat} (h : z * (KK : Rat) <= 1) : z <= tt := by
 rw [KK_r] at h
 refine Rat.le_of_mul_le_mul_right (c := 1606938044258990275541962092341162602522202993782792835301376) (Rat.le_trans h ?_) (by decide)
 unfold tt
 grind
theorem cn_ok {a b : Int} (h : okSp a b = true) : cn a b ((a : Rat) / 4294967296) := cn_mono (cn_pt _) (Int.le_refl _) (okSp_iff.1 h).2.1
theorem neg_okS {a b : Int} (h : (negS a b).e = 0) : okSp a b = true := by
 unfold negS at h
 cases k : okSp a b with
 | true => rfl
 | false => rw [k] at h; cases h
theorem nrm_pt {X : BX} (hF : X.F = bf0) (f1 : X.F1 = 0) : ∃ n : V3, cv X.u n /\ 1 <= n.dot n /\ n.dot n <= 1 + 4 * tt := by
 have f1' := f1
 obtain ⟨g, _⟩ := fe_z.1 f1
 obtain ⟨g, _⟩ := fe_z.1 g
 obtain ⟨g, e3⟩ := fe_z.1 g
 obtain ⟨_, e2⟩ := fe_z.1 g
 rw [show X.n1 = negS (X.sl 0) (X.sl 1) from by show X.F.ng (X.sl 0) (X.sl 1) = _; rw [hF]; rfl] at e2
 rw [show X.n2 = negS (X.sl 2) (X.sl 3) from by show X.F.ng (X.sl 2) (X.sl 3) = _; rw [hF]; rfl] at e3
 obtain ⟨s, s0, s1, s2, cu⟩ := norm_cn hF f1' (cn_ok (neg_okS e2)) (cn_ok (neg_okS e3)) KK KK_0
 generalize ((X.sl 0 : Int) : Rat) / 4294967296 = p at *
 generalize ((X.sl 2 : Int) : Rat) / 4294967296 = q at *
 have w1 : 1 / 2 <= V3.dot ⟨-p, -q, 1⟩ ⟨-p, -q, 1⟩ := by
  have a := sq_nn p
  have b := sq_nn q
  show 1 / 2 <= -p * -p + -q * -q + 1 * 1
  grind
 exact ⟨_, cu, nrm w1 s0 s1 (le_tt s2) (tiny_4 tiny_tt)⟩
theorem tc1_t {a b c d : Int} (h : a <= d /\ c <= b) : Vc.tc1 a b c d = true := by
 unfold Vc.tc1
 rw [decide_eq_true h.1, decide_eq_true h.2]; rfl
theorem tcB_t {v w : Ve} (h : tch v w) : tcB v w = true := by
 unfold tcB
 rw [tc1_t h.1, tc1_t h.2.1, tc1_t h.2.2]; rfl
theorem cv_tch {v w : Ve} {u : V3} (h : cv v u) (k : cv w u) : tch v w := ⟨cn_touch h.1 k.1, cn_touch h.2.1 k.2.1, cn_touch h.2.2 k.2.2⟩
theorem eqB_t (v : Ve) : eqB v v = true := by unfold eqB; simp only [beq_self_eq_true, Bool.and_true]
theorem ze_e (e : Int) : ze e = e := by
 unfold ze
 cases h : e != 0 with
 | true => rfl
 | false =>
  have : e = 0 := by simpa using h
  rw [this]; rfl
theorem kE_0 {E e : Int} (h : kE E e = 0) : E = 0 /\ e = 0 := by rw [kE_fe] at h; exact fe_z.1 h
theorem kI_0 {E e x : Int} (h : kE E e = 0) : kI E e x = x := by rw [kE_fe] at h; exact kI_z h
section
variable {R N : BO} {D : Ve} {a b : Int}
end
theorem neg_dot (u : V3) : u.neg.dot u.neg = u.dot u := by unfold V3.neg V3.dot; grind
end Go.Iv
namespace Go.Iv
open Go Go.Eng Go.Ar Go.Rd Go.Vc
def emp : ByteArray := ⟨#[]⟩
inductive Sf : Su -> Prop
 | std (c k a0 a1 a2 a3 : Int) (g : ByteArray) : (-100000000 <= c /\ c <= 100000000) -> (-100000000 <= k /\ k <= 100000000) -> (-100000000 <= a0 /\ a0 <= 100000000) -> (-100000000 <= a1 /\ a1 <= 100000000) -> (-100000000 <= a2 /\ a2 <= 100000000) -> (-100000000 <= a3 /\ a3 <= 100000000) -> (g = emp ∨ g = mirG0) -> Sf ⟨1, c, k, 0, 0, a0, a1, a2, a3, 0, 0, 0, 0, g, 0, 0, 0, 0, 0, 0, 0⟩
 | bic (c k l m : Int) (g : ByteArray) : (-100000000 <= c /\ c <= 100000000) -> (-100000000 <= k /\ k <= 100000000) -> (-100000000 <= l /\ l <= 100000000) -> (-100000000 <= m /\ m <= 100000000) -> (g = emp ∨ g = mirG0) -> Sf ⟨2, c, k, l, m, 0, 0, 0, 0, 0, 0, 0, 0, g, 0, 0, 0, 0, 0, 0, 0⟩
 | ide (c : Int) : (-100000000 <= c /\ c <= 100000000) -> Sf ⟨4, c, 0, 0, 0, 0, 0, 0, 0, 0, 0, 0, 0, emp, 0, 0, 0, 0, 0, 0, 0⟩
 | brk : Sf ⟨3, 0, 0, 0, 0, 0, 0, 0, 0, 0, 0, 0, 0, emp, 0, 0, 0, 0, 0, 0, 0⟩
theorem g_name {g : ByteArray} (h : g = emp ∨ g = mirG0) : (eqBytes g ⟨#[]⟩ || nameB g) = true := by
 rcases h with h | h <;> subst h <;> decide
theorem inR_t {lo hi n : Int} (h : lo <= n /\ n <= hi) : inR lo hi n = true := inR_iff.2 h
theorem right_1 {c k a0 a1 a2 a3 f0 f1 o : Int} {g : ByteArray} (hc : -100000000 <= c /\ c <= 100000000) (hk : -100000000 <= k /\ k <= 100000000) (h0 : -100000000 <= a0 /\ a0 <= 100000000) (h1 : -100000000 <= a1 /\ a1 <= 100000000) (h2 : -100000000 <= a2 /\ a2 <= 100000000) (h3 : -100000000 <= a3 /\ a3 <= 100000000) (hf : -1000000 <= f0 /\ f0 <= 1000000) (he : -1000000 <= f1 /\ f1 <= 1000000) (ho : -3 <= o /\ o <= 3) (hg : g = emp ∨ g = mirG0) (hx : (!(o == 0 || eqBytes g ⟨#[77, 73, 82, 82, 79, 82]⟩) || (o == 0 && (f0 == 0 && f1 == 0))) = true) : rightS ⟨1, c, k, 0, 0, a0, a1, a2, a3, f0, f1, o, 0, g, 0, 0, 0, 0, 0, 0, 0⟩ [] = true := by
 have n : numsB ⟨1, c, k, 0, 0, a0, a1, a2, a3, f0, f1, o, 0, g, 0, 0, 0, 0, 0, 0, 0⟩ = true := by
  unfold numsB noG
  simp only [inR_t (show -1000000000 <= c /\ c <= 1000000000 by omega), inR_t (show -1000000000 <= a0 /\ a0 <= 1000000000 by omega), inR_t (show -1000000000 <= a1 /\ a1 <= 1000000000 by omega), inR_t (show -1000000000 <= a2 /\ a2 <= 1000000000 by omega), inR_t (show -1000000000 <= a3 /\ a3 <= 1000000000 by omega), inR_t (show -1000000000 <= f0 /\ f0 <= 1000000000 by omega), inR_t (show -1000000000 <= f1 /\ f1 <= 1000000000 by omega), inR_t hk, inR_t ho, g_name hg]
  rfl
 have q : kindB ⟨1, c, k, 0, 0, a0, a1, a2, a3, f0, f1, o, 0, g, 0, 0, 0, 0, 0, 0, 0⟩ true = true := by
  unfold kindB noX noT isM noP
  simp only [hx]
  rfl
 show (numsB _ && kindB _ true && filmsB [] && decide (0 <= 24)) = true
 rw [n, q]
 rfl
theorem right_2 {c k l m : Int} {g : ByteArray} (hc : -100000000 <= c /\ c <= 100000000) (hk : -100000000 <= k /\ k <= 100000000) (hl : -100000000 <= l /\ l <= 100000000) (hm : -100000000 <= m /\ m <= 100000000) (hg : g = emp ∨ g = mirG0) : rightS ⟨2, c, k, l, m, 0, 0, 0, 0, 0, 0, 0, 0, g, 0, 0, 0, 0, 0, 0, 0⟩ [] = true := by
 have n : numsB ⟨2, c, k, l, m, 0, 0, 0, 0, 0, 0, 0, 0, g, 0, 0, 0, 0, 0, 0, 0⟩ = true := by
  unfold numsB noG
  simp only [inR_t (show -1000000000 <= c /\ c <= 1000000000 by omega), inR_t (show -1000000000 <= l /\ l <= 1000000000 by omega), inR_t hk, inR_t hm, g_name hg]
  rfl
 show (numsB _ && kindB _ true && filmsB [] && decide (0 <= 24)) = true
 rw [n]
 rfl
theorem right_4 {c : Int} (hc : -100000000 <= c /\ c <= 100000000) : rightS ⟨4, c, 0, 0, 0, 0, 0, 0, 0, 0, 0, 0, 0, emp, 0, 0, 0, 0, 0, 0, 0⟩ [] = true := by
 have n : numsB ⟨4, c, 0, 0, 0, 0, 0, 0, 0, 0, 0, 0, 0, emp, 0, 0, 0, 0, 0, 0, 0⟩ = true := by
  unfold numsB
  simp only [inR_t (show -1000000000 <= c /\ c <= 1000000000 by omega)]
  rfl
 show (numsB _ && kindB _ true && filmsB [] && decide (0 <= 24)) = true
 rw [n]
 rfl
theorem right_3 : rightS ⟨3, 0, 0, 0, 0, 0, 0, 0, 0, 0, 0, 0, 0, emp, 0, 0, 0, 0, 0, 0, 0⟩ [] = true := by decide
theorem sf_right {S : Su} (h : Sf S) : rightS S [] = true := by
 cases h with
 | std c k a0 a1 a2 a3 g hc hk h0 h1 h2 h3 hg => exact right_1 hc hk h0 h1 h2 h3 (by decide) (by decide) (by decide) hg (by simp)
 | bic c k l m g hc hk hl hm hg => exact right_2 hc hk hl hm hg
 | ide c hc => exact right_4 hc
 | brk => exact right_3
theorem sf_g {S : Su} (h : Sf S) : S.g.size <= 6 := by
 have z : ∀ {g : ByteArray}, g = emp ∨ g = mirG0 -> g.size <= 6 := fun h => by rcases h with h | h <;> subst h <;> decide
 cases h with
 | std c k a0 a1 a2 a3 g hc hk h0 h1 h2 h3 hg => exact z hg
 | bic c k l m g hc hk hl hm hg => exact z hg
 | ide c hc => exact z (.inl rfl)
 | brk => exact z (.inl rfl)
structure MdR (m : Md) : Prop where
 a : 0 <= m.a /\ m.a <= 65535
 b : 0 <= m.b /\ m.b <= 65535
 l : 0 <= m.l /\ m.l <= 65535
 o : -128 <= m.o /\ m.o <= 127
 f0 : -128 <= m.f0 /\ m.f0 <= 127
 f1 : -128 <= m.f1 /\ m.f1 <= 127
theorem ixQ_e {x : Int} (h : 0 <= x /\ x <= 65535) : ixQ x = 10000000 + 250 * x := by
 unfold ixQ
 rw [lwi (x := x) (by omega), lwi (x := 250 * x) (by omega)]
 exact lwi (by omega)
theorem ixL_e {x : Int} (h : 0 <= x /\ x <= 65535) : ixL x = 400000 + 10 * x := by
 unfold ixL
 rw [lwi (x := x) (by omega), lwi (x := 10 * x) (by omega)]
 exact lwi (by omega)
theorem sel0 (b : Bool) : selI b 0 0 = 0 := by cases b <;> rfl
theorem bi_f {F : BF} {S : Su} {ys : List Int} {a b l : Int} {v w : Ve} (ha : 10000000 <= a /\ a <= 40000000) (hb : 10000000 <= b /\ b <= 40000000) (hl : 300000 <= l /\ l <= 2500000) : (⟨F, S, ys, a, b, l, v, w⟩ : BX).bi = false := by
 rw [BX.bi_ri]
 unfold BX.ri
 simp only [BX.bt_or, Bool.or_eq_false_iff, decide_eq_false_iff_not]
 omega
theorem dir_un {t : Th} (r : ThR t) : vv (uV vf0 (dirV t)) := by
 have e := dir_u r
 obtain ⟨s, _, _, _, c⟩ := unit_cn e (cv_lo (dir_v r)) 1 (by decide)
 exact unit_v e c
theorem good_of {S : Su} {a b : Int} {m : Md} {t : Th} (hs : rightS S [] = true) (r : MdR m) (k : ThR t) (ha : 10000000 <= a /\ a <= 40000000) (hb : 10000000 <= b /\ b <= 40000000) {w : Ve} (hw : vv w) : Good ⟨bf0, S, [], a, b, ixL m.l, atV t, w⟩ := by
 have hl := r.l
 exact ⟨rfl, hs, bi_f ha hb (by rw [ixL_e hl]; omega), at_v k, hw⟩
theorem ix_r {x : Int} (h : 0 <= x /\ x <= 65535) : 10000000 <= ixQ x /\ ixQ x <= 40000000 := by rw [ixQ_e h]; omega
theorem be_e {S : Su} {a b l : Int} {v w : Ve} (hs : rightS S [] = true) : lf0.be S [] a b l v w = BX.ans ⟨bf0, S, [], a, b, l, v, w⟩ true := by
 show BX.ans _ (rightS S []) = _
 rw [hs]
end Go.Iv
namespace Go.Proofs.YtbboldpghkahjaaGreatDoor.K
open Go Go.Eng Go.Ar Go.Rd Go.Vc Go.Iv
noncomputable section
theorem noT_0 : noT nAn = normT nf0 := by kernel_rfl
theorem beT_0 : bendT bAn = bendT bAns := by kernel_rfl
theorem tblLX_g : ∀ x ∈ tblLX lf0 shS0, NOk Tryz.prog glob hG x.1 x.2 := by
 intro x hx
 simp only [tblLX, shpVF_0, List.mem_cons, List.not_mem_nil, or_false] at hx
 rcases hx with rfl | rfl | rfl | rfl | rfl | rfl | rfl | rfl | rfl | rfl | rfl
 .show NOk Tryz.prog glob hG _ (tSpec hG 3 bdPa (bendT bAn))
  rw [beT_0]
  exact bendT_ok bend_ok
 .show NOk Tryz.prog glob hG _ (tSpec hG 3 noPa (noT nAn))
  rw [noT_0]
  exact normT_ok norm_ok
 .exact ((runit_ok.g _ _).h).n
 .exact ((wdot_ok.g _ _).h).n
 .exact ((wcross_ok.g _ _).h).n
 .exact ((wadd_ok.g _ _).h).n
 .exact ((wneg_ok.g _ _).h).n
 .exact ((rsc_ok.g _ _).h).n
 .exact ((rneg_ok.g _ _).h).n
 .exact shp_ok
 .exact works_ok
theorem cLX_ok : CtxOk (cLX lf0 shS0 noH) := hinting_ok (mkN_ok prog_ok ext_ok tblLX_g fun _ h => by cases h) _
theorem spC_e {x : Int} (h : -32768 <= x /\ x <= 32767) : -100000000 <= spC x /\ spC x <= 100000000 := by
 have e : spC x = 1000 * x := by
  unfold spC
  rw [i64w (n := x) (by omega) (by omega)]
  exact i64w (by omega) (by omega)
 rw [e]; omega
theorem spK_e {x : Int} (h : -32768 <= x /\ x <= 32767) : -100000000 <= spK x /\ spK x <= 100000000 := by
 have e : spK x = 250 * x := by
  unfold spK
  rw [i64w (n := x) (by omega) (by omega)]
  exact i64w (by omega) (by omega)
 rw [e]; omega
theorem spA_e {x : Int} (h : -128 <= x /\ x <= 127) : -100000000 <= spA x /\ spA x <= 100000000 := by
 have e : spA x = 100 * x := by
  unfold spA
  rw [i64w (n := x) (by omega) (by omega)]
  exact i64w (by omega) (by omega)
 rw [e]; omega
theorem mirG_e (m : Bool) : mirG m = emp ∨ mirG m = mirG0 := match m with
 | true => .inr rfl
 | false => .inl rfl
structure SpRg (p : Sp14) : Prop where
 c0 : -32768 <= p.c0 /\ p.c0 <= 32767
 c1 : -32768 <= p.c1 /\ p.c1 <= 32767
 k0 : -32768 <= p.k0 /\ p.k0 <= 32767
 k1 : -32768 <= p.k1 /\ p.k1 <= 32767
 a0 : -128 <= p.a0 /\ p.a0 <= 127
 a1 : -128 <= p.a1 /\ p.a1 <= 127
 a2 : -128 <= p.a2 /\ p.a2 <= 127
 a3 : -128 <= p.a3 /\ p.a3 <= 127
theorem sh_f {p : Sp14} (h : SpRg p) : Sf (shS0 p) := by
 unfold shS0 shSu
 have z : (-100000000 : Int) <= 0 /\ (0 : Int) <= 100000000 := by decide
 split
 .exact .std _ _ 0 0 0 0 _ (spC_e h.c0) (spK_e h.k0) z z z z (mirG_e _)
 .exact .std _ _ 0 0 0 0 _ (spC_e h.c0) (spK_e h.k0) z z z z (mirG_e _)
 .exact .std _ _ _ _ _ _ _ (spC_e h.c0) (spK_e h.k0) (spA_e h.a0) (spA_e h.a1) (spA_e h.a2) (spA_e h.a3) (mirG_e _)
 .exact .bic _ _ _ _ _ (spC_e h.c0) (spK_e h.k0) (spC_e h.c1) (spK_e h.k1) (mirG_e _)
 .exact .ide _ (spC_e h.c0)
 .exact .brk
def shLX : List Sh := [.a p14I, .a [.i .u16, .i .u16, .i .u16, .i .i8, .i .i8, .i .i8], .a [.i .i16, .i .i16, .i .i16, .i .i16, .i .i16, .i .i16, .i .u8, .b]]
theorem args_lx {xs : List Nu} (hk : xs.map Nu.isN = Sh.kindsL shLX) (r : inRange (Sh.leavesL shLX) xs) : ∃ (p : Sp14) (m : Md) (t : Th), (Sh.mkL shLX xs).1 = [.agg p.cells, .agg m.cells, .agg t.cells] /\ 0 <= p.kd /\ SpRg p /\ MdR m /\ ThR t := by
 obtain ⟨x0, _, rfl, g0⟩ := kn hk
 obtain ⟨x1, _, rfl, g1⟩ := kn g0
 obtain ⟨x2, _, rfl, g2⟩ := kn g1
 obtain ⟨x3, _, rfl, g3⟩ := kn g2
 obtain ⟨x4, _, rfl, g4⟩ := kn g3
 obtain ⟨x5, _, rfl, g5⟩ := kn g4
 obtain ⟨x6, _, rfl, g6⟩ := kn g5
 obtain ⟨x7, _, rfl, g7⟩ := kn g6
 obtain ⟨x8, _, rfl, g8⟩ := kn g7
 obtain ⟨x9, _, rfl, g9⟩ := kt g8
 obtain ⟨y0, _, rfl, g10⟩ := kn g9
 obtain ⟨y1, _, rfl, g11⟩ := kn g10
 obtain ⟨y2, _, rfl, g12⟩ := kn g11
 obtain ⟨y3, _, rfl, g13⟩ := kn g12
 obtain ⟨y4, _, rfl, g14⟩ := kn g13
 obtain ⟨y5, _, rfl, g15⟩ := kn g14
 obtain ⟨z0, _, rfl, g16⟩ := kn g15
 obtain ⟨z1, _, rfl, g17⟩ := kn g16
 obtain ⟨z2, _, rfl, g18⟩ := kn g17
 obtain ⟨z3, _, rfl, g19⟩ := kn g18
 obtain ⟨z4, _, rfl, g20⟩ := kn g19
 obtain ⟨z5, _, rfl, g21⟩ := kn g20
 obtain ⟨z6, _, rfl, g22⟩ := kn g21
 obtain ⟨z7, _, rfl, g23⟩ := kt g22
 obtain rfl := k0 g23
 obtain ⟨r0, r1, r2, r3, r4, r5, r6, r7, r8, s0, s1, s2, s3, s4, s5, t0, t1, t2, t3, t4, t5, t6, -⟩ := r
 exact ⟨⟨x0, x1, x2, x3, x4, x5, x6, x7, x8, x9⟩, ⟨y0, y1, y2, y3, y4, y5⟩, ⟨z0, z1, z2, z3, z4, z5, z6, z7⟩, rfl, r0.1, ⟨r1, r2, r3, r4, r5, r6, r7, r8⟩, ⟨s0, s1, s2, s3, s4, s5⟩, ⟨t0, t1, t2, t3, t4, t6⟩⟩
end
end Go.Proofs.YtbboldpghkahjaaGreatDoor.K
namespace Go.Proofs.YtbboldpghkahjaaGreatDoor.K
open Go Go.Eng Go.Ar Go.Rd Go.Vc Go.Iv
noncomputable section
theorem oS_t {S : Su} (h : S.g.size <= 6) : oS S 0 := ⟨⟨by decide, by decide, rfl⟩, by omega⟩
end
end Go.Proofs.YtbboldpghkahjaaGreatDoor.K
namespace Go.Iv
open Go Go.Eng Go.Ar Go.Rd Go.Vc
theorem tt0 : 0 <= tt := tiny_tt.1
theorem idl_L {d w : V3} {z s : Rat} (dd : 1 <= d.dot d /\ d.dot d <= 1 + 4 * tt) (hz : 0 < z) (zz : z * z = d.z * d.z) (ww : w.dot w * (z * z) = d.dot d) (s0 : 0 < s) (s1 : s * s <= w.dot w) (s2 : w.dot w - s * s <= tt) : 1 - 4 * tt <= z * s /\ z * s <= 1 + 4 * tt := by
 have t0 := tt0
 have t1 := tiny_4 tiny_tt
 have tq := mulr t1 t0
 have a := sq_nn d.x
 have b := sq_nn d.y
 have z4 : z * z <= 2 := by
  rw [zz]
  obtain ⟨_, h⟩ := dd
  unfold V3.dot at h
  grind
 have zs : 0 < z * s := Rat.mul_pos hz s0
 have zz0 := sq_nn z
 have u1 := mulr s1 zz0
 have u2 := mulr s2 zz0
 have u3 := mull z4 t0
 have e : z * s * (z * s) = s * s * (z * z) := by grind
 rw [ww] at u1
 have e3 : (w.dot w - s * s) * (z * z) = d.dot d - s * s * (z * z) := by rw [<- ww]; grind
 rw [e3] at u2
 have e4 : (1 - 4 * tt) * (1 - 4 * tt) = 1 - 8 * tt + 16 * (tt * tt) := by grind
 have e5 : (1 + 4 * tt) * (1 + 4 * tt) = 1 + 8 * tt + 16 * (tt * tt) := by grind
 have tp := sq_nn tt
 have q1 : 1 - 4 * tt <= z * s := by
  refine lt_sq (Rat.le_of_lt zs) ?_
  rw [e, e4]
  generalize s * s * (z * z) = A at *
  generalize tt * tt = T2 at *
  generalize tt * (z * z) = Tz at *
  obtain ⟨d1, d2⟩ := dd
  clear e e3 e4 e5 ww s1 s2 zz z4 zz0 zs hz s0 a b
  grind
 refine ⟨q1, ?_⟩
 refine lt_sq (by grind) ?_
 rw [e, e5]
 generalize s * s * (z * z) = A at *
 generalize tt * tt = T2 at *
 obtain ⟨d1, d2⟩ := dd
 clear e e3 e4 e5 ww s1 s2 zz z4 zz0 zs hz s0 a b q1 u3 u2
 grind
theorem idl_near {x L : Rat} (hx : ab x 2) (l1 : 1 - 4 * tt <= L) (l2 : L <= 1 + 4 * tt) : ab (x / L - x) (16 * tt) := by
 have t0 := tt0
 have t1 : tt <= 1 / 8 := by unfold tt; grind
 have L0 : 0 < L := by grind
 have e : (x / L - x) * L = x * (1 - L) := by grind
 have p := ab_mul hx (show ab (1 - L) (4 * tt) from ⟨by grind, by grind⟩)
 rw [<- e] at p
 obtain ⟨p1, p2⟩ := p
 have q := mull (show (1 : Rat) / 2 <= L by grind) (c := 16 * tt) (by grind)
 constructor
 .refine Rat.le_of_mul_le_mul_right (c := L) ?_ L0
  grind
 .refine Rat.le_of_mul_le_mul_right (c := L) ?_ L0
  grind
theorem idl_tch {v w : Ve} {d : V3} {L : Rat} (dd : d.dot d <= 1 + 4 * tt) (hv : cv v ⟨d.x / L, d.y / L, d.z / L⟩) (hw : cv w d) (l : 1 - 4 * tt <= L /\ L <= 1 + 4 * tt) : tch v w := by
 obtain ⟨x, y, z⟩ := unit_ab (n := d) (by have := tiny_4 tiny_tt; grind)
 have m : 16 * tt * 4294967296 < 1 := by unfold tt; grind
 exact ⟨ab_touch hv.1 hw.1 (idl_near x l.1 l.2) m, ab_touch hv.2.1 hw.2.1 (idl_near y l.1 l.2) m, ab_touch hv.2.2 hw.2.2 (idl_near z l.1 l.2) m⟩
theorem r_one {S n : V3} {r : Rat} (r1 : r * r <= 1 - (tan3 S n).dot (tan3 S n)) : r * r <= 1 := by
 have a := sq_nn (tan3 S n).x
 have b := sq_nn (tan3 S n).y
 have c := sq_nn (tan3 S n).z
 unfold V3.dot at r1
 grind
theorem sgn_r {X : BX} {n d : V3} {x y : Rat} {K : Nat} {r : Rat} (B : Bent X n d x y K r) : 0 <= (bif X.mir then -(bif X.fl then -r else r) else (bif X.fl then -r else r)) * d.dot n := by
 have r0 := B.r0
 rcases B.kp with h | h
 .have k := B.kl h
  have kn : d.dot n <= 0 := by
   refine Rat.le_of_mul_le_mul_right (c := 4294967296) ?_ (by decide)
   grind
  have e : X.fl = !X.mir := by
   unfold BX.fl
   rw [decide_eq_true h]
   cases X.mir <;> rfl
  rw [e]
  have p := Rat.mul_nonneg r0 (b := -d.dot n) (by grind)
  cases X.mir <;> simp only [Bool.not_true, Bool.not_false, cond_true, cond_false] <;> grind
 .have k := B.kh h
  have kn : 0 <= d.dot n := by
   refine Rat.le_of_mul_le_mul_right (c := 4294967296) ?_ (by decide)
   grind
  have hl : ¬ X.k.hi < 0 := by
   intro hh
   have k2 := B.kl hh
   have : (1 : Rat) <= -1 := Rat.le_trans k k2
   exact absurd this (by decide)
  have e : X.fl = X.mir := by
   unfold BX.fl
   rw [decide_eq_false hl]
   cases X.mir <;> rfl
  rw [e]
  have p := Rat.mul_nonneg r0 kn
  cases X.mir <;> simp only [cond_true, cond_false] <;> grind
theorem sq_fl (b : Bool) (r : Rat) : (bif b then -r else r) * (bif b then -r else r) = r * r := by cases b <;> simp only [cond_true, cond_false] <;> grind
theorem thr_keep {X : BX} (hab : X.a = X.b) (hb : X.b ≠ 0) (ho : X.o0 = true) (d : V3) (x y : Rat) : thr X d x y = d := by
 unfold thr
 rw [ho, hab]
 have q : (X.b : Rat) ≠ 0 := by exact_mod_cast hb
 cases X.mir with
 | true => rfl
 | false =>
  show (⟨_, _, _⟩ : V3) = d
  cases d
  simp only [V3.mk.injEq]
  refine ⟨?_, ?_, ?_⟩ <;> grind
theorem keeps_true {X : BX} (G : Good X) (hab : X.a = X.b) (ho : X.o0 = true) (hc : X.S.kd = 4 -> X.S.c = 0) (hm : X.S.kd = 3 ∨ X.S.kd = 4 -> X.mir = false) {d : V3} (cd : cv X.w d) (dd : 1 <= d.dot d /\ d.dot d <= 1 + 4 * tt) : keR lf0 (X.ans true) (nAn X.S X.ys X.v) X.w (!X.mir) = true := by
 have cx := cv_lo G.v
 obtain ⟨_, _, hb, _⟩ := BX.ri_ab G.bi
 unfold keR
 rcases ans_e G with h0 | ⟨h9, hc9⟩
 .rw [h0]
  show (bif !X.mir then _ else _) = true
  rcases right_kd G.hR with hk | hk | hk | hk
  .exact std hk cx hb h0
  .exact std hk cx hb h0
  .rw [hm (.inl hk), (ans_break G hk).2]
   exact tcB_t (cv_tch cd cd)
  .obtain ⟨o1, o2⟩ := ans_ideal G hk h0
   obtain ⟨sg, dz, s, s0, s1, s2, ci, _⟩ := ideal_cn G.hF o1 cd cx.1 cx.2.1 KK KK_0
   rw [hm (.inr hk), o2]
   show tcB X.iv X.w = true
   have z0 : ∀ x : Rat, off X x = 0 := fun x => by
    unfold off
    rw [hc hk]
    push_cast
    grind
   have ev : idV X d (loV X.v).x (loV X.v).y = ⟨d.x / d.z, d.y / d.z, 1⟩ := by
    unfold idV
    rw [z0, z0]
    cases X.bk <;> simp only [cond_true, cond_false, V3.mk.injEq] <;> refine ⟨?_, ?_, trivial⟩ <;> grind
   rw [ev] at s1 s2 ci
   have ww : V3.dot ⟨d.x / d.z, d.y / d.z, 1⟩ ⟨d.x / d.z, d.y / d.z, 1⟩ * (d.z * d.z) = d.dot d := by unfold V3.dot; grind
   cases hbk : X.bk with
   | true =>
    have hz : d.z < 0 := by
     have := sg.1 hbk
     rcases le_tot 0 d.z with h | h
     .exfalso
      have := mulr h (c := 4294967296) (by decide)
      grind
     .rcases Rat.le_iff_lt_or_eq.1 h with h | h
      .exact h
      .exact absurd h dz
    have l := idl_L (z := -d.z) dd (by grind) (by grind) (by rw [<- ww]; grind) s0 s1 (le_tt s2)
    rw [hbk] at ci
    refine tcB_t (idl_tch (L := -d.z * s) dd.2 ?_ cd l)
    have e : V3.neg (V3.div ⟨d.x / d.z, d.y / d.z, 1⟩ s) = ⟨d.x / (-d.z * s), d.y / (-d.z * s), d.z / (-d.z * s)⟩ := by
     unfold V3.neg V3.div
     simp only [V3.mk.injEq]
     refine ⟨?_, ?_, ?_⟩ <;> grind
    rw [<- e]
    exact ci
   | false =>
    have hz : 0 < d.z := by
     have := sg.2 hbk
     rcases le_tot d.z 0 with h | h
     .exfalso
      have := mulr h (c := 4294967296) (by decide)
      grind
     .rcases Rat.le_iff_lt_or_eq.1 h with h | h
      .exact h
      .exact absurd h.symm dz
    have l := idl_L (z := d.z) dd hz rfl ww s0 s1 (le_tt s2)
    rw [hbk] at ci
    refine tcB_t (idl_tch (L := d.z * s) dd.2 ?_ cd l)
    have e : V3.div ⟨d.x / d.z, d.y / d.z, 1⟩ s = ⟨d.x / (d.z * s), d.y / (d.z * s), d.z / (d.z * s)⟩ := by
     unfold V3.div
     simp only [V3.mk.injEq]
     refine ⟨?_, ?_, ?_⟩ <;> grind
    rw [<- e]
    exact ci
 .rw [h9]
  show (X.ans true).c != 0
  simpa using hc9
where
 std {k : Int} (hk : X.S.kd = k) (cx : cv X.v (loV X.v)) (hb : 10000000 <= X.b) (h0 : (X.ans true).e = 0) (h12 : k = 1 ∨ k = 2 := by decide) : (bif !X.mir then tcB (X.ans true).v X.w else bif (nAn X.S X.ys X.v).e == 0 then bif kE3 lf0 (X.ans true) (nAn X.S X.ys X.v) X.w != 0 then true else Vc.tc1 (kLo lf0 (nAn X.S X.ys X.v) X.w) (kHi lf0 (nAn X.S X.ys X.v) X.w) (kI (kE2 lf0 (X.ans true) (nAn X.S X.ys X.v) X.w) (kG lf0 (X.ans true) (nAn X.S X.ys X.v) X.w).e (kG lf0 (X.ans true) (nAn X.S X.ys X.v) X.w).lo) (kI (kE2 lf0 (X.ans true) (nAn X.S X.ys X.v) X.w) (kG lf0 (X.ans true) (nAn X.S X.ys X.v) X.w).e (kG lf0 (X.ans true) (nAn X.S X.ys X.v) X.w).hi) else false) = true := by
  have hk' : X.S.kd = 1 ∨ X.S.kd = 2 := by rcases h12 with h | h <;> rw [hk, h] <;> decide
  obtain ⟨p0, e2⟩ := ans_bent G hk' h0
  have f1 := (bent_0 p0).1
  obtain ⟨n, cu, N1, N2⟩ := nrm_pt G.hF f1
  obtain ⟨r, B⟩ := bent_cn G.hF p0 cu cd cx.1 cx.2.1 KK KK_0
  obtain ⟨n1, n2⟩ := norm_0 G hk' f1
  have th := thr_keep hab (by omega) ho d (loV X.v).x (loV X.v).y
  have sg := sgn_r B
  have r1 := B.r1; have r2 := le_tt B.r2; have co := B.out
  rw [th] at r1 r2 co
  rw [<- e2] at co
  have ka := B.ka
  cases hmr : X.mir with
  | false =>
   rw [hmr] at sg
   exact tcB_t (keep_tch co cd ⟨N1, N2⟩ tiny_tt (keep_near ⟨N1, N2⟩ tiny_tt dd ka r1 r2 (sq_fl _ _) sg))
  | true =>
   rw [hmr] at sg
   rw [n1]
   show (bif kE3 lf0 (X.ans true) (nAn X.S X.ys X.v) X.w != 0 then true else _) = true
   cases he : kE3 lf0 (X.ans true) (nAn X.S X.ys X.v) X.w != 0 with
   | true => rfl
   | false =>
    have he : kE3 lf0 (X.ans true) (nAn X.S X.ys X.v) X.w = 0 := by simpa using he
    obtain ⟨h2, g3⟩ := kE_0 he
    obtain ⟨h1, g2⟩ := kE_0 h2
    rw [<- n2] at cu
    have g1 : (dotF vf0 X.w (nAn X.S X.ys X.v).v).e = 0 := by unfold kE1 at h1; rw [ze_e] at h1; exact h1
    have c1 : cn (kLo lf0 (nAn X.S X.ys X.v) X.w) (kHi lf0 (nAn X.S X.ys X.v) X.w) (d.dot n) := by
     have := dot_cn g1 cd cu
     unfold kLo kHi
     show cn (bif (dotF vf0 X.w (nAn X.S X.ys X.v).v).e != 0 then 0 else (dotF vf0 X.w (nAn X.S X.ys X.v).v).lo) (bif (dotF vf0 X.w (nAn X.S X.ys X.v).v).e != 0 then 0 else (dotF vf0 X.w (nAn X.S X.ys X.v).v).hi) _
     rw [g1]
     exact this
    have cD : cn (kD lf0 (X.ans true) (nAn X.S X.ys X.v) X.w).lo (kD lf0 (X.ans true) (nAn X.S X.ys X.v) X.w).hi (((tan3 d n).add (n.mul (bif X.fl then -r else r))).dot n) := by
     have := dot_cn g2 co cu
     show cn (kI _ _ _) (kI _ _ _) _
     rw [kI_0 h2, kI_0 h2]
     exact this
    have cG := neg_cn g3 cD
    rw [kI_0 he, kI_0 he]
    refine tc1_t (ab_touch c1 cG (mirror_near ⟨N1, N2⟩ tiny_tt ka (ab_sq (by decide) (by rw [sq_fl]; have := r_one r1; grind)) (keep_near ⟨N1, N2⟩ tiny_tt dd ka r1 r2 (by rw [<- sq_fl X.fl r]; grind) sg)) (by grind))
end Go.Iv
namespace Go.Iv
open Go Go.Eng Go.Ar Go.Rd Go.Vc
theorem dir_pt {t : Th} (r : ThR t) : ∃ d : V3, cv (uV vf0 (dirV t)) d /\ 1 <= d.dot d /\ d.dot d <= 1 + 4 * tt := by
 obtain ⟨s, s0, s1, s2, c⟩ := unit_cn (dir_u r) (cv_lo (dir_v r)) KK KK_0
 have hw := wd_e r
 have w1 : 1 / 2 <= (loV (dirV t)).dot (loV (dirV t)) := by
  have a := sq_nn (loV (dirV t)).x
  have b := sq_nn (loV (dirV t)).y
  have z : (loV (dirV t)).z <= -3 / 4 ∨ 3 / 4 <= (loV (dirV t)).z := by
   show ((dirV t).e : Rat) / 4294967296 <= -3 / 4 ∨ 3 / 4 <= ((dirV t).e : Rat) / 4294967296
   have : (dirV t).e <= -3221225472 ∨ 3221225472 <= (dirV t).e := by
    rw [dir_e r]
    show (bif t.k then -4294967296 else 4294967296 - t.wd) <= _ ∨ _ <= (bif t.k then -4294967296 else 4294967296 - t.wd)
    cases t.k <;> simp only [cond_true, cond_false] <;> omega
   rcases this with h | h
   .left
    have := cast_le h
    push_cast at this
    grind
   .right
    have := cast_le h
    push_cast at this
    grind
  have c : 9 / 16 <= (loV (dirV t)).z * (loV (dirV t)).z := by
   rcases z with h | h
   .have := sq_abs (l := 3 / 4) (X := (loV (dirV t)).z) (by grind) (.inr (by grind))
    grind
   .have := sq_abs (l := 3 / 4) (X := (loV (dirV t)).z) (by grind) (.inl h)
    grind
  unfold V3.dot
  grind
 exact ⟨_, c, nrm w1 s0 s1 (le_tt s2) (tiny_4 tiny_tt)⟩
def kpB (S : Su) : Bool := S.kd == 4
def kpS (S : Su) : Su := suBy (kpB S) S (selI (kpB S) 0 S.c) (selI (kpB S) S.f0 S.f0) (selI (kpB S) S.f1 S.f1) (selI (kpB S) S.o S.o)
theorem kp_id {S : Su} (h : (S.kd == 4) = false) : kpS S = S := by
 unfold kpS kpB
 rw [h]; rfl
theorem kp_right {S : Su} (h : Sf S) : rightS (kpS S) [] = true /\ (kpS S).g.size <= 6 /\ (kpS S).o = 0 /\ ((kpS S).kd = 4 -> (kpS S).c = 0) /\ ((kpS S).kd = 3 ∨ (kpS S).kd = 4 -> eqBytes (kpS S).g mirG0 = false) := by
 have hg := sf_g h
 have hr := sf_right h
 cases h with
 | std c k a0 a1 a2 a3 g hc hk h0 h1 h2 h3 hg' =>
  rw [kp_id rfl]
  exact ⟨hr, hg, rfl, (fun h => by cases h), (fun h => by rcases h with h | h <;> cases h)⟩
 | bic c k l m g hc hk hl hm hg' =>
  rw [kp_id rfl]
  exact ⟨hr, hg, rfl, (fun h => by cases h), (fun h => by rcases h with h | h <;> cases h)⟩
 | ide c hc => exact ⟨right_4 (c := 0) (by decide), hg, rfl, (fun _ => rfl), (fun _ => rfl)⟩
 | brk =>
  rw [kp_id rfl]
  exact ⟨hr, hg, rfl, (fun h => by cases h), (fun _ => rfl)⟩
theorem keeps_law {S : Su} {m : Md} {t : Th} (h : Sf S) (r : MdR m) (k : ThR t) : (!lf0.uO (dirV t) == 0) = false /\ keR lf0 (lf0.be (kpS S) [] (ixQ m.a) (ixQ m.a) (ixL m.l) (atV t) (lf0.uV (dirV t))) (lf0.no (kpS S) [] (atV t)) (lf0.uV (dirV t)) (!eqBytes (kpS S).g mirG0) = true := by
 refine ⟨by show (!uO vf0 (dirV t) == 0) = false; rw [dir_u k]; rfl, ?_⟩
 obtain ⟨hs, _, ho, hc, hm⟩ := kp_right h
 have G := good_of hs r k (ix_r r.a) (ix_r r.a) (dir_un k)
 obtain ⟨d, cd, dd⟩ := dir_pt k
 rw [be_e hs]
 refine keeps_true G rfl ?_ hc hm cd dd
 show ((kpS S).o == 0) = true
 rw [ho]; rfl
theorem thr_mul {X : BX} (hb : X.b ≠ 0) (ho : X.o0 = true) (d : V3) (x y : Rat) : thr X d x y = d.mul (bif X.mir then 1 else (X.a : Rat) / (X.b : Rat)) := by
 unfold thr V3.mul
 rw [ho]
 have q : (X.b : Rat) ≠ 0 := by exact_mod_cast hb
 cases X.mir with
 | true =>
  show d = (⟨_, _, _⟩ : V3)
  cases d
  simp only [V3.mk.injEq, cond_true]
  refine ⟨?_, ?_, ?_⟩ <;> grind
 | false =>
  show (⟨_, _, _⟩ : V3) = ⟨_, _, _⟩
  simp only [V3.mk.injEq, cond_false]
  refine ⟨?_, ?_, ?_⟩ <;> grind
theorem mul_dot (d n : V3) (c : Rat) : (d.mul c).dot n = c * d.dot n := by unfold V3.mul V3.dot; grind
theorem sgn_back {X Y : BX} {n d : V3} {x y x' y' c : Rat} {K L : Nat} {r r' : Rat} (hm : Y.mir = X.mir) (hN : 1 <= n.dot n /\ n.dot n <= 1 + 4 * tt) (th : thr X d x y = d.mul c) (B : Bent X n d x y K r) (C : Bent Y n ((tan3 (d.mul c) n).add (n.mul (bif X.fl then -r else r))).neg x' y' L r') : 0 <= (bif Y.fl then -r' else r') * -d.dot n := by
 have sa := B.sa
 rw [th, mul_dot] at sa
 obtain ⟨b1, b2⟩ := back_sign (d := d) (n := n) (ρ := bif X.fl then -r else r) hN tiny_tt sa
 have r0 := B.r0
 have r0' := C.r0
 have one : ¬ (1 : Rat) <= -1 := by decide
 have kq : X.k.hi < 0 -> d.dot n <= 0 := fun h => by
  have k := B.kl h
  refine Rat.le_of_mul_le_mul_right (c := 4294967296) ?_ (by decide)
  grind
 have kp : 0 < X.k.lo -> 0 <= d.dot n := fun h => by
  have k := B.kh h
  refine Rat.le_of_mul_le_mul_right (c := 4294967296) ?_ (by decide)
  grind
 have key : (X.fl = true -> ¬ Y.k.hi < 0) /\ (X.fl = false -> Y.k.hi < 0) := by
  constructor
  .intro h hh
   rw [h] at b1
   exact b1 (by show -r <= 0; grind) (by have := C.kl hh; rw [h] at this; exact this)
  .intro h
   rcases C.kp with hh | hh
   .exact hh
   .exfalso
    rw [h] at b2
    exact b2 r0 (by have := C.kh hh; rw [h] at this; exact this)
 have fx : X.fl = !(decide (X.k.hi < 0) == X.mir) := rfl
 have fy : Y.fl = !(decide (Y.k.hi < 0) == X.mir) := by rw [<- hm]; rfl
 rcases B.kp with h | h
 .have e1 := kq h
  have p := Rat.mul_nonneg r0' (b := -d.dot n) (by grind)
  rw [decide_eq_true h] at fx
  have : Y.fl = false := by
   cases hmr : X.mir with
   | true =>
    rw [hmr] at fx fy
    rw [decide_eq_true (key.2 fx)] at fy
    exact fy
   | false =>
    rw [hmr] at fx fy
    rw [decide_eq_false (key.1 fx)] at fy
    exact fy
  rw [this]
  exact p
 .have e1 := kp h
  have hl : ¬ X.k.hi < 0 := fun hh => one (Rat.le_trans (B.kh h) (B.kl hh))
  have p := Rat.mul_nonneg r0' e1
  rw [decide_eq_false hl] at fx
  have : Y.fl = true := by
   cases hmr : X.mir with
   | true =>
    rw [hmr] at fx fy
    rw [decide_eq_false (key.1 fx)] at fy
    exact fy
   | false =>
    rw [hmr] at fx fy
    rw [decide_eq_true (key.2 fx)] at fy
    exact fy
  rw [this]
  show 0 <= -r' * -d.dot n
  grind
theorem mir_Y (S : Su) (ys : List Int) (a b l : Int) (v w w' : Ve) : (⟨bf0, S, ys, b, a, l, v, w'⟩ : BX).mir = (⟨bf0, S, ys, a, b, l, v, w⟩ : BX).mir := rfl
theorem ratio {a b : Int} (ha : 10000000 <= a /\ a <= 40000000) (hb : 10000000 <= b /\ b <= 40000000) (m : Bool) : (bif m then (1 : Rat) else (a : Rat) / (b : Rat)) * (bif m then 1 else (b : Rat) / (a : Rat)) = 1 /\ ab (bif m then 1 else (b : Rat) / (a : Rat)) 4 := by
 have a1 : (10000000 : Rat) <= (a : Rat) := by have := cast_le ha.1; push_cast at this; exact this
 have a2 : (a : Rat) <= 40000000 := by have := cast_le ha.2; push_cast at this; exact this
 have b1 : (10000000 : Rat) <= (b : Rat) := by have := cast_le hb.1; push_cast at this; exact this
 have b2 : (b : Rat) <= 40000000 := by have := cast_le hb.2; push_cast at this; exact this
 cases m with
 | true => exact ⟨show (1 : Rat) * 1 = 1 by grind, ⟨show (-4 : Rat) <= 1 by decide, show (1 : Rat) <= 4 by decide⟩⟩
 | false =>
  have e : (b : Rat) / (a : Rat) * (a : Rat) = (b : Rat) := by grind
  refine ⟨by show (a : Rat) / (b : Rat) * ((b : Rat) / (a : Rat)) = 1; grind, ?_, ?_⟩
  .show -4 <= (b : Rat) / (a : Rat)
   refine Rat.le_of_mul_le_mul_right (c := (a : Rat)) ?_ (by grind)
   rw [e]; grind
  .show (b : Rat) / (a : Rat) <= 4
   refine Rat.le_of_mul_le_mul_right (c := (a : Rat)) ?_ (by grind)
   rw [e]; grind
theorem back_true {S : Su} {a b l : Int} {v w : Ve} (G : Good ⟨bf0, S, [], a, b, l, v, w⟩) (ho : S.o = 0) (hab : S.kd = 4 -> a = b) {d : V3} (cd : cv w d) (dd : 1 <= d.dot d /\ d.dot d <= 1 + 4 * tt) :
  baR lf0 (BX.ans ⟨bf0, S, [], a, b, l, v, w⟩ true) (BX.ans ⟨bf0, S, [], b, a, l, v, gV vf0 (BX.ans ⟨bf0, S, [], a, b, l, v, w⟩ true).v⟩ true) w S.kd = true := by
 have cx := cv_lo G.v
 obtain ⟨a1, a2, b1, b2, l1, l2⟩ := BX.ri_ab G.bi
 have a1 : 10000000 <= a := a1
 have a2 : a <= 40000000 := a2
 have b1 : 10000000 <= b := b1
 have b2 : b <= 40000000 := b2
 unfold baR
 rcases ans_e G with h0 | ⟨h9, _⟩
 .rw [h0]
  have vR : vv (BX.ans ⟨bf0, S, [], a, b, l, v, w⟩ true).v := by
   rcases right_kd G.hR with hk | hk | hk | hk
   .obtain ⟨p0, e2⟩ := ans_bent G (.inl hk) h0
    obtain ⟨n, cu, _⟩ := nrm_pt G.hF (bent_0 p0).1
    obtain ⟨r, B⟩ := bent_cn G.hF p0 cu cd cx.1 cx.2.1 KK KK_0
    rw [e2]; exact B.ov
   .obtain ⟨p0, e2⟩ := ans_bent G (.inr hk) h0
    obtain ⟨n, cu, _⟩ := nrm_pt G.hF (bent_0 p0).1
    obtain ⟨r, B⟩ := bent_cn G.hF p0 cu cd cx.1 cx.2.1 KK KK_0
    rw [e2]; exact B.ov
   .rw [(ans_break G hk).2]; exact G.w
   .obtain ⟨o1, o2⟩ := ans_ideal G hk h0
    obtain ⟨_, _, s, _, _, _, _, vi⟩ := ideal_cn G.hF o1 cd cx.1 cx.2.1 KK KK_0
    rw [o2]; exact vi
  obtain ⟨g1, _, g3⟩ := vneg_v vR
  have eO : lf0.nO (BX.ans ⟨bf0, S, [], a, b, l, v, w⟩ true).v = 0 := g1
  have eD : lf0.nO w = 0 := (vneg_v G.w).1
  have cnD : cv (gV vf0 w) d.neg := vneg_cn (vneg_v G.w).1 cd
  have H : Good ⟨bf0, S, [], b, a, l, v, gV vf0 (BX.ans ⟨bf0, S, [], a, b, l, v, w⟩ true).v⟩ := ⟨rfl, G.hR, bi_f ⟨b1, b2⟩ ⟨a1, a2⟩ ⟨l1, l2⟩, G.v, g3⟩
  rw [eO, eD]
  show (bif (BX.ans ⟨bf0, S, [], b, a, l, v, gV vf0 (BX.ans ⟨bf0, S, [], a, b, l, v, w⟩ true).v⟩ true).e != 0 then (bif (BX.ans ⟨bf0, S, [], b, a, l, v, gV vf0 (BX.ans ⟨bf0, S, [], a, b, l, v, w⟩ true).v⟩ true).e == 9 then (BX.ans ⟨bf0, S, [], b, a, l, v, gV vf0 (BX.ans ⟨bf0, S, [], a, b, l, v, w⟩ true).v⟩ true).c != 0 else false) else bif S.kd == 3 then eqB (BX.ans ⟨bf0, S, [], a, b, l, v, w⟩ true).v w else tcB (BX.ans ⟨bf0, S, [], b, a, l, v, gV vf0 (BX.ans ⟨bf0, S, [], a, b, l, v, w⟩ true).v⟩ true).v (gV vf0 w)) = true
  rcases ans_e H with k0 | ⟨k9, kc⟩
  .rw [k0]
   show (bif S.kd == 3 then _ else _) = true
   rcases right_kd G.hR with hk | hk | hk | hk
   .exact std hk (.inl hk) G H ho cd dd cx cnD g1 h0 k0 ⟨a1, a2⟩ ⟨b1, b2⟩
   .exact std hk (.inr hk) G H ho cd dd cx cnD g1 h0 k0 ⟨a1, a2⟩ ⟨b1, b2⟩
   .have hk : S.kd = 3 := hk
    rw [hk, (ans_break G hk).2]
    exact eqB_t _
   .have hk : S.kd = 4 := hk
    have e3 : (S.kd == 3) = false := by rw [hk]; rfl
    rw [e3]
    have hab := hab hk
    subst hab
    obtain ⟨o1, o2⟩ := ans_ideal G hk h0
    obtain ⟨sg, dz, s, s0, s1, s2, ci, _⟩ := ideal_cn G.hF o1 cd cx.1 cx.2.1 KK KK_0
    have ww : V3.dot ⟨d.x / d.z, d.y / d.z, 1⟩ ⟨d.x / d.z, d.y / d.z, 1⟩ * (d.z * d.z) = d.dot d := by unfold V3.dot; grind
    obtain ⟨q1, q2⟩ := ans_ideal H hk k0
    rw [<- o2] at ci
    have cg := vneg_cn g1 ci
    obtain ⟨sg', dz', s', s0', s1', s2', ci', _⟩ := ideal_cn H.hF q1 cg cx.1 cx.2.1 KK KK_0
    have eo : ∀ x : Rat, off ⟨bf0, S, [], a, a, l, v, gV vf0 (BX.ans ⟨bf0, S, [], a, a, l, v, w⟩ true).v⟩ x = off ⟨bf0, S, [], a, a, l, v, w⟩ x := fun _ => rfl
    rw [q2]
    generalize (⟨bf0, S, [], a, a, l, v, gV vf0 (BX.ans ⟨bf0, S, [], a, a, l, v, w⟩ true).v⟩ : BX) = Y at *
    generalize (⟨bf0, S, [], a, a, l, v, w⟩ : BX) = X at *
    generalize (loV X.v).x = x at *
    generalize (loV X.v).y = y at *
    show tcB Y.iv (gV vf0 w) = true
    have neg_nn : d.neg.dot d.neg = d.dot d := neg_dot d
    cases hbk : X.bk with
    | true =>
     have hz : d.z < 0 := by
      have := sg.1 hbk
      rcases le_tot 0 d.z with h | h
      .exfalso
       have := mulr h (c := 4294967296) (by decide)
       grind
      .rcases Rat.le_iff_lt_or_eq.1 h with h | h
       .exact h
       .exact absurd h dz
     rw [hbk] at cg sg' s1' s2' ci'
     have e5 : (bif true then ((idV X d x y).div s).neg else (idV X d x y).div s).neg = (idV X d x y).div s := by
      show (((idV X d x y).div s).neg).neg = _
      unfold V3.neg
      cases (idV X d x y).div s
      simp only [Rat.neg_neg]
     rw [e5] at sg' s1' s2' ci'
     have hbk' : Y.bk = false := by
      cases hy : Y.bk with
      | false => rfl
      | true =>
       exfalso
       have := sg'.1 hy
       have e6 : ((idV X d x y).div s).z = 1 / s := rfl
       rw [e6] at this
       have p : 0 < 1 / s := by
        refine Rat.lt_of_mul_lt_mul_right (c := s) ?_ (Rat.le_of_lt s0)
        have : 1 / s * s = 1 := by grind
        rw [this]; grind
       grind
     have ev : idV Y ((idV X d x y).div s) x y = ⟨d.x / d.z, d.y / d.z, 1⟩ := by
      unfold idV V3.div
      rw [hbk', hbk, eo, eo]
      simp only [cond_true, cond_false, V3.mk.injEq]
      refine ⟨?_, ?_, trivial⟩ <;> grind
     rw [ev, hbk'] at ci'
     rw [ev] at s1' s2'
     have lz := idl_L (z := -d.z) dd (by grind) (by grind) (by rw [<- ww]; grind) s0' s1' (le_tt s2')
     refine tcB_t (idl_tch (L := -d.z * s') (by rw [neg_nn]; exact dd.2) ?_ cnD lz)
     have e7 : V3.div ⟨d.x / d.z, d.y / d.z, 1⟩ s' = ⟨d.neg.x / (-d.z * s'), d.neg.y / (-d.z * s'), d.neg.z / (-d.z * s')⟩ := by
      unfold V3.div V3.neg
      simp only [V3.mk.injEq]
      refine ⟨?_, ?_, ?_⟩ <;> grind
     rw [<- e7]
     exact ci'
    | false =>
     have hz : 0 < d.z := by
      have := sg.2 hbk
      rcases le_tot d.z 0 with h | h
      .exfalso
       have := mulr h (c := 4294967296) (by decide)
       grind
      .rcases Rat.le_iff_lt_or_eq.1 h with h | h
       .exact h
       .exact absurd h.symm dz
     rw [hbk] at cg sg' s1' s2' ci'
     have e5 : (bif false then ((idV X d x y).div s).neg else (idV X d x y).div s).neg = ((idV X d x y).div s).neg := rfl
     rw [e5] at sg' s1' s2' ci'
     have hbk' : Y.bk = true := by
      cases hy : Y.bk with
      | true => rfl
      | false =>
       exfalso
       have := sg'.2 hy
       have e6 : ((idV X d x y).div s).neg.z = -(1 / s) := rfl
       rw [e6] at this
       have p : 0 < 1 / s := by
        refine Rat.lt_of_mul_lt_mul_right (c := s) ?_ (Rat.le_of_lt s0)
        have : 1 / s * s = 1 := by grind
        rw [this]; grind
       grind
     have ev : idV Y ((idV X d x y).div s).neg x y = ⟨d.x / d.z, d.y / d.z, 1⟩ := by
      unfold idV V3.div V3.neg
      rw [hbk', hbk, eo, eo]
      simp only [cond_true, cond_false, V3.mk.injEq]
      refine ⟨?_, ?_, trivial⟩ <;> grind
     rw [ev, hbk'] at ci'
     rw [ev] at s1' s2'
     have lz := idl_L (z := d.z) dd hz rfl ww s0' s1' (le_tt s2')
     refine tcB_t (idl_tch (L := d.z * s') (by rw [neg_nn]; exact dd.2) ?_ cnD lz)
     have e7 : V3.neg (V3.div ⟨d.x / d.z, d.y / d.z, 1⟩ s') = ⟨d.neg.x / (d.z * s'), d.neg.y / (d.z * s'), d.neg.z / (d.z * s')⟩ := by
      unfold V3.div V3.neg
      simp only [V3.mk.injEq]
      refine ⟨?_, ?_, ?_⟩ <;> grind
     rw [<- e7]
     exact ci'
  .rw [k9]
   show ((BX.ans ⟨bf0, S, [], b, a, l, v, gV vf0 (BX.ans ⟨bf0, S, [], a, b, l, v, w⟩ true).v⟩ true).c != 0) = true
   simpa using kc
 .rw [h9]; rfl
where
 std {S : Su} {a b l : Int} {v w : Ve} {d : V3} {k : Int} (hk : S.kd = k) (hk' : S.kd = 1 ∨ S.kd = 2) (G : Good ⟨bf0, S, [], a, b, l, v, w⟩) (H : Good ⟨bf0, S, [], b, a, l, v, gV vf0 (BX.ans ⟨bf0, S, [], a, b, l, v, w⟩ true).v⟩) (ho : S.o = 0) (cd : cv w d) (dd : 1 <= d.dot d /\ d.dot d <= 1 + 4 * tt) (cx : cv v (loV v)) (cnD : cv (gV vf0 w) d.neg) (g1 : gO vf0 (BX.ans ⟨bf0, S, [], a, b, l, v, w⟩ true).v = 0) (h0 : (BX.ans ⟨bf0, S, [], a, b, l, v, w⟩ true).e = 0) (k0 : (BX.ans ⟨bf0, S, [], b, a, l, v, gV vf0 (BX.ans ⟨bf0, S, [], a, b, l, v, w⟩ true).v⟩ true).e = 0) (ra : 10000000 <= a /\ a <= 40000000) (rb : 10000000 <= b /\ b <= 40000000) : (bif S.kd == 3 then eqB (BX.ans ⟨bf0, S, [], a, b, l, v, w⟩ true).v w else tcB (BX.ans ⟨bf0, S, [], b, a, l, v, gV vf0 (BX.ans ⟨bf0, S, [], a, b, l, v, w⟩ true).v⟩ true).v (gV vf0 w)) = true := by
  have e3 : (S.kd == 3) = false := by rcases hk' with h | h <;> rw [h] <;> rfl
  rw [e3]
  obtain ⟨p0, e2⟩ := ans_bent G hk' h0
  obtain ⟨n, cu, N1, N2⟩ := nrm_pt G.hF (bent_0 p0).1
  obtain ⟨r, B⟩ := bent_cn G.hF p0 cu cd cx.1 cx.2.1 KK KK_0
  obtain ⟨p0', e2'⟩ := ans_bent H hk' k0
  have oz : (S.o == 0) = true := by rw [ho]; rfl
  have th := thr_mul (X := ⟨bf0, S, [], a, b, l, v, w⟩) (by show b ≠ 0; omega) oz d (loV v).x (loV v).y
  have co := B.out
  rw [th, <- e2] at co
  have cg := vneg_cn g1 co
  obtain ⟨r', C⟩ := bent_cn H.hF p0' (n := n) cu cg cx.1 cx.2.1 KK KK_0
  have th' := thr_mul (X := ⟨bf0, S, [], b, a, l, v, gV vf0 (BX.ans ⟨bf0, S, [], a, b, l, v, w⟩ true).v⟩) (by show a ≠ 0; omega) oz (((tan3 (d.mul (bif (⟨bf0, S, [], a, b, l, v, w⟩ : BX).mir then 1 else (a : Rat) / (b : Rat))) n).add (n.mul (bif (⟨bf0, S, [], a, b, l, v, w⟩ : BX).fl then -r else r))).neg) (loV v).x (loV v).y
  obtain ⟨cc, ak⟩ := ratio ra rb (⟨bf0, S, [], a, b, l, v, w⟩ : BX).mir
  have sg := sgn_back (mir_Y S [] a b l v w _) ⟨N1, N2⟩ th B C
  have r1' := C.r1; have r2' := le_tt C.r2; have co' := C.out
  have sa := B.sa
  rw [th, mul_dot] at sa
  rw [th'] at r1' r2' co'
  have ar : ab (bif (⟨bf0, S, [], a, b, l, v, w⟩ : BX).fl then -r else r) 1 := ab_sq (by decide) (by rw [sq_fl]; have := r_one B.r1; grind)
  obtain ⟨m1, m2⟩ := back_near cc ak ⟨N1, N2⟩ tiny_tt dd B.ka sa ar r1' r2' (sq_fl _ _) sg
  show tcB (BX.ans ⟨bf0, S, [], b, a, l, v, gV vf0 (BX.ans ⟨bf0, S, [], a, b, l, v, w⟩ true).v⟩ true).v (gV vf0 w) = true
  rw [e2']
  exact tcB_t (back_tch cc co' cnD ⟨N1, N2⟩ tiny_tt m1 m2)
def bkX (S : Su) (m : Md) : Int := bif S.kd == 4 then ixQ m.a else ixQ m.b
theorem sf_o {S : Su} (h : Sf S) : S.o = 0 := by cases h <;> rfl
theorem bk_r {S : Su} {m : Md} (r : MdR m) : 10000000 <= bkX S m /\ bkX S m <= 40000000 := by
 unfold bkX
 cases S.kd == 4
 .exact ix_r r.b
 .exact ix_r r.a
theorem back_law {S : Su} {m : Md} {t : Th} (h : Sf S) (r : MdR m) (k : ThR t) : (!lf0.uO (dirV t) == 0) = false /\ baR lf0 (lf0.be S [] (ixQ m.a) (bkX S m) (ixL m.l) (atV t) (lf0.uV (dirV t))) (lf0.be S [] (bkX S m) (ixQ m.a) (ixL m.l) (atV t) (lf0.nV (lf0.be S [] (ixQ m.a) (bkX S m) (ixL m.l) (atV t) (lf0.uV (dirV t))).v)) (lf0.uV (dirV t)) S.kd = true := by
 refine ⟨by show (!uO vf0 (dirV t) == 0) = false; rw [dir_u k]; rfl, ?_⟩
 have hs := sf_right h
 have G := good_of hs r k (ix_r r.a) (bk_r (S := S) r) (dir_un k)
 obtain ⟨d, cd, dd⟩ := dir_pt k
 rw [be_e hs, be_e hs]
 refine back_true G (sf_o h) (fun h4 => ?_) cd dd
 unfold bkX
 rw [h4]; rfl
end Go.Iv
namespace Go.Proofs.YtbboldpghkahjaaGreatDoor.K
open Go Go.Eng Go.Ar Go.Rd Go.Vc Go.Iv
noncomputable section
theorem mdP2_t {p : Sp14} {m : Md} (h : 0 <= p.kd) : mdP2 p m := by
 unfold mdP2
 simp only [h, and_self]
theorem keeps_lt : ∀ xs, xs.map Nu.isN = Sh.kindsL shLX -> inRange (Sh.leavesL shLX) xs -> LawTrue Tryz.prog glob hG 5 (Sh.mkL shLX xs).1 := by
 intro xs hk r
 obtain ⟨p, m, t, e, hp, rp, rm, rt⟩ := args_lx hk r
 rw [e]
 have hs := sh_f rp
 obtain ⟨l1, l2⟩ := keeps_law (t := t) hs rm rt
 obtain ⟨_, hg, _⟩ := kp_right hs
 have n0 : nK shS0 p = 0 := sel0 _
 refine ⟨cLX lf0 shS0 noH, 10000, _, true, _, cLX_ok, rfl, rfl, keeps_run lf0 shS0 p m t, ⟨mdP2_t hp, fun _ => ?_⟩, ?_⟩
 .rw [n0]
  exact ⟨oS_t hg, fun _ _ => ⟨oS_t hg, BX.veP_t _, BX.veP_t _⟩⟩
 .unfold er7 Rk Nk
  rw [n0, l1]
  exact l2
theorem back_lt : ∀ xs, xs.map Nu.isN = Sh.kindsL shLX -> inRange (Sh.leavesL shLX) xs -> LawTrue Tryz.prog glob hG 4 (Sh.mkL shLX xs).1 := by
 intro xs hk r
 obtain ⟨p, m, t, e, hp, rp, rm, rt⟩ := args_lx hk r
 rw [e]
 have hs := sh_f rp
 obtain ⟨l1, l2⟩ := back_law (t := t) hs rm rt
 have hg := sf_g hs
 refine ⟨cLX lf0 shS0 noH, 10000, _, true, _, cLX_ok, rfl, rfl, back_run lf0 shS0 p m t, ⟨mdP2_t hp, fun _ => ⟨oS_t hg, fun _ => oS_t hg⟩⟩, ?_⟩
 unfold er7 Rc Rb
 rw [l1]
 exact l2
end
end Go.Proofs.YtbboldpghkahjaaGreatDoor.K
