/- What is proved: a law of bends returns true, whatever the input (part 17). No conditions beyond those of the row. -/
import Derived.Test.YtbboldpghkahjaaGreatDoorPF
import Derived.Test.YtbboldpghkahjaaGreatDoorPH
import Derived.Test.YtbboldpghkahjaaGreatDoorPM
import Derived.Test.YtbboldpghkahjaaGreatDoorPO
import Derived.Test.YtbboldpghkahjaaGreatDoorPP
set_option linter.unusedVariables false
set_option linter.unusedSimpArgs false
set_option linter.unusedSectionVars false
namespace Go.Proofs.YtbboldpghkahjaaGreatDoor.K
open Go Go.Eng Go.Ar Go.Rd Go.Vc
noncomputable section
def okI (its : List Itm) : Bool := match its with
 | .s xs n ys :: _ => match suOf xs with
  | some s => decide (n = 0) && (ys.isEmpty && Nat.ble s.g.size 100)
  | none => false
 | _ => false
def plV (V : List Itm -> Option (Prop × AV)) (its : List Itm) : Option AV := match okI its with
 | true => match V its with
  | some (_, v) => some v
  | none => none
 | false => none
theorem okI_p {xs : List Nu} {n : Int} {ys : List Int} {l : List Itm} {s : Su} (h : okI (.s xs n ys :: l) = true) (hs : suOf xs = some s) : okF3 n ys /\ s.g.size < 1000000000 := by
 simp only [okI, hs, Bool.and_eq_true, decide_eq_true_eq] at h
 obtain ⟨rfl, h1, h2⟩ := h
 have : ys = [] := by cases ys with
  | nil => rfl
  | cons a l => cases h1
 subst this
 exact ⟨⟨by decide, by decide, rfl⟩, by have := Nat.le_of_ble_eq_true h2; omega⟩
theorem plV_norm : ∀ its v, plV (normT nf0) its = some v -> ∃ p : Prop, normT nf0 its = some (p, v) /\ p := by
 intro its v e
 unfold plV at e
 split at e
 .rename_i ho
  split at e
  .rename_i p v' hV
   cases e
   refine ⟨p, hV, ?_⟩
   unfold normT at hV
   split at hV
   .split at hV
    .rename_i s hs
     cases hV
     exact okI_p ho hs
    .cases hV
   .cases hV
  .cases e
 .cases e
theorem plV_bend : ∀ its v, plV (bendT bAns) its = some v -> ∃ p : Prop, bendT bAns its = some (p, v) /\ p := by
 intro its v e
 unfold plV at e
 split at e
 .rename_i ho
  split at e
  .rename_i p v' hV
   cases e
   refine ⟨p, hV, ?_⟩
   unfold bendT at hV
   split at hV
   .split at hV
    .rename_i s hs
     cases hV
     exact okI_p ho hs
    .cases hV
   .cases hV
  .cases e
 .cases e
def tblWk : List (FuncId × NSpec) := [(12, tP hG 3 noPa (plV (normT nf0))), (11, tP hG 3 bdPa (plV (bendT bAns))), (42, hp (plainS (sSc scaleS)))]
def cWk : Ctx := mkN Tryz.prog glob hG tblWk [] ext
theorem cWk_ok : CtxOk cWk := mkN_ok prog_ok ext_ok (fun x hx => by
 simp only [tblWk, List.mem_cons, List.not_mem_nil, or_false] at hx
 rcases hx with rfl | rfl | rfl
 .exact tP_ok (normT_ok norm_ok) plV_norm
 .exact tP_ok (bendT_ok bend_ok) plV_bend
 .exact ((rsc_ok.plainS.g _ _).h).n) fun _ h => by cases h
theorem works_run : oneG hG.size hG.clock ((run cWk 5000).call 7 [] hG) = some (.tt, .bool false true) := by kernel_rfl
theorem works_ok : NOk Tryz.prog glob hG 7 (cSpec (.bool false true)) :=
 cSpec_ok hG_ok hG_plain glob_lt cWk_ok rfl rfl ⟨_, Tryz.func7, rfl⟩ works_run trivial rfl rfl
end
end Go.Proofs.YtbboldpghkahjaaGreatDoor.K
namespace Go.Vc
open Go Go.Eng Go.Ar
def f2 (a b : Int) : Int := bif !(a != 0) && !(b != 0) then 0 else bif a != 0 then a else b
def lsE (p q s : Sp) : Int := bif f2 p.e q.e != 0 then f2 p.e q.e else s.e
def lsI (p q : Sp) (x : Int) : Int := bif f2 p.e q.e != 0 then 0 else x
section
variable (F : VF) (v w : Ve)
def xp1 : Sp := F.mu v.c v.d w.e w.f
def xq1 : Sp := F.mu v.e v.f w.c w.d
def xs1 : Sp := F.su (xp1 F v w).lo (xp1 F v w).hi (xq1 F v w).lo (xq1 F v w).hi
def xp2 : Sp := F.mu v.e v.f w.a w.b
def xq2 : Sp := F.mu v.a v.b w.e w.f
def xs2 : Sp := F.su (xp2 F v w).lo (xp2 F v w).hi (xq2 F v w).lo (xq2 F v w).hi
def xp3 : Sp := F.mu v.a v.b w.c w.d
def xq3 : Sp := F.mu v.c v.d w.a w.b
def xs3 : Sp := F.su (xp3 F v w).lo (xp3 F v w).hi (xq3 F v w).lo (xq3 F v w).hi
def crE : Int := f3 (lsE (xp1 F v w) (xq1 F v w) (xs1 F v w)) (lsE (xp2 F v w) (xq2 F v w) (xs2 F v w)) (lsE (xp3 F v w) (xq3 F v w) (xs3 F v w))
def crI (x : Int) : Int := bif bBad F v w then 0 else bif crE F v w != 0 then 0 else x
def crV : Ve := ⟨crI F v w (lsI (xp1 F v w) (xq1 F v w) (xs1 F v w).lo), crI F v w (lsI (xp1 F v w) (xq1 F v w) (xs1 F v w).hi), crI F v w (lsI (xp2 F v w) (xq2 F v w) (xs2 F v w).lo), crI F v w (lsI (xp2 F v w) (xq2 F v w) (xs2 F v w).hi), crI F v w (lsI (xp3 F v w) (xq3 F v w) (xs3 F v w).lo), crI F v w (lsI (xp3 F v w) (xq3 F v w) (xs3 F v w).hi)⟩
def crO : Int := bif bBad F v w then 20 else bif crE F v w != 0 then crE F v w else 0
end
end Go.Vc
namespace Go.Proofs.YtbboldpghkahjaaGreatDoor.K
open Go Go.Eng Go.Ar Go.Rd Go.Vc
noncomputable section
theorem wcross_run (F : VF) (v w : Ve) : oneV ((run (cVeR F) 3000).call 15 [.agg v.cells, .agg w.cells] ⟨[], 0, 1⟩) = some (.tt, (outVe (crV F v w) (crO F v w)).av true) := by kernel_rfl
theorem wcross_ok : PureOk Tryz.prog 15 (sVV (crV vf0) (crO vf0)) := by
 refine num_ok (fun xs hk _ => ?_) ⟨_, Tryz.func15, rfl⟩
 obtain ⟨a, b, c, d, e, f, a1, b1, c1, d1, e1, f1, rfl⟩ := kVV hk
 exact ⟨cVeR vf0, 3000, _, cVeR_ok, rfl, fun _ => rfl, rfl, wcross_run vf0 ⟨a, b, c, d, e, f⟩ ⟨a1, b1, c1, d1, e1, f1⟩, trivial⟩
end
end Go.Proofs.YtbboldpghkahjaaGreatDoor.K
namespace Go.Iv
open Go Go.Ar Go.Rd
def cn (a b : Int) (x : Rat) : Prop := (a : Rat) <= x * 4294967296 /\ x * 4294967296 <= (b : Rat)
theorem cast_le {a b : Int} (h : a <= b) : (a : Rat) <= (b : Rat) := by exact_mod_cast h
theorem of_cast_le {a b : Int} (h : (a : Rat) <= (b : Rat)) : a <= b := by exact_mod_cast h
theorem cn_le {a b : Int} {x : Rat} (h : cn a b x) : a <= b := of_cast_le (Rat.le_trans h.1 h.2)
theorem cn_mono {a b a' b' : Int} {x : Rat} (h : cn a b x) (h1 : a' <= a) (h2 : b <= b') : cn a' b' x := ⟨Rat.le_trans (cast_le h1) h.1, Rat.le_trans h.2 (cast_le h2)⟩
theorem cn_touch {a b c d : Int} {x : Rat} (h : cn a b x) (k : cn c d x) : a <= d /\ c <= b := ⟨of_cast_le (Rat.le_trans h.1 k.2), of_cast_le (Rat.le_trans k.1 h.2)⟩
theorem cn_pt (a : Int) : cn a a ((a : Rat) / 4294967296) := by
 have : (a : Rat) / 4294967296 * 4294967296 = a := by grind
 unfold cn
 rw [this]
 exact ⟨Rat.le_refl, Rat.le_refl⟩
theorem cn_1 : cn 4294967296 4294967296 1 := by
 unfold cn
 push_cast
 grind
theorem add_0 {a b c d : Int} (e : (addS a b c d).e = 0) : addS a b c d = ⟨a + c, b + d, 0⟩ := by
 unfold addS at e ⊢
 have h := (both_ok e).2.2
 rw [h] at e ⊢
 exact (told_ok e).1
theorem sub_0 {a b c d : Int} (e : (subS a b c d).e = 0) : subS a b c d = ⟨a - d, b - c, 0⟩ := by
 unfold subS at e ⊢
 have h := (both_ok e).2.2
 rw [h] at e ⊢
 exact (told_ok e).1
theorem neg_0 {a b : Int} (e : (negS a b).e = 0) : negS a b = ⟨-b, -a, 0⟩ := by
 unfold negS at e ⊢
 cases h : okSp a b with
 | true => rfl
 | false => rw [h] at e; cases e
theorem add_cn {a b c d : Int} {x y : Rat} (e : (addS a b c d).e = 0) (h : cn a b x) (k : cn c d y) : cn (addS a b c d).lo (addS a b c d).hi (x + y) := by
 rw [add_0 e]
 obtain ⟨h1, h2⟩ := h
 obtain ⟨k1, k2⟩ := k
 unfold cn
 push_cast
 grind
theorem sub_cn {a b c d : Int} {x y : Rat} (e : (subS a b c d).e = 0) (h : cn a b x) (k : cn c d y) : cn (subS a b c d).lo (subS a b c d).hi (x - y) := by
 rw [sub_0 e]
 obtain ⟨h1, h2⟩ := h
 obtain ⟨k1, k2⟩ := k
 unfold cn
 push_cast
 grind
theorem neg_cn {a b : Int} {x : Rat} (e : (negS a b).e = 0) (h : cn a b x) : cn (negS a b).lo (negS a b).hi (-x) := by
 rw [neg_0 e]
 obtain ⟨h1, h2⟩ := h
 unfold cn
 push_cast
 grind
theorem le_tot (a b : Rat) : a <= b ∨ b <= a := Rat.le_total
theorem mulr {a b c : Rat} (h : a <= b) (hc : 0 <= c) : a * c <= b * c := Rat.mul_le_mul_of_nonneg_right h hc
theorem mull {a b c : Rat} (h : a <= b) (hc : 0 <= c) : c * a <= c * b := Rat.mul_le_mul_of_nonneg_left h hc
theorem mulr_n {a b c : Rat} (h : a <= b) (hc : c <= 0) : b * c <= a * c := by
 have := mulr h (c := -c) (by grind)
 grind
theorem mull_n {a b c : Rat} (h : a <= b) (hc : c <= 0) : c * b <= c * a := by
 have := mull h (c := -c) (by grind)
 grind
theorem lb4 {a b c d X Y : Rat} (h1 : a <= X) (h2 : X <= b) (k1 : c <= Y) (k2 : Y <= d) : a * c <= X * Y ∨ a * d <= X * Y ∨ b * c <= X * Y ∨ b * d <= X * Y := by
 rcases le_tot 0 Y with hy | hy
 .have p := mulr h1 hy
  rcases le_tot 0 a with ha | ha
  .exact .inl (Rat.le_trans (mull k1 ha) p)
  .exact .inr (.inl (Rat.le_trans (mull_n k2 ha) p))
 .have p := mulr_n h2 hy
  rcases le_tot 0 b with hb | hb
  .exact .inr (.inr (.inl (Rat.le_trans (mull k1 hb) p)))
  .exact .inr (.inr (.inr (Rat.le_trans (mull_n k2 hb) p)))
theorem ub4 {a b c d X Y : Rat} (h1 : a <= X) (h2 : X <= b) (k1 : c <= Y) (k2 : Y <= d) : X * Y <= a * c ∨ X * Y <= a * d ∨ X * Y <= b * c ∨ X * Y <= b * d := by
 rcases le_tot 0 Y with hy | hy
 .have p := mulr h2 hy
  rcases le_tot 0 b with hb | hb
  .exact .inr (.inr (.inr (Rat.le_trans p (mull k2 hb))))
  .exact .inr (.inr (.inl (Rat.le_trans p (mull_n k1 hb))))
 .have p := mulr_n h1 hy
  rcases le_tot 0 a with ha | ha
  .exact .inr (.inl (Rat.le_trans p (mull k2 ha)))
  .exact .inl (Rat.le_trans p (mull_n k1 ha))
theorem mn4 (p q r s : Int) : mn (mn (mn p q) r) s <= p /\ mn (mn (mn p q) r) s <= q /\ mn (mn (mn p q) r) s <= r /\ mn (mn (mn p q) r) s <= s := by
 have h1 := mn_le p q
 have h2 := mn_le (mn p q) r
 have h3 := mn_le (mn (mn p q) r) s
 omega
theorem mx4 (p q r s : Int) : p <= mx (mx (mx p q) r) s /\ q <= mx (mx (mx p q) r) s /\ r <= mx (mx (mx p q) r) s /\ s <= mx (mx (mx p q) r) s := by
 have h1 := le_mx p q
 have h2 := le_mx (mx p q) r
 have h3 := le_mx (mx (mx p q) r) s
 omega
theorem rdf {n d : Int} (hd : 0 < d) : ((rd n d false : Int) : Rat) * (d : Rat) <= (n : Rat) := by exact_mod_cast (rd_ge_iff hd).1 (Int.le_refl _)
theorem rdt {n d : Int} (hd : 0 < d) : (n : Rat) <= ((rd n d true : Int) : Rat) * (d : Rat) := by exact_mod_cast (rd_le_iff hd).1 (Int.le_refl _)
theorem two32 : (0 : Int) < 4294967296 := by decide
theorem lo_of {l f : Int} {n D z : Rat} (hD : 0 < D) (h : l <= f) (hf : (f : Rat) * D <= n) (hz : n <= z * D) : (l : Rat) <= z := by
 have h := cast_le h
 exact Rat.le_trans h (Rat.le_of_mul_le_mul_right (Rat.le_trans hf hz) hD)
theorem hi_of {l f : Int} {n D z : Rat} (hD : 0 < D) (h : f <= l) (hf : n <= (f : Rat) * D) (hz : z * D <= n) : z <= (l : Rat) := by
 have h := cast_le h
 exact Rat.le_trans (Rat.le_of_mul_le_mul_right (Rat.le_trans hz hf) hD) h
theorem mul_0 {a b c d : Int} (e : (mulS a b c d).e = 0) : mulS a b c d = ⟨mn (mn (mn (mF a c false) (mF a d false)) (mF b c false)) (mF b d false), mx (mx (mx (mF a c true) (mF a d true)) (mF b c true)) (mF b d true), 0⟩ := by
 unfold mulS at e ⊢
 have h := (both_ok e).2.2
 rw [h] at e ⊢
 exact (told_ok e).1
theorem mul_cn {a b c d : Int} {x y : Rat} (e : (mulS a b c d).e = 0) (h : cn a b x) (k : cn c d y) : cn (mulS a b c d).lo (mulS a b c d).hi (x * y) := by
 rw [mul_0 e]
 obtain ⟨h1, h2⟩ := h
 obtain ⟨k1, k2⟩ := k
 have ff : ∀ u v : Int, ((mF u v false : Int) : Rat) * 4294967296 <= (u : Rat) * (v : Rat) := fun u v => by
  have := rdf (n := u * v) two32
  push_cast at this
  exact this
 have ft : ∀ u v : Int, (u : Rat) * (v : Rat) <= ((mF u v true : Int) : Rat) * 4294967296 := fun u v => by
  have := rdt (n := u * v) two32
  push_cast at this
  exact this
 have D : (0 : Rat) < 4294967296 := by decide
 obtain ⟨m1, m2, m3, m4⟩ := mn4 (mF a c false) (mF a d false) (mF b c false) (mF b d false)
 obtain ⟨x1, x2, x3, x4⟩ := mx4 (mF a c true) (mF a d true) (mF b c true) (mF b d true)
 have ez : x * y * 4294967296 * 4294967296 = x * 4294967296 * (y * 4294967296) := by grind
 constructor
 .rcases lb4 h1 h2 k1 k2 with p | p | p | p
  .exact lo_of D m1 (ff _ _) (by rw [ez]; exact p)
  .exact lo_of D m2 (ff _ _) (by rw [ez]; exact p)
  .exact lo_of D m3 (ff _ _) (by rw [ez]; exact p)
  .exact lo_of D m4 (ff _ _) (by rw [ez]; exact p)
 .rcases ub4 h1 h2 k1 k2 with p | p | p | p
  .exact hi_of D x1 (ft _ _) (by rw [ez]; exact p)
  .exact hi_of D x2 (ft _ _) (by rw [ez]; exact p)
  .exact hi_of D x3 (ft _ _) (by rw [ez]; exact p)
  .exact hi_of D x4 (ft _ _) (by rw [ez]; exact p)
theorem sq_abs {l X : Rat} (h0 : 0 <= l) (h : l <= X ∨ l <= -X) : l * l <= X * X := by
 rcases h with h | h
 .exact Rat.le_trans (mull h h0) (mulr h (by grind))
 .have := Rat.le_trans (mull h h0) (mulr h (c := -X) (by grind))
  grind
theorem sq_le {l X : Rat} (h : X <= l) (k : -X <= l) : X * X <= l * l := by
 rcases le_tot 0 X with h0 | h0
 .exact Rat.le_trans (mull h h0) (mulr h (by grind))
 .have := Rat.le_trans (mull k (c := -X) (by grind)) (mulr k (c := l) (by grind))
  grind
theorem sqr_0 {a b : Int} (e : (sqrS a b).e = 0) : okSp a b = true /\ sqrS a b = ⟨rd (abL a b * abL a b) 4294967296 false, rd (abH a b * abH a b) 4294967296 true, 0⟩ := by
 unfold sqrS at e ⊢
 cases h : okSp a b with
 | false => rw [h] at e; cases e
 | true => rw [h] at e; exact ⟨rfl, (told_ok e).1⟩
theorem sqr_cn {a b : Int} {x : Rat} (e : (sqrS a b).e = 0) (h : cn a b x) : cn (sqrS a b).lo (sqrS a b).hi (x * x) := by
 obtain ⟨ho, e0⟩ := sqr_0 e
 rw [e0]
 obtain ⟨h1, h2⟩ := h
 have hL0 : 0 <= abL a b := (le_mx _ 0).2.1
 have hL : abL a b = a ∨ abL a b = -b ∨ abL a b = 0 := by
  unfold abL
  have p := le_mx a (-b)
  have q := le_mx (mx a (-b)) 0
  omega
 have hH := le_mx b (-a)
 have D : (0 : Rat) < 4294967296 := by decide
 have ez : x * x * 4294967296 * 4294967296 = x * 4294967296 * (x * 4294967296) := by grind
 have f1 := rdf (n := abL a b * abL a b) two32
 have f2 := rdt (n := abH a b * abH a b) two32
 push_cast at f1 f2
 constructor
 .refine lo_of D (Int.le_refl _) f1 ?_
  rw [ez]
  have c0 : (0 : Rat) <= (abL a b : Rat) := by exact_mod_cast hL0
  rcases hL with p | p | p
  .refine sq_abs c0 (.inl ?_)
   rw [p]; exact h1
  .refine sq_abs c0 (.inr ?_)
   rw [p]; push_cast; grind
  .rw [p]
   have := sq_abs (l := 0) (X := x * 4294967296) Rat.le_refl (by rcases le_tot 0 (x * 4294967296) with h | h <;> grind)
   exact this
 .refine hi_of D (Int.le_refl _) f2 ?_
  rw [ez]
  have p : (b : Rat) <= (abH a b : Rat) := by exact_mod_cast hH.1
  have q : ((-a : Int) : Rat) <= (abH a b : Rat) := cast_le hH.2.1
  push_cast at q
  exact sq_le (Rat.le_trans h2 p) (by grind)
theorem scale_0 {a b n d : Int} (e : (scaleS a b n d).e = 0) : 0 < d /\ scaleS a b n d = ⟨rd (mn (a * n) (b * n)) d false, rd (mx (a * n) (b * n)) d true, 0⟩ := by
 unfold scaleS at e ⊢
 cases h : okSp a b with
 | false => rw [h] at e; cases e
 | true =>
  cases k : okR n d with
  | false => rw [h, k] at e; cases e
  | true =>
   rw [h, k] at e
   refine ⟨?_, (told_ok e).1⟩
   unfold okR at k
   simp only [Bool.and_eq_true, decide_eq_true_eq] at k
   omega
theorem scale_cn {a b n d : Int} {x : Rat} (e : (scaleS a b n d).e = 0) (h : cn a b x) : cn (scaleS a b n d).lo (scaleS a b n d).hi (x * (n : Rat) / (d : Rat)) := by
 obtain ⟨hd, e0⟩ := scale_0 e
 rw [e0]
 obtain ⟨h1, h2⟩ := h
 have D : (0 : Rat) < (d : Rat) := by exact_mod_cast hd
 have ez : x * (n : Rat) / (d : Rat) * 4294967296 * (d : Rat) = x * 4294967296 * (n : Rat) := by grind
 have m := mn_le (a * n) (b * n)
 have M := le_mx (a * n) (b * n)
 have lm : ∀ z : Rat, ((a * n : Int) : Rat) <= z ∨ ((b * n : Int) : Rat) <= z -> ((mn (a * n) (b * n) : Int) : Rat) <= z := fun z hz => by
  rcases hz with hz | hz
  .exact Rat.le_trans (cast_le m.1) hz
  .exact Rat.le_trans (cast_le m.2.1) hz
 have lM : ∀ z : Rat, z <= ((a * n : Int) : Rat) ∨ z <= ((b * n : Int) : Rat) -> z <= ((mx (a * n) (b * n) : Int) : Rat) := fun z hz => by
  rcases hz with hz | hz
  .exact Rat.le_trans hz (cast_le M.1)
  .exact Rat.le_trans hz (cast_le M.2.1)
 constructor
 .refine lo_of D (Int.le_refl _) (rdf hd) ?_
  rw [ez]
  refine lm _ ?_
  push_cast
  rcases le_tot 0 (n : Rat) with hn | hn
  .exact .inl (mulr h1 hn)
  .exact .inr (mulr_n h2 hn)
 .refine hi_of D (Int.le_refl _) (rdt hd) ?_
  rw [ez]
  refine lM _ ?_
  push_cast
  rcases le_tot 0 (n : Rat) with hn | hn
  .exact .inr (mulr h2 hn)
  .exact .inl (mulr_n h1 hn)
end Go.Iv
namespace Go.Iv
open Go Go.Ar Go.Rd Go.Vc
theorem inv_le {u v : Rat} (h : u <= v) (p : 0 < u * v) : v⁻¹ <= u⁻¹ := by
 have hu : u ≠ 0 := fun e => by rw [e] at p; grind
 have hv : v ≠ 0 := fun e => by rw [e] at p; grind
 refine Rat.le_of_mul_le_mul_right (c := u * v) ?_ p
 have e1 : v⁻¹ * (u * v) = u := by grind
 have e2 : u⁻¹ * (u * v) = v := by grind
 rw [e1, e2]
 exact h
theorem div_0 {a b c d : Int} (e : (divS a b c d).e = 0) : okSp c d = true /\ (0 < c ∨ d < 0) /\ divS a b c d = ⟨mn (mn (mn (dF a c false) (dF a d false)) (dF b c false)) (dF b d false), mx (mx (mx (dF a c true) (dF a d true)) (dF b c true)) (dF b d true), 0⟩ := by
 unfold divS at e ⊢
 have h := both_ok e
 rw [h.2.2] at e ⊢
 cases k : decide (c <= 0) && decide (0 <= d) with
 | true => rw [k] at e; cases e
 | false =>
  rw [k] at e
  refine ⟨h.2.1, ?_, (told_ok e).1⟩
  simp only [Bool.and_eq_false_iff, decide_eq_false_iff_not] at k
  omega
theorem dF_lo {x y : Int} (hy : y ≠ 0) : ((dF x y false : Int) : Rat) <= (x : Rat) * (y : Rat)⁻¹ * 4294967296 := by
 have hq : (y : Rat) ≠ 0 := by exact_mod_cast hy
 unfold dF sg
 cases h : decide (y < 0) with
 | true =>
  have h := of_decide_eq_true h
  have hd : 0 < -y := by omega
  have := rdf (n := -(x * 4294967296)) hd
  push_cast at this
  have p : (0 : Rat) < -(y : Rat) := by exact_mod_cast hd
  refine Rat.le_of_mul_le_mul_right (c := -(y : Rat)) (Rat.le_trans this ?_) p
  have : (x : Rat) * (y : Rat)⁻¹ * 4294967296 * -(y : Rat) = -((x : Rat) * 4294967296) := by grind
  rw [this]
  exact Rat.le_refl
 | false =>
  have h := of_decide_eq_false h
  have hd : 0 < y := by omega
  have := rdf (n := x * 4294967296) hd
  push_cast at this
  have p : (0 : Rat) < (y : Rat) := by exact_mod_cast hd
  refine Rat.le_of_mul_le_mul_right (c := (y : Rat)) (Rat.le_trans this ?_) p
  have : (x : Rat) * (y : Rat)⁻¹ * 4294967296 * (y : Rat) = (x : Rat) * 4294967296 := by grind
  rw [this]
  exact Rat.le_refl
theorem dF_hi {x y : Int} (hy : y ≠ 0) : (x : Rat) * (y : Rat)⁻¹ * 4294967296 <= ((dF x y true : Int) : Rat) := by
 have hq : (y : Rat) ≠ 0 := by exact_mod_cast hy
 unfold dF sg
 cases h : decide (y < 0) with
 | true =>
  have h := of_decide_eq_true h
  have hd : 0 < -y := by omega
  have := rdt (n := -(x * 4294967296)) hd
  push_cast at this
  have p : (0 : Rat) < -(y : Rat) := by exact_mod_cast hd
  refine Rat.le_of_mul_le_mul_right (c := -(y : Rat)) (Rat.le_trans ?_ this) p
  have : (x : Rat) * (y : Rat)⁻¹ * 4294967296 * -(y : Rat) = -((x : Rat) * 4294967296) := by grind
  rw [this]
  exact Rat.le_refl
 | false =>
  have h := of_decide_eq_false h
  have hd : 0 < y := by omega
  have := rdt (n := x * 4294967296) hd
  push_cast at this
  have p : (0 : Rat) < (y : Rat) := by exact_mod_cast hd
  refine Rat.le_of_mul_le_mul_right (c := (y : Rat)) (Rat.le_trans ?_ this) p
  have : (x : Rat) * (y : Rat)⁻¹ * 4294967296 * (y : Rat) = (x : Rat) * 4294967296 := by grind
  rw [this]
  exact Rat.le_refl
theorem cn_ne {c d : Int} {y : Rat} (k : cn c d y) (hs : 0 < c ∨ d < 0) : y ≠ 0 := by
 intro e
 subst e
 obtain ⟨k1, k2⟩ := k
 have k1 : (c : Rat) <= ((0 : Int) : Rat) := by push_cast; grind
 have k2 : ((0 : Int) : Rat) <= (d : Rat) := by push_cast; grind
 have k1 := of_cast_le k1
 have k2 := of_cast_le k2
 omega
theorem div_cn {a b c d : Int} {x y : Rat} (e : (divS a b c d).e = 0) (h : cn a b x) (k : cn c d y) : y ≠ 0 /\ cn (divS a b c d).lo (divS a b c d).hi (x / y) := by
 obtain ⟨ho, hs, e0⟩ := div_0 e
 have hy := cn_ne k hs
 refine ⟨hy, ?_⟩
 rw [e0]
 have kle := cn_le k
 obtain ⟨h1, h2⟩ := h
 obtain ⟨k1, k2⟩ := k
 have hc : c ≠ 0 := by omega
 have hd : d ≠ 0 := by omega
 have i1 : (d : Rat)⁻¹ <= (y * 4294967296)⁻¹ := by
  refine inv_le k2 ?_
  rcases hs with hs | hs
  .have : (0 : Rat) < (c : Rat) := by exact_mod_cast hs
   exact Rat.mul_pos (by grind) (by grind)
  .have : (d : Rat) < 0 := by exact_mod_cast hs
   have := Rat.mul_pos (a := -(y * 4294967296)) (b := -(d : Rat)) (by grind) (by grind)
   grind
 have i2 : (y * 4294967296)⁻¹ <= (c : Rat)⁻¹ := by
  refine inv_le k1 ?_
  rcases hs with hs | hs
  .have : (0 : Rat) < (c : Rat) := by exact_mod_cast hs
   exact Rat.mul_pos (by grind) (by grind)
  .have : (d : Rat) < 0 := by exact_mod_cast hs
   have := Rat.mul_pos (a := -(c : Rat)) (b := -(y * 4294967296)) (by grind) (by grind)
   grind
 have ez : x / y * 4294967296 = x * 4294967296 * (y * 4294967296)⁻¹ * 4294967296 := by grind
 have D : (0 : Rat) <= 4294967296 := by decide
 obtain ⟨m1, m2, m3, m4⟩ := mn4 (dF a c false) (dF a d false) (dF b c false) (dF b d false)
 obtain ⟨x1, x2, x3, x4⟩ := mx4 (dF a c true) (dF a d true) (dF b c true) (dF b d true)
 unfold cn
 rw [ez]
 constructor
 .rcases lb4 h1 h2 i1 i2 with p | p | p | p
  .exact Rat.le_trans (Rat.le_trans (cast_le m2) (dF_lo hd)) (mulr p D)
  .exact Rat.le_trans (Rat.le_trans (cast_le m1) (dF_lo hc)) (mulr p D)
  .exact Rat.le_trans (Rat.le_trans (cast_le m4) (dF_lo hd)) (mulr p D)
  .exact Rat.le_trans (Rat.le_trans (cast_le m3) (dF_lo hc)) (mulr p D)
 .rcases ub4 h1 h2 i1 i2 with p | p | p | p
  .exact Rat.le_trans (mulr p D) (Rat.le_trans (dF_hi hd) (cast_le x2))
  .exact Rat.le_trans (mulr p D) (Rat.le_trans (dF_hi hc) (cast_le x1))
  .exact Rat.le_trans (mulr p D) (Rat.le_trans (dF_hi hd) (cast_le x4))
  .exact Rat.le_trans (mulr p D) (Rat.le_trans (dF_hi hc) (cast_le x3))
theorem last_ok {P : Nat -> Prop} (h0 : P 0) : ∀ n, ¬ P n -> ∃ k, P k /\ ¬ P (k + 1)
 | 0, h => absurd h0 h
 | n + 1, h => by
  classical
  by_cases hn : P n
  .exact ⟨n, hn, h⟩
  .exact last_ok h0 n hn
theorem lt_sq {u v : Rat} (hv : 0 <= v) (h : u * u <= v * v) : u <= v := by
 rcases le_tot u v with k | k
 .exact k
 .rcases Rat.le_iff_lt_or_eq.1 k with k | k
  .exfalso
   have hu : 0 < u := by grind
   have := Rat.mul_lt_mul_of_pos_right k hu
   have := mull (Rat.le_of_lt k) hv
   grind
  .rw [k]; exact Rat.le_refl
theorem sqrt_0 {a b : Int} (e : (sqrtS a b).e = 0) : okSp a b = true /\ 0 <= a /\ sqrtS a b = ⟨rtV a false, rtV b true, 0⟩ := by
 unfold sqrtS at e ⊢
 cases h : okSp a b with
 | false => rw [h] at e; cases e
 | true =>
  cases k : decide (a < 0) with
  | true => rw [h, k] at e; cases e
  | false => exact ⟨rfl, by have := of_decide_eq_false k; omega, rfl⟩
theorem sqrt_cn {a b : Int} {x : Rat} (e : (sqrtS a b).e = 0) (h : cn a b x) (K : Nat) (hK : 0 < K) : ∃ s : Rat, 0 <= s /\ cn (sqrtS a b).lo (sqrtS a b).hi s /\ s * s <= x /\ (x - s * s) * (K : Rat) <= 1 := by
 obtain ⟨ho, h0, e0⟩ := sqrt_0 e
 have hb := okSp_iff.1 ho
 have oa : sqOk a = true := by unfold sqOk okF; simp only [Bool.and_eq_true, decide_eq_true_eq]; omega
 have ob : sqOk b = true := by unfold sqOk okF; simp only [Bool.and_eq_true, decide_eq_true_eq]; omega
 obtain ⟨p0, p1, _, _⟩ := sqR_spec oa
 obtain ⟨q0, q1, q2, q3⟩ := sqR_spec ob
 have H : 0 <= rtV b true /\ b * 4294967296 <= rtV b true * rtV b true /\ rtV b true <= 8796093022208 := by
  unfold rtV
  cases k : sqR b * sqR b == b * 4294967296 with
  | true => exact ⟨q0, by have := beq_iff_eq.1 k; show _ <= sqR b * sqR b; omega, by show sqR b <= _; omega⟩
  | false => exact ⟨by show 0 <= sqR b + 1; omega, by show _ <= (sqR b + 1) * (sqR b + 1); omega, by show sqR b + 1 <= _; omega⟩
 rw [e0]
 obtain ⟨h1, h2⟩ := h
 have hL : rtV a false = sqR a := rfl
 rw [hL]
 generalize rtV b true = hi at H ⊢
 generalize sqR a = lo at p0 p1 ⊢
 obtain ⟨H0, H1, H2⟩ := H
 have p0 : (0 : Rat) <= (lo : Rat) := by exact_mod_cast p0
 have p1 : (lo : Rat) * (lo : Rat) <= (a : Rat) * 4294967296 := by have := cast_le p1; push_cast at this; exact this
 have H0 : (0 : Rat) <= (hi : Rat) := by exact_mod_cast H0
 have H1 : (b : Rat) * 4294967296 <= (hi : Rat) * (hi : Rat) := by have := cast_le H1; push_cast at this; exact this
 have H2 : (hi : Rat) <= 8796093022208 := by have := cast_le H2; push_cast at this; exact this
 have kq : (0 : Rat) < (K : Rat) := by exact_mod_cast hK
 have f0 : ((0 : Nat) : Rat) * ((0 : Nat) : Rat) <= x * 4294967296 * 4294967296 * ((K : Rat) * (K : Rat)) := by
  have : (0 : Rat) <= (a : Rat) := by exact_mod_cast h0
  have := Rat.mul_nonneg (a := x * 4294967296) (b := 4294967296) (by grind) (by decide)
  have := Rat.mul_nonneg this (Rat.mul_nonneg (Rat.le_of_lt kq) (Rat.le_of_lt kq))
  push_cast
  grind
 obtain ⟨n, hn⟩ : ∃ n : Nat, (n : Rat) = (hi : Rat) * (K : Rat) + 1 := by
  have : 0 <= hi := by exact_mod_cast H0
  refine ⟨(hi * K + 1).toNat, ?_⟩
  have e : (((hi * K + 1).toNat : Nat) : Int) = hi * K + 1 := Int.toNat_of_nonneg (by have := Int.mul_nonneg this (Int.natCast_nonneg K); omega)
  have := congrArg (fun z : Int => (z : Rat)) e
  push_cast at this
  exact this
 have f1 : ¬ ((n : Rat) * (n : Rat) <= x * 4294967296 * 4294967296 * ((K : Rat) * (K : Rat))) := by
  intro hc
  have t1 := mulr h2 (c := 4294967296) (by decide)
  have t2 := Rat.le_trans t1 H1
  have t3 := mulr t2 (Rat.mul_nonneg (Rat.le_of_lt kq) (Rat.le_of_lt kq))
  rw [hn] at hc
  have t4 := Rat.mul_nonneg H0 (Rat.le_of_lt kq)
  grind
 obtain ⟨k, g1, g2⟩ := last_ok (P := fun k => (k : Rat) * (k : Rat) <= x * 4294967296 * 4294967296 * ((K : Rat) * (K : Rat))) f0 n f1
 have g2 := Rat.not_le.1 g2
 push_cast at g2
 obtain ⟨S, hS⟩ : ∃ S : Rat, S * (K : Rat) = (k : Rat) := ⟨(k : Rat) / (K : Rat), by grind⟩
 have hk : (0 : Rat) <= (k : Rat) := by exact_mod_cast Nat.zero_le k
 have S0 : 0 <= S := Rat.le_of_mul_le_mul_right (c := (K : Rat)) (by rw [hS]; grind) kq
 have kk : 0 < (K : Rat) * (K : Rat) := Rat.mul_pos kq kq
 have S1 : S * S <= x * 4294967296 * 4294967296 := Rat.le_of_mul_le_mul_right (c := (K : Rat) * (K : Rat)) (by rw [<- hS] at g1; grind) kk
 have Shi : S <= (hi : Rat) := lt_sq H0 (Rat.le_trans S1 (Rat.le_trans (mulr h2 (by decide)) H1))
 have Slo : (lo : Rat) <= S := by
  rcases le_tot (lo : Rat) S with h | h
  .exact h
  .-- lo K is a whole number at most k
   have q : (lo : Rat) * (K : Rat) * ((lo : Rat) * (K : Rat)) <= x * 4294967296 * 4294967296 * ((K : Rat) * (K : Rat)) := by
    have t1 := Rat.le_trans p1 (mulr h1 (c := 4294967296) (by decide))
    have t2 := mulr t1 (Rat.le_of_lt kk)
    grind
   have t : (lo : Rat) * (K : Rat) < (k : Rat) + 1 := by
    rcases le_tot ((k : Rat) + 1) ((lo : Rat) * (K : Rat)) with h | h
    .exfalso
     have := Rat.le_trans (mull h (c := (k : Rat) + 1) (by grind)) (mulr h (Rat.mul_nonneg p0 (Rat.le_of_lt kq)))
     grind
    .rcases Rat.le_iff_lt_or_eq.1 h with h | e
     .exact h
     .exfalso
      rw [e] at q
      grind
   have t : lo * (K : Int) < (k : Int) + 1 := by exact_mod_cast t
   have t : lo * (K : Int) <= (k : Int) := by omega
   have t : (lo : Rat) * (K : Rat) <= (k : Rat) := by exact_mod_cast t
   rw [<- hS] at t
   exact Rat.le_of_mul_le_mul_right t kq
 have gap : (x * 4294967296 * 4294967296 - S * S) * (K : Rat) <= 18446744073709551616 := by
  have kge : (1 : Rat) <= (K : Rat) := by exact_mod_cast hK
  have t1 : x * 4294967296 * 4294967296 * ((K : Rat) * (K : Rat)) - S * S * ((K : Rat) * (K : Rat)) <= 2 * (k : Rat) + 1 := by
   rw [<- hS] at g2 ⊢
   grind
  have t2 : 2 * (k : Rat) + 1 <= 18446744073709551616 * (K : Rat) := by
   rw [<- hS]
   have := mulr (Rat.le_trans Shi H2) (Rat.le_of_lt kq)
   grind
  refine Rat.le_of_mul_le_mul_right (c := (K : Rat)) ?_ kq
  grind
 have es : S / 4294967296 * 4294967296 = S := by grind
 refine ⟨S / 4294967296, by refine Rat.le_of_mul_le_mul_right (c := 4294967296) ?_ (by decide); rw [es]; grind, ⟨by rw [es]; exact Slo, by rw [es]; exact Shi⟩, ?_, ?_⟩
 .refine Rat.le_of_mul_le_mul_right (c := 4294967296 * 4294967296) ?_ (by grind)
  grind
 .refine Rat.le_of_mul_le_mul_right (c := 4294967296 * 4294967296) ?_ (by grind)
  grind
structure V3 where
 x : Rat
 y : Rat
 z : Rat
def cv (v : Ve) (u : V3) : Prop := cn v.a v.b u.x /\ cn v.c v.d u.y /\ cn v.e v.f u.z
def V3.dot (u v : V3) : Rat := u.x * v.x + u.y * v.y + u.z * v.z
def V3.add (u v : V3) : V3 := ⟨u.x + v.x, u.y + v.y, u.z + v.z⟩
def V3.sub (u v : V3) : V3 := ⟨u.x - v.x, u.y - v.y, u.z - v.z⟩
def V3.mul (u : V3) (t : Rat) : V3 := ⟨u.x * t, u.y * t, u.z * t⟩
def V3.neg (u : V3) : V3 := ⟨-u.x, -u.y, -u.z⟩
def V3.div (u : V3) (t : Rat) : V3 := ⟨u.x / t, u.y / t, u.z / t⟩
theorem tO_0 {e : Int} (h : tO e = 0) : e = 0 := by
 unfold tO at h
 cases k : e != 0 with
 | true => rw [k] at h; exact h
 | false => simpa using k
theorem tE_0 {X Y Z : Sp} {k : Int} (h : tE X Y Z k = 0) : X.e = 0 /\ Y.e = 0 /\ Z.e = 0 := by
 unfold tE at h
 obtain ⟨h, hz⟩ := fe_z.1 h
 obtain ⟨h, hy⟩ := fe_z.1 h
 exact ⟨(fe_z.1 h).2, hy, hz⟩
theorem dot_cn {v w : Ve} {u t : V3} (e : (dotF vf0 v w).e = 0) (h : cv v u) (k : cv w t) : cn (dotF vf0 v w).lo (dotF vf0 v w).hi (u.dot t) := by
 have e := tO_0 e
 obtain ⟨e1, eB⟩ := fe_z.1 e
 obtain ⟨e2, eA⟩ := fe_z.1 e1
 obtain ⟨x1, x2, x3⟩ := tE_0 e2
 have m1 := mul_cn x1 h.1 k.1
 have m2 := mul_cn x2 h.2.1 k.2.1
 have m3 := mul_cn x3 h.2.2 k.2.2
 have a1 := add_cn eA m1 m2
 have a2 := add_cn eB a1 m3
 unfold dotF
 rw [e]
 exact a2
theorem two_cn {v w : Ve} {f : Int -> Int -> Int -> Int -> Sp} (e : twoO vf0 v w f = 0) : (f v.a v.b w.a w.b).e = 0 /\ (f v.c v.d w.c w.d).e = 0 /\ (f v.e v.f w.e w.f).e = 0 /\ twoV vf0 v w f = ⟨(f v.a v.b w.a w.b).lo, (f v.a v.b w.a w.b).hi, (f v.c v.d w.c w.d).lo, (f v.c v.d w.c w.d).hi, (f v.e v.f w.e w.f).lo, (f v.e v.f w.e w.f).hi⟩ := by
 have e : tE (f v.a v.b w.a w.b) (f v.c v.d w.c w.d) (f v.e v.f w.e w.f) (bCk vf0 v w) = 0 := tO_0 e
 obtain ⟨x1, x2, x3⟩ := tE_0 e
 refine ⟨x1, x2, x3, ?_⟩
 show tV (f v.a v.b w.a w.b) (f v.c v.d w.c w.d) (f v.e v.f w.e w.f) (tE (f v.a v.b w.a w.b) (f v.c v.d w.c w.d) (f v.e v.f w.e w.f) (bCk vf0 v w)) = _
 rw [e]
 rfl
theorem vadd_cn {v w : Ve} {u t : V3} (e : twoO vf0 v w vf0.ad = 0) (h : cv v u) (k : cv w t) : cv (twoV vf0 v w vf0.ad) (u.add t) := by
 obtain ⟨e1, e2, e3, e0⟩ := two_cn e
 rw [e0]
 exact ⟨add_cn e1 h.1 k.1, add_cn e2 h.2.1 k.2.1, add_cn e3 h.2.2 k.2.2⟩
theorem vsub_cn {v w : Ve} {u t : V3} (e : twoO vf0 v w vf0.su = 0) (h : cv v u) (k : cv w t) : cv (twoV vf0 v w vf0.su) (u.sub t) := by
 obtain ⟨e1, e2, e3, e0⟩ := two_cn e
 rw [e0]
 exact ⟨sub_cn e1 h.1 k.1, sub_cn e2 h.2.1 k.2.1, sub_cn e3 h.2.2 k.2.2⟩
theorem vmul_cn {v : Ve} {x y : Int} {u : V3} {t : Rat} (e : twoO vf0 v (lk x y) vf0.mu = 0) (h : cv v u) (k : cn x y t) : cv (twoV vf0 v (lk x y) vf0.mu) (u.mul t) := by
 obtain ⟨e1, e2, e3, e0⟩ := two_cn e
 rw [e0]
 exact ⟨mul_cn e1 h.1 k, mul_cn e2 h.2.1 k, mul_cn e3 h.2.2 k⟩
theorem uO_0 {v : Ve} (h : uO vf0 v = 0) : uE vf0 v = 0 := by
 unfold uO at h
 cases k : uE vf0 v != 0 with
 | true => rw [k] at h; exact h
 | false => simpa using k
theorem cn_pos {a b : Int} {s : Rat} (h : cn a b s) (hs : 0 <= s) (hn : s ≠ 0) : 0 < s := by
 rcases Rat.le_iff_lt_or_eq.1 hs with h | h
 .exact h
 .exact absurd h.symm hn
theorem unit_cn {v : Ve} {u : V3} (e : uO vf0 v = 0) (h : cv v u) (K : Nat) (hK : 0 < K) : ∃ s : Rat, 0 < s /\ s * s <= u.dot u /\ (u.dot u - s * s) * (K : Rat) <= 1 /\ cv (uV vf0 v) (u.div s) := by
 have e := uO_0 e
 obtain ⟨k, e10⟩ := fe_z.1 e
 obtain ⟨k, e9⟩ := fe_z.1 k
 obtain ⟨k, e8⟩ := fe_z.1 k
 obtain ⟨k, e7⟩ := fe_z.1 k
 obtain ⟨k, e6⟩ := fe_z.1 k
 obtain ⟨k, e5⟩ := fe_z.1 k
 obtain ⟨k, e4⟩ := fe_z.1 k
 obtain ⟨k, e3⟩ := fe_z.1 k
 obtain ⟨_, e2⟩ := fe_z.1 k
 have q1 := sqr_cn e2 h.1
 have q2 := sqr_cn e3 h.2.1
 have q3 := sqr_cn e4 h.2.2
 have a1 := add_cn e5 q1 q2
 have a2 := add_cn e6 a1 q3
 obtain ⟨s, s0, sc, s1, s2⟩ := sqrt_cn e7 a2 K hK
 obtain ⟨n1, d1⟩ := div_cn e8 h.1 sc
 obtain ⟨_, d2⟩ := div_cn e9 h.2.1 sc
 obtain ⟨_, d3⟩ := div_cn e10 h.2.2 sc
 refine ⟨s, cn_pos sc s0 n1, s1, s2, ?_⟩
 unfold uV uI
 rw [e]
 exact ⟨d1, d2, d3⟩
def vv (v : Ve) : Prop := okSp v.a v.b = true /\ okSp v.c v.d = true /\ okSp v.e v.f = true
theorem told_b {l h : Int} {r : Sp} (hr : r = toldS l h) (e : r.e = 0) (hl : r.lo <= r.hi) : okSp r.lo r.hi = true := by
 subst hr
 have := told_ok e
 rw [this.1] at hl ⊢
 exact okSp_iff.2 ⟨this.2.1, hl, this.2.2.2.2⟩
theorem add_b {a b c d : Int} {z : Rat} (e : (addS a b c d).e = 0) (h : cn (addS a b c d).lo (addS a b c d).hi z) : okSp (addS a b c d).lo (addS a b c d).hi = true :=
 told_b (both_ok e).2.2 e (cn_le h)
theorem div_b {a b c d : Int} {z : Rat} (e : (divS a b c d).e = 0) (h : cn (divS a b c d).lo (divS a b c d).hi z) : okSp (divS a b c d).lo (divS a b c d).hi = true := by
 have q : divS a b c d = bif decide (c <= 0) && decide (0 <= d) then err 7 else hull4 dF a b c d := (both_ok e).2.2
 cases k : decide (c <= 0) && decide (0 <= d) with
 | true =>
  rw [k] at q
  have q : divS a b c d = err 7 := q
  rw [q] at e; cases e
 | false =>
  rw [k] at q
  exact told_b (r := divS a b c d) q e (cn_le h)
theorem vadd_v {v w : Ve} {u : V3} (e : twoO vf0 v w vf0.ad = 0) (h : cv (twoV vf0 v w vf0.ad) u) : vv (twoV vf0 v w vf0.ad) := by
 obtain ⟨e1, e2, e3, e0⟩ := two_cn e
 rw [e0] at h ⊢
 exact ⟨add_b e1 h.1, add_b e2 h.2.1, add_b e3 h.2.2⟩
theorem unit_v {v : Ve} {u : V3} (e : uO vf0 v = 0) (h : cv (uV vf0 v) u) : vv (uV vf0 v) := by
 have e := uO_0 e
 obtain ⟨k, e10⟩ := fe_z.1 e
 obtain ⟨k, e9⟩ := fe_z.1 k
 obtain ⟨_, e8⟩ := fe_z.1 k
 unfold uV uI at h ⊢
 rw [e] at h ⊢
 exact ⟨div_b e8 h.1, div_b e9 h.2.1, div_b e10 h.2.2⟩
def loV (v : Ve) : V3 := ⟨(v.a : Rat) / 4294967296, (v.c : Rat) / 4294967296, (v.e : Rat) / 4294967296⟩
theorem cv_lo {v : Ve} (h : vv v) : cv v (loV v) := by
 obtain ⟨h1, h2, h3⟩ := h
 exact ⟨cn_mono (cn_pt _) (Int.le_refl _) (okSp_iff.1 h1).2.1, cn_mono (cn_pt _) (Int.le_refl _) (okSp_iff.1 h2).2.1, cn_mono (cn_pt _) (Int.le_refl _) (okSp_iff.1 h3).2.1⟩
end Go.Iv
namespace Go.Iv
open Go Go.Ar Go.Rd Go.Vc
def gr (X : BX) (x y : Rat) : Rat := (1 * (X.p2f : Rat) / ((100000 : Int) : Rat) + (x * x + y * y) * (X.p4f : Rat) / ((10000000 : Int) : Rat)) * (X.pol : Rat) / ((1000000000 : Int) : Rat) * ((10000000 : Int) : Rat) / (X.b : Rat)
def thr (X : BX) (d : V3) (x y : Rat) : V3 :=
 bif X.o0 then (bif !X.mir then ⟨d.x * (X.a : Rat) / (X.b : Rat), d.y * (X.a : Rat) / (X.b : Rat), d.z * (X.a : Rat) / (X.b : Rat)⟩ else d)
 else bif !X.mir then ⟨d.x * (X.a : Rat) / (X.b : Rat) + x * gr X x y, d.y * (X.a : Rat) / (X.b : Rat) + y * gr X x y, d.z * (X.a : Rat) / (X.b : Rat)⟩ else ⟨d.x + x * gr X x y, d.y + y * gr X x y, d.z⟩
def tan3 (S n : V3) : V3 := S.sub (n.mul (S.dot n))
def ab (x m : Rat) : Prop := -m <= x /\ x <= m
structure Bent (X : BX) (n d : V3) (x y : Rat) (K : Nat) (r : Rat) : Prop where
 kp : X.k.hi < 0 ∨ 0 < X.k.lo
 kl : X.k.hi < 0 -> d.dot n * 4294967296 <= -1
 kh : 0 < X.k.lo -> 1 <= d.dot n * 4294967296
 ka : ab (d.dot n) 1048576
 sa : ab ((thr X d x y).dot n) 1048576
 r0 : 0 <= r
 r1 : r * r <= 1 - (tan3 (thr X d x y) n).dot (tan3 (thr X d x y) n)
 r2 : (1 - (tan3 (thr X d x y) n).dot (tan3 (thr X d x y) n) - r * r) * (K : Rat) <= 1
 out : cv X.out ((tan3 (thr X d x y) n).add (n.mul (bif X.fl then -r else r)))
 ov : vv X.out
theorem dot_bd {v w : Ve} {z : Rat} (e : (dotF vf0 v w).e = 0) (h : cn (dotF vf0 v w).lo (dotF vf0 v w).hi z) : ab z 1048576 := by
 have e := tO_0 e
 obtain ⟨e1, eB⟩ := fe_z.1 e
 unfold dotF at h
 rw [e] at h
 have h : cn (dB vf0 v w).lo (dB vf0 v w).hi z := h
 have eB : (addS (dA vf0 v w).lo (dA vf0 v w).hi (vf0.mu v.e v.f w.e w.f).lo (vf0.mu v.e v.f w.e w.f).hi).e = 0 := eB
 have b : -4503599627370496 <= (dB vf0 v w).lo /\ (dB vf0 v w).hi <= 4503599627370496 := by
  show -4503599627370496 <= (addS (dA vf0 v w).lo (dA vf0 v w).hi (vf0.mu v.e v.f w.e w.f).lo (vf0.mu v.e v.f w.e w.f).hi).lo /\ (addS (dA vf0 v w).lo (dA vf0 v w).hi (vf0.mu v.e v.f w.e w.f).lo (vf0.mu v.e v.f w.e w.f).hi).hi <= _
  have h0 := eB
  unfold addS at h0 ⊢
  have h1 := (both_ok h0).2.2
  rw [h1] at h0 ⊢
  obtain ⟨t, t1, t2, t3, t4⟩ := told_ok h0
  rw [t]
  exact ⟨t1, t4⟩
 obtain ⟨h1, h2⟩ := h
 have b1 := cast_le b.1
 have b2 := cast_le b.2
 push_cast at b1 b2
 constructor
 .refine Rat.le_of_mul_le_mul_right (c := 4294967296) ?_ (by decide)
  grind
 .refine Rat.le_of_mul_le_mul_right (c := 4294967296) ?_ (by decide)
  grind
theorem z_of {e : Int} {b : Eb} (h : eb e = b) (k : b.z = true) : e = 0 := by
 rw [<- h] at k
 exact beq_iff_eq.1 k
theorem bent_0 {X : BX} (h : X.bt.pc 9 9 9 0 = 0) : X.F1 = 0 /\ X.und = false /\ X.F2 = 0 /\ X.tot = false /\ X.neg = false /\ X.F3 = 0 := by
 have h := (X.bt.oc_eq).2.1.symm.trans h
 have h : X.bt.oc = 0 := by
  cases k : X.bt.oc != 0 with
  | true => rw [k] at h; cases h
  | false => simpa using k
 have w : ∀ e, whyB e ≠ 0 := fun e => by unfold whyB; cases e.s <;> decide
 unfold BT.oc at h
 cases h1 : X.bt.R1.z with
 | false => rw [h1] at h; exact absurd h (w _)
 | true =>
  cases h2 : X.bt.u with
  | true => rw [h1, h2] at h; cases h
  | false =>
   cases h3 : X.bt.R2.z with
   | false => rw [h1, h2, h3] at h; exact absurd h (w _)
   | true =>
    cases h4 : X.bt.t with
    | true => rw [h1, h2, h3, h4] at h; cases h
    | false =>
     cases h5 : X.bt.n with
     | true => rw [h1, h2, h3, h4, h5] at h; cases h
     | false =>
      cases h6 : X.bt.R3.z with
      | false => rw [h1, h2, h3, h4, h5, h6] at h; exact absurd h (w _)
      | true => exact ⟨z_of BX.eb1 h1, h2, z_of BX.eb2 h3, h4, h5, z_of BX.eb3 h6⟩
theorem norm_cn {X : BX} (hF : X.F = bf0) (h : X.F1 = 0) {p q : Rat} (hp : cn (X.sl 0) (X.sl 1) p) (hq : cn (X.sl 2) (X.sl 3) q) (K : Nat) (hK : 0 < K) : ∃ s : Rat, 0 < s /\ s * s <= V3.dot ⟨-p, -q, 1⟩ ⟨-p, -q, 1⟩ /\ (V3.dot ⟨-p, -q, 1⟩ ⟨-p, -q, 1⟩ - s * s) * (K : Rat) <= 1 /\ cv X.u (V3.div ⟨-p, -q, 1⟩ s) := by
 obtain ⟨g, _⟩ := fe_z.1 h
 obtain ⟨g, e4⟩ := fe_z.1 g
 obtain ⟨g, e3⟩ := fe_z.1 g
 obtain ⟨_, e2⟩ := fe_z.1 g
 have c1 : cn X.n1.lo X.n1.hi (-p) := by
  rw [show X.n1 = negS (X.sl 0) (X.sl 1) from by show X.F.ng (X.sl 0) (X.sl 1) = _; rw [hF]; rfl] at e2 ⊢
  exact neg_cn e2 hp
 have c2 : cn X.n2.lo X.n2.hi (-q) := by
  rw [show X.n2 = negS (X.sl 2) (X.sl 3) from by show X.F.ng (X.sl 2) (X.sl 3) = _; rw [hF]; rfl] at e3 ⊢
  exact neg_cn e3 hq
 have cw : cv X.nw ⟨-p, -q, 1⟩ := ⟨c1, c2, cn_1⟩
 have eu : X.u = uV vf0 X.nw /\ X.uo = uO vf0 X.nw := by show X.F.uV X.nw = _ /\ X.F.uO X.nw = _; rw [hF]; exact ⟨rfl, rfl⟩
 rw [eu.2] at e4
 rw [eu.1]
 exact unit_cn e4 cw K hK
theorem bent_cn {X : BX} (hF : X.F = bf0) (h : X.bt.pc 9 9 9 0 = 0) {x y : Rat} {n d : V3} (cu : cv X.u n) (hd : cv X.w d) (hx : cn X.v.a X.v.b x) (hy : cn X.v.c X.v.d y) (K : Nat) (hK : 0 < K) : ∃ r, Bent X n d x y K r := by
 obtain ⟨S, ys, a, b, l, v, w, rfl⟩ : ∃ S ys a b l v w, X = ⟨bf0, S, ys, a, b, l, v, w⟩ := by
  cases X; cases hF; exact ⟨_, _, _, _, _, _, _, rfl⟩
 obtain ⟨f1, hu, f2, ht, hn, f3⟩ := bent_0 h
 generalize hX : (⟨bf0, S, ys, a, b, l, v, w⟩ : BX) = X at *
 have hF : X.F = bf0 := by rw [<- hX]
 obtain ⟨g, e5⟩ := fe_z.1 f1
 obtain ⟨g, e4⟩ := fe_z.1 g
 obtain ⟨g, e3⟩ := fe_z.1 g
 obtain ⟨_, e2⟩ := fe_z.1 g
 obtain ⟨g, j5⟩ := fe_z.1 f2
 obtain ⟨g, j4⟩ := fe_z.1 g
 obtain ⟨g, j3⟩ := fe_z.1 g
 obtain ⟨g, j2⟩ := fe_z.1 g
 obtain ⟨fo, j1⟩ := fe_z.1 g
 obtain ⟨g, m2⟩ := fe_z.1 f3
 obtain ⟨ff, m1⟩ := fe_z.1 g
 have ek : X.k = dotF vf0 X.w X.u := by show X.F.dt X.w X.u = _; rw [hF]; rfl
 rw [ek] at e5
 have ck : cn X.k.lo X.k.hi (d.dot n) := by rw [ek]; exact dot_cn e5 hd cu
 have ka : ab (d.dot n) 1048576 := by rw [ek] at ck; exact dot_bd e5 ck
 have kn : X.k.hi < 0 ∨ 0 < X.k.lo := by
  unfold BX.und at hu
  cases h1 : decide (X.k.lo <= 0) with
  | false => have := of_decide_eq_false h1; omega
  | true =>
   rw [h1] at hu
   have := of_decide_eq_false hu
   omega
 have ct : cv X.t (bif !X.mir then ⟨d.x * (X.a : Rat) / (X.b : Rat), d.y * (X.a : Rat) / (X.b : Rat), d.z * (X.a : Rat) / (X.b : Rat)⟩ else d) /\ X.Fm = 0 := by
  have fm : X.Fm = 0 := by
   unfold BX.Fo at fo
   cases ho : X.o0 with
   | true => rw [ho] at fo; exact fo
   | false =>
    rw [ho] at fo
    obtain ⟨g, _⟩ := fe_z.1 fo; obtain ⟨g, _⟩ := fe_z.1 g; obtain ⟨g, _⟩ := fe_z.1 g; obtain ⟨g, _⟩ := fe_z.1 g
    obtain ⟨g, _⟩ := fe_z.1 g; obtain ⟨g, _⟩ := fe_z.1 g; obtain ⟨g, _⟩ := fe_z.1 g; obtain ⟨g, _⟩ := fe_z.1 g
    obtain ⟨g, _⟩ := fe_z.1 g; obtain ⟨g, _⟩ := fe_z.1 g; obtain ⟨g, _⟩ := fe_z.1 g
    exact (fe_z.1 g).1
  refine ⟨?_, fm⟩
  unfold BX.Fm at fm
  unfold BX.t
  cases hm : X.mir with
  | true => exact hd
  | false =>
   rw [hm] at fm
   obtain ⟨g, k3⟩ := fe_z.1 fm
   obtain ⟨g, k2⟩ := fe_z.1 g
   obtain ⟨_, k1⟩ := fe_z.1 g
   subst hX
   exact ⟨scale_cn k1 hd.1, scale_cn k2 hd.2.1, scale_cn k3 hd.2.2⟩
 have ca : cv X.av (thr X d x y) := by
  unfold BX.Fo at fo
  unfold thr BX.av
  cases ho : X.o0 with
  | true =>
   refine ⟨?_, ?_, ?_⟩
   .exact ct.1.1
   .exact ct.1.2.1
   .exact ct.1.2.2
  | false =>
   rw [ho] at fo
   obtain ⟨g, k12⟩ := fe_z.1 fo
   obtain ⟨g, k11⟩ := fe_z.1 g
   obtain ⟨g, k10⟩ := fe_z.1 g
   obtain ⟨g, k9⟩ := fe_z.1 g
   obtain ⟨g, k8⟩ := fe_z.1 g
   obtain ⟨g, k7⟩ := fe_z.1 g
   obtain ⟨g, k6⟩ := fe_z.1 g
   obtain ⟨g, k5⟩ := fe_z.1 g
   obtain ⟨g, k4⟩ := fe_z.1 g
   obtain ⟨g, k3⟩ := fe_z.1 g
   obtain ⟨g, k2⟩ := fe_z.1 g
   obtain ⟨_, k1⟩ := fe_z.1 g
   have cg : cn X.w5.lo X.w5.hi (gr X x y) := by
    subst hX
    have a1 := sqr_cn k1 hx
    have a2 := sqr_cn k2 hy
    have a3 := add_cn k3 a1 a2
    have b1 := scale_cn k4 cn_1
    have b2 := scale_cn k5 a3
    have b3 := add_cn k6 b1 b2
    have b4 := scale_cn k7 b3
    exact scale_cn k8 b4
   have cx : cn X.m1.lo X.m1.hi (x * gr X x y) := by subst hX; exact mul_cn k9 hx cg
   have cy : cn X.m3.lo X.m3.hi (y * gr X x y) := by subst hX; exact mul_cn k11 hy cg
   cases hm : X.mir with
   | true =>
    have c0 := ct.1
    rw [hm] at c0
    refine ⟨?_, ?_, c0.2.2⟩
    .show cn X.m2.lo X.m2.hi _
     subst hX; exact add_cn k10 c0.1 cx
    .show cn X.m4.lo X.m4.hi _
     subst hX; exact add_cn k12 c0.2.1 cy
   | false =>
    have c0 := ct.1
    rw [hm] at c0
    refine ⟨?_, ?_, c0.2.2⟩
    .show cn X.m2.lo X.m2.hi _
     subst hX; exact add_cn k10 c0.1 cx
    .show cn X.m4.lo X.m4.hi _
     subst hX; exact add_cn k12 c0.2.1 cy
 have e1' : X.d1 = dotF vf0 X.av X.u := by show X.F.dt X.av X.u = _; rw [hF]; rfl
 have cd : cn X.d1.lo X.d1.hi ((thr X d x y).dot n) := by rw [e1'] at j1 ⊢; exact dot_cn j1 ca cu
 have sa : ab ((thr X d x y).dot n) 1048576 := by rw [e1'] at j1 cd; exact dot_bd j1 cd
 have e2' : X.mv1 = twoV vf0 X.u (lk X.d1.lo X.d1.hi) vf0.mu /\ X.mo1 = twoO vf0 X.u (lk X.d1.lo X.d1.hi) vf0.mu := by show X.F.mV X.u X.d1.lo X.d1.hi = _ /\ X.F.mO X.u X.d1.lo X.d1.hi = _; rw [hF]; exact ⟨rfl, rfl⟩
 have cm : cv X.mv1 (n.mul ((thr X d x y).dot n)) := by rw [e2'.1]; rw [e2'.2] at j2; exact vmul_cn j2 cu cd
 have e3' : X.bv = twoV vf0 X.av X.mv1 vf0.su /\ X.bo = twoO vf0 X.av X.mv1 vf0.su := by show X.F.bV X.av X.mv1 = _ /\ X.F.bO X.av X.mv1 = _; rw [hF]; exact ⟨rfl, rfl⟩
 have cb : cv X.bv (tan3 (thr X d x y) n) := by rw [e3'.1]; rw [e3'.2] at j3; exact vsub_cn j3 ca cm
 have c2 : cn X.d2.lo X.d2.hi ((tan3 (thr X d x y) n).dot (tan3 (thr X d x y) n)) := by rw [show X.d2 = dotF vf0 X.bv X.bv from by show X.F.dt X.bv X.bv = _; rw [hF]; rfl] at j4 ⊢; exact dot_cn j4 cb cb
 have ch : cn X.h.lo X.h.hi (1 - (tan3 (thr X d x y) n).dot (tan3 (thr X d x y) n)) := by rw [show X.h = subS 4294967296 4294967296 X.d2.lo X.d2.hi from by show X.F.su 4294967296 4294967296 X.d2.lo X.d2.hi = _; rw [hF]; rfl] at j5 ⊢; exact sub_cn j5 cn_1 c2
 have er : X.r.e = 0 /\ (X.fl = true -> X.r2.e = 0) := by
  unfold BX.Ff at ff
  cases hf : X.fl with
  | true => rw [hf] at ff; obtain ⟨g, k2⟩ := fe_z.1 ff; exact ⟨(fe_z.1 g).2, fun _ => k2⟩
  | false => rw [hf] at ff; exact ⟨(fe_z.1 ff).2, fun h => by cases h⟩
 obtain ⟨r, r0, cr, r1, r2⟩ : ∃ r : Rat, 0 <= r /\ cn X.r.lo X.r.hi r /\ r * r <= 1 - (tan3 (thr X d x y) n).dot (tan3 (thr X d x y) n) /\ (1 - (tan3 (thr X d x y) n).dot (tan3 (thr X d x y) n) - r * r) * (K : Rat) <= 1 := by
  have er := er.1
  rw [show X.r = sqrtS X.h.lo X.h.hi from by show X.F.rt X.h.lo X.h.hi = _; rw [hF]; rfl] at er ⊢
  exact sqrt_cn er ch K hK
 have cr2 : cn X.rl X.rh (bif X.fl then -r else r) := by
  unfold BX.rl BX.rh
  cases hf : X.fl with
  | true =>
   have := er.2 hf
   rw [show X.r2 = negS X.r.lo X.r.hi from by show X.F.ng X.r.lo X.r.hi = _; rw [hF]; rfl] at this ⊢
   exact neg_cn this cr
  | false => exact cr
 have cm2 : cv X.mv2 (n.mul (bif X.fl then -r else r)) := by
  have e2' : X.mv2 = twoV vf0 X.u (lk X.rl X.rh) vf0.mu /\ X.mo2 = twoO vf0 X.u (lk X.rl X.rh) vf0.mu := by show X.F.mV X.u X.rl X.rh = _ /\ X.F.mO X.u X.rl X.rh = _; rw [hF]; exact ⟨rfl, rfl⟩
  rw [e2'.1]; rw [e2'.2] at m1; exact vmul_cn m1 cu cr2
 have co : cv X.out ((tan3 (thr X d x y) n).add (n.mul (bif X.fl then -r else r))) := by
  have e3' : X.out = twoV vf0 X.bv X.mv2 vf0.ad /\ X.ao = twoO vf0 X.bv X.mv2 vf0.ad := by show X.F.aV X.bv X.mv2 = _ /\ X.F.aO X.bv X.mv2 = _; rw [hF]; exact ⟨rfl, rfl⟩
  rw [e3'.1]; rw [e3'.2] at m2; exact vadd_cn m2 cb cm2
 have ov : vv X.out := by
  have e3' : X.out = twoV vf0 X.bv X.mv2 vf0.ad /\ X.ao = twoO vf0 X.bv X.mv2 vf0.ad := by show X.F.aV X.bv X.mv2 = _ /\ X.F.aO X.bv X.mv2 = _; rw [hF]; exact ⟨rfl, rfl⟩
  rw [e3'.1] at co ⊢; rw [e3'.2] at m2; exact vadd_v m2 co
 refine ⟨r, ⟨kn, fun k => ?_, fun k => ?_, ka, sa, r0, r1, r2, co, ov⟩⟩
 .have := cast_le (show X.k.hi <= -1 by omega)
  push_cast at this
  exact Rat.le_trans ck.2 this
 .have := cast_le (show 1 <= X.k.lo by omega)
  push_cast at this
  exact Rat.le_trans this ck.1
end Go.Iv
namespace Go.Iv
open Go Go.Ar Go.Rd Go.Vc
end Go.Iv
namespace Go.Iv
open Go Go.Ar Go.Rd Go.Vc
theorem sq_nn (x : Rat) : 0 <= x * x := by
 rcases le_tot 0 x with h | h
 .exact Rat.mul_nonneg h h
 .have := Rat.mul_nonneg (a := -x) (b := -x) (by grind) (by grind)
  grind
theorem nrm {w : V3} {s t : Rat} (w1 : 1 / 2 <= w.dot w) (s0 : 0 < s) (s1 : s * s <= w.dot w) (s2 : w.dot w - s * s <= t) (t1 : t <= 1 / 4) : 1 <= (w.div s).dot (w.div s) /\ (w.div s).dot (w.div s) <= 1 + 4 * t := by
 have ss : 0 < s * s := Rat.mul_pos s0 s0
 have e : (w.div s).dot (w.div s) * (s * s) = w.dot w := by
  unfold V3.div V3.dot
  grind
 have t0 : 0 <= t := by grind
 have q : 1 / 4 <= s * s := by grind
 have p := mull q (c := 4 * t) (by grind)
 constructor
 .refine Rat.le_of_mul_le_mul_right (c := s * s) ?_ ss
  rw [e]; grind
 .refine Rat.le_of_mul_le_mul_right (c := s * s) ?_ ss
  rw [e]; grind
end Go.Iv
namespace Go.Iv
open Go Go.Ar Go.Rd Go.Vc
def tiny (t : Rat) : Prop := 0 <= t /\ t * 1606938044258990275541962092341162602522202993782792835301376 <= 1
theorem tiny_4 {t : Rat} (h : tiny t) : t <= 1 / 4 := by obtain ⟨a, b⟩ := h; grind
def tch (v w : Ve) : Prop := (v.a <= w.b /\ w.a <= v.b) /\ (v.c <= w.d /\ w.c <= v.d) /\ (v.e <= w.f /\ w.e <= v.f)
end Go.Iv
namespace Go.Iv
open Go Go.Ar Go.Rd Go.Vc
structure ThR (t : Th) : Prop where
 a : -32768 <= t.a /\ t.a <= 32767
 b : -32768 <= t.b /\ t.b <= 32767
 c : -32768 <= t.c /\ t.c <= 32767
 d : -32768 <= t.d /\ t.d <= 32767
 e : -32768 <= t.e /\ t.e <= 32767
 w : 0 <= t.w /\ t.w <= 255
theorem bif_same {α : Type} (b : Bool) (x : α) : (bif b then x else x) = x := by cases b <;> rfl
theorem lwi {x : Int} (h : -9000000000000000000 <= x /\ x <= 9000000000000000000) : lw x = x := i64w (by omega) (by omega)
theorem l24_e : l24 = 16777216 := by decide
theorem l16_e : l16 = 65536 := by decide
theorem wd_e {t : Th} (h : ThR t) : t.wd = t.w % 4 /\ 0 <= t.wd /\ t.wd <= 3 := by
 have hw := h.w
 have e : t.wd = t.w % 4 := by
  unfold Th.wd
  rw [Int.tmod_eq_emod_of_nonneg hw.1]
  exact lwi (by omega)
 rw [e]; omega
theorem dL_e {x : Int} (h : -32768 <= x /\ x <= 32767) : dL x = x * 65536 := by
 unfold dL
 rw [lwi (x := x) (by omega), l16_e]
 exact lwi (by omega)
theorem pL_e {x : Int} (h : -32768 <= x /\ x <= 32767) : pL x = x * 16777216 := by
 unfold pL
 rw [lwi (x := x) (by omega), l24_e]
 exact lwi (by omega)
theorem dH_e {t : Th} (r : ThR t) {x : Int} (h : -32768 <= x /\ x <= 32767) : dH t x = x * 65536 + t.wd := by
 have := wd_e r
 unfold dH
 rw [dL_e h]
 exact lwi (by omega)
theorem pH_e {t : Th} (r : ThR t) {x i : Int} (h : -32768 <= x /\ x <= 32767) (hi : i = 0 ∨ i = 1) : pH t x i = x * 16777216 + t.wd * i := by
 have := wd_e r
 have k : lw (t.wd * i) = t.wd * i := lwi (by rcases hi with e | e <;> rw [e] <;> omega)
 unfold pH
 rw [pL_e h, k]
 exact lwi (by rcases hi with e | e <;> rw [e] <;> omega)
theorem at_v {t : Th} (r : ThR t) : vv (atV t) := by
 have := wd_e r
 have h1 := r.a; have h2 := r.b; have h3 := r.c
 unfold atV vv
 simp only [bif_same, pL_e r.a, pL_e r.b, pL_e r.c, pH_e r r.a (.inl rfl), pH_e r r.b (.inr rfl), pH_e r r.c (.inl rfl), okSp_iff]
 omega
theorem dir_e {t : Th} (r : ThR t) : dirV t = ⟨t.d * 65536, t.d * 65536 + t.wd, t.e * 65536, t.e * 65536 + t.wd, bif t.k then -4294967296 else 4294967296 - t.wd, bif t.k then -4294967296 + t.wd else 4294967296⟩ := by
 have := wd_e r
 unfold dirV
 rw [lwi (x := 4294967296 - t.wd) (by omega), lwi (x := -4294967296 + t.wd) (by omega)]
 simp only [bif_same, dL_e r.d, dL_e r.e, dH_e r r.d, dH_e r r.e]
theorem dir_v {t : Th} (r : ThR t) : vv (dirV t) := by
 have := wd_e r
 have h1 := r.d; have h2 := r.e
 rw [dir_e r]
 unfold vv
 simp only [okSp_iff]
 cases t.k <;> simp only [cond_true, cond_false] <;> omega
theorem told_0 {lo hi : Int} (h : -4503599627370496 <= lo /\ lo <= 4503599627370496) (k : -4503599627370496 <= hi /\ hi <= 4503599627370496) : (toldS lo hi).e = 0 := by
 rw [told_of (by omega) (by omega) (by omega) (by omega)]
theorem sqr_small {a b M m : Int} (ho : okSp a b = true) (ha : -M <= a) (hb : b <= M) (hm : M * M <= m * 4294967296) (h0 : 0 <= m) (h1 : m <= 4503599627370496) : (sqrS a b).e = 0 /\ 0 <= (sqrS a b).lo /\ (sqrS a b).lo <= m /\ 0 <= (sqrS a b).hi /\ (sqrS a b).hi <= m := by
 have hab := (okSp_iff.1 ho).2.1
 have L0 : 0 <= abL a b := (le_mx (mx a (-b)) 0).2.1
 have L1 : abL a b <= M := by unfold abL; have p := le_mx a (-b); have q := le_mx (mx a (-b)) 0; omega
 have H0 : 0 <= abH a b := by unfold abH; have p := le_mx b (-a); omega
 have H1 : abH a b <= M := by unfold abH; have p := le_mx b (-a); omega
 have LL : abL a b * abL a b <= m * 4294967296 := Int.le_trans (Int.mul_le_mul L1 L1 L0 (by omega)) hm
 have HH : abH a b * abH a b <= m * 4294967296 := Int.le_trans (Int.mul_le_mul H1 H1 H0 (by omega)) hm
 have l0 : 0 <= rd (abL a b * abL a b) 4294967296 false := (rd_ge_iff two32).2 (by have := Int.mul_nonneg L0 L0; omega)
 have l1 : rd (abL a b * abL a b) 4294967296 false <= m := Int.le_trans (rd_le _ _ two32) ((rd_le_iff two32).2 LL)
 have h2 : 0 <= rd (abH a b * abH a b) 4294967296 true := Int.le_trans ((rd_ge_iff two32).2 (by have := Int.mul_nonneg H0 H0; omega)) (rd_le _ _ two32)
 have h3 : rd (abH a b * abH a b) 4294967296 true <= m := (rd_le_iff two32).2 HH
 unfold sqrS
 rw [ho]
 show (toldS _ _).e = 0 /\ 0 <= (toldS _ _).lo /\ (toldS _ _).lo <= m /\ 0 <= (toldS _ _).hi /\ (toldS _ _).hi <= m
 rw [told_of (by omega) (by omega) (by omega) (by omega)]
 exact ⟨rfl, l0, l1, h2, h3⟩
theorem add_small {a b c d : Int} (h1 : okSp a b = true) (h2 : okSp c d = true) (k1 : -4503599627370496 <= a + c) (k2 : b + d <= 4503599627370496) : addS a b c d = ⟨a + c, b + d, 0⟩ := by
 have p := okSp_iff.1 h1
 have q := okSp_iff.1 h2
 unfold addS
 rw [both_of h1 h2, told_of (by omega) (by omega) (by omega) (by omega)]
theorem dF_small {x y : Int} {up : Bool} (hy : 2147483648 <= y) (hx : -4294967296 <= x /\ x <= 4294967296) : -8589934592 <= dF x y up /\ dF x y up <= 8589934592 := by
 have hd : 0 < y := by omega
 unfold dF sg
 rw [decide_eq_false (show ¬ y < 0 by omega)]
 show -8589934592 <= rd (x * 4294967296) y up /\ rd (x * 4294967296) y up <= 8589934592
 have a : -8589934592 <= rd (x * 4294967296) y false := (rd_ge_iff hd).2 (by omega)
 have b : rd (x * 4294967296) y true <= 8589934592 := (rd_le_iff hd).2 (by omega)
 have c := rd_le (x * 4294967296) y hd
 cases up <;> omega
theorem div_small {a b c d : Int} (h1 : okSp a b = true) (h2 : okSp c d = true) (hc : 2147483648 <= c) (ha : -4294967296 <= a) (hb : b <= 4294967296) : (divS a b c d).e = 0 := by
 have p := okSp_iff.1 h1
 have q := okSp_iff.1 h2
 unfold divS
 rw [both_of h1 h2, decide_eq_false (show ¬ c <= 0 by omega)]
 show (hull4 dF a b c d).e = 0
 unfold hull4
 have f := fun (x y : Int) (up : Bool) => @dF_small x y up
 have m1 := f a c false (by omega) (by omega)
 have m2 := f a d false (by omega) (by omega)
 have m3 := f b c false (by omega) (by omega)
 have m4 := f b d false (by omega) (by omega)
 have n1 := f a c true (by omega) (by omega)
 have n2 := f a d true (by omega) (by omega)
 have n3 := f b c true (by omega) (by omega)
 have n4 := f b d true (by omega) (by omega)
 refine told_0 ?_ ?_
 .generalize dF a c false = u1 at *; generalize dF a d false = u2 at *; generalize dF b c false = u3 at *; generalize dF b d false = u4 at *
  have t1 := mn_le u1 u2
  have t2 := mn_le (mn u1 u2) u3
  have t3 := mn_le (mn (mn u1 u2) u3) u4
  omega
 .generalize dF a c true = u1 at *; generalize dF a d true = u2 at *; generalize dF b c true = u3 at *; generalize dF b d true = u4 at *
  have t1 := le_mx u1 u2
  have t2 := le_mx (mx u1 u2) u3
  have t3 := le_mx (mx (mx u1 u2) u3) u4
  omega
theorem dir_u {t : Th} (r : ThR t) : uO vf0 (dirV t) = 0 := by
 have hv := dir_v r
 have hw := wd_e r
 have h1 := r.d; have h2 := r.e
 have e0 := dir_e r
 generalize dirV t = v at *
 obtain ⟨v1, v2, v3⟩ := hv
 have s1 := sqr_small (M := 2147483651) (m := 1073741828) v1 (by rw [e0]; show _ <= t.d * 65536; omega) (by rw [e0]; show t.d * 65536 + t.wd <= _; omega) (by decide) (by decide) (by decide)
 have s2 := sqr_small (M := 2147483651) (m := 1073741828) v2 (by rw [e0]; show _ <= t.e * 65536; omega) (by rw [e0]; show t.e * 65536 + t.wd <= _; omega) (by decide) (by decide) (by decide)
 have s3 := sqr_small (M := 4294967296) (m := 4294967296) v3 (by rw [e0]; show _ <= (bif t.k then -4294967296 else 4294967296 - t.wd); cases t.k <;> simp only [cond_true, cond_false] <;> omega) (by rw [e0]; show (bif t.k then -4294967296 + t.wd else 4294967296) <= _; cases t.k <;> simp only [cond_true, cond_false] <;> omega) (by decide) (by decide) (by decide)
 have L : 4294967290 <= (sqrS v.e v.f).lo := by
  have e1 := (sqr_0 s3.1).2
  rw [e1]
  refine (rd_ge_iff two32).2 ?_
  have : 4294967293 <= abL v.e v.f := by
   unfold abL
   have p := le_mx v.e (-v.f)
   have q := le_mx (mx v.e (-v.f)) 0
   have : 4294967293 <= v.e ∨ 4294967293 <= -v.f := by
    rw [e0]
    show 4294967293 <= (bif t.k then -4294967296 else 4294967296 - t.wd) ∨ 4294967293 <= -(bif t.k then -4294967296 + t.wd else 4294967296)
    cases t.k <;> simp only [cond_true, cond_false] <;> omega
   omega
  have := Int.mul_le_mul this this (by decide) (by omega)
  omega
 have o1 : okSp (sqrS v.a v.b).lo (sqrS v.a v.b).hi = true := (r_sqr (s := ⟨v.a, v.b, 0⟩) (Ri.of v1) s1.1).ok
 have o2 : okSp (sqrS v.c v.d).lo (sqrS v.c v.d).hi = true := (r_sqr (s := ⟨v.c, v.d, 0⟩) (Ri.of v2) s2.1).ok
 have o3 : okSp (sqrS v.e v.f).lo (sqrS v.e v.f).hi = true := (r_sqr (s := ⟨v.e, v.f, 0⟩) (Ri.of v3) s3.1).ok
 have a1 : nA vf0 v = ⟨(sqrS v.a v.b).lo + (sqrS v.c v.d).lo, (sqrS v.a v.b).hi + (sqrS v.c v.d).hi, 0⟩ := (show nA vf0 v = addS (sqrS v.a v.b).lo (sqrS v.a v.b).hi (sqrS v.c v.d).lo (sqrS v.c v.d).hi from rfl).trans (add_small o1 o2 (by omega) (by omega))
 have p1 := okSp_iff.1 o1; have p2 := okSp_iff.1 o2; have p3 := okSp_iff.1 o3
 have al : (nA vf0 v).lo = (sqrS v.a v.b).lo + (sqrS v.c v.d).lo := congrArg Sp.lo a1
 have ah : (nA vf0 v).hi = (sqrS v.a v.b).hi + (sqrS v.c v.d).hi := congrArg Sp.hi a1
 have oA : okSp (nA vf0 v).lo (nA vf0 v).hi = true := okSp_iff.2 ⟨by omega, by omega, by omega⟩
 have a2 : nB vf0 v = ⟨(nA vf0 v).lo + (sqrS v.e v.f).lo, (nA vf0 v).hi + (sqrS v.e v.f).hi, 0⟩ := (show nB vf0 v = addS (nA vf0 v).lo (nA vf0 v).hi (sqrS v.e v.f).lo (sqrS v.e v.f).hi from rfl).trans (add_small oA o3 (by omega) (by omega))
 have bl' : (nB vf0 v).lo = (nA vf0 v).lo + (sqrS v.e v.f).lo := congrArg Sp.lo a2
 have bh' : (nB vf0 v).hi = (nA vf0 v).hi + (sqrS v.e v.f).hi := congrArg Sp.hi a2
 have bl : 4294967290 <= (nB vf0 v).lo := by omega
 have bh : (nB vf0 v).hi <= 6442450952 := by omega
 have bb : (nB vf0 v).lo <= (nB vf0 v).hi := by omega
 have oB : okSp (nB vf0 v).lo (nB vf0 v).hi = true := okSp_iff.2 ⟨by omega, bb, by omega⟩
 have eR : nR vf0 v = ⟨rtV (nB vf0 v).lo false, rtV (nB vf0 v).hi true, 0⟩ := by
  show sqrtS (nB vf0 v).lo (nB vf0 v).hi = _
  unfold sqrtS
  rw [oB, decide_eq_false (show ¬ (nB vf0 v).lo < 0 by omega)]
  rfl
 have q1 : sqOk (nB vf0 v).lo = true := by unfold sqOk okF; simp only [Bool.and_eq_true, decide_eq_true_eq]; omega
 have q2 : sqOk (nB vf0 v).hi = true := by unfold sqOk okF; simp only [Bool.and_eq_true, decide_eq_true_eq]; omega
 have rl : 2147483648 <= (nR vf0 v).lo := by
  rw [eR]
  show 2147483648 <= sqR (nB vf0 v).lo
  obtain ⟨g0, _, g2, _⟩ := sqR_spec q1
  rcases Int.lt_or_le (sqR (nB vf0 v).lo) 2147483648 with h | h
  .exfalso
   have := Int.mul_le_mul (show sqR (nB vf0 v).lo + 1 <= 2147483648 by omega) (show sqR (nB vf0 v).lo + 1 <= 2147483648 by omega) (by omega) (by decide)
   omega
  .exact h
 have oR : okSp (nR vf0 v).lo (nR vf0 v).hi = true := by
  have l := (rtV_range q1 false)
  have h := (rtV_range q2 true)
  have hle : (nR vf0 v).lo <= (nR vf0 v).hi := by
   obtain ⟨s, _, sc, _⟩ := sqrt_cn (a := (nB vf0 v).lo) (b := (nB vf0 v).hi) (x := ((nB vf0 v).lo : Rat) / 4294967296) (by show (nR vf0 v).e = 0; rw [eR]) (cn_mono (cn_pt _) (Int.le_refl _) bb) 1 (by decide)
   exact cn_le sc
  refine okSp_iff.2 ⟨by omega, hle, ?_⟩
  rw [eR]
  show rtV (nB vf0 v).hi true <= _
  exact Int.le_trans h.2 (by decide)
 have d1 : (nD1 vf0 v).e = 0 := div_small v1 oR rl (by rw [e0]; show _ <= t.d * 65536; omega) (by rw [e0]; show t.d * 65536 + t.wd <= _; omega)
 have d2 : (nD2 vf0 v).e = 0 := div_small v2 oR rl (by rw [e0]; show _ <= t.e * 65536; omega) (by rw [e0]; show t.e * 65536 + t.wd <= _; omega)
 have d3 : (nD3 vf0 v).e = 0 := div_small v3 oR rl (by rw [e0]; show _ <= (bif t.k then -4294967296 else 4294967296 - t.wd); cases t.k <;> simp only [cond_true, cond_false] <;> omega) (by rw [e0]; show (bif t.k then -4294967296 + t.wd else 4294967296) <= _; cases t.k <;> simp only [cond_true, cond_false] <;> omega)
 have c0 : vC0 vf0 v = 0 := by
  rw [vC0_eq vf0_law]
  have : wOk vf0 v = false := by
   show (!bif okSp v.a v.b then bif okSp v.c v.d then okSp v.e v.f else false else false) = false
   rw [v1, v2, v3]; rfl
  rw [this]; rfl
 have eE : uE vf0 v = 0 := by
  unfold uE
  have z : ∀ x y : Int, x = 0 -> y = 0 -> fe x y = 0 := fun x y hx hy => fe_z.2 ⟨hx, hy⟩
  exact z _ _ (z _ _ (z _ _ (z _ _ (z _ _ (z _ _ (z _ _ (z _ _ (z _ _ c0 s1.1) s2.1) s3.1) (by rw [a1])) (by rw [a2])) (by rw [eR])) d1) d2) d3
 unfold uO
 rw [eE]
 rfl
end Go.Iv
namespace Go.Iv
open Go Go.Ar Go.Rd Go.Vc
noncomputable def bAn : BA := fun s ys a b l v w => BX.ans ⟨bf0, s, ys, a, b, l, v, w⟩ (rightS s ys)
noncomputable def nf1 : NF := ⟨fun s ys => bif rightS s ys then 0 else 110, rightS, vC0 vf0, slpB, uV vf0, uO vf0, negS, chkS⟩
noncomputable def nAn : Su -> List Int -> Ve -> BO := fun s ys v => ⟨Vc.pV nf1 s ys v, pC nf1 s ys v, pE nf1 s ys v⟩
structure Good (X : BX) : Prop where
 hF : X.F = bf0
 hR : rightS X.S X.ys = true
 bi : X.bi = false
 v : vv X.v
 w : vv X.w
theorem vC0_0 {v : Ve} (h : vv v) : vC0 vf0 v = 0 := by
 obtain ⟨h1, h2, h3⟩ := h
 rw [vC0_eq vf0_law]
 have : wOk vf0 v = false := by
  show (!bif okSp v.a v.b then bif okSp v.c v.d then okSp v.e v.f else false else false) = false
  rw [h1, h2, h3]; rfl
 rw [this]; rfl
theorem Good.vz {X : BX} (G : Good X) : X.vz = true := by
 unfold BX.vz
 rw [G.hF]
 show (!(vC0 vf0 X.v != 0) && !(vC0 vf0 X.w != 0)) = true
 rw [vC0_0 G.v, vC0_0 G.w]
 rfl
theorem Good.fr {X : BX} (G : Good X) (x y z : Int) : X.fr x y z = z := by
 unfold BX.fr
 rw [G.bi, G.vz]; rfl
theorem Good.cz {X : BX} (G : Good X) (f : Int -> Int) (v : Ve) : cz (fun z => X.fr 0 0 (f z)) v = cz f v := by
 unfold Go.Vc.cz
 simp only [G.fr]
theorem pc_z {B : BT} (h : B.pc 9 9 9 0 = 0) (x y z w : Int) : B.pc x y z w = w := by
 unfold BT.pc at h ⊢
 cases h1 : B.g2 with
 | true => rw [h1] at h; cases h
 | false =>
  cases h2 : B.g5 with
  | true => rw [h1, h2] at h; cases h
  | false =>
   cases h3 : B.g3 with
   | true => rw [h1, h2, h3] at h; cases h
   | false => rfl
theorem ans_1 {X : BX} (G : Good X) (hk : X.S.kd = 1 ∨ X.S.kd = 2) : X.ans true = X.an1 := by
 unfold BX.ans
 rcases hk with h | h <;> rw [h] <;> rfl
theorem ans_e {X : BX} (G : Good X) : (X.ans true).e = 0 ∨ (X.ans true).e = 9 /\ (X.ans true).c ≠ 0 := by
 rcases right_kd G.hR with h | h | h | h
 .rw [ans_1 G (.inl h)]
  show X.fr 2 X.er (X.bt.pc 9 9 9 0) = 0 ∨ X.fr 2 X.er (X.bt.pc 9 9 9 0) = 9 /\ X.fr 0 0 (X.bt.pc 2 5 3 0) ≠ 0
  rw [G.fr, G.fr, X.bt.oc_eq.1, X.bt.oc_eq.2.1]
  cases k : X.bt.oc != 0 with
  | true => exact .inr ⟨rfl, by simpa using k⟩
  | false => exact .inl rfl
 .rw [ans_1 G (.inr h)]
  show X.fr 2 X.er (X.bt.pc 9 9 9 0) = 0 ∨ X.fr 2 X.er (X.bt.pc 9 9 9 0) = 9 /\ X.fr 0 0 (X.bt.pc 2 5 3 0) ≠ 0
  rw [G.fr, G.fr, X.bt.oc_eq.1, X.bt.oc_eq.2.1]
  cases k : X.bt.oc != 0 with
  | true => exact .inr ⟨rfl, by simpa using k⟩
  | false => exact .inl rfl
 .left
  unfold BX.ans
  rw [h]
  show X.fr 2 X.er 0 = 0
  exact G.fr _ _ _
 .unfold BX.ans
  rw [h]
  show X.fr 2 X.er (bif X.it.ok then 0 else 9) = 0 ∨ X.fr 2 X.er (bif X.it.ok then 0 else 9) = 9 /\ X.fr 0 0 (bif X.it.ok then 0 else bif X.it.g5 then 5 else 2) ≠ 0
  rw [G.fr, G.fr]
  cases X.it.ok with
  | true => exact .inl rfl
  | false => exact .inr ⟨rfl, by cases X.it.g5 <;> decide⟩
theorem ans_bent {X : BX} (G : Good X) (hk : X.S.kd = 1 ∨ X.S.kd = 2) (h : (X.ans true).e = 0) : X.bt.pc 9 9 9 0 = 0 /\ (X.ans true).v = X.out := by
 rw [ans_1 G hk] at h ⊢
 have h : X.fr 2 X.er (X.bt.pc 9 9 9 0) = 0 := h
 rw [G.fr] at h
 refine ⟨h, ?_⟩
 show cz (fun z => X.fr 0 0 (X.bt.pc 0 0 0 z)) X.out = X.out
 rw [G.cz]
 unfold cz
 simp only [pc_z h]
theorem nI {s : Su} {ys : List Int} {v : Ve} (hr : rightS s ys = true) (hv : vv v) (k x : Int) : pI nf1 s ys v k x = bif pP2 nf1 s ys v then 0 else bif pP5 nf1 s ys v then 0 else bif nK s then k else x := by
 unfold pI
 have e1 : nf1.ck s ys = 0 := by show (bif rightS s ys then 0 else 110) = (0 : Int); rw [hr]; rfl
 have e2 : nf1.vc v = 0 := vC0_0 hv
 rw [e1, e2]; rfl
theorem nE {s : Su} {ys : List Int} {v : Ve} (hr : rightS s ys = true) (hv : vv v) : pE nf1 s ys v = bif pP2 nf1 s ys v then 9 else bif pP5 nf1 s ys v then 9 else 0 := by
 unfold pE
 have e1 : nf1.ck s ys = 0 := by show (bif rightS s ys then 0 else 110) = (0 : Int); rw [hr]; rfl
 have e2 : nf1.vc v = 0 := vC0_0 hv
 rw [e1, e2]; rfl
theorem norm_e {s : Su} {ys : List Int} {v : Ve} (hr : rightS s ys = true) (hv : vv v) : (nAn s ys v).e = 0 ∨ (nAn s ys v).e = 9 := by
 show pE nf1 s ys v = 0 ∨ pE nf1 s ys v = 9
 rw [nE hr hv]
 cases pP2 nf1 s ys v <;> cases pP5 nf1 s ys v
 .exact .inl rfl
 .exact .inr rfl
 .exact .inr rfl
 .exact .inr rfl
theorem norm_0 {X : BX} (G : Good X) (hk : X.S.kd = 1 ∨ X.S.kd = 2) (f1 : X.F1 = 0) : (nAn X.S X.ys X.v).e = 0 /\ (nAn X.S X.ys X.v).v = X.u := by
 obtain ⟨g, _⟩ := fe_z.1 f1
 obtain ⟨g, e4⟩ := fe_z.1 g
 obtain ⟨g, e3⟩ := fe_z.1 g
 obtain ⟨e1, e2⟩ := fe_z.1 g
 obtain ⟨F, S, ys, a, b, l, v, w⟩ := X
 obtain rfl : F = bf0 := G.hF
 have hr := G.hR
 have hv := G.v
 have nk : nK S = false := by
  unfold nK
  rcases hk with h | h <;> (have h : S.kd = _ := h; rw [h]; rfl)
 have s4 : nG nf1 S ys v 4 = 0 := e1
 have x1 : (nX1 nf1 S ys v).e = 0 := e2
 have x2 : (nX2 nf1 S ys v).e = 0 := e3
 have xu : nU nf1 S ys v = 0 := e4
 have p2 : pP2 nf1 S ys v = false := by unfold pP2; rw [nk, s4, x1, x2, xu]; rfl
 have p5 : pP5 nf1 S ys v = false := by unfold pP5; rw [nk, s4, x1, x2, xu]; rfl
 refine ⟨by show pE nf1 S ys v = 0; rw [nE hr hv, p2, p5]; rfl, ?_⟩
 show Vc.pV nf1 S ys v = _
 unfold Vc.pV
 simp only [nI hr hv, p2, p5, nk, cond_false]
 rfl
theorem sub_b {a b c d : Int} {z : Rat} (e : (subS a b c d).e = 0) (h : cn (subS a b c d).lo (subS a b c d).hi z) : okSp (subS a b c d).lo (subS a b c d).hi = true := told_b (both_ok e).2.2 e (cn_le h)
def V3.crs (u v : V3) : V3 := ⟨u.y * v.z - u.z * v.y, u.z * v.x - u.x * v.z, u.x * v.y - u.y * v.x⟩
theorem f2_e (a b : Int) : f2 a b = fe a b := by
 unfold f2 fe
 simp only [bne]
 cases h : a == 0 with
 | true =>
  have := beq_iff_eq.1 h; subst this
  cases k : b == 0 with
  | true => have := beq_iff_eq.1 k; subst this; rfl
  | false => rfl
 | false => rfl
theorem ls_e (p q s : Sp) : lsE p q s = fe (fe p.e q.e) s.e := by
 unfold lsE
 rw [f2_e]
 unfold fe
 simp only [bne]
 cases (bif p.e == 0 then q.e else p.e) == 0 <;> rfl
theorem crE_0 {v w : Ve} (h : crE vf0 v w = 0) : ((xp1 vf0 v w).e = 0 /\ (xq1 vf0 v w).e = 0 /\ (xs1 vf0 v w).e = 0) /\ ((xp2 vf0 v w).e = 0 /\ (xq2 vf0 v w).e = 0 /\ (xs2 vf0 v w).e = 0) /\ ((xp3 vf0 v w).e = 0 /\ (xq3 vf0 v w).e = 0 /\ (xs3 vf0 v w).e = 0) := by
 unfold crE at h
 rw [f3_eq, ls_e, ls_e, ls_e] at h
 obtain ⟨g, h3⟩ := fe_z.1 h
 obtain ⟨h1, h2⟩ := fe_z.1 g
 have z : ∀ {p q s : Int}, fe (fe p q) s = 0 -> p = 0 /\ q = 0 /\ s = 0 := fun k => by
  obtain ⟨a, b⟩ := fe_z.1 k
  obtain ⟨c, d⟩ := fe_z.1 a
  exact ⟨c, d, b⟩
 exact ⟨z h1, z h2, z h3⟩
theorem crO_0 {v w : Ve} (h : crO vf0 v w = 0) : bBad vf0 v w = false /\ crE vf0 v w = 0 := by
 unfold crO at h
 cases k : bBad vf0 v w with
 | true => rw [k] at h; cases h
 | false =>
  rw [k] at h
  refine ⟨rfl, ?_⟩
  cases j : crE vf0 v w != 0 with
  | true => rw [j] at h; exact h
  | false => simpa using j
theorem cr_cn {v w : Ve} {u t : V3} (e : crO vf0 v w = 0) (h : cv v u) (k : cv w t) : cv (Vc.crV vf0 v w) (u.crs t) /\ vv (Vc.crV vf0 v w) := by
 obtain ⟨b, ec⟩ := crO_0 e
 obtain ⟨⟨a1, a2, a3⟩, ⟨b1, b2, b3⟩, c1, c2, c3⟩ := crE_0 ec
 have p1 := sub_cn a3 (mul_cn a1 h.2.1 k.2.2) (mul_cn a2 h.2.2 k.2.1)
 have p2 := sub_cn b3 (mul_cn b1 h.2.2 k.1) (mul_cn b2 h.1 k.2.2)
 have p3 := sub_cn c3 (mul_cn c1 h.1 k.2.1) (mul_cn c2 h.2.1 k.1)
 have ev : Vc.crV vf0 v w = ⟨(xs1 vf0 v w).lo, (xs1 vf0 v w).hi, (xs2 vf0 v w).lo, (xs2 vf0 v w).hi, (xs3 vf0 v w).lo, (xs3 vf0 v w).hi⟩ := by
  unfold Vc.crV Vc.crI lsI
  rw [b, ec]
  simp only [f2_e, a1, a2, b1, b2, c1, c2]
  rfl
 rw [ev]
 exact ⟨⟨p1, p2, p3⟩, sub_b a3 p1, sub_b b3 p2, sub_b c3 p3⟩
end Go.Iv
namespace Go.Iv
open Go Go.Ar Go.Rd Go.Vc
noncomputable def lf0 : LF := ⟨bAn, nAn, uV vf0, uO vf0, dotF vf0, Vc.crV vf0, crO vf0, fun v w => twoV vf0 v w vf0.ad, fun v w => twoO vf0 v w vf0.ad, gV vf0, gO vf0, scaleS, negS⟩
def KK : Nat := 1606938044258990275541962092341162602522202993782792835301376
def tt : Rat := 1 / 1606938044258990275541962092341162602522202993782792835301376
theorem KK_0 : 0 < KK := by decide
theorem KK_r : (KK : Rat) = 1606938044258990275541962092341162602522202993782792835301376 := rfl
theorem tiny_tt : tiny tt := by unfold tiny tt; grind
theorem le_tt {z : Rat} (h : z * (KK : Rat) <= 1) : z <= tt := by
 rw [KK_r] at h
 refine Rat.le_of_mul_le_mul_right (c := 1606938044258990275541962092341162602522202993782792835301376) (Rat.le_trans h ?_) (by decide)
 unfold tt
 grind
theorem cn_ok {a b : Int} (h : okSp a b = true) : cn a b ((a : Rat) / 4294967296) := cn_mono (cn_pt _) (Int.le_refl _) (okSp_iff.1 h).2.1
theorem neg_okS {a b : Int} (h : (negS a b).e = 0) : okSp a b = true := by
 unfold negS at h
 cases k : okSp a b with
 | true => rfl
 | false => rw [k] at h; cases h
theorem nrm_pt {X : BX} (hF : X.F = bf0) (f1 : X.F1 = 0) : ∃ n : V3, cv X.u n /\ 1 <= n.dot n /\ n.dot n <= 1 + 4 * tt := by
 have f1' := f1
 obtain ⟨g, _⟩ := fe_z.1 f1
 obtain ⟨g, _⟩ := fe_z.1 g
 obtain ⟨g, e3⟩ := fe_z.1 g
 obtain ⟨_, e2⟩ := fe_z.1 g
 rw [show X.n1 = negS (X.sl 0) (X.sl 1) from by show X.F.ng (X.sl 0) (X.sl 1) = _; rw [hF]; rfl] at e2
 rw [show X.n2 = negS (X.sl 2) (X.sl 3) from by show X.F.ng (X.sl 2) (X.sl 3) = _; rw [hF]; rfl] at e3
 obtain ⟨s, s0, s1, s2, cu⟩ := norm_cn hF f1' (cn_ok (neg_okS e2)) (cn_ok (neg_okS e3)) KK KK_0
 generalize ((X.sl 0 : Int) : Rat) / 4294967296 = p at *
 generalize ((X.sl 2 : Int) : Rat) / 4294967296 = q at *
 have w1 : 1 / 2 <= V3.dot ⟨-p, -q, 1⟩ ⟨-p, -q, 1⟩ := by
  have a := sq_nn p
  have b := sq_nn q
  show 1 / 2 <= -p * -p + -q * -q + 1 * 1
  grind
 exact ⟨_, cu, nrm w1 s0 s1 (le_tt s2) (tiny_4 tiny_tt)⟩
theorem tc1_t {a b c d : Int} (h : a <= d /\ c <= b) : Vc.tc1 a b c d = true := by
 unfold Vc.tc1
 rw [decide_eq_true h.1, decide_eq_true h.2]; rfl
theorem tcB_t {v w : Ve} (h : tch v w) : tcB v w = true := by
 unfold tcB
 rw [tc1_t h.1, tc1_t h.2.1, tc1_t h.2.2]; rfl
theorem cv_tch {v w : Ve} {u : V3} (h : cv v u) (k : cv w u) : tch v w := ⟨cn_touch h.1 k.1, cn_touch h.2.1 k.2.1, cn_touch h.2.2 k.2.2⟩
theorem ze_e (e : Int) : ze e = e := by
 unfold ze
 cases h : e != 0 with
 | true => rfl
 | false =>
  have : e = 0 := by simpa using h
  rw [this]; rfl
theorem kE_0 {E e : Int} (h : kE E e = 0) : E = 0 /\ e = 0 := by rw [kE_fe] at h; exact fe_z.1 h
theorem kI_0 {E e x : Int} (h : kE E e = 0) : kI E e x = x := by rw [kE_fe] at h; exact kI_z h
theorem kV_0 {E e : Int} {v : Ve} (h : kE E e = 0) : kV E e v = v := by rw [kE_fe] at h; exact kV_z h
section
variable {R N : BO} {D : Ve} {a b : Int}
end
theorem crs_out (S n : V3) (ρ : Rat) : ((tan3 S n).add (n.mul ρ)).crs n = S.crs n := by
 unfold tan3 V3.add V3.mul V3.sub V3.dot V3.crs
 simp only [V3.mk.injEq]
 refine ⟨?_, ?_, ?_⟩ <;> grind
end Go.Iv
namespace Go.Iv
open Go Go.Eng Go.Ar Go.Rd Go.Vc
def emp : ByteArray := ⟨#[]⟩
inductive Sf : Su -> Prop
 | std (c k a0 a1 a2 a3 : Int) (g : ByteArray) : (-100000000 <= c /\ c <= 100000000) -> (-100000000 <= k /\ k <= 100000000) -> (-100000000 <= a0 /\ a0 <= 100000000) -> (-100000000 <= a1 /\ a1 <= 100000000) -> (-100000000 <= a2 /\ a2 <= 100000000) -> (-100000000 <= a3 /\ a3 <= 100000000) -> (g = emp ∨ g = mirG0) -> Sf ⟨1, c, k, 0, 0, a0, a1, a2, a3, 0, 0, 0, 0, g, 0, 0, 0, 0, 0, 0, 0⟩
 | bic (c k l m : Int) (g : ByteArray) : (-100000000 <= c /\ c <= 100000000) -> (-100000000 <= k /\ k <= 100000000) -> (-100000000 <= l /\ l <= 100000000) -> (-100000000 <= m /\ m <= 100000000) -> (g = emp ∨ g = mirG0) -> Sf ⟨2, c, k, l, m, 0, 0, 0, 0, 0, 0, 0, 0, g, 0, 0, 0, 0, 0, 0, 0⟩
 | ide (c : Int) : (-100000000 <= c /\ c <= 100000000) -> Sf ⟨4, c, 0, 0, 0, 0, 0, 0, 0, 0, 0, 0, 0, emp, 0, 0, 0, 0, 0, 0, 0⟩
 | brk : Sf ⟨3, 0, 0, 0, 0, 0, 0, 0, 0, 0, 0, 0, 0, emp, 0, 0, 0, 0, 0, 0, 0⟩
theorem g_name {g : ByteArray} (h : g = emp ∨ g = mirG0) : (eqBytes g ⟨#[]⟩ || nameB g) = true := by
 rcases h with h | h <;> subst h <;> decide
theorem inR_t {lo hi n : Int} (h : lo <= n /\ n <= hi) : inR lo hi n = true := inR_iff.2 h
theorem right_1 {c k a0 a1 a2 a3 f0 f1 o : Int} {g : ByteArray} (hc : -100000000 <= c /\ c <= 100000000) (hk : -100000000 <= k /\ k <= 100000000) (h0 : -100000000 <= a0 /\ a0 <= 100000000) (h1 : -100000000 <= a1 /\ a1 <= 100000000) (h2 : -100000000 <= a2 /\ a2 <= 100000000) (h3 : -100000000 <= a3 /\ a3 <= 100000000) (hf : -1000000 <= f0 /\ f0 <= 1000000) (he : -1000000 <= f1 /\ f1 <= 1000000) (ho : -3 <= o /\ o <= 3) (hg : g = emp ∨ g = mirG0) (hx : (!(o == 0 || eqBytes g ⟨#[77, 73, 82, 82, 79, 82]⟩) || (o == 0 && (f0 == 0 && f1 == 0))) = true) : rightS ⟨1, c, k, 0, 0, a0, a1, a2, a3, f0, f1, o, 0, g, 0, 0, 0, 0, 0, 0, 0⟩ [] = true := by
 have n : numsB ⟨1, c, k, 0, 0, a0, a1, a2, a3, f0, f1, o, 0, g, 0, 0, 0, 0, 0, 0, 0⟩ = true := by
  unfold numsB noG
  simp only [inR_t (show -1000000000 <= c /\ c <= 1000000000 by omega), inR_t (show -1000000000 <= a0 /\ a0 <= 1000000000 by omega), inR_t (show -1000000000 <= a1 /\ a1 <= 1000000000 by omega), inR_t (show -1000000000 <= a2 /\ a2 <= 1000000000 by omega), inR_t (show -1000000000 <= a3 /\ a3 <= 1000000000 by omega), inR_t (show -1000000000 <= f0 /\ f0 <= 1000000000 by omega), inR_t (show -1000000000 <= f1 /\ f1 <= 1000000000 by omega), inR_t hk, inR_t ho, g_name hg]
  rfl
 have q : kindB ⟨1, c, k, 0, 0, a0, a1, a2, a3, f0, f1, o, 0, g, 0, 0, 0, 0, 0, 0, 0⟩ true = true := by
  unfold kindB noX noT isM noP
  simp only [hx]
  rfl
 show (numsB _ && kindB _ true && filmsB [] && decide (0 <= 24)) = true
 rw [n, q]
 rfl
theorem sf_g {S : Su} (h : Sf S) : S.g.size <= 6 := by
 have z : ∀ {g : ByteArray}, g = emp ∨ g = mirG0 -> g.size <= 6 := fun h => by rcases h with h | h <;> subst h <;> decide
 cases h with
 | std c k a0 a1 a2 a3 g hc hk h0 h1 h2 h3 hg => exact z hg
 | bic c k l m g hc hk hl hm hg => exact z hg
 | ide c hc => exact z (.inl rfl)
 | brk => exact z (.inl rfl)
structure MdR (m : Md) : Prop where
 a : 0 <= m.a /\ m.a <= 65535
 b : 0 <= m.b /\ m.b <= 65535
 l : 0 <= m.l /\ m.l <= 65535
 o : -128 <= m.o /\ m.o <= 127
 f0 : -128 <= m.f0 /\ m.f0 <= 127
 f1 : -128 <= m.f1 /\ m.f1 <= 127
theorem ixQ_e {x : Int} (h : 0 <= x /\ x <= 65535) : ixQ x = 10000000 + 250 * x := by
 unfold ixQ
 rw [lwi (x := x) (by omega), lwi (x := 250 * x) (by omega)]
 exact lwi (by omega)
theorem ixL_e {x : Int} (h : 0 <= x /\ x <= 65535) : ixL x = 400000 + 10 * x := by
 unfold ixL
 rw [lwi (x := x) (by omega), lwi (x := 10 * x) (by omega)]
 exact lwi (by omega)
theorem f_e {x : Int} (h : -128 <= x /\ x <= 127) : lw (1000 * lw x) = 1000 * x := by
 rw [lwi (x := x) (by omega)]
 exact lwi (by omega)
theorem sel0 (b : Bool) : selI b 0 0 = 0 := by cases b <;> rfl
theorem bi_f {F : BF} {S : Su} {ys : List Int} {a b l : Int} {v w : Ve} (ha : 10000000 <= a /\ a <= 40000000) (hb : 10000000 <= b /\ b <= 40000000) (hl : 300000 <= l /\ l <= 2500000) : (⟨F, S, ys, a, b, l, v, w⟩ : BX).bi = false := by
 rw [BX.bi_ri]
 unfold BX.ri
 simp only [BX.bt_or, Bool.or_eq_false_iff, decide_eq_false_iff_not]
 omega
theorem dir_un {t : Th} (r : ThR t) : vv (uV vf0 (dirV t)) := by
 have e := dir_u r
 obtain ⟨s, _, _, _, c⟩ := unit_cn e (cv_lo (dir_v r)) 1 (by decide)
 exact unit_v e c
theorem good_of {S : Su} {a b : Int} {m : Md} {t : Th} (hs : rightS S [] = true) (r : MdR m) (k : ThR t) (ha : 10000000 <= a /\ a <= 40000000) (hb : 10000000 <= b /\ b <= 40000000) {w : Ve} (hw : vv w) : Good ⟨bf0, S, [], a, b, ixL m.l, atV t, w⟩ := by
 have hl := r.l
 exact ⟨rfl, hs, bi_f ha hb (by rw [ixL_e hl]; omega), at_v k, hw⟩
theorem ix_r {x : Int} (h : 0 <= x /\ x <= 65535) : 10000000 <= ixQ x /\ ixQ x <= 40000000 := by rw [ixQ_e h]; omega
theorem be_e {S : Su} {a b l : Int} {v w : Ve} (hs : rightS S [] = true) : lf0.be S [] a b l v w = BX.ans ⟨bf0, S, [], a, b, l, v, w⟩ true := by
 show BX.ans _ (rightS S []) = _
 rw [hs]
end Go.Iv
namespace Go.Proofs.YtbboldpghkahjaaGreatDoor.K
open Go Go.Eng Go.Ar Go.Rd Go.Vc Go.Iv
noncomputable section
theorem noT_0 : noT nAn = normT nf0 := by kernel_rfl
theorem beT_0 : bendT bAn = bendT bAns := by kernel_rfl
theorem tblLX_g : ∀ x ∈ tblLX lf0 shS0, NOk Tryz.prog glob hG x.1 x.2 := by
 intro x hx
 simp only [tblLX, shpVF_0, List.mem_cons, List.not_mem_nil, or_false] at hx
 rcases hx with rfl | rfl | rfl | rfl | rfl | rfl | rfl | rfl | rfl | rfl | rfl
 .show NOk Tryz.prog glob hG _ (tSpec hG 3 bdPa (bendT bAn))
  rw [beT_0]
  exact bendT_ok bend_ok
 .show NOk Tryz.prog glob hG _ (tSpec hG 3 noPa (noT nAn))
  rw [noT_0]
  exact normT_ok norm_ok
 .exact ((runit_ok.g _ _).h).n
 .exact ((wdot_ok.g _ _).h).n
 .exact ((wcross_ok.g _ _).h).n
 .exact ((wadd_ok.g _ _).h).n
 .exact ((wneg_ok.g _ _).h).n
 .exact ((rsc_ok.g _ _).h).n
 .exact ((rneg_ok.g _ _).h).n
 .exact shp_ok
 .exact works_ok
theorem cLX_ok : CtxOk (cLX lf0 shS0 noH) := hinting_ok (mkN_ok prog_ok ext_ok tblLX_g fun _ h => by cases h) _
theorem spC_e {x : Int} (h : -32768 <= x /\ x <= 32767) : -100000000 <= spC x /\ spC x <= 100000000 := by
 have e : spC x = 1000 * x := by
  unfold spC
  rw [i64w (n := x) (by omega) (by omega)]
  exact i64w (by omega) (by omega)
 rw [e]; omega
theorem spK_e {x : Int} (h : -32768 <= x /\ x <= 32767) : -100000000 <= spK x /\ spK x <= 100000000 := by
 have e : spK x = 250 * x := by
  unfold spK
  rw [i64w (n := x) (by omega) (by omega)]
  exact i64w (by omega) (by omega)
 rw [e]; omega
theorem spA_e {x : Int} (h : -128 <= x /\ x <= 127) : -100000000 <= spA x /\ spA x <= 100000000 := by
 have e : spA x = 100 * x := by
  unfold spA
  rw [i64w (n := x) (by omega) (by omega)]
  exact i64w (by omega) (by omega)
 rw [e]; omega
theorem mirG_e (m : Bool) : mirG m = emp ∨ mirG m = mirG0 := match m with
 | true => .inr rfl
 | false => .inl rfl
structure SpRg (p : Sp14) : Prop where
 c0 : -32768 <= p.c0 /\ p.c0 <= 32767
 c1 : -32768 <= p.c1 /\ p.c1 <= 32767
 k0 : -32768 <= p.k0 /\ p.k0 <= 32767
 k1 : -32768 <= p.k1 /\ p.k1 <= 32767
 a0 : -128 <= p.a0 /\ p.a0 <= 127
 a1 : -128 <= p.a1 /\ p.a1 <= 127
 a2 : -128 <= p.a2 /\ p.a2 <= 127
 a3 : -128 <= p.a3 /\ p.a3 <= 127
theorem sh_f {p : Sp14} (h : SpRg p) : Sf (shS0 p) := by
 unfold shS0 shSu
 have z : (-100000000 : Int) <= 0 /\ (0 : Int) <= 100000000 := by decide
 split
 .exact .std _ _ 0 0 0 0 _ (spC_e h.c0) (spK_e h.k0) z z z z (mirG_e _)
 .exact .std _ _ 0 0 0 0 _ (spC_e h.c0) (spK_e h.k0) z z z z (mirG_e _)
 .exact .std _ _ _ _ _ _ _ (spC_e h.c0) (spK_e h.k0) (spA_e h.a0) (spA_e h.a1) (spA_e h.a2) (spA_e h.a3) (mirG_e _)
 .exact .bic _ _ _ _ _ (spC_e h.c0) (spK_e h.k0) (spC_e h.c1) (spK_e h.k1) (mirG_e _)
 .exact .ide _ (spC_e h.c0)
 .exact .brk
def shLX : List Sh := [.a p14I, .a [.i .u16, .i .u16, .i .u16, .i .i8, .i .i8, .i .i8], .a [.i .i16, .i .i16, .i .i16, .i .i16, .i .i16, .i .i16, .i .u8, .b]]
theorem args_lx {xs : List Nu} (hk : xs.map Nu.isN = Sh.kindsL shLX) (r : inRange (Sh.leavesL shLX) xs) : ∃ (p : Sp14) (m : Md) (t : Th), (Sh.mkL shLX xs).1 = [.agg p.cells, .agg m.cells, .agg t.cells] /\ 0 <= p.kd /\ SpRg p /\ MdR m /\ ThR t := by
 obtain ⟨x0, _, rfl, g0⟩ := kn hk
 obtain ⟨x1, _, rfl, g1⟩ := kn g0
 obtain ⟨x2, _, rfl, g2⟩ := kn g1
 obtain ⟨x3, _, rfl, g3⟩ := kn g2
 obtain ⟨x4, _, rfl, g4⟩ := kn g3
 obtain ⟨x5, _, rfl, g5⟩ := kn g4
 obtain ⟨x6, _, rfl, g6⟩ := kn g5
 obtain ⟨x7, _, rfl, g7⟩ := kn g6
 obtain ⟨x8, _, rfl, g8⟩ := kn g7
 obtain ⟨x9, _, rfl, g9⟩ := kt g8
 obtain ⟨y0, _, rfl, g10⟩ := kn g9
 obtain ⟨y1, _, rfl, g11⟩ := kn g10
 obtain ⟨y2, _, rfl, g12⟩ := kn g11
 obtain ⟨y3, _, rfl, g13⟩ := kn g12
 obtain ⟨y4, _, rfl, g14⟩ := kn g13
 obtain ⟨y5, _, rfl, g15⟩ := kn g14
 obtain ⟨z0, _, rfl, g16⟩ := kn g15
 obtain ⟨z1, _, rfl, g17⟩ := kn g16
 obtain ⟨z2, _, rfl, g18⟩ := kn g17
 obtain ⟨z3, _, rfl, g19⟩ := kn g18
 obtain ⟨z4, _, rfl, g20⟩ := kn g19
 obtain ⟨z5, _, rfl, g21⟩ := kn g20
 obtain ⟨z6, _, rfl, g22⟩ := kn g21
 obtain ⟨z7, _, rfl, g23⟩ := kt g22
 obtain rfl := k0 g23
 obtain ⟨r0, r1, r2, r3, r4, r5, r6, r7, r8, s0, s1, s2, s3, s4, s5, t0, t1, t2, t3, t4, t5, t6, -⟩ := r
 exact ⟨⟨x0, x1, x2, x3, x4, x5, x6, x7, x8, x9⟩, ⟨y0, y1, y2, y3, y4, y5⟩, ⟨z0, z1, z2, z3, z4, z5, z6, z7⟩, rfl, r0.1, ⟨r1, r2, r3, r4, r5, r6, r7, r8⟩, ⟨s0, s1, s2, s3, s4, s5⟩, ⟨t0, t1, t2, t3, t4, t6⟩⟩
end
end Go.Proofs.YtbboldpghkahjaaGreatDoor.K
namespace Go.Proofs.YtbboldpghkahjaaGreatDoor.K
open Go Go.Eng Go.Ar Go.Rd Go.Vc Go.Iv
noncomputable section
theorem oS_t {S : Su} (h : S.g.size <= 6) : oS S 0 := ⟨⟨by decide, by decide, rfl⟩, by omega⟩
end
end Go.Proofs.YtbboldpghkahjaaGreatDoor.K
namespace Go.Iv
open Go Go.Eng Go.Ar Go.Rd Go.Vc
end Go.Iv
namespace Go.Iv
open Go Go.Eng Go.Ar Go.Rd Go.Vc
end Go.Iv
namespace Go.Proofs.YtbboldpghkahjaaGreatDoor.K
open Go Go.Eng Go.Ar Go.Rd Go.Vc Go.Iv
noncomputable section
theorem mdP2_t {p : Sp14} {m : Md} (h : 0 <= p.kd) : mdP2 p m := by
 unfold mdP2
 simp only [h, and_self]
end
end Go.Proofs.YtbboldpghkahjaaGreatDoor.K
namespace Go.Iv
open Go Go.Eng Go.Ar Go.Rd Go.Vc
theorem slp_eq {c k l m a0 a1 a2 a3 f0 f1 o f0' f1' o' th se ho dx dy ax ay az : Int} {g : ByteArray} {kd : Int} {ys : List Int} (h : rightS ⟨kd, c, k, l, m, a0, a1, a2, a3, f0, f1, o, th, g, se, ho, dx, dy, ax, ay, az⟩ ys = true) (h' : rightS ⟨kd, c, k, l, m, a0, a1, a2, a3, f0', f1', o', th, g, se, ho, dx, dy, ax, ay, az⟩ ys = true) (a b x y : Int) (i : Nat) :
  slpB ⟨kd, c, k, l, m, a0, a1, a2, a3, f0, f1, o, th, g, se, ho, dx, dy, ax, ay, az⟩ ys a b x y i = slpB ⟨kd, c, k, l, m, a0, a1, a2, a3, f0', f1', o', th, g, se, ho, dx, dy, ax, ay, az⟩ ys a b x y i := by
 have e : sagG ⟨kd, c, k, l, m, a0, a1, a2, a3, f0, f1, o, th, g, se, ho, dx, dy, ax, ay, az⟩ ys a b x y = sagG ⟨kd, c, k, l, m, a0, a1, a2, a3, f0', f1', o', th, g, se, ho, dx, dy, ax, ay, az⟩ ys a b x y := by
  unfold sagG
  rw [h, h']
  rfl
 unfold slpB
 rw [e]
 rfl
theorem lf_add {v w : Ve} {u t : V3} (e : lf0.aO v w = 0) (h : cv v u) (k : cv w t) : cv (lf0.aV v w) (u.add t) := vadd_cn e h k
theorem orders_true {X1 X2 X3 : BX} (G1 : Good X1) (G2 : Good X2) (G3 : Good X3) (hk : X3.S.kd = 1) (k1 : X1.S.kd = 1) (k2 : X2.S.kd = 1) (u1 : X1.u = X3.u) (u2 : X2.u = X3.u) (v1 : X1.v = X3.v) (v2 : X2.v = X3.v) (w1 : X1.w = X3.w) (w2 : X2.w = X3.w)
  (hs : ∀ (d n : V3) (x y : Rat), ((thr X1 d x y).crs n).add ((thr X2 d x y).crs n) = ⟨((thr X3 d x y).crs n).x * ((2 : Int) : Rat) / ((1 : Int) : Rat), ((thr X3 d x y).crs n).y * ((2 : Int) : Rat) / ((1 : Int) : Rat), ((thr X3 d x y).crs n).z * ((2 : Int) : Rat) / ((1 : Int) : Rat)⟩) :
  orR lf0 (X1.ans true) (X2.ans true) (X3.ans true) (nAn X3.S X3.ys X3.v) = true := by
 have cx := cv_lo G3.v
 have cd := cv_lo G3.w
 have n9 : ∀ {R N : BO}, N.e = 9 ∨ R.e = 9 -> Go.Vc.n9 N R = true := fun h => by
  unfold Go.Vc.n9
  rcases h with h | h
  .rw [h]; rfl
  .rw [h]; cases _ == (9 : Int) <;> rfl
 unfold orR ob1 ob2 ob3
 rcases norm_e G3.hR G3.v with hn | hn
 .rw [hn]
  rcases ans_e G1 with h1 | ⟨h1, _⟩
  .rw [h1]
   rcases ans_e G2 with h2 | ⟨h2, _⟩
   .rw [h2]
    rcases ans_e G3 with h3 | ⟨h3, _⟩
    .rw [h3]
     show (bif oE7 lf0 (X1.ans true) (X2.ans true) (X3.ans true) (nAn X3.S X3.ys X3.v) != 0 then true else tcB (oS4 lf0 (X1.ans true) (X2.ans true) (X3.ans true) (nAn X3.S X3.ys X3.v)) (oT lf0 (X1.ans true) (X2.ans true) (X3.ans true) (nAn X3.S X3.ys X3.v))) = true
     cases he : oE7 lf0 (X1.ans true) (X2.ans true) (X3.ans true) (nAn X3.S X3.ys X3.v) != 0 with
     | true => rfl
     | false =>
      have he : oE7 lf0 (X1.ans true) (X2.ans true) (X3.ans true) (nAn X3.S X3.ys X3.v) = 0 := by simpa using he
      obtain ⟨p3, e3⟩ := ans_bent G3 (.inl hk) h3
      obtain ⟨p1, e1⟩ := ans_bent G1 (.inl k1) h1
      obtain ⟨p2, e2⟩ := ans_bent G2 (.inl k2) h2
      have f3 := (bent_0 p3).1
      obtain ⟨n, cu, _⟩ := nrm_pt G3.hF f3
      obtain ⟨_, n2⟩ := norm_0 G3 (.inl hk) f3
      obtain ⟨r3, B3⟩ := bent_cn G3.hF p3 cu cd cx.1 cx.2.1 KK KK_0
      obtain ⟨r1, B1⟩ := bent_cn G1.hF p1 (by rw [u1]; exact cu) (by rw [w1]; exact cd) (by rw [v1]; exact cx.1) (by rw [v1]; exact cx.2.1) KK KK_0
      obtain ⟨r2, B2⟩ := bent_cn G2.hF p2 (by rw [u2]; exact cu) (by rw [w2]; exact cd) (by rw [v2]; exact cx.1) (by rw [v2]; exact cx.2.1) KK KK_0
      have o1 := B1.out; have o2 := B2.out; have o3 := B3.out
      rw [<- e1] at o1
      rw [<- e2] at o2
      rw [<- e3] at o3
      rw [<- n2] at cu
      obtain ⟨g6, q3⟩ := kE_0 he
      obtain ⟨g5, q2⟩ := kE_0 g6
      obtain ⟨g4, q1⟩ := kE_0 g5
      obtain ⟨g3, qa⟩ := kE_0 g4
      obtain ⟨g2, x3⟩ := kE_0 g3
      obtain ⟨g1, x2⟩ := kE_0 g2
      have x1 : crO vf0 (X1.ans true).v (nAn X3.S X3.ys X3.v).v = 0 := by unfold oE1 at g1; rw [ze_e] at g1; exact g1
      have c1 := (cr_cn x1 o1 cu).1
      have c2 := (cr_cn x2 o2 cu).1
      have c3 := (cr_cn x3 o3 cu).1
      rw [crs_out] at c1 c2 c3
      have d1 : oV1 lf0 (X1.ans true) (nAn X3.S X3.ys X3.v) = Go.Vc.crV vf0 (X1.ans true).v (nAn X3.S X3.ys X3.v).v := by
       unfold oV1
       have x1' : lf0.xO (X1.ans true).v (nAn X3.S X3.ys X3.v).v = 0 := x1
       rw [x1']
       rfl
      have d2 : oV2 lf0 (X1.ans true) (X2.ans true) (nAn X3.S X3.ys X3.v) = Go.Vc.crV vf0 (X2.ans true).v (nAn X3.S X3.ys X3.v).v := kV_0 g2
      have d3 : oV3 lf0 (X1.ans true) (X2.ans true) (X3.ans true) (nAn X3.S X3.ys X3.v) = Go.Vc.crV vf0 (X3.ans true).v (nAn X3.S X3.ys X3.v).v := kV_0 g3
      rw [<- d1] at c1
      rw [<- d2] at c2
      rw [<- d3] at c3
      have s := lf_add qa c1 c2
      rw [hs] at s
      have sS : oS4 lf0 (X1.ans true) (X2.ans true) (X3.ans true) (nAn X3.S X3.ys X3.v) = lf0.aV (oV1 lf0 (X1.ans true) (nAn X3.S X3.ys X3.v)) (oV2 lf0 (X1.ans true) (X2.ans true) (nAn X3.S X3.ys X3.v)) := kV_0 g4
      rw [<- sS] at s
      refine tcB_t (cv_tch s ?_)
      unfold oT
      have z1 : kE (oE4 lf0 (X1.ans true) (X2.ans true) (X3.ans true) (nAn X3.S X3.ys X3.v)) (oq1 lf0 (X1.ans true) (X2.ans true) (X3.ans true) (nAn X3.S X3.ys X3.v)).e = 0 := g5
      have z2 : kE (oE5 lf0 (X1.ans true) (X2.ans true) (X3.ans true) (nAn X3.S X3.ys X3.v)) (oq2 lf0 (X1.ans true) (X2.ans true) (X3.ans true) (nAn X3.S X3.ys X3.v)).e = 0 := g6
      have z3 : kE (oE6 lf0 (X1.ans true) (X2.ans true) (X3.ans true) (nAn X3.S X3.ys X3.v)) (oq3 lf0 (X1.ans true) (X2.ans true) (X3.ans true) (nAn X3.S X3.ys X3.v)).e = 0 := he
      rw [kI_0 z1, kI_0 z1, kI_0 z2, kI_0 z2, kI_0 z3, kI_0 z3]
      exact ⟨scale_cn q1 c3.1, scale_cn q2 c3.2.1, scale_cn q3 c3.2.2⟩
    .rw [h3]
     exact n9 (.inr h3)
   .rw [h2]
    exact n9 (.inr h2)
  .rw [h1]
   exact n9 (.inr h1)
 .rw [hn]
  exact n9 (.inl hn)
def orB (S : Su) : Bool := bif S.kd == 1 then bif !eqBytes S.g mirG0 then true else false else false
def orS (S : Su) (f0 f1 o : Int) : Su := suBy (orB S) S (selI (orB S) S.c S.c) f0 f1 o
def orF (S : Su) (x y : Int) : Int := selI (orB S) (lw (1000 * lw x)) y
structure St1 (S : Su) : Prop where
 f : Sf S
 k : S.kd = 1
 g : S.g = emp
theorem or_right {S : Su} {f0 f1 o : Int} (h : St1 S) (hf : -1000000 <= f0 /\ f0 <= 1000000) (he : -1000000 <= f1 /\ f1 <= 1000000) (ho : -3 <= o /\ o <= 3) (hx : o ≠ 0 ∨ f0 = 0 /\ f1 = 0) : rightS (orS S f0 f1 o) [] = true := by
 obtain ⟨h, hk, hg⟩ := h
 cases h with
 | std c k a0 a1 a2 a3 g hc hkk h0 h1 h2 h3 hg' =>
  have hg : g = emp := hg
  subst hg
  refine right_1 hc hkk h0 h1 h2 h3 hf he ho (.inl rfl) ?_
  rcases hx with hx | ⟨h1, h2⟩
  .have : (o == 0) = false := by simpa using hx
   rw [this]; rfl
  .subst h1; subst h2
   cases o == 0 <;> rfl
 | bic c k l m g hc hk hl hm hg => cases hk
 | ide c hc => cases hk
 | brk => cases hk
theorem or_eq {S : Su} (h : St1 S) : orB S = true /\ ∀ f0 f1 o, orS S f0 f1 o = ⟨1, S.c, S.k, S.l, S.m, S.a0, S.a1, S.a2, S.a3, f0, f1, o, S.th, emp, S.se, S.ho, S.dx, S.dy, S.ax, S.ay, S.az⟩ := by
 obtain ⟨h, hk, hg⟩ := h
 have e : orB S = true := by
  unfold orB
  rw [hk, hg]; rfl
 refine ⟨e, fun f0 f1 o => ?_⟩
 unfold orS suBy
 rw [e]
 unfold selI
 simp only [cond_true, hk, hg]
theorem or_u {S S' : Su} {a b l : Int} {v w : Ve} (h : ∀ i, slpB S [] v.a v.b v.c v.d i = slpB S' [] v.a v.b v.c v.d i) : (⟨bf0, S, [], a, b, l, v, w⟩ : BX).u = (⟨bf0, S', [], a, b, l, v, w⟩ : BX).u := by
 have e : ∀ i, (⟨bf0, S, [], a, b, l, v, w⟩ : BX).sl i = (⟨bf0, S', [], a, b, l, v, w⟩ : BX).sl i := h
 have e1 : (⟨bf0, S, [], a, b, l, v, w⟩ : BX).n1 = (⟨bf0, S', [], a, b, l, v, w⟩ : BX).n1 := by
  unfold BX.n1
  rw [e 0, e 1]
 have e2 : (⟨bf0, S, [], a, b, l, v, w⟩ : BX).n2 = (⟨bf0, S', [], a, b, l, v, w⟩ : BX).n2 := by
  unfold BX.n2
  rw [e 2, e 3]
 have e3 : (⟨bf0, S, [], a, b, l, v, w⟩ : BX).nw = (⟨bf0, S', [], a, b, l, v, w⟩ : BX).nw := by
  unfold BX.nw
  rw [e1, e2]
 unfold BX.u
 rw [e3]
theorem gr_neg {X Y : BX} {x y : Rat} (h1 : Y.p2f = X.p2f) (h2 : Y.p4f = X.p4f) (h3 : Y.b = X.b) (h4 : Y.pol = -X.pol) : gr Y x y = -gr X x y := by
 unfold gr
 rw [h1, h2, h3, h4]
 push_cast
 generalize (1 * (X.p2f : Rat) / 100000 + (x * x + y * y) * (X.p4f : Rat) / 10000000) = A
 generalize (X.pol : Rat) = p
 generalize (X.b : Rat) = b
 have e : A * -p = -(A * p) := by grind
 rw [e]
 simp only [Rat.div_def, Rat.neg_mul]
theorem or_id (a b c x y g : Rat) (n : V3) : (V3.crs ⟨a + x * g, b + y * g, c⟩ n).add (V3.crs ⟨a + x * -g, b + y * -g, c⟩ n) = ⟨(V3.crs ⟨a, b, c⟩ n).x * ((2 : Int) : Rat) / ((1 : Int) : Rat), (V3.crs ⟨a, b, c⟩ n).y * ((2 : Int) : Rat) / ((1 : Int) : Rat), (V3.crs ⟨a, b, c⟩ n).z * ((2 : Int) : Rat) / ((1 : Int) : Rat)⟩ := by
 unfold V3.crs V3.add
 push_cast
 simp only [V3.mk.injEq]
 refine ⟨?_, ?_, ?_⟩ <;> grind
theorem orders_law {S : Su} {m : Md} {t : Th} (h : St1 S) (r : MdR m) (k : ThR t) : (!lf0.uO (dirV t) == 0) = false /\
  orR lf0 (lf0.be (orS S (orF S m.f0 S.f0) (orF S m.f1 S.f1) (selI (orB S) 1 S.o)) [] (ixQ m.a) (ixQ m.b) (ixL m.l) (atV t) (lf0.uV (dirV t))) (lf0.be (orS S (orF S m.f0 S.f0) (orF S m.f1 S.f1) (-1)) [] (ixQ m.a) (ixQ m.b) (ixL m.l) (atV t) (lf0.uV (dirV t))) (lf0.be (orS S 0 0 0) [] (ixQ m.a) (ixQ m.b) (ixL m.l) (atV t) (lf0.uV (dirV t))) (lf0.no (orS S 0 0 0) [] (atV t)) = true := by
 refine ⟨by show (!uO vf0 (dirV t) == 0) = false; rw [dir_u k]; rfl, ?_⟩
 obtain ⟨hb, he⟩ := or_eq h
 have f0 := r.f0; have f1 := r.f1; have rl := r.l
 have e0 : orF S m.f0 S.f0 = 1000 * m.f0 := by unfold orF; rw [hb]; exact f_e f0
 have e1 : orF S m.f1 S.f1 = 1000 * m.f1 := by unfold orF; rw [hb]; exact f_e f1
 have e2 : selI (orB S) 1 S.o = 1 := by rw [hb]; rfl
 rw [e0, e1, e2]
 have r1 := or_right h (f0 := 1000 * m.f0) (f1 := 1000 * m.f1) (o := 1) (by omega) (by omega) (by decide) (.inl (by decide))
 have r2 := or_right h (f0 := 1000 * m.f0) (f1 := 1000 * m.f1) (o := -1) (by omega) (by omega) (by decide) (.inl (by decide))
 have r3 := or_right h (f0 := 0) (f1 := 0) (o := 0) (by decide) (by decide) (by decide) (.inr ⟨rfl, rfl⟩)
 rw [be_e r1, be_e r2, be_e r3]
 have G1 := good_of r1 r k (ix_r r.a) (ix_r r.b) (dir_un k)
 have G2 := good_of r2 r k (ix_r r.a) (ix_r r.b) (dir_un k)
 have G3 := good_of r3 r k (ix_r r.a) (ix_r r.b) (dir_un k)
 rw [he] at r1 r2 r3 G1 G2 G3 ⊢
 rw [he, he]
 refine orders_true G1 G2 G3 rfl rfl rfl (or_u fun i => slp_eq r1 r3 _ _ _ _ i) (or_u fun i => slp_eq r2 r3 _ _ _ _ i) rfl rfl rfl rfl fun d n x y => ?_
 have hl := ixL_e rl
 have p1 : ∀ S' : Su, S'.o = 1 -> (⟨bf0, S', [], ixQ m.a, ixQ m.b, ixL m.l, atV t, lf0.uV (dirV t)⟩ : BX).pol = ixL m.l := fun S' h => by
  unfold BX.pol
  show IntKind.i64.wrap (S'.o * ixL m.l) = _
  rw [h, hl, Int.one_mul]
  exact BX.wr (by omega)
 have p2 : ∀ S' : Su, S'.o = -1 -> (⟨bf0, S', [], ixQ m.a, ixQ m.b, ixL m.l, atV t, lf0.uV (dirV t)⟩ : BX).pol = -ixL m.l := fun S' h => by
  unfold BX.pol
  show IntKind.i64.wrap (S'.o * ixL m.l) = _
  rw [h, hl]
  rw [show (-1 : Int) * (400000 + 10 * m.l) = -(400000 + 10 * m.l) by omega]
  exact BX.wr (by omega)
 have gn : ∀ F0 F1 : Int, gr ⟨bf0, ⟨1, S.c, S.k, S.l, S.m, S.a0, S.a1, S.a2, S.a3, F0, F1, -1, S.th, emp, S.se, S.ho, S.dx, S.dy, S.ax, S.ay, S.az⟩, [], ixQ m.a, ixQ m.b, ixL m.l, atV t, lf0.uV (dirV t)⟩ x y = -gr ⟨bf0, ⟨1, S.c, S.k, S.l, S.m, S.a0, S.a1, S.a2, S.a3, F0, F1, 1, S.th, emp, S.se, S.ho, S.dx, S.dy, S.ax, S.ay, S.az⟩, [], ixQ m.a, ixQ m.b, ixL m.l, atV t, lf0.uV (dirV t)⟩ x y := fun F0 F1 => gr_neg rfl rfl rfl ((p2 _ rfl).trans (by rw [p1 _ rfl]))
 unfold thr
 rw [gn]
 have m0 : eqBytes emp ⟨#[77, 73, 82, 82, 79, 82]⟩ = false := rfl
 simp only [BX.o0, BX.mir, m0]
 generalize gr _ x y = g
 exact or_id _ _ _ _ _ _ _
end Go.Iv
namespace Go.Proofs.YtbboldpghkahjaaGreatDoor.K
open Go Go.Eng Go.Ar Go.Rd Go.Vc Go.Iv
noncomputable section
theorem sO_g (S : Sp14 -> Su) (p : Sp14) (f0 f1 o : Int) (h : (S (p0 p)).g.size <= 6) : (sO S p f0 f1 o).g.size <= 6 := by
 show (bif qO S p then (S (p0 p)).g else (S (p0 p)).g).size <= 6
 cases qO S p <;> exact h
theorem suR_t {S : Su} {N : Int} : suR S N := by unfold suR; simp only [and_self]
theorem orders_lt : ∀ xs, xs.map Nu.isN = Sh.kindsL shLX -> inRange (Sh.leavesL shLX) xs -> LawTrue Tryz.prog glob hG 6 (Sh.mkL shLX xs).1 := by
 intro xs hk r
 obtain ⟨p, m, t, e, hp, rp, rm, rt⟩ := args_lx hk r
 rw [e]
 have rp0 : SpRg (p0 p) := ⟨rp.c0, rp.c1, rp.k0, rp.k1, rp.a0, rp.a1, rp.a2, rp.a3⟩
 have hs : St1 (shS0 (p0 p)) := ⟨sh_f rp0, rfl, rfl⟩
 obtain ⟨l1, l2⟩ := orders_law (t := t) hs rm rt
 have hg := sf_g hs.f
 have n0 : nO shS0 p = 0 := sel0 _
 refine ⟨cLX lf0 shS0 noH, 10000, _, true, _, cLX_ok, rfl, rfl, orders_run lf0 shS0 p m t, ⟨mdP2_t (by show (0 : Int) <= 0; decide), suR_t, fun _ => ?_⟩, ?_⟩
 .rw [n0]
  exact ⟨oS_t (sO_g _ _ _ _ _ hg), oS_t (sO_g _ _ _ _ _ hg), fun _ => ⟨oS_t (sO_g _ _ _ _ _ hg), fun _ => oS_t (sO_g _ _ _ _ _ hg)⟩⟩
 .unfold er7 Ro No
  rw [n0, l1]
  exact l2
end
end Go.Proofs.YtbboldpghkahjaaGreatDoor.K
