/- What is proved: SurfaceChecks returns true, whatever the input (part 12 of 28). No conditions beyond those of the row. -/
import Derived.Test.YtiigkjnhmipnfaaGreatDoorPE
import Derived.Test.YtiigkjnhmipnfaaGreatDoorPF
import Derived.Test.YtiigkjnhmipnfaaGreatDoorPG
import Derived.Test.YtiigkjnhmipnfaaGreatDoorPH
import Derived.Test.YtiigkjnhmipnfaaGreatDoorPI
import Derived.Test.YtiigkjnhmipnfaaGreatDoorPJ
import Derived.Test.YtiigkjnhmipnfaaGreatDoorPK
set_option linter.unusedVariables false
set_option linter.unusedSimpArgs false
set_option linter.unusedSectionVars false
namespace Go.Rd
open Go Go.Eng Go.Ar
theorem fE_eq (s : Su) (ys : List Int) (f : Bool) : fE (cE0 s f) ys = bif !f && numsB s && filmsB ys then 0 else 110 := by
 rw [cE0_eq]
 cases hb : (!f && numsB s) with
 | true => simp only [cond_true, fE_0, Bool.true_and]
 | false => simp only [cond_false, fE_1, Bool.false_and]
theorem len24 {ys : List Int} (h : ys.length ≤ 24) : decide (ys.length ≤ 24) = true := decide_eq_true h
theorem sel_kind {s : Su} {ys : List Int} {f : Bool} (h : ys.length ≤ 24) (k : kindB s ys.isEmpty = f) : rightS s ys = (f && numsB s && filmsB ys) := by
 unfold rightS
 rw [len24 h, k]
 cases f <;> cases numsB s <;> cases filmsB ys <;> rfl
theorem k1_eq {s : Su} {e : Bool} (hk : s.kd = 1) : kindB s e = k1N s := by
 unfold kindB k1N noX noT noP
 rw [hk]
 have hp : k1P s = !(s.o == 0 || isM s) := by
  unfold k1P
  cases h : s.o == 0 <;> simp [bne, h]
 simp only [beq_self_eq_true, Bool.true_and, Bool.and_true, show ((1 : Int) == 2) = false from rfl, show ((1 : Int) == 3) = false from rfl, show ((1 : Int) == 4) = false from rfl, Bool.false_and, Bool.or_false]
 have eb : ∀ b : ByteArray, eqBytes b b = true := fun b => (eqBytes_iff _ _).2 rfl
 rw [hp, eb]
 cases h : (s.o == 0 || isM s) with
 | true =>
  simp only [Bool.not_true, cond_false, Bool.false_or, beq_self_eq_true, Bool.true_and, Bool.and_true]
  cases s.o == 0 <;> cases s.l == 0 <;> cases s.m == 0 <;> cases s.dx == 0 <;> cases s.dy == 0 <;> cases s.ax == 0 <;> cases s.ay == 0 <;> cases s.az == 0 <;> simp
 | false =>
  simp only [Bool.not_false, cond_true, Bool.true_or, beq_self_eq_true, Bool.true_and, Bool.and_true]
  cases s.l == 0 <;> cases s.m == 0 <;> cases s.dx == 0 <;> cases s.dy == 0 <;> cases s.ax == 0 <;> cases s.ay == 0 <;> cases s.az == 0 <;> rfl
theorem k2_eq {s : Su} {e : Bool} (hk : s.kd = 2) : kindB s e = k2N s := by
 unfold kindB k2N noA noT noP
 rw [hk]
 have eb : ∀ b : ByteArray, eqBytes b b = true := fun b => (eqBytes_iff _ _).2 rfl
 simp only [eb, beq_self_eq_true, Bool.true_and, Bool.and_true, show ((2 : Int) == 1) = false from rfl, show ((2 : Int) == 3) = false from rfl, show ((2 : Int) == 4) = false from rfl, Bool.false_and, Bool.or_false, Bool.false_or]
 cases s.o == 0 <;> cases s.dx == 0 <;> cases s.dy == 0 <;> cases s.ax == 0 <;> cases s.ay == 0 <;> cases s.az == 0 <;> simp [Bool.and_assoc]
theorem k3_eq {s : Su} (hk : s.kd = 3) : kindB s true = k3N s := by
 unfold kindB k3N noX noA noP
 rw [hk]
 simp only [beq_self_eq_true, Bool.true_and, Bool.and_true, show ((3 : Int) == 1) = false from rfl, show ((3 : Int) == 2) = false from rfl, show ((3 : Int) == 4) = false from rfl, Bool.false_and, Bool.or_false, Bool.false_or]
 cases s.o == 0 <;> cases s.l == 0 <;> cases s.m == 0 <;> cases s.c == 0 <;> cases s.k == 0 <;> cases s.se == 0 <;> cases s.ho == 0 <;> cases noG s <;> simp [Bool.and_assoc]
theorem k4_eq {s : Su} (hk : s.kd = 4) : kindB s true = k4N s := by
 unfold kindB k4N noX noA noP noT
 rw [hk]
 simp only [beq_self_eq_true, Bool.true_and, Bool.and_true, show ((4 : Int) == 1) = false from rfl, show ((4 : Int) == 2) = false from rfl, show ((4 : Int) == 3) = false from rfl, Bool.false_and, Bool.or_false, Bool.false_or]
 cases s.o == 0 <;> cases s.l == 0 <;> cases s.m == 0 <;> cases s.k == 0 <;> cases s.dx == 0 <;> cases s.dy == 0 <;> cases s.ax == 0 <;> cases s.ay == 0 <;> cases s.az == 0 <;> cases noG s <;> simp [Bool.and_assoc]
theorem k34_f {s : Su} (hk : s.kd = 3 ∨ s.kd = 4) : kindB s false = false := by
 unfold kindB
 rcases hk with hk | hk <;> rw [hk] <;> simp
theorem k0_f {s : Su} {e : Bool} (hk : inR 1 4 s.kd = false) : kindB s e = false := by
 unfold inR at hk
 unfold kindB
 have h : ∀ k : Int, 1 ≤ k → k ≤ 4 → (s.kd == k) = false := by
  intro k h1 h2
  simp only [Bool.and_eq_false_iff, decide_eq_false_iff_not] at hk
  rw [beq_eq_false_iff_ne]
  omega
 rw [h 1 (by decide) (by decide), h 2 (by decide) (by decide), h 3 (by decide) (by decide), h 4 (by decide) (by decide)]
 rfl
theorem chk1_eq {s : Su} {ys : List Int} (hk : s.kd = 1) (h : ys.length ≤ 24) : chk1V s ys = bif rightS s ys then 0 else 110 := by
 unfold chk1V k1F
 rw [fE_eq, sel_kind h (k1_eq hk), fQ_t]
 cases k1N s <;> rfl
theorem chk2_eq {s : Su} {ys : List Int} (hk : s.kd = 2) (h : ys.length ≤ 24) : chk2V s ys = bif rightS s ys then 0 else 110 := by
 unfold chk2V k2F
 rw [fE_eq, sel_kind h (k2_eq hk), fQ_t]
 cases k2N s <;> rfl
theorem chk3_eq {s : Su} (hk : s.kd = 3) : cE0 s (k3F s) = bif rightS s [] then 0 else 110 := by
 unfold k3F
 rw [cE0_eq, sel_kind (ys := []) (by decide) (k3_eq hk)]
 cases k3N s <;> cases numsB s <;> rfl
theorem chk4_eq {s : Su} (hk : s.kd = 4) : cE0 s (k4F s) = bif rightS s [] then 0 else 110 := by
 unfold k4F
 rw [cE0_eq, sel_kind (ys := []) (by decide) (k4_eq hk)]
 cases k4N s <;> cases numsB s <;> rfl
theorem right_long {s : Su} {ys : List Int} (h : 24 < ys.length) : rightS s ys = false := by
 unfold rightS
 rw [decide_eq_false (by omega), Bool.and_false]
theorem right_kind {s : Su} {ys : List Int} (h : kindB s ys.isEmpty = false) : rightS s ys = false := by
 unfold rightS
 rw [h, Bool.and_false, Bool.false_and, Bool.false_and]
theorem rT4_eq (s : Su) : rT4 s = !(inR 0 1000000000 s.se && inR 0 1000000000 s.ho && (s.se == 0 || decide (s.ho < s.se))) := by
 unfold rT4 inR
 have e : ∀ a b : Int, decide (a < b) = !decide (b ≤ a) := fun a b => by
  cases h : decide (b ≤ a) <;> simp_all <;> omega
 have e2 : ∀ a b : Int, decide (a > b) = !decide (a ≤ b) := fun a b => by
  cases h : decide (a ≤ b) <;> simp_all
 rw [e s.se 0, e s.ho 0, e2 s.se 1000000000, e2 s.ho 1000000000]
 cases h1 : decide (0 ≤ s.se) <;> cases h2 : decide (s.se ≤ 1000000000) <;> cases h3 : decide (0 ≤ s.ho) <;> cases h4 : decide (s.ho ≤ 1000000000) <;> try rfl
 have h1 := of_decide_eq_true h1
 cases h5 : s.se == 0 with
 | true =>
  have := eq_of_beq h5
  rw [this]; rfl
 | false =>
  have := beq_eq_false_iff_ne.1 h5
  rw [decide_eq_true (show s.se > 0 by omega)]
  cases h6 : decide (s.ho < s.se) <;> simp_all
theorem rSm_eq (s : Su) (ys : List Int) : rSm s ys = (numsB s && filmsB ys) := by
 unfold rSm rT1 rT2 rT3 rT5 numsB
 rw [sel_eq, rL_eq, rT4_eq]
 simp only [rI_eq, Bool.not_not]
 have e : (bif decide (s.o ≥ -3) then bif decide (s.o ≤ 3) then bif noG s then true else nameB s.g else false else false) = (inR (-3) 3 s.o && (noG s || nameB s.g)) := by
  have : decide (s.o ≥ -3) = decide (-3 ≤ s.o) := rfl
  rw [this]
  unfold inR
  cases decide (-3 ≤ s.o) <;> cases decide (s.o ≤ 3) <;> cases noG s <;> rfl
 rw [e]
 generalize inR (-3) 3 s.o = y0
 generalize (noG s || nameB s.g) = y1
 generalize (s.se == 0 || decide (s.ho < s.se)) = y2
 generalize inR 0 1000000000 s.se = y3
 generalize inR 0 1000000000 s.ho = y4
 generalize inR (-1000000000) 1000000000 s.c = x0
 generalize inR (-1000000000) 1000000000 s.l = x1
 generalize inR (-1000000000) 1000000000 s.th = x2
 generalize inR (-1000000000) 1000000000 s.dx = x3
 generalize inR (-1000000000) 1000000000 s.dy = x4
 generalize inR (-1000000000) 1000000000 s.a0 = x5
 generalize inR (-1000000000) 1000000000 s.a1 = x6
 generalize inR (-1000000000) 1000000000 s.a2 = x7
 generalize inR (-1000000000) 1000000000 s.a3 = x8
 generalize inR (-1000000000) 1000000000 s.f0 = x9
 generalize inR (-1000000000) 1000000000 s.f1 = x10
 generalize inR (-100000000) 100000000 s.k = z0
 generalize inR (-100000000) 100000000 s.m = z1
 generalize inR (-90000000) 90000000 s.ax = z2
 generalize inR (-90000000) 90000000 s.ay = z3
 generalize inR (-90000000) 90000000 s.az = z4
 generalize filmsB ys = f
 have cb : ∀ a b : Bool, (bif !a then true else b) = (!a || b) := fun a b => by cases a <;> rfl
 have cb2 : ∀ a b : Bool, (bif a then false else b) = (!a && b) := fun a b => by cases a <;> rfl
 have cb3 : ∀ a b : Bool, (bif a then b else false) = (a && b) := fun a b => by cases a <;> rfl
 simp only [cb, cb2, cb3, Bool.not_or, Bool.not_and, Bool.not_not]
 ac_rfl
theorem rRight_eq {s : Su} {ys : List Int} (h : ys.length ≤ 24) (h3 : 3 ∣ ys.length) : rRight s ys = rightS s ys := by
 unfold rRight rightS
 rw [rSm_eq, len24 h, Bool.and_true]
 have hk : rKd s ys = kindB s ys.isEmpty := by
  unfold rKd kindB rK1 rK2 rK3 rK4 rX rS rA rP noX noT noA noP
  have cb3 : ∀ a b : Bool, (bif a then b else false) = (a && b) := fun a b => by cases a <;> rfl
  by_cases c1 : s.kd = 1
  ·rw [c1]
   simp only [beq_self_eq_true, Bool.not_true, Bool.false_and, cond_false, cond_true, Bool.true_and, show ((1 : Int) == 2) = false from rfl, show ((1 : Int) == 3) = false from rfl, show ((1 : Int) == 4) = false from rfl, Bool.or_false]
   cases s.o == 0 <;> cases isM s <;> cases s.l == 0 <;> cases s.m == 0 <;> cases s.dx == 0 <;> cases s.dy == 0 <;> cases s.ax == 0 <;> cases s.ay == 0 <;> cases s.az == 0 <;> simp
  ·by_cases c2 : s.kd = 2
   ·rw [c2]
    simp only [beq_self_eq_true, Bool.not_true, Bool.false_and, cond_false, cond_true, Bool.true_and, show ((2 : Int) == 1) = false from rfl, show ((2 : Int) == 3) = false from rfl, show ((2 : Int) == 4) = false from rfl, Bool.or_false, Bool.not_false, Bool.false_or]
    simp only [cb3, Bool.and_true]
    ac_rfl
   ·by_cases c3 : s.kd = 3
    ·rw [c3]
     simp only [beq_self_eq_true, Bool.not_true, Bool.false_and, cond_false, cond_true, Bool.true_and, show ((3 : Int) == 1) = false from rfl, show ((3 : Int) == 2) = false from rfl, show ((3 : Int) == 4) = false from rfl, Bool.or_false, Bool.not_false, Bool.false_or]
     cases ys with
     | nil =>
      simp only [cb3, Bool.and_true, List.isEmpty_nil, show ∀ a : Bool, (bif a then true else false) = a from fun a => by cases a <;> rfl]
      ac_rfl
     | cons y l => simp
    ·by_cases c4 : s.kd = 4
     ·rw [c4]
      simp only [beq_self_eq_true, Bool.not_true, Bool.false_and, cond_false, cond_true, Bool.true_and, show ((4 : Int) == 1) = false from rfl, show ((4 : Int) == 2) = false from rfl, show ((4 : Int) == 3) = false from rfl, Bool.or_false, Bool.not_false, Bool.false_or, Bool.and_false]
      cases ys with
      | nil =>
       simp only [cb3, Bool.and_true, List.isEmpty_nil, show ∀ a : Bool, (bif a then true else false) = a from fun a => by cases a <;> rfl]
       ac_rfl
      | cons y l => simp
     ·rw [beq_eq_false_iff_ne.2 c1, beq_eq_false_iff_ne.2 c2, beq_eq_false_iff_ne.2 c3, beq_eq_false_iff_ne.2 c4]; rfl
 rw [hk]
 cases numsB s <;> cases filmsB ys <;> cases kindB s ys.isEmpty <;> rfl
theorem spinF_len : ∀ (n i : Nat) (x : Nat → Int), (spinF n i x).length = n
 | 0, _, _ => rfl
 | n + 1, i, x => by rw [spinF, List.length_cons, spinF_len n]
theorem kdO_t {s : Su} (h : inR 1 4 s.kd = false) : kdO s = false := by
 unfold kdO
 rw [ix1_eq, oR_eq, h]; rfl
theorem inR_no {n : Int} (h1 : n ≠ 1) (h2 : n ≠ 2) (h3 : n ≠ 3) (h4 : n ≠ 4) : inR 1 4 n = false := by
 unfold inR
 cases a : decide (1 ≤ n) <;> cases b : decide (n ≤ 4) <;> simp_all <;> omega
end Go.Rd
namespace Go.Proofs.YtiigkjnhmipnfaaGreatDoor.K
open Go Go.Eng Go.Ar Go.Rd
noncomputable section
theorem len_fz (n : Nat) (x : Nat → Int) : (fz n x).length = 3 * n := spinF_len _ _ _
theorem r_long {s : Su} {n : Nat} {x : Nat → Int} (h : 9 ≤ n) : (110 : Int) = bif rightS s (fz n x) then 0 else 110 := by rw [right_long (by rw [len_fz]; omega)]; rfl
theorem r_kind {s : Su} {ys : List Int} (h : kindB s ys.isEmpty = false) : (110 : Int) = bif rightS s ys then 0 else 110 := by rw [right_kind h]; rfl
theorem ch1_all (s : Su) (x : Nat → Int) (hk : s.kd = 1) (hg : s.g.size < 1000000000) : ∀ n, n ≤ 12 → ∃ nd v0, rn cNm 18 s (.int false .i64 1) n x = some (nd, v0) ∧ v0.num = true ∧ nd.val ∧ tell v0 (.int true .i64 (bif rightS s (fz n x) then 0 else 110)) := fun n hn => match n, hn with
 | 0, _ => ⟨_, _, ch1_0 s x, rfl, chk1N_t hg, ⟨rfl, chk1_eq hk (by rw [len_fz]; decide)⟩⟩
 | 1, _ => ⟨_, _, ch1_1 s x, rfl, chk1N_t hg, ⟨rfl, chk1_eq hk (by rw [len_fz]; decide)⟩⟩
 | 2, _ => ⟨_, _, ch1_2 s x, rfl, chk1N_t hg, ⟨rfl, chk1_eq hk (by rw [len_fz]; decide)⟩⟩
 | 3, _ => ⟨_, _, ch1_3 s x, rfl, chk1N_t hg, ⟨rfl, chk1_eq hk (by rw [len_fz]; decide)⟩⟩
 | 4, _ => ⟨_, _, ch1_4 s x, rfl, chk1N_t hg, ⟨rfl, chk1_eq hk (by rw [len_fz]; decide)⟩⟩
 | 5, _ => ⟨_, _, ch1_5 s x, rfl, chk1N_t hg, ⟨rfl, chk1_eq hk (by rw [len_fz]; decide)⟩⟩
 | 6, _ => ⟨_, _, ch1_6 s x, rfl, chk1N_t hg, ⟨rfl, chk1_eq hk (by rw [len_fz]; decide)⟩⟩
 | 7, _ => ⟨_, _, ch1_7 s x, rfl, chk1N_t hg, ⟨rfl, chk1_eq hk (by rw [len_fz]; decide)⟩⟩
 | 8, _ => ⟨_, _, ch1_8 s x, rfl, chk1N_t hg, ⟨rfl, chk1_eq hk (by rw [len_fz]; decide)⟩⟩
 | 9, _ => ⟨_, _, ch1_9 s x, rfl, chk1N_t hg, ⟨rfl, r_long (by decide)⟩⟩
 | 10, _ => ⟨_, _, ch1_10 s x, rfl, chk1N_t hg, ⟨rfl, r_long (by decide)⟩⟩
 | 11, _ => ⟨_, _, ch1_11 s x, rfl, chk1N_t hg, ⟨rfl, r_long (by decide)⟩⟩
 | 12, _ => ⟨_, _, ch1_12 s x, rfl, chk1N_t hg, ⟨rfl, r_long (by decide)⟩⟩
theorem ch2_all (s : Su) (x : Nat → Int) (hk : s.kd = 2) (hg : s.g.size < 1000000000) : ∀ n, n ≤ 12 → ∃ nd v0, rn cNm 18 s (.int false .i64 2) n x = some (nd, v0) ∧ v0.num = true ∧ nd.val ∧ tell v0 (.int true .i64 (bif rightS s (fz n x) then 0 else 110)) := fun n hn => match n, hn with
 | 0, _ => ⟨_, _, ch2_0 s x, rfl, chk2N_t hg, ⟨rfl, chk2_eq hk (by rw [len_fz]; decide)⟩⟩
 | 1, _ => ⟨_, _, ch2_1 s x, rfl, chk2N_t hg, ⟨rfl, chk2_eq hk (by rw [len_fz]; decide)⟩⟩
 | 2, _ => ⟨_, _, ch2_2 s x, rfl, chk2N_t hg, ⟨rfl, chk2_eq hk (by rw [len_fz]; decide)⟩⟩
 | 3, _ => ⟨_, _, ch2_3 s x, rfl, chk2N_t hg, ⟨rfl, chk2_eq hk (by rw [len_fz]; decide)⟩⟩
 | 4, _ => ⟨_, _, ch2_4 s x, rfl, chk2N_t hg, ⟨rfl, chk2_eq hk (by rw [len_fz]; decide)⟩⟩
 | 5, _ => ⟨_, _, ch2_5 s x, rfl, chk2N_t hg, ⟨rfl, chk2_eq hk (by rw [len_fz]; decide)⟩⟩
 | 6, _ => ⟨_, _, ch2_6 s x, rfl, chk2N_t hg, ⟨rfl, chk2_eq hk (by rw [len_fz]; decide)⟩⟩
 | 7, _ => ⟨_, _, ch2_7 s x, rfl, chk2N_t hg, ⟨rfl, chk2_eq hk (by rw [len_fz]; decide)⟩⟩
 | 8, _ => ⟨_, _, ch2_8 s x, rfl, chk2N_t hg, ⟨rfl, chk2_eq hk (by rw [len_fz]; decide)⟩⟩
 | 9, _ => ⟨_, _, ch2_9 s x, rfl, chk2N_t hg, ⟨rfl, r_long (by decide)⟩⟩
 | 10, _ => ⟨_, _, ch2_10 s x, rfl, chk2N_t hg, ⟨rfl, r_long (by decide)⟩⟩
 | 11, _ => ⟨_, _, ch2_11 s x, rfl, chk2N_t hg, ⟨rfl, r_long (by decide)⟩⟩
 | 12, _ => ⟨_, _, ch2_12 s x, rfl, chk2N_t hg, ⟨rfl, r_long (by decide)⟩⟩
theorem ch3_all (s : Su) (x : Nat → Int) (hk : s.kd = 3) (hg : s.g.size < 1000000000) : ∀ n, n ≤ 12 → ∃ nd v0, rn cNm 18 s (.int false .i64 3) n x = some (nd, v0) ∧ v0.num = true ∧ nd.val ∧ tell v0 (.int true .i64 (bif rightS s (fz n x) then 0 else 110)) := fun n hn => match n, hn with
 | 0, _ => ⟨_, _, ch3_0 s x, rfl, ⟨w3_t, nmC_t hg⟩, ⟨rfl, chk3_eq hk⟩⟩
 | 1, _ => ⟨_, _, ch3_1 s x, rfl, w3_t, ⟨rfl, r_kind (k34_f (.inl hk))⟩⟩
 | 2, _ => ⟨_, _, ch3_2 s x, rfl, w3_t, ⟨rfl, r_kind (k34_f (.inl hk))⟩⟩
 | 3, _ => ⟨_, _, ch3_3 s x, rfl, w3_t, ⟨rfl, r_kind (k34_f (.inl hk))⟩⟩
 | 4, _ => ⟨_, _, ch3_4 s x, rfl, w3_t, ⟨rfl, r_kind (k34_f (.inl hk))⟩⟩
 | 5, _ => ⟨_, _, ch3_5 s x, rfl, w3_t, ⟨rfl, r_kind (k34_f (.inl hk))⟩⟩
 | 6, _ => ⟨_, _, ch3_6 s x, rfl, w3_t, ⟨rfl, r_kind (k34_f (.inl hk))⟩⟩
 | 7, _ => ⟨_, _, ch3_7 s x, rfl, w3_t, ⟨rfl, r_kind (k34_f (.inl hk))⟩⟩
 | 8, _ => ⟨_, _, ch3_8 s x, rfl, w3_t, ⟨rfl, r_kind (k34_f (.inl hk))⟩⟩
 | 9, _ => ⟨_, _, ch3_9 s x, rfl, w3_t, ⟨rfl, r_kind (k34_f (.inl hk))⟩⟩
 | 10, _ => ⟨_, _, ch3_10 s x, rfl, w3_t, ⟨rfl, r_kind (k34_f (.inl hk))⟩⟩
 | 11, _ => ⟨_, _, ch3_11 s x, rfl, w3_t, ⟨rfl, r_kind (k34_f (.inl hk))⟩⟩
 | 12, _ => ⟨_, _, ch3_12 s x, rfl, w3_t, ⟨rfl, r_kind (k34_f (.inl hk))⟩⟩
theorem ch4_all (s : Su) (x : Nat → Int) (hk : s.kd = 4) (hg : s.g.size < 1000000000) : ∀ n, n ≤ 12 → ∃ nd v0, rn cNm 18 s (.int false .i64 4) n x = some (nd, v0) ∧ v0.num = true ∧ nd.val ∧ tell v0 (.int true .i64 (bif rightS s (fz n x) then 0 else 110)) := fun n hn => match n, hn with
 | 0, _ => ⟨_, _, ch4_0 s x, rfl, ⟨w4_t, nmC_t hg⟩, ⟨rfl, chk4_eq hk⟩⟩
 | 1, _ => ⟨_, _, ch4_1 s x, rfl, w4_t, ⟨rfl, r_kind (k34_f (.inr hk))⟩⟩
 | 2, _ => ⟨_, _, ch4_2 s x, rfl, w4_t, ⟨rfl, r_kind (k34_f (.inr hk))⟩⟩
 | 3, _ => ⟨_, _, ch4_3 s x, rfl, w4_t, ⟨rfl, r_kind (k34_f (.inr hk))⟩⟩
 | 4, _ => ⟨_, _, ch4_4 s x, rfl, w4_t, ⟨rfl, r_kind (k34_f (.inr hk))⟩⟩
 | 5, _ => ⟨_, _, ch4_5 s x, rfl, w4_t, ⟨rfl, r_kind (k34_f (.inr hk))⟩⟩
 | 6, _ => ⟨_, _, ch4_6 s x, rfl, w4_t, ⟨rfl, r_kind (k34_f (.inr hk))⟩⟩
 | 7, _ => ⟨_, _, ch4_7 s x, rfl, w4_t, ⟨rfl, r_kind (k34_f (.inr hk))⟩⟩
 | 8, _ => ⟨_, _, ch4_8 s x, rfl, w4_t, ⟨rfl, r_kind (k34_f (.inr hk))⟩⟩
 | 9, _ => ⟨_, _, ch4_9 s x, rfl, w4_t, ⟨rfl, r_kind (k34_f (.inr hk))⟩⟩
 | 10, _ => ⟨_, _, ch4_10 s x, rfl, w4_t, ⟨rfl, r_kind (k34_f (.inr hk))⟩⟩
 | 11, _ => ⟨_, _, ch4_11 s x, rfl, w4_t, ⟨rfl, r_kind (k34_f (.inr hk))⟩⟩
 | 12, _ => ⟨_, _, ch4_12 s x, rfl, w4_t, ⟨rfl, r_kind (k34_f (.inr hk))⟩⟩
theorem ch0_all (s : Su) (x : Nat → Int) (hk : inR 1 4 s.kd = false) (hg : s.g.size < 1000000000) : ∀ n, n ≤ 12 → ∃ nd v0, rn cNk 18 s (.int true .i64 s.kd) n x = some (nd, v0) ∧ v0.num = true ∧ nd.val ∧ tell v0 (.int true .i64 (bif rightS s (fz n x) then 0 else 110)) := fun n hn => match n, hn with
 | 0, _ => ⟨_, _, ch0_0 s x, rfl, kdO_t hk, ⟨rfl, r_kind (k0_f hk)⟩⟩
 | 1, _ => ⟨_, _, ch0_1 s x, rfl, kdO_t hk, ⟨rfl, r_kind (k0_f hk)⟩⟩
 | 2, _ => ⟨_, _, ch0_2 s x, rfl, kdO_t hk, ⟨rfl, r_kind (k0_f hk)⟩⟩
 | 3, _ => ⟨_, _, ch0_3 s x, rfl, kdO_t hk, ⟨rfl, r_kind (k0_f hk)⟩⟩
 | 4, _ => ⟨_, _, ch0_4 s x, rfl, kdO_t hk, ⟨rfl, r_kind (k0_f hk)⟩⟩
 | 5, _ => ⟨_, _, ch0_5 s x, rfl, kdO_t hk, ⟨rfl, r_kind (k0_f hk)⟩⟩
 | 6, _ => ⟨_, _, ch0_6 s x, rfl, kdO_t hk, ⟨rfl, r_kind (k0_f hk)⟩⟩
 | 7, _ => ⟨_, _, ch0_7 s x, rfl, kdO_t hk, ⟨rfl, r_kind (k0_f hk)⟩⟩
 | 8, _ => ⟨_, _, ch0_8 s x, rfl, kdO_t hk, ⟨rfl, r_kind (k0_f hk)⟩⟩
 | 9, _ => ⟨_, _, ch0_9 s x, rfl, kdO_t hk, ⟨rfl, r_kind (k0_f hk)⟩⟩
 | 10, _ => ⟨_, _, ch0_10 s x, rfl, kdO_t hk, ⟨rfl, r_kind (k0_f hk)⟩⟩
 | 11, _ => ⟨_, _, ch0_11 s x, rfl, kdO_t hk, ⟨rfl, r_kind (k0_f hk)⟩⟩
 | 12, _ => ⟨_, _, ch0_12 s x, rfl, kdO_t hk, ⟨rfl, r_kind (k0_f hk)⟩⟩
theorem rt_all (s : Su) (x : Nat → Int) (hg : s.g.size < 1000000000) : ∀ n, n ≤ 12 → ∃ nd v0, rn cNm 59 s (.int true .i64 s.kd) n x = some (nd, v0) ∧ v0.num = true ∧ nd.val ∧ tell v0 (.bool true (rightS s (fz n x))) := fun n hn => match n, hn with
 | 0, _ => ⟨_, _, rt_0 s x, rfl, rRightN_t hg, rRight_eq (by rw [len_fz]; decide) (by rw [len_fz]; exact Nat.dvd_mul_right _ _)⟩
 | 1, _ => ⟨_, _, rt_1 s x, rfl, rRightN_t hg, rRight_eq (by rw [len_fz]; decide) (by rw [len_fz]; exact Nat.dvd_mul_right _ _)⟩
 | 2, _ => ⟨_, _, rt_2 s x, rfl, rRightN_t hg, rRight_eq (by rw [len_fz]; decide) (by rw [len_fz]; exact Nat.dvd_mul_right _ _)⟩
 | 3, _ => ⟨_, _, rt_3 s x, rfl, rRightN_t hg, rRight_eq (by rw [len_fz]; decide) (by rw [len_fz]; exact Nat.dvd_mul_right _ _)⟩
 | 4, _ => ⟨_, _, rt_4 s x, rfl, rRightN_t hg, rRight_eq (by rw [len_fz]; decide) (by rw [len_fz]; exact Nat.dvd_mul_right _ _)⟩
 | 5, _ => ⟨_, _, rt_5 s x, rfl, rRightN_t hg, rRight_eq (by rw [len_fz]; decide) (by rw [len_fz]; exact Nat.dvd_mul_right _ _)⟩
 | 6, _ => ⟨_, _, rt_6 s x, rfl, rRightN_t hg, rRight_eq (by rw [len_fz]; decide) (by rw [len_fz]; exact Nat.dvd_mul_right _ _)⟩
 | 7, _ => ⟨_, _, rt_7 s x, rfl, rRightN_t hg, rRight_eq (by rw [len_fz]; decide) (by rw [len_fz]; exact Nat.dvd_mul_right _ _)⟩
 | 8, _ => ⟨_, _, rt_8 s x, rfl, rRightN_t hg, rRight_eq (by rw [len_fz]; decide) (by rw [len_fz]; exact Nat.dvd_mul_right _ _)⟩
 | 9, _ => ⟨_, _, rt_9 s x, rfl, trivial, (right_long (by rw [len_fz]; decide)).symm⟩
 | 10, _ => ⟨_, _, rt_10 s x, rfl, trivial, (right_long (by rw [len_fz]; decide)).symm⟩
 | 11, _ => ⟨_, _, rt_11 s x, rfl, trivial, (right_long (by rw [len_fz]; decide)).symm⟩
 | 12, _ => ⟨_, _, rt_12 s x, rfl, trivial, (right_long (by rw [len_fz]; decide)).symm⟩
def suV (V : Su → List Int → AV) : Nat → List Itm → Option (Prop × AV × List ABody) := fun _ its => match its with
 | [.s xs n ys] => match suOf xs with
  | some s => some (okF3 n ys ∧ s.g.size < 1000000000, V s ys, [])
  | none => none
 | _ => none
theorem tell_su (s : Su) (kd : AV) (k : Nat) (ys : List Int) (h : tell (.int true .i64 s.kd) kd) : tellL (mkA false hG.size [.s suI .i64] [.s s.nus (k : Int) ys]) [suA s kd k] := by
 have e : mkA false hG.size [.s suI .i64] [.s s.nus (k : Int) ys] = [.agg (s.ini ++ [.pslice hG.size (k : Int).toNat false (k : Int)])] := rfl
 rw [e, Int.toNat_natCast]
 refine ⟨⟨h, ?_⟩, trivial⟩
 repeat' first
  | exact trivial
  | refine ⟨⟨rfl, rfl⟩, ?_⟩
  | refine ⟨rfl, ?_⟩
  | exact ⟨⟨rfl, Nat.le_refl _, rfl⟩, trivial⟩
theorem su_ok {f : FuncId} {V : Su → List Int → AV} (fn : ∃ fn : Func, Tryz.prog.funcs[f]? = some fn ∧ fn.body.isSome = true)
  (h : ∀ (s : Su) (x : Nat → Int) (n : Nat), s.g.size < 1000000000 → n ≤ 12 → ∃ (C : Ctx) (kd : AV) (nd : Nd) (v0 : AV), CtxOk C ∧ C.P = Tryz.prog ∧ C.glob = glob ∧ tell (.int true .i64 s.kd) kd ∧ rn C f s kd n x = some (nd, v0) ∧ v0.num = true ∧ nd.val ∧ tell v0 (V s (fz n x))) :
  NOk Tryz.prog glob hG f (lSpec hG [.s suI .i64] (suV V)) := by
 refine lsp_ok false hG_ok hG_plain glob_lt (fun sz its p v bs e hp => ?_) fn
 unfold suV at e
 split at e
 ·rename_i xs n ys
  split at e
  ·rename_i s hs
   cases e
   obtain ⟨ho, hg⟩ := hp
   obtain ⟨k, x, hk, rfl, rfl⟩ := okF3_of ho
   obtain rfl := suOf_eq hs
   obtain ⟨C, kd, nd, v0, co, hP, hG', ht, hr, hnum, hnd, hv⟩ := h s x k hg hk
   obtain ⟨q, h1, h2, h3, h4⟩ := oneG_tells hr hnum
   refine ⟨⟨fun h0 => ?_, trivial⟩, rfl, C, 1000, [suA s kd k], nd, v0, q, co, hP, hG', tell_su s kd k _ ht, h1, h2, hnd, h3, h4 sz _ hv⟩
   have := congrArg List.length h0
   rw [spinF_len] at this
   simp only [List.length_nil] at this
   omega
  ·cases e
 ·cases e
def chkA : Su → List Int → AV := fun s ys => .int true .i64 (bif rightS s ys then 0 else 110)
theorem chkA_ok : NOk Tryz.prog glob hG 18 (lSpec hG [.s suI .i64] (suV chkA)) := by
 refine su_ok ⟨_, Tryz.func18, rfl⟩ fun s x n hg hn => ?_
 by_cases c1 : s.kd = 1
 ·obtain ⟨nd, v0, a⟩ := ch1_all s x c1 hg n hn
  exact ⟨cNm, .int false .i64 1, nd, v0, cNm_ok, rfl, rfl, ⟨rfl, c1⟩, a⟩
 ·by_cases c2 : s.kd = 2
  ·obtain ⟨nd, v0, a⟩ := ch2_all s x c2 hg n hn
   exact ⟨cNm, .int false .i64 2, nd, v0, cNm_ok, rfl, rfl, ⟨rfl, c2⟩, a⟩
  ·by_cases c3 : s.kd = 3
   ·obtain ⟨nd, v0, a⟩ := ch3_all s x c3 hg n hn
    exact ⟨cNm, .int false .i64 3, nd, v0, cNm_ok, rfl, rfl, ⟨rfl, c3⟩, a⟩
   ·by_cases c4 : s.kd = 4
    ·obtain ⟨nd, v0, a⟩ := ch4_all s x c4 hg n hn
     exact ⟨cNm, .int false .i64 4, nd, v0, cNm_ok, rfl, rfl, ⟨rfl, c4⟩, a⟩
    ·obtain ⟨nd, v0, a⟩ := ch0_all s x (inR_no c1 c2 c3 c4) hg n hn
     exact ⟨cNk, .int true .i64 s.kd, nd, v0, cNk_ok, rfl, rfl, ⟨rfl, rfl⟩, a⟩
def rightA : Su → List Int → AV := fun s ys => .bool true (rightS s ys)
theorem rightA_ok : NOk Tryz.prog glob hG 59 (lSpec hG [.s suI .i64] (suV rightA)) := by
 refine su_ok ⟨_, Tryz.func59, rfl⟩ fun s x n hg hn => ?_
 obtain ⟨nd, v0, a⟩ := rt_all s x hg n hn
 exact ⟨cNm, .int true .i64 s.kd, nd, v0, cNm_ok, rfl, rfl, ⟨rfl, rfl⟩, a⟩
end
end Go.Proofs.YtiigkjnhmipnfaaGreatDoor.K
namespace Go.Eng
open Go
noncomputable section
theorem tellL_app : ∀ {l m l' m' : List AV}, tellL l m → tellL l' m' → tellL (l ++ l') (m ++ m')
 | [], [], _, _, _, h => h
 | a :: l, b :: m, _, _, h, k => ⟨h.1, tellL_app h.2 k⟩
 | [], _ :: _, _, _, h, _ => h.elim
 | _ :: _, [], _, _, h, _ => h.elim
end
end Go.Eng
namespace Go.Eng
open Go
noncomputable section
end
end Go.Eng
namespace Go.Eng
open Go
noncomputable section
def RunsTo (P : Program) (glob : Nat → Option Nat) (hG : Hp) (f : FuncId) (raw : Bool) (ps : List Pa) (its : List Itm) (args : List AV) (sz : Nat) (v : AV) (bs : List ABody) : Prop :=
 ∃ (C : Ctx) (n' : Nat) (ar : List AV) (nd0 : Nd) (v0 : AV) (k : Hp), CtxOk C ∧ C.P = P ∧ C.glob = glob ∧ tellL args ar ∧
  (run C n').call f ar (viewsH raw hG (lists ps its)) = some ⟨nd0, [⟨.tt, v0, k⟩]⟩ ∧ v0.isPanic = false ∧ nd0.val ∧ allOld hG.clock (dropN (k.size - (viewsH raw hG (lists ps its)).size) k.blks) = true ∧ Tells (viewsH raw hG (lists ps its)).size k v0 sz v bs
end
end Go.Eng
namespace Go.Rd
open Go Go.Eng Go.Ar
structure Df where
 kd : Int
 c0 : Int
 c1 : Int
 k0 : Int
 k1 : Int
 a0 : Int
 a1 : Int
 a2 : Int
 a3 : Int
 p0 : Int
 p1 : Int
 o : Int
 th : Int
 gl : Int
 se : Int
 ho : Int
 e0 : Int
 e1 : Int
 e2 : Int
 e3 : Int
 e4 : Int
def Df.cells (d : Df) : List AV := [.int true .u8 d.kd, .int true .i16 d.c0, .int true .i16 d.c1, .int true .i16 d.k0, .int true .i16 d.k1, .int true .i8 d.a0, .int true .i8 d.a1, .int true .i8 d.a2, .int true .i8 d.a3, .int true .i8 d.p0, .int true .i8 d.p1, .int true .i8 d.o, .int true .i16 d.th, .int true .u8 d.gl, .int true .u8 d.se, .int true .u8 d.ho, .int true .i8 d.e0, .int true .i8 d.e1, .int true .i8 d.e2, .int true .i8 d.e3, .int true .i8 d.e4]
def drI : List Sh := [.i .u8, .i .i16, .i .i16, .i .i16, .i .i16, .i .i8, .i .i8, .i .i8, .i .i8, .i .i8, .i .i8, .i .i8, .i .i16, .i .u8, .i .u8, .i .u8, .i .i8, .i .i8, .i .i8, .i .i8, .i .i8]
def Df.nus (d : Df) : List Nu := [.n d.kd, .n d.c0, .n d.c1, .n d.k0, .n d.k1, .n d.a0, .n d.a1, .n d.a2, .n d.a3, .n d.p0, .n d.p1, .n d.o, .n d.th, .n d.gl, .n d.se, .n d.ho, .n d.e0, .n d.e1, .n d.e2, .n d.e3, .n d.e4]
def drOf : List Nu → Option Df
 | [.n kd, .n c0, .n c1, .n k0, .n k1, .n a0, .n a1, .n a2, .n a3, .n p0, .n p1, .n o, .n th, .n gl, .n se, .n ho, .n e0, .n e1, .n e2, .n e3, .n e4] => some ⟨kd, c0, c1, k0, k1, a0, a1, a2, a3, p0, p1, o, th, gl, se, ho, e0, e1, e2, e3, e4⟩
 | _ => none
theorem drOf_eq {xs : List Nu} {d : Df} (h : drOf xs = some d) : xs = d.nus := by
 unfold drOf at h
 split at h
 ·cases h; rfl
 ·cases h
def glB : Nat → ByteArray
 | 0 => ⟨#[]⟩
 | 1 => ⟨#[66, 75, 55]⟩
 | 2 => ⟨#[83, 70, 45, 49]⟩
 | 3 => ⟨#[77, 73, 82, 82, 79, 82]⟩
 | _ => ⟨#[102, 95, 50]⟩
abbrev W64 (n : Int) : Int := IntKind.i64.wrap n
section
variable (d : Df) (g : ByteArray)
def dS : Int := W64 (100000 * W64 d.se)
def dV : Bool := bif d.ho.tmod 4 == 1 then decide (dS d > 0) else false
def tw {α : Type} (b : Bool) (x : α) : α := bif b then x else x
def dC : Int := tw (dV d) (W64 (1000 * W64 d.c0))
def dK : Int := tw (dV d) (W64 (1000 * W64 (d.k0.tmod 3000)))
def dT : Int := tw (dV d) (W64 (1000 * W64 (d.th.tmod 20000)))
def dSe : Int := tw (dV d) (dS d)
def dHo : Int := bif dV d then W64 ((dS d).tdiv 4) else 0
def dsA : Su := ⟨1, dC d, dK d, 0, 0, 0, 0, 0, 0, 0, 0, 0, dT d, tw (dV d) g, dSe d, dHo d, 0, 0, 0, 0, 0⟩
def dsB : Su := ⟨1, dC d, dK d, 0, 0, W64 (1000 * W64 d.a0), W64 (1000 * W64 d.a1), W64 (1000 * W64 d.a2), W64 (1000 * W64 d.a3), 0, 0, 0, dT d, tw (dV d) g, dSe d, dHo d, 0, 0, 0, 0, 0⟩
def dsC : Su := ⟨2, dC d, dK d, W64 (1000 * W64 d.c1), W64 (1000 * W64 (d.k1.tmod 3000)), 0, 0, 0, 0, 0, 0, 0, dT d, tw (dV d) g, dSe d, dHo d, 0, 0, 0, 0, 0⟩
def dsD : Su := ⟨3, 0, 0, 0, 0, 0, 0, 0, 0, 0, 0, 0, dT d, ⟨#[]⟩, 0, 0, W64 (10000 * W64 d.e0), W64 (10000 * W64 d.e1), W64 (100000 * W64 d.e2), W64 (100000 * W64 d.e3), W64 (100000 * W64 d.e4)⟩
def dsE : Su := ⟨4, dC d, 0, 0, 0, 0, 0, 0, 0, 0, 0, 0, dT d, ⟨#[]⟩, dSe d, dHo d, 0, 0, 0, 0, 0⟩
def dM : Bool := !eqBytes (tw (dV d) g) ⟨#[77, 73, 82, 82, 79, 82]⟩
def dsF : Su := ⟨1, tw (dM d g) (dC d), tw (dM d g) (dK d), 0, 0, 0, 0, 0, 0, bif dM d g then W64 (1000 * W64 d.p0) else 0, bif dM d g then W64 (1000 * W64 d.p1) else 0, bif dM d g then W64 (d.o.tmod 4) else 0, tw (dM d g) (dT d), tw (dM d g) (tw (dV d) g), tw (dM d g) (dSe d), tw (dM d g) (dHo d), 0, 0, 0, 0, 0⟩
end
def film0 (z : Int) : List Int := [W64 (13000000 + W64 (50000 * W64 z)), (W64 z).tmod 7, W64 (1 + (W64 z).tmod 5)]
def filmsD : List Int → List Int
 | [] => []
 | [x] => film0 x
 | [x, y] => film0 x ++ film0 y
 | x :: y :: z :: _ => film0 x ++ (film0 y ++ film0 z)
def nfD : List Int → Nat
 | [] => 0
 | [_] => 1
 | [_, _] => 2
 | _ :: _ :: _ :: _ => 3
theorem nfD_len (zs : List Int) : (filmsD zs).length = 3 * nfD zs ∧ nfD zs ≤ 3 := by
 unfold filmsD nfD
 split <;> exact ⟨rfl, by decide⟩
def dsu (d : Df) : Su :=
 let g := glB ((W64 d.gl).tmod 5).toNat
 bif d.kd.tmod 8 == 4 then dsB d g else bif d.kd.tmod 8 == 5 then dsC d g else bif d.kd.tmod 8 == 6 then dsD d else bif d.kd.tmod 8 == 7 then (bif d.o.tmod 2 == 0 then dsE d else dsF d g) else dsA d g
def dys (d : Df) (zs : List Int) : List Int := bif d.kd.tmod 8 == 4 then filmsD zs else []
def dnf (d : Df) (zs : List Int) : Nat := bif d.kd.tmod 8 == 4 then nfD zs else 0
theorem dys_ok (d : Df) (zs : List Int) : (dys d zs).length = 3 * dnf d zs ∧ dnf d zs ≤ 3 := by
 unfold dys dnf
 cases d.kd.tmod 8 == 4 with
 | true => exact nfD_len zs
 | false => exact ⟨rfl, Nat.zero_le _⟩
theorem glB_len (n : Nat) : (glB n).size ≤ 6 := by
 unfold glB
 split <;> decide
theorem tw_eq {α : Type} (b : Bool) (x : α) : tw b x = x := by cases b <;> rfl
theorem dsu_g (d : Df) : (dsu d).g.size ≤ 6 := by
 unfold dsu
 cases d.kd.tmod 8 == 4 <;> cases d.kd.tmod 8 == 5 <;> cases d.kd.tmod 8 == 6 <;> cases d.kd.tmod 8 == 7 <;> cases d.o.tmod 2 == 0 <;> simp only [cond_true, cond_false, dsA, dsB, dsC, dsD, dsE, dsF, tw_eq] <;> first | exact glB_len _ | decide
def avA (s : Su) : List AV := [.int false .i64 1, .int true .i64 s.c, .int true .i64 s.k, .int false .i64 0, .int false .i64 0, .int false .i64 0, .int false .i64 0, .int false .i64 0, .int false .i64 0, .int false .i64 0, .int false .i64 0, .int false .i64 0, .int true .i64 s.th, .str true s.g, .int true .i64 s.se, .int true .i64 s.ho, .int false .i64 0, .int false .i64 0, .int false .i64 0, .int false .i64 0, .int false .i64 0]
def avB (s : Su) : List AV := [.int false .i64 1, .int true .i64 s.c, .int true .i64 s.k, .int false .i64 0, .int false .i64 0, .int true .i64 s.a0, .int true .i64 s.a1, .int true .i64 s.a2, .int true .i64 s.a3, .int false .i64 0, .int false .i64 0, .int false .i64 0, .int true .i64 s.th, .str true s.g, .int true .i64 s.se, .int true .i64 s.ho, .int false .i64 0, .int false .i64 0, .int false .i64 0, .int false .i64 0, .int false .i64 0]
def avC (s : Su) : List AV := [.int false .i64 2, .int true .i64 s.c, .int true .i64 s.k, .int true .i64 s.l, .int true .i64 s.m, .int false .i64 0, .int false .i64 0, .int false .i64 0, .int false .i64 0, .int false .i64 0, .int false .i64 0, .int false .i64 0, .int true .i64 s.th, .str true s.g, .int true .i64 s.se, .int true .i64 s.ho, .int false .i64 0, .int false .i64 0, .int false .i64 0, .int false .i64 0, .int false .i64 0]
def avD (s : Su) : List AV := [.int false .i64 3, .int false .i64 0, .int false .i64 0, .int false .i64 0, .int false .i64 0, .int false .i64 0, .int false .i64 0, .int false .i64 0, .int false .i64 0, .int false .i64 0, .int false .i64 0, .int false .i64 0, .int true .i64 s.th, .str false ⟨#[]⟩, .int false .i64 0, .int false .i64 0, .int true .i64 s.dx, .int true .i64 s.dy, .int true .i64 s.ax, .int true .i64 s.ay, .int true .i64 s.az]
def avE (s : Su) : List AV := [.int false .i64 4, .int true .i64 s.c, .int false .i64 0, .int false .i64 0, .int false .i64 0, .int false .i64 0, .int false .i64 0, .int false .i64 0, .int false .i64 0, .int false .i64 0, .int false .i64 0, .int false .i64 0, .int true .i64 s.th, .str false ⟨#[]⟩, .int true .i64 s.se, .int true .i64 s.ho, .int false .i64 0, .int false .i64 0, .int false .i64 0, .int false .i64 0, .int false .i64 0]
def avF (s : Su) : List AV := [.int false .i64 1, .int true .i64 s.c, .int true .i64 s.k, .int false .i64 0, .int false .i64 0, .int false .i64 0, .int false .i64 0, .int false .i64 0, .int false .i64 0, .int true .i64 s.f0, .int true .i64 s.f1, .int true .i64 s.o, .int true .i64 s.th, .str true s.g, .int true .i64 s.se, .int true .i64 s.ho, .int false .i64 0, .int false .i64 0, .int false .i64 0, .int false .i64 0, .int false .i64 0]
end Go.Rd
namespace Go.Rd
open Go Go.Eng Go.Ar
structure Bn where
 wh : Int
 at' : Int
 n : Int
 t : ByteArray
def Bn.cells (b : Bn) : List AV := [.int true .u8 b.wh, .int true .u8 b.at', .int true .i64 b.n, .str true b.t]
def bnI : List Sh := [.i .u8, .i .u8, .i .i64, .str]
def Bn.nus (b : Bn) : List Nu := [.n b.wh, .n b.at', .n b.n, .s b.t]
def bnOf : List Nu → Option Bn
 | [.n wh, .n a, .n n, .s t] => some ⟨wh, a, n, t⟩
 | _ => none
theorem bnOf_eq {xs : List Nu} {b : Bn} (h : bnOf xs = some b) : xs = b.nus := by
 unfold bnOf at h
 split at h
 ·cases h; rfl
 ·cases h
def bT (b : Bn) : ByteArray := b.t.extract (Int.toNat 0) (if (40 : Int) < (b.t.size : Int) then (40 : Int) else (b.t.size : Int)).toNat
def bsuW (b : Bn) (s : Su) : Nat → Nat → Su
 | 0, _ => { s with kd := b.n }
 | 1, _ => { s with c := b.n }
 | 2, _ => { s with k := b.n }
 | 3, _ => { s with l := b.n }
 | 4, _ => { s with m := b.n }
 | 5, 0 => { s with a0 := b.n }
 | 5, 1 => { s with a1 := b.n }
 | 5, 2 => { s with a2 := b.n }
 | 5, 3 => { s with a3 := b.n }
 | 6, 0 => { s with f0 := b.n }
 | 6, 1 => { s with f1 := b.n }
 | 7, _ => { s with o := b.n }
 | 8, _ => { s with th := b.n }
 | 9, _ => { s with g := bT b }
 | 10, _ => { s with se := b.n }
 | 11, _ => { s with ho := b.n }
 | 12, 0 => { s with dx := b.n }
 | 12, 1 => { s with dy := b.n }
 | 12, 2 => { s with ax := b.n }
 | 12, 3 => { s with ay := b.n }
 | 12, 4 => { s with az := b.n }
 | _, _ => s
def fillB : Nat → List Int
 | 0 => []
 | k + 1 => 15000000 :: 0 :: 1 :: fillB k
def bysW (b : Bn) (zs : List Int) (n : Nat) : Nat → Nat → List Int
 | 13, 0 => zs ++ [b.n, 1, 1]
 | 13, 1 => zs ++ [15000000, b.n, 1]
 | 13, 2 => zs ++ [15000000, 1, b.n]
 | 14, a => zs ++ fillB (8 + a - n)
 | _, _ => zs
def bnfW (n : Nat) : Nat → Nat → Nat
 | 13, _ => n + 1
 | 14, a => n + (8 + a - n)
 | _, _ => n
def andR : Nat → Prop → Prop
 | 0, p => p
 | k + 1, p => p ∧ andR k p
theorem andR_of {p : Prop} (h : p) : ∀ k, andR k p
 | 0 => h
 | k + 1 => ⟨h, andR_of h k⟩
def bNdW (b : Bn) (n : Nat) : Nat → Nat → Prop
 | 5, a => b.wh.tmod 16 = 5 ∧ (W64 b.at').tmod 4 = a
 | 6, a => b.wh.tmod 16 = 6 ∧ (W64 b.at').tmod 2 = a
 | 9, _ => b.wh.tmod 16 = 9 ∧ (0 : Int) ≤ 0 ∧ 0 ≤ (if (40 : Int) < (b.t.size : Int) then (40 : Int) else (b.t.size : Int)) ∧ (if (40 : Int) < (b.t.size : Int) then (40 : Int) else (b.t.size : Int)) ≤ (b.t.size : Int)
 | 12, a => b.wh.tmod 16 = 12 ∧ (W64 b.at').tmod 5 = a
 | 13, a => b.wh.tmod 16 = 13 ∧ (W64 b.at').tmod 3 = a
 | 14, a => b.wh.tmod 16 = 14 ∧ andR (8 + a - n) ((W64 b.at').tmod 2 = a)
 | w, _ => b.wh.tmod 16 = w
def bIx : Nat → Nat
 | 5 => 4
 | 6 => 2
 | 12 => 5
 | 13 => 3
 | 14 => 2
 | _ => 1
def Bn.w (b : Bn) : Nat := (b.wh.tmod 16).toNat
def Bn.a (b : Bn) : Nat := ((W64 b.at').tmod (bIx b.w)).toNat
def bsu (b : Bn) (s : Su) : Su := bsuW b s b.w b.a
def bys (b : Bn) (n : Nat) (zs : List Int) : List Int := bysW b zs n b.w b.a
def bnf (b : Bn) (n : Nat) : Nat := bnfW n b.w b.a
theorem bIx_pos (w : Nat) : 0 < bIx w := by unfold bIx; split <;> decide
theorem fillB_len : ∀ k, (fillB k).length = 3 * k
 | 0 => rfl
 | k + 1 => by simp only [fillB, List.length_cons, fillB_len k]; omega
structure Bn.ok (b : Bn) : Prop where
 w0 : 0 ≤ b.wh
 w1 : b.wh ≤ 255
 a0 : 0 ≤ b.at'
 a1 : b.at' ≤ 255
theorem Bn.ok.case {b : Bn} (h : b.ok) : b.w < 16 ∧ b.wh.tmod 16 = (b.w : Int) := by
 obtain ⟨h0, h1, -, -⟩ := h
 unfold Bn.w
 rw [Int.tmod_eq_emod_of_nonneg h0]
 omega
theorem Bn.ok.ix {b : Bn} (h : b.ok) : b.a < bIx b.w ∧ (W64 b.at').tmod (bIx b.w) = (b.a : Int) := by
 obtain ⟨-, -, h0, h1⟩ := h
 have w : W64 b.at' = b.at' := Go.Ar.i64w (by omega) (by omega)
 have p := bIx_pos b.w
 unfold Bn.a
 rw [w, Int.tmod_eq_emod_of_nonneg h0]
 have h2 : (0 : Int) < (bIx b.w : Int) := by omega
 have h3 := Int.emod_lt_of_pos b.at' h2
 have h4 := Int.emod_nonneg b.at' (show (bIx b.w : Int) ≠ 0 by omega)
 omega
theorem Bn.ok.nd {b : Bn} (h : b.ok) (n : Nat) : bNdW b n b.w b.a := by
 obtain ⟨h1, h2⟩ := h.case
 obtain ⟨h3, h4⟩ := h.ix
 revert h1 h2 h3 h4
 generalize b.w = w
 generalize b.a = a
 intro h1 h2 h3 h4
 unfold bNdW
 split
 ·exact ⟨h2, h4⟩
 ·exact ⟨h2, h4⟩
 ·refine ⟨h2, Int.le_refl _, ?_, ?_⟩ <;> split <;> omega
 ·exact ⟨h2, h4⟩
 ·exact ⟨h2, h4⟩
 ·exact ⟨h2, andR_of h4 _⟩
 ·exact h2
theorem bys_ok (b : Bn) (n : Nat) (zs : List Int) (hz : zs.length = 3 * n) (hn : n ≤ 9) (hb : b.ok) : (bys b n zs).length = 3 * bnf b n ∧ bnf b n ≤ 10 := by
 have h3 := hb.ix.1
 unfold bys bnf
 revert h3
 generalize b.w = w
 generalize b.a = a
 intro h3
 by_cases h13 : w = 13
 ·subst h13
  have : a < 3 := h3
  rcases a with _ | _ | _ | a
  ·simp only [bysW, bnfW, List.length_append, List.length_cons, List.length_nil]; omega
  ·simp only [bysW, bnfW, List.length_append, List.length_cons, List.length_nil]; omega
  ·simp only [bysW, bnfW, List.length_append, List.length_cons, List.length_nil]; omega
  ·omega
 ·by_cases h14 : w = 14
  ·subst h14
   have : a < 2 := h3
   simp only [bysW, bnfW, List.length_append, fillB_len]
   omega
  ·have e1 : bysW b zs n w a = zs := by
    unfold bysW; split <;> first | rfl | exact absurd rfl h13 | exact absurd rfl h14
   have e2 : bnfW n w a = n := by
    unfold bnfW; split <;> first | rfl | exact absurd rfl h13 | exact absurd rfl h14
   rw [e1, e2]
   omega
theorem bT_len (b : Bn) : (bT b).size ≤ 40 := by
 unfold bT
 rw [ByteArray.size_extract]
 split <;> omega
theorem bsu_g (b : Bn) (s : Su) : (bsu b s).g.size ≤ max 40 s.g.size := by
 have := bT_len b
 unfold bsu bsuW
 split <;> first | exact Nat.le_max_right _ _ | exact Nat.le_trans this (Nat.le_max_left _ _)
end Go.Rd
namespace Go.Rd
open Go Go.Eng Go.Ar
end Go.Rd
namespace Go.Proofs.YtiigkjnhmipnfaaGreatDoor.K
open Go Go.Eng Go.Ar Go.Rd
noncomputable section
def cHas : Ctx := mkG Tryz.prog glob hG [] ext
theorem cHas_ok : CtxOk cHas := mkG_ok prog_ok ext_ok fun _ h => by cases h
end
end Go.Proofs.YtiigkjnhmipnfaaGreatDoor.K
namespace Go.Proofs.YtiigkjnhmipnfaaGreatDoor.K
open Go Go.Eng Go.Ar Go.Rd
noncomputable section
end
end Go.Proofs.YtiigkjnhmipnfaaGreatDoor.K
namespace Go.Proofs.YtiigkjnhmipnfaaGreatDoor.K
open Go Go.Eng Go.Ar Go.Rd
noncomputable section
end
end Go.Proofs.YtiigkjnhmipnfaaGreatDoor.K
namespace Go.Proofs.YtiigkjnhmipnfaaGreatDoor.K
open Go Go.Eng Go.Ar Go.Rd
noncomputable section
end
end Go.Proofs.YtiigkjnhmipnfaaGreatDoor.K
namespace Go.Proofs.YtiigkjnhmipnfaaGreatDoor.K
open Go Go.Eng Go.Ar
noncomputable section
end
end Go.Proofs.YtiigkjnhmipnfaaGreatDoor.K
namespace Go.Proofs.YtiigkjnhmipnfaaGreatDoor.K
open Go Go.Eng Go.Ar Go.Rd
noncomputable section
end
end Go.Proofs.YtiigkjnhmipnfaaGreatDoor.K
namespace Go.Proofs.YtiigkjnhmipnfaaGreatDoor.K
open Go Go.Eng Go.Ar Go.Rd
noncomputable section
end
end Go.Proofs.YtiigkjnhmipnfaaGreatDoor.K
namespace Go.Rd
open Go Go.Eng Go.Ar
section
variable (c k a0 a1 a2 a3 a b d e : Int)
end
section
variable (c k l m a b d e : Int)
end
end Go.Rd
namespace Go.Rd
open Go Go.Eng Go.Ar
section
variable (c k a0 a1 a2 a3 a b d e : Int)
end
end Go.Rd
namespace Go.Rd
open Go Go.Eng Go.Ar
structure Vs where
 c : Int
 k : Int
 a0 : Int
 a1 : Int
 a2 : Int
 a3 : Int
 a : Int
 b : Int
 x : Int
 y : Int
structure Vx where
 c : Int
 k : Int
 l : Int
 m : Int
 a : Int
 b : Int
 x : Int
 y : Int
abbrev U0 (v : Vs) : Sp := u0 v.c v.k v.a v.b v.x v.y
end Go.Rd
namespace Go.Rd
open Go Go.Eng Go.Ar
theorem okSc_of {n d M : Int} (hn : -M ≤ n ∧ n ≤ M) (h : 4503599627370496 * M < 18446744073709551615 * d) : okSc n d := fun _ => by
 have : sg n n ≤ M := by
  unfold sg
  cases h : decide (n < 0) with
  | true => show -n ≤ M; omega
  | false => show n ≤ M; omega
 omega
theorem okR_of {n d : Int} (h1 : -4611686018427387904 ≤ n) (h2 : n ≤ 4611686018427387904) (h3 : 1 ≤ d) (h4 : d ≤ 4611686018427387904) : okR n d = true := by
 unfold okR; simp [h1, h2, h3, h4]
theorem sc_c {c : Int} (h : inL c) : okSc c 1000000000 := okSc_of (M := 1000000000) h (by decide)
theorem sc_a {c : Int} (h : inL c) : okSc c 1000000 := okSc_of (M := 1000000000) h (by decide)
theorem ok_c {c : Int} (h : inL c) : okR c 1000000000 = true := by unfold inL at h; exact okR_of (by omega) (by omega) (by decide) (by decide)
theorem wkK {k : Int} (h : inK k) : IntKind.i64.wrap (1000000 + k) = 1000000 + k := i64w (by unfold inK at h; omega) (by unfold inK at h; omega)
theorem sc_k {k : Int} (h : inK k) : okSc (IntKind.i64.wrap (1000000 + k)) 1000000 := by
 rw [wkK h]
 exact okSc_of (M := 101000000) (by unfold inK at h; omega) (by decide)
theorem ok_k {k : Int} (h : inK k) : okR (IntKind.i64.wrap (1000000 + k)) 1000000 = true := by
 rw [wkK h]; unfold inK at h; exact okR_of (by omega) (by omega) (by decide) (by decide)
theorem sc_h : okSc 1 100 := okSc_of (M := 1) (by decide) (by decide)
theorem z0e {s : Sp} (h : z0 s = true) : s.e = 0 := by unfold z0 at h; simpa using h
theorem one_ri : Ri ⟨4294967296, 4294967296, 0⟩ := ⟨by decide, by decide, by decide⟩
section
variable {c k a0 a1 a2 a3 a b x y : Int} (hc : inL c) (hk : inK k) (hx : okSp a b = true) (hy : okSp x y = true)
include hx in theorem K0 : okE (s0 c k a b x y) := e_sqr (s := ⟨a, b, 0⟩) (Ri.of hx)
include hx in theorem R0 (h : z0 (s0 c k a b x y) = true) : Ri (s0 c k a b x y) := r_sqr (s := ⟨a, b, 0⟩) (Ri.of hx) (z0e h)
include hy in theorem K1 : okE (s1 c k a b x y) := e_sqr (s := ⟨x, y, 0⟩) (Ri.of hy)
include hy in theorem R1 (h : z0 (s1 c k a b x y) = true) : Ri (s1 c k a b x y) := r_sqr (s := ⟨x, y, 0⟩) (Ri.of hy) (z0e h)
include hx hy in theorem K2 (h0 : z0 (s0 c k a b x y) = true) (h1 : z0 (s1 c k a b x y) = true) : okE (s2 c k a b x y) := e_add (R0 hx h0) (R1 hy h1)
include hx hy in theorem R2 (h0 : z0 (s0 c k a b x y) = true) (h1 : z0 (s1 c k a b x y) = true) (h2 : z0 (s2 c k a b x y) = true) : Ri (s2 c k a b x y) := r_add (R0 hx h0) (R1 hy h1) (z0e h2)
include hx hy hc in theorem K3 (h0 : z0 (s0 c k a b x y) = true) (h1 : z0 (s1 c k a b x y) = true) (h2 : z0 (s2 c k a b x y) = true) : okE (s3 c k a b x y) := e_sc (R2 hx hy h0 h1 h2) (sc_c hc) (ok_c hc)
include hx hy hc in theorem R3 (h0 : z0 (s0 c k a b x y) = true) (h1 : z0 (s1 c k a b x y) = true) (h2 : z0 (s2 c k a b x y) = true) (h3 : z0 (s3 c k a b x y) = true) : Ri (s3 c k a b x y) := r_sc (R2 hx hy h0 h1 h2) (sc_c hc) (z0e h3)
include hx hy hc in theorem K4 (h0 : z0 (s0 c k a b x y) = true) (h1 : z0 (s1 c k a b x y) = true) (h2 : z0 (s2 c k a b x y) = true) (h3 : z0 (s3 c k a b x y) = true) : okE (s4 c k a b x y) := e_sc (R3 hc hx hy h0 h1 h2 h3) (sc_c hc) (ok_c hc)
include hx hy hc in theorem R4 (h0 : z0 (s0 c k a b x y) = true) (h1 : z0 (s1 c k a b x y) = true) (h2 : z0 (s2 c k a b x y) = true) (h3 : z0 (s3 c k a b x y) = true) (h4 : z0 (s4 c k a b x y) = true) : Ri (s4 c k a b x y) := r_sc (R3 hc hx hy h0 h1 h2 h3) (sc_c hc) (z0e h4)
include hx hy hc hk in theorem K5 (h0 : z0 (s0 c k a b x y) = true) (h1 : z0 (s1 c k a b x y) = true) (h2 : z0 (s2 c k a b x y) = true) (h3 : z0 (s3 c k a b x y) = true) (h4 : z0 (s4 c k a b x y) = true) : okE (s5 c k a b x y) := e_sc (R4 hc hx hy h0 h1 h2 h3 h4) (sc_k hk) (ok_k hk)
include hx hy hc hk in theorem R5 (h0 : z0 (s0 c k a b x y) = true) (h1 : z0 (s1 c k a b x y) = true) (h2 : z0 (s2 c k a b x y) = true) (h3 : z0 (s3 c k a b x y) = true) (h4 : z0 (s4 c k a b x y) = true) (h5 : z0 (s5 c k a b x y) = true) : Ri (s5 c k a b x y) := r_sc (R4 hc hx hy h0 h1 h2 h3 h4) (sc_k hk) (z0e h5)
include hx hy hc hk in theorem K6 (h0 : z0 (s0 c k a b x y) = true) (h1 : z0 (s1 c k a b x y) = true) (h2 : z0 (s2 c k a b x y) = true) (h3 : z0 (s3 c k a b x y) = true) (h4 : z0 (s4 c k a b x y) = true) (h5 : z0 (s5 c k a b x y) = true) : okE (s6 c k a b x y) := e_sub one_ri (R5 hc hk hx hy h0 h1 h2 h3 h4 h5)
def H6 (c k a b x y : Int) : Prop := z0 (s0 c k a b x y) = true ∧ z0 (s1 c k a b x y) = true ∧ z0 (s2 c k a b x y) = true ∧ z0 (s3 c k a b x y) = true ∧ z0 (s4 c k a b x y) = true ∧ z0 (s5 c k a b x y) = true ∧ z0 (s6 c k a b x y) = true
include hx hy hc hk in theorem R6 (h : H6 c k a b x y) : Ri (s6 c k a b x y) := r_sub one_ri (R5 hc hk hx hy h.1 h.2.1 h.2.2.1 h.2.2.2.1 h.2.2.2.2.1 h.2.2.2.2.2.1) (z0e h.2.2.2.2.2.2)
include hx hy hc hk in theorem K7 (h : H6 c k a b x y) (p : 0 < (s6 c k a b x y).lo) : okE (s7 c k a b x y) := e_rt (R6 hc hk hx hy h) p
include hx hy hc hk in theorem R7 (h : H6 c k a b x y) (h7 : z0 (s7 c k a b x y) = true) : Ri (s7 c k a b x y) := r_rt (R6 hc hk hx hy h) (z0e h7)
include hx hy hc hk in theorem P7 (h : H6 c k a b x y) (p : 0 < (s6 c k a b x y).lo) : 0 < (s7 c k a b x y).lo := rt_pos (R6 hc hk hx hy h) p
include hx hy hc in theorem K8 (h : H6 c k a b x y) : okE (s8 c k a b x y) := e_add (R3 hc hx hy h.1 h.2.1 h.2.2.1 h.2.2.2.1) (t := ⟨0, 0, 0⟩) zero_ri
include hx hy hc in theorem R8 (h : H6 c k a b x y) (h8 : z0 (s8 c k a b x y) = true) : Ri (s8 c k a b x y) := r_add (R3 hc hx hy h.1 h.2.1 h.2.2.1 h.2.2.2.1) (t := ⟨0, 0, 0⟩) zero_ri (z0e h8)
include hx hy hc hk in theorem K9 (h : H6 c k a b x y) (h7 : z0 (s7 c k a b x y) = true) : okE (s9 c k a b x y) := e_add one_ri (R7 hc hk hx hy h h7)
include hx hy hc hk in theorem R9 (h : H6 c k a b x y) (h7 : z0 (s7 c k a b x y) = true) (h9 : z0 (s9 c k a b x y) = true) : Ri (s9 c k a b x y) := r_add one_ri (R7 hc hk hx hy h h7) (z0e h9)
include hx hy hc hk in theorem P9 (h : H6 c k a b x y) (p : 0 < (s6 c k a b x y).lo) (h7 : z0 (s7 c k a b x y) = true) (h9 : z0 (s9 c k a b x y) = true) : 0 < (s9 c k a b x y).lo := add_pos one_ri (R7 hc hk hx hy h h7) (z0e h9) (by decide) (by have := P7 hc hk hx hy h p; omega)
include hx hy hc hk in theorem K10 (h : H6 c k a b x y) (p : 0 < (s6 c k a b x y).lo) (h7 : z0 (s7 c k a b x y) = true) (h8 : z0 (s8 c k a b x y) = true) (h9 : z0 (s9 c k a b x y) = true) : okE (s10 c k a b x y) := e_div (R8 hc hx hy h h8) (R9 hc hk hx hy h h7 h9) (P9 hc hk hx hy h p h7 h9)
include hx hy hc hk in theorem R10 (h : H6 c k a b x y) (h7 : z0 (s7 c k a b x y) = true) (h8 : z0 (s8 c k a b x y) = true) (h9 : z0 (s9 c k a b x y) = true) (h10 : z0 (s10 c k a b x y) = true) : Ri (s10 c k a b x y) := r_div (R8 hc hx hy h h8) (R9 hc hk hx hy h h7 h9) (z0e h10)
include hx hy in theorem KU0 (h0 : z0 (s0 c k a b x y) = true) (h1 : z0 (s1 c k a b x y) = true) (h2 : z0 (s2 c k a b x y) = true) : okE (u0 c k a b x y) := e_sc (R2 hx hy h0 h1 h2) sc_h (by decide)
include hx hy in theorem RU0 (h0 : z0 (s0 c k a b x y) = true) (h1 : z0 (s1 c k a b x y) = true) (h2 : z0 (s2 c k a b x y) = true) (u : z0 (u0 c k a b x y) = true) : Ri (u0 c k a b x y) := r_sc (R2 hx hy h0 h1 h2) sc_h (z0e u)
theorem RCA {n : Int} (h : inL n) (u : z0 (ca n) = true) : Ri (ca n) := r_sc (s := ⟨4294967296, 4294967296, 0⟩) one_ri (sc_a h) (z0e u)
variable (i0 : inL a0) (i1 : inL a1) (i2 : inL a2) (i3 : inL a3)
def HU (c k a0 a1 a2 a3 a b x y : Int) : Prop := (z0 (s0 c k a b x y) = true ∧ z0 (s1 c k a b x y) = true ∧ z0 (s2 c k a b x y) = true ∧ z0 (u0 c k a b x y) = true) ∧ z0 (ca a0) = true ∧ z0 (ca a1) = true ∧ z0 (ca a2) = true ∧ z0 (ca a3) = true
include hx hy in theorem HU.r (h : HU c k a0 a1 a2 a3 a b x y) : Ri (u0 c k a b x y) := RU0 hx hy h.1.1 h.1.2.1 h.1.2.2.1 h.1.2.2.2
include hx hy i0 i1 i2 i3 in theorem KU1 (h : HU c k a0 a1 a2 a3 a b x y) : okE (u1 c k a0 a1 a2 a3 a b x y) := evl_e (h.r hx hy) (RCA i0 h.2.1) (RCA i1 h.2.2.1) (RCA i2 h.2.2.2.1) (RCA i3 h.2.2.2.2)
include hx hy i0 i1 i2 i3 in theorem RU1 (h : HU c k a0 a1 a2 a3 a b x y) (u : z0 (u1 c k a0 a1 a2 a3 a b x y) = true) : Ri (u1 c k a0 a1 a2 a3 a b x y) := evl_r (h.r hx hy) (RCA i0 h.2.1) (RCA i1 h.2.2.1) (RCA i2 h.2.2.2.1) (RCA i3 h.2.2.2.2) (z0e u)
include hx hy in theorem KU2 (h : HU c k a0 a1 a2 a3 a b x y) : okE (u2 c k a b x y) := e_sqr (h.r hx hy)
include hx hy in theorem RU2 (h : HU c k a0 a1 a2 a3 a b x y) (u : z0 (u2 c k a b x y) = true) : Ri (u2 c k a b x y) := r_sqr (h.r hx hy) (z0e u)
include hx hy i0 i1 i2 i3 in theorem KU3 (h : HU c k a0 a1 a2 a3 a b x y) (v1 : z0 (u1 c k a0 a1 a2 a3 a b x y) = true) (v2 : z0 (u2 c k a b x y) = true) : okE (u3 c k a0 a1 a2 a3 a b x y) := e_mul (RU2 hx hy h v2) (RU1 hx hy i0 i1 i2 i3 h v1)
include hx hy i0 i1 i2 i3 in theorem RU3 (h : HU c k a0 a1 a2 a3 a b x y) (v1 : z0 (u1 c k a0 a1 a2 a3 a b x y) = true) (v2 : z0 (u2 c k a b x y) = true) (v3 : z0 (u3 c k a0 a1 a2 a3 a b x y) = true) : Ri (u3 c k a0 a1 a2 a3 a b x y) := r_mul (RU2 hx hy h v2) (RU1 hx hy i0 i1 i2 i3 h v1) (z0e v3)
include hx hy hc hk i0 i1 i2 i3 in theorem KU4 (g : H6 c k a b x y) (h7 : z0 (s7 c k a b x y) = true) (h8 : z0 (s8 c k a b x y) = true) (h9 : z0 (s9 c k a b x y) = true) (h10 : z0 (s10 c k a b x y) = true) (h : HU c k a0 a1 a2 a3 a b x y) (v1 : z0 (u1 c k a0 a1 a2 a3 a b x y) = true) (v2 : z0 (u2 c k a b x y) = true) (v3 : z0 (u3 c k a0 a1 a2 a3 a b x y) = true) : okE (u4 c k a0 a1 a2 a3 a b x y) := e_add (R10 hc hk hx hy g h7 h8 h9 h10) (RU3 hx hy i0 i1 i2 i3 h v1 v2 v3)
end
end Go.Rd
namespace Go.Rd
open Go Go.Eng Go.Ar
section
variable {c k l m a b x y : Int} (hc : inL c) (hk : inK k) (hl : inL l) (hm : inK m) (hx : okSp a b = true) (hy : okSp x y = true)
include hc hk hl hm hx hy in theorem BK0  : okE (b0 c k l m a b x y) := e_sqr (Ri.of (s := ⟨a, b, 0⟩) hx)
include hc hk hl hm hx hy in theorem BR0 (e0 : z0 (b0 c k l m a b x y) = true) : Ri (b0 c k l m a b x y) := r_sqr (Ri.of (s := ⟨a, b, 0⟩) hx) (z0e e0)
include hc hk hl hm hx hy in theorem BK1 (e0 : z0 (b0 c k l m a b x y) = true) : okE (b1 c k l m a b x y) := e_sc (BR0 hc hk hl hm hx hy e0) (sc_c hl) (ok_c hl)
include hc hk hl hm hx hy in theorem BR1 (e0 : z0 (b0 c k l m a b x y) = true) (e1 : z0 (b1 c k l m a b x y) = true) : Ri (b1 c k l m a b x y) := r_sc (BR0 hc hk hl hm hx hy e0) (sc_c hl) (z0e e1)
include hc hk hl hm hx hy in theorem BK2  : okE (b2 c k l m a b x y) := e_sqr (Ri.of (s := ⟨x, y, 0⟩) hy)
include hc hk hl hm hx hy in theorem BR2 (e2 : z0 (b2 c k l m a b x y) = true) : Ri (b2 c k l m a b x y) := r_sqr (Ri.of (s := ⟨x, y, 0⟩) hy) (z0e e2)
include hc hk hl hm hx hy in theorem BK3 (e2 : z0 (b2 c k l m a b x y) = true) : okE (b3 c k l m a b x y) := e_sc (BR2 hc hk hl hm hx hy e2) (sc_c hc) (ok_c hc)
include hc hk hl hm hx hy in theorem BR3 (e2 : z0 (b2 c k l m a b x y) = true) (e3 : z0 (b3 c k l m a b x y) = true) : Ri (b3 c k l m a b x y) := r_sc (BR2 hc hk hl hm hx hy e2) (sc_c hc) (z0e e3)
include hc hk hl hm hx hy in theorem BK4 (e0 : z0 (b0 c k l m a b x y) = true) (e1 : z0 (b1 c k l m a b x y) = true) : okE (b4 c k l m a b x y) := e_sc (BR1 hc hk hl hm hx hy e0 e1) (sc_c hl) (ok_c hl)
include hc hk hl hm hx hy in theorem BR4 (e0 : z0 (b0 c k l m a b x y) = true) (e1 : z0 (b1 c k l m a b x y) = true) (e4 : z0 (b4 c k l m a b x y) = true) : Ri (b4 c k l m a b x y) := r_sc (BR1 hc hk hl hm hx hy e0 e1) (sc_c hl) (z0e e4)
include hc hk hl hm hx hy in theorem BK5 (e2 : z0 (b2 c k l m a b x y) = true) (e3 : z0 (b3 c k l m a b x y) = true) : okE (b5 c k l m a b x y) := e_sc (BR3 hc hk hl hm hx hy e2 e3) (sc_c hc) (ok_c hc)
include hc hk hl hm hx hy in theorem BR5 (e2 : z0 (b2 c k l m a b x y) = true) (e3 : z0 (b3 c k l m a b x y) = true) (e5 : z0 (b5 c k l m a b x y) = true) : Ri (b5 c k l m a b x y) := r_sc (BR3 hc hk hl hm hx hy e2 e3) (sc_c hc) (z0e e5)
include hc hk hl hm hx hy in theorem BK6 (e0 : z0 (b0 c k l m a b x y) = true) (e1 : z0 (b1 c k l m a b x y) = true) (e4 : z0 (b4 c k l m a b x y) = true) : okE (b6 c k l m a b x y) := e_sc (BR4 hc hk hl hm hx hy e0 e1 e4) (sc_k hm) (ok_k hm)
include hc hk hl hm hx hy in theorem BR6 (e0 : z0 (b0 c k l m a b x y) = true) (e1 : z0 (b1 c k l m a b x y) = true) (e4 : z0 (b4 c k l m a b x y) = true) (e6 : z0 (b6 c k l m a b x y) = true) : Ri (b6 c k l m a b x y) := r_sc (BR4 hc hk hl hm hx hy e0 e1 e4) (sc_k hm) (z0e e6)
include hc hk hl hm hx hy in theorem BK7 (e2 : z0 (b2 c k l m a b x y) = true) (e3 : z0 (b3 c k l m a b x y) = true) (e5 : z0 (b5 c k l m a b x y) = true) : okE (b7 c k l m a b x y) := e_sc (BR5 hc hk hl hm hx hy e2 e3 e5) (sc_k hk) (ok_k hk)
include hc hk hl hm hx hy in theorem BR7 (e2 : z0 (b2 c k l m a b x y) = true) (e3 : z0 (b3 c k l m a b x y) = true) (e5 : z0 (b5 c k l m a b x y) = true) (e7 : z0 (b7 c k l m a b x y) = true) : Ri (b7 c k l m a b x y) := r_sc (BR5 hc hk hl hm hx hy e2 e3 e5) (sc_k hk) (z0e e7)
include hc hk hl hm hx hy in theorem BK8 (e0 : z0 (b0 c k l m a b x y) = true) (e1 : z0 (b1 c k l m a b x y) = true) (e2 : z0 (b2 c k l m a b x y) = true) (e3 : z0 (b3 c k l m a b x y) = true) (e4 : z0 (b4 c k l m a b x y) = true) (e5 : z0 (b5 c k l m a b x y) = true) (e6 : z0 (b6 c k l m a b x y) = true) (e7 : z0 (b7 c k l m a b x y) = true) : okE (b8 c k l m a b x y) := e_add (BR6 hc hk hl hm hx hy e0 e1 e4 e6) (BR7 hc hk hl hm hx hy e2 e3 e5 e7)
include hc hk hl hm hx hy in theorem BR8 (e0 : z0 (b0 c k l m a b x y) = true) (e1 : z0 (b1 c k l m a b x y) = true) (e2 : z0 (b2 c k l m a b x y) = true) (e3 : z0 (b3 c k l m a b x y) = true) (e4 : z0 (b4 c k l m a b x y) = true) (e5 : z0 (b5 c k l m a b x y) = true) (e6 : z0 (b6 c k l m a b x y) = true) (e7 : z0 (b7 c k l m a b x y) = true) (e8 : z0 (b8 c k l m a b x y) = true) : Ri (b8 c k l m a b x y) := r_add (BR6 hc hk hl hm hx hy e0 e1 e4 e6) (BR7 hc hk hl hm hx hy e2 e3 e5 e7) (z0e e8)
include hc hk hl hm hx hy in theorem BK9 (e0 : z0 (b0 c k l m a b x y) = true) (e1 : z0 (b1 c k l m a b x y) = true) (e2 : z0 (b2 c k l m a b x y) = true) (e3 : z0 (b3 c k l m a b x y) = true) (e4 : z0 (b4 c k l m a b x y) = true) (e5 : z0 (b5 c k l m a b x y) = true) (e6 : z0 (b6 c k l m a b x y) = true) (e7 : z0 (b7 c k l m a b x y) = true) (e8 : z0 (b8 c k l m a b x y) = true) : okE (b9 c k l m a b x y) := e_sub one_ri (BR8 hc hk hl hm hx hy e0 e1 e2 e3 e4 e5 e6 e7 e8)
include hc hk hl hm hx hy in theorem BR9 (e0 : z0 (b0 c k l m a b x y) = true) (e1 : z0 (b1 c k l m a b x y) = true) (e2 : z0 (b2 c k l m a b x y) = true) (e3 : z0 (b3 c k l m a b x y) = true) (e4 : z0 (b4 c k l m a b x y) = true) (e5 : z0 (b5 c k l m a b x y) = true) (e6 : z0 (b6 c k l m a b x y) = true) (e7 : z0 (b7 c k l m a b x y) = true) (e8 : z0 (b8 c k l m a b x y) = true) (e9 : z0 (b9 c k l m a b x y) = true) : Ri (b9 c k l m a b x y) := r_sub one_ri (BR8 hc hk hl hm hx hy e0 e1 e2 e3 e4 e5 e6 e7 e8) (z0e e9)
include hc hk hl hm hx hy in theorem BK10 (e0 : z0 (b0 c k l m a b x y) = true) (e1 : z0 (b1 c k l m a b x y) = true) (e2 : z0 (b2 c k l m a b x y) = true) (e3 : z0 (b3 c k l m a b x y) = true) (e4 : z0 (b4 c k l m a b x y) = true) (e5 : z0 (b5 c k l m a b x y) = true) (e6 : z0 (b6 c k l m a b x y) = true) (e7 : z0 (b7 c k l m a b x y) = true) (e8 : z0 (b8 c k l m a b x y) = true) (e9 : z0 (b9 c k l m a b x y) = true) (p : 0 < (b9 c k l m a b x y).lo) : okE (b10 c k l m a b x y) := e_rt (BR9 hc hk hl hm hx hy e0 e1 e2 e3 e4 e5 e6 e7 e8 e9) p
include hc hk hl hm hx hy in theorem BR10 (e0 : z0 (b0 c k l m a b x y) = true) (e1 : z0 (b1 c k l m a b x y) = true) (e2 : z0 (b2 c k l m a b x y) = true) (e3 : z0 (b3 c k l m a b x y) = true) (e4 : z0 (b4 c k l m a b x y) = true) (e5 : z0 (b5 c k l m a b x y) = true) (e6 : z0 (b6 c k l m a b x y) = true) (e7 : z0 (b7 c k l m a b x y) = true) (e8 : z0 (b8 c k l m a b x y) = true) (e9 : z0 (b9 c k l m a b x y) = true) (e10 : z0 (b10 c k l m a b x y) = true) : Ri (b10 c k l m a b x y) := r_rt (BR9 hc hk hl hm hx hy e0 e1 e2 e3 e4 e5 e6 e7 e8 e9) (z0e e10)
include hc hk hl hm hx hy in theorem BK11 (e0 : z0 (b0 c k l m a b x y) = true) (e1 : z0 (b1 c k l m a b x y) = true) (e2 : z0 (b2 c k l m a b x y) = true) (e3 : z0 (b3 c k l m a b x y) = true) : okE (b11 c k l m a b x y) := e_add (BR1 hc hk hl hm hx hy e0 e1) (BR3 hc hk hl hm hx hy e2 e3)
include hc hk hl hm hx hy in theorem BR11 (e0 : z0 (b0 c k l m a b x y) = true) (e1 : z0 (b1 c k l m a b x y) = true) (e2 : z0 (b2 c k l m a b x y) = true) (e3 : z0 (b3 c k l m a b x y) = true) (e11 : z0 (b11 c k l m a b x y) = true) : Ri (b11 c k l m a b x y) := r_add (BR1 hc hk hl hm hx hy e0 e1) (BR3 hc hk hl hm hx hy e2 e3) (z0e e11)
include hc hk hl hm hx hy in theorem BK12 (e0 : z0 (b0 c k l m a b x y) = true) (e1 : z0 (b1 c k l m a b x y) = true) (e2 : z0 (b2 c k l m a b x y) = true) (e3 : z0 (b3 c k l m a b x y) = true) (e4 : z0 (b4 c k l m a b x y) = true) (e5 : z0 (b5 c k l m a b x y) = true) (e6 : z0 (b6 c k l m a b x y) = true) (e7 : z0 (b7 c k l m a b x y) = true) (e8 : z0 (b8 c k l m a b x y) = true) (e9 : z0 (b9 c k l m a b x y) = true) (e10 : z0 (b10 c k l m a b x y) = true) : okE (b12 c k l m a b x y) := e_add one_ri (BR10 hc hk hl hm hx hy e0 e1 e2 e3 e4 e5 e6 e7 e8 e9 e10)
include hc hk hl hm hx hy in theorem BR12 (e0 : z0 (b0 c k l m a b x y) = true) (e1 : z0 (b1 c k l m a b x y) = true) (e2 : z0 (b2 c k l m a b x y) = true) (e3 : z0 (b3 c k l m a b x y) = true) (e4 : z0 (b4 c k l m a b x y) = true) (e5 : z0 (b5 c k l m a b x y) = true) (e6 : z0 (b6 c k l m a b x y) = true) (e7 : z0 (b7 c k l m a b x y) = true) (e8 : z0 (b8 c k l m a b x y) = true) (e9 : z0 (b9 c k l m a b x y) = true) (e10 : z0 (b10 c k l m a b x y) = true) (e12 : z0 (b12 c k l m a b x y) = true) : Ri (b12 c k l m a b x y) := r_add one_ri (BR10 hc hk hl hm hx hy e0 e1 e2 e3 e4 e5 e6 e7 e8 e9 e10) (z0e e12)
include hc hk hl hm hx hy in theorem BK13 (e0 : z0 (b0 c k l m a b x y) = true) (e1 : z0 (b1 c k l m a b x y) = true) (e2 : z0 (b2 c k l m a b x y) = true) (e3 : z0 (b3 c k l m a b x y) = true) (e4 : z0 (b4 c k l m a b x y) = true) (e5 : z0 (b5 c k l m a b x y) = true) (e6 : z0 (b6 c k l m a b x y) = true) (e7 : z0 (b7 c k l m a b x y) = true) (e8 : z0 (b8 c k l m a b x y) = true) (e9 : z0 (b9 c k l m a b x y) = true) (e10 : z0 (b10 c k l m a b x y) = true) (e11 : z0 (b11 c k l m a b x y) = true) (e12 : z0 (b12 c k l m a b x y) = true) (p : 0 < (b12 c k l m a b x y).lo) : okE (b13 c k l m a b x y) := e_div (BR11 hc hk hl hm hx hy e0 e1 e2 e3 e11) (BR12 hc hk hl hm hx hy e0 e1 e2 e3 e4 e5 e6 e7 e8 e9 e10 e12) p
include hc hk hl hm hx hy in theorem BR13 (e0 : z0 (b0 c k l m a b x y) = true) (e1 : z0 (b1 c k l m a b x y) = true) (e2 : z0 (b2 c k l m a b x y) = true) (e3 : z0 (b3 c k l m a b x y) = true) (e4 : z0 (b4 c k l m a b x y) = true) (e5 : z0 (b5 c k l m a b x y) = true) (e6 : z0 (b6 c k l m a b x y) = true) (e7 : z0 (b7 c k l m a b x y) = true) (e8 : z0 (b8 c k l m a b x y) = true) (e9 : z0 (b9 c k l m a b x y) = true) (e10 : z0 (b10 c k l m a b x y) = true) (e11 : z0 (b11 c k l m a b x y) = true) (e12 : z0 (b12 c k l m a b x y) = true) (e13 : z0 (b13 c k l m a b x y) = true) : Ri (b13 c k l m a b x y) := r_div (BR11 hc hk hl hm hx hy e0 e1 e2 e3 e11) (BR12 hc hk hl hm hx hy e0 e1 e2 e3 e4 e5 e6 e7 e8 e9 e10 e12) (z0e e13)
include hc hk hl hm hx hy in theorem BP12 (e0 : z0 (b0 c k l m a b x y) = true) (e1 : z0 (b1 c k l m a b x y) = true) (e2 : z0 (b2 c k l m a b x y) = true) (e3 : z0 (b3 c k l m a b x y) = true) (e4 : z0 (b4 c k l m a b x y) = true) (e5 : z0 (b5 c k l m a b x y) = true) (e6 : z0 (b6 c k l m a b x y) = true) (e7 : z0 (b7 c k l m a b x y) = true) (e8 : z0 (b8 c k l m a b x y) = true) (e9 : z0 (b9 c k l m a b x y) = true) (e10 : z0 (b10 c k l m a b x y) = true) (e12 : z0 (b12 c k l m a b x y) = true) (p : 0 < (b9 c k l m a b x y).lo) : 0 < (b12 c k l m a b x y).lo := add_pos one_ri (BR10 hc hk hl hm hx hy e0 e1 e2 e3 e4 e5 e6 e7 e8 e9 e10) (z0e e12) (by decide) (by have := rt_pos (BR9 hc hk hl hm hx hy e0 e1 e2 e3 e4 e5 e6 e7 e8 e9) p; exact Int.le_of_lt this)
end
end Go.Rd
namespace Go.Rd
open Go Go.Eng Go.Ar
structure BaseF (c k a b x y : Int) : Prop where
 h : H6 c k a b x y
 p : 0 < (s6 c k a b x y).lo
 h7 : z0 (s7 c k a b x y) = true
 h8 : z0 (s8 c k a b x y) = true
 h9 : z0 (s9 c k a b x y) = true
 h10 : z0 (s10 c k a b x y) = true
section
variable {c k a0 a1 a2 a3 a b x y : Int} (hc : inL c) (hk : inK k) (hx : okSp a b = true) (hy : okSp x y = true) (f : BaseF c k a b x y)
include hc hk hx hy f
variable (i0 : inL a0) (i1 : inL a1) (i2 : inL a2) (i3 : inL a3) (u : z0 (u0 c k a b x y) = true)
include u
include i0 i1 i2 i3
end
end Go.Rd
namespace Go.Rd
open Go Go.Eng Go.Ar
structure BaseX (c k l m a b x y : Int) : Prop where
 e0 : z0 (b0 c k l m a b x y) = true
 e1 : z0 (b1 c k l m a b x y) = true
 e2 : z0 (b2 c k l m a b x y) = true
 e3 : z0 (b3 c k l m a b x y) = true
 e4 : z0 (b4 c k l m a b x y) = true
 e5 : z0 (b5 c k l m a b x y) = true
 e6 : z0 (b6 c k l m a b x y) = true
 e7 : z0 (b7 c k l m a b x y) = true
 e8 : z0 (b8 c k l m a b x y) = true
 e9 : z0 (b9 c k l m a b x y) = true
 p : 0 < (b9 c k l m a b x y).lo
 e10 : z0 (b10 c k l m a b x y) = true
 e11 : z0 (b11 c k l m a b x y) = true
 e12 : z0 (b12 c k l m a b x y) = true
 e13 : z0 (b13 c k l m a b x y) = true
section
variable {c k l m a b x y : Int} (hc : inL c) (hk : inK k) (hl : inL l) (hm : inK m) (hx : okSp a b = true) (hy : okSp x y = true) (f : BaseX c k l m a b x y)
include hc hk hl hm hx hy f
end
end Go.Rd
namespace Go.Rd
open Go Go.Eng Go.Ar
end Go.Rd
namespace Go.Rd
open Go Go.Eng Go.Ar
structure Dr (z0 z1 z2 z3 z4 z5 z6 z7 z8 z9 z10 z11 z12 z13 z14 z15 z16 z17 z18 z19 z20 : Int) : Prop where
 r0 : 0 ≤ z0 ∧ z0 ≤ 255
 r1 : -32768 ≤ z1 ∧ z1 ≤ 32767
 r2 : -32768 ≤ z2 ∧ z2 ≤ 32767
 r3 : -32768 ≤ z3 ∧ z3 ≤ 32767
 r4 : -32768 ≤ z4 ∧ z4 ≤ 32767
 r5 : -128 ≤ z5 ∧ z5 ≤ 127
 r6 : -128 ≤ z6 ∧ z6 ≤ 127
 r7 : -128 ≤ z7 ∧ z7 ≤ 127
 r8 : -128 ≤ z8 ∧ z8 ≤ 127
 r9 : -128 ≤ z9 ∧ z9 ≤ 127
 r10 : -128 ≤ z10 ∧ z10 ≤ 127
 r11 : -128 ≤ z11 ∧ z11 ≤ 127
 r12 : -32768 ≤ z12 ∧ z12 ≤ 32767
 r13 : 0 ≤ z13 ∧ z13 ≤ 255
 r14 : 0 ≤ z14 ∧ z14 ≤ 255
 r15 : 0 ≤ z15 ∧ z15 ≤ 255
 r16 : -128 ≤ z16 ∧ z16 ≤ 127
 r17 : -128 ≤ z17 ∧ z17 ≤ 127
 r18 : -128 ≤ z18 ∧ z18 ≤ 127
 r19 : -128 ≤ z19 ∧ z19 ≤ 127
 r20 : -128 ≤ z20 ∧ z20 ≤ 127
structure Xd4 (x0 x1 x2 x3 : Int) : Prop where
 s0 : -32768 ≤ x0 ∧ x0 ≤ 32767
 s1 : -32768 ≤ x1 ∧ x1 ≤ 32767
 s2 : -32768 ≤ x2 ∧ x2 ≤ 32767
 s3 : -32768 ≤ x3 ∧ x3 ≤ 32767
end Go.Rd
namespace Go.Rd
open Go Go.Eng Go.Ar
section
variable {c k a0 a1 a2 a3 a b x y a' b' x' y' : Int} (hc : inL c) (hk : inK k) (wx : Wi ⟨a', b', 0⟩ ⟨a, b, 0⟩) (wy : Wi ⟨x', y', 0⟩ ⟨x, y, 0⟩)
include hc hk wx wy
structure BaseW (c k a b x y a' b' x' y' : Int) : Prop where
 f : BaseF c k a' b' x' y'
 w2 : Wi (s2 c k a' b' x' y') (s2 c k a b x y)
 w7 : Wi (s7 c k a' b' x' y') (s7 c k a b x y)
 w10 : Wi (s10 c k a' b' x' y') (s10 c k a b x y)
variable (i0 : inL a0) (i1 : inL a1) (i2 : inL a2) (i3 : inL a3)
include i0 i1 i2 i3
end
section
variable {c k a0 a1 a2 a3 a b x y a' b' x' y' : Int} (hc : inL c) (hk : inK k) (hx : okSp a b = true) (hy : okSp x y = true) (wx : Wi ⟨a', b', 0⟩ ⟨a, b, 0⟩) (wy : Wi ⟨x', y', 0⟩ ⟨x, y, 0⟩) (i0 : inL a0) (i1 : inL a1) (i2 : inL a2) (i3 : inL a3)
include hc hk hx hy wx wy i0 i1 i2 i3
end
section
variable {c k l m a b x y a' b' x' y' : Int} (hc : inL c) (hk : inK k) (hl : inL l) (hm : inK m) (hx : okSp a b = true) (hy : okSp x y = true) (wx : Wi ⟨a', b', 0⟩ ⟨a, b, 0⟩) (wy : Wi ⟨x', y', 0⟩ ⟨x, y, 0⟩)
include hc hk hl hm hx hy wx wy
end
end Go.Rd
namespace Go.Rd
open Go Go.Eng Go.Ar
structure Sl where
 s : Sp
 f : Int
 u : Sp
 v : Sp
structure Mn (W P : Sl) : Prop where
 s : W.s.e = 0 → P.s.e = 0 ∧ Wi P.s W.s
 f : W.f = 0 → P.f = 0 ∧ Wi P.u W.u ∧ Wi P.v W.v
end Go.Rd
namespace Go.Rd
open Go Go.Eng Go.Ar
section
variable {c k l m a0 a1 a2 a3 a b d e : Int} (hc : inL c) (hk : inK k) (hl : inL l) (hm : inK m)
end
section
end
structure Ev (W P : Sl) : Prop where
 s : P.s = W.s
 f : P.f = W.f
 u : P.u = ng W.u
 v : P.v = W.v
end Go.Rd
namespace Go.Rd
open Go Go.Eng Go.Ar
section
variable (s : Su) (ys : List Int) (a b x y : Int)
end
end Go.Rd
namespace Go.Proofs.YtiigkjnhmipnfaaGreatDoor.K
open Go Go.Eng Go.Ar Go.Rd
noncomputable section
theorem tell_kd {s : Su} {kd : AV} (h : tell (.int true .i64 s.kd) kd) : tellL s.ini (s.cells kd) := by
 refine ⟨h, ?_⟩
 repeat' first
  | exact trivial
  | refine ⟨⟨rfl, rfl⟩, ?_⟩
  | refine ⟨rfl, ?_⟩
end
end Go.Proofs.YtiigkjnhmipnfaaGreatDoor.K
namespace Go.Proofs.YtiigkjnhmipnfaaGreatDoor.K
open Go Go.Eng Go.Ar Go.Rd
noncomputable section
def bA (b : Bool) : AV := match b with | true => .bool false true | false => .bool false false
def dHint (k : Nat) (od fl : Bool) (_ t : Nat) : Option AV := match Nat.beq t 50 with
 | true => some (bA (Nat.beq k 4))
 | false => match Nat.beq t 68 with
  | true => some (bA (Nat.beq k 5))
  | false => match Nat.beq t 84 with
   | true => some (bA (Nat.beq k 6))
   | false => match Nat.beq t 114 with
    | true => some (bA (Nat.beq k 7))
    | false => match Nat.beq t 118 with
     | true => some (bA od)
     | false => match Nat.beq t 10 && fl with
      | true => some (.bool false true)
      | false => none
noncomputable def cDr (k : Nat) (od fl : Bool) (g : Int) : Ctx := { mkG Tryz.prog glob hG [] ext with hint := dHint k od fl, hintT := fun c => match Nat.beq c 25 with | true => some (25, .int false .i64 g) | false => none }
theorem cDr_ok (k : Nat) (od fl : Bool) (g : Int) : CtxOk (cDr k od fl g) := by
 have co : CtxOk (mkG Tryz.prog glob hG [] ext) := mkG_ok prog_ok ext_ok fun _ h => by cases h
 exact ⟨co.prog, co.con, co.ext, co.loop, co.two⟩
def rd1 (C : Ctx) (d : Df) (coat : AV) (zs : List Int) : Option (Nd × List AV × Nat × List Int) := outL (hG.size + 1) hG.clock 2 .i64 ((run C 1000).call 15 [.agg (d.cells ++ [coat])] (viewsH false hG [(.u8, zs)]))
def co (n : Int) : AV := .pslice hG.size n.toNat false n
def dN (d : Df) (g : Int) : Prop := (W64 d.gl).tmod 5 = g ∧ d.se = d.se ∧ d.gl = d.gl ∧ d.th = d.th ∧ d.k0 = d.k0 ∧ d.c0 = d.c0
def nA (d : Df) (g : Int) : Prop := dN d g ∧ (d.kd.tmod 8 == 4) = false ∧ (d.kd.tmod 8 == 5) = false ∧ (d.kd.tmod 8 == 6) = false ∧ (d.kd.tmod 8 == 7) = false
def nC (d : Df) (g : Int) : Prop := dN d g ∧ (d.kd.tmod 8 == 4) = false ∧ (d.kd.tmod 8 == 5) = true
def nD (d : Df) (g : Int) : Prop := dN d g ∧ (d.kd.tmod 8 == 4) = false ∧ (d.kd.tmod 8 == 5) = false ∧ (d.kd.tmod 8 == 6) = true
def nE (d : Df) (g : Int) (b : Bool) : Prop := dN d g ∧ (d.kd.tmod 8 == 4) = false ∧ (d.kd.tmod 8 == 5) = false ∧ (d.kd.tmod 8 == 6) = false ∧ (d.kd.tmod 8 == 7) = true ∧ (d.o.tmod 2 == 0) = b
def nB (d : Df) (g : Int) : Prop := dN d g ∧ (d.kd.tmod 8 == 4) = true
def nB3 (d : Df) (g n : Int) : Prop := dN d g ∧ (d.kd.tmod 8 == 4) = true ∧ decide (0 < n) = true ∧ decide (1 < n) = true ∧ decide (2 < n) = true ∧ decide (3 < n) = true
end
end Go.Proofs.YtiigkjnhmipnfaaGreatDoor.K
namespace Go.Proofs.YtiigkjnhmipnfaaGreatDoor.K
open Go Go.Eng Go.Ar Go.Rd
noncomputable section
theorem okF3_emp {n : Int} {ys : List Int} (h : okF3 n ys) : ys = [] → n = 0 := by
 intro he
 have := h.2.2
 rw [he] at this
 have := h.1
 simp only [List.length_nil] at *
 omega
def hT (l : List (Nat × Nat × Bool)) (c t : Nat) : Option AV := match l with
 | [] => none
 | (k, u, b) :: r => match Nat.beq t u && (Nat.beq k 0 || Nat.beq k c) with
  | true => some (bA b)
  | false => hT r c t
end
end Go.Proofs.YtiigkjnhmipnfaaGreatDoor.K
namespace Go.Eng
open Go
noncomputable section
end
end Go.Eng
namespace Go.Proofs.YtiigkjnhmipnfaaGreatDoor.K
open Go Go.Eng Go.Ar Go.Rd
noncomputable section
end
end Go.Proofs.YtiigkjnhmipnfaaGreatDoor.K
namespace Go.Proofs.YtiigkjnhmipnfaaGreatDoor.K
open Go Go.Eng Go.Ar Go.Rd
noncomputable section
theorem tell_ini (s : Su) : tellL s.ini s.ini := tell_kd ⟨rfl, rfl⟩
end
end Go.Proofs.YtiigkjnhmipnfaaGreatDoor.K
namespace Go.Eng
open Go
noncomputable section
theorem lsp_okM {P : Program} {glob : Nat → Option Nat} {hG : Hp} (ok : hG.ok) (pl : blksPlain hG.size hG.blks = true) (hgl : ∀ g i, glob g = some i → i < hG.size) {f : FuncId} {ps : List Pa} {V : Nat → List Itm → Option (Prop × AV × List ABody)}
  (h : ∀ sz its p v bs, V sz its = some (p, v, bs) → p → okIts its ∧ AV.underL hG.size (inits ps its) = true ∧ ∃ raw, RunsTo P glob hG f raw ps its (mkA raw hG.size ps its) sz v bs)
  (fn : ∃ fn : Func, P.funcs[f]? = some fn ∧ fn.body.isSome = true) : NOk P glob hG f (lSpec hG ps V) := by
 refine ⟨fun args nd v bs h' e same => ?_, fn⟩
 have e0 := e
 unfold lSpec at e
 split at e
 ·cases e
 ·rename_i ls its hr
  split at e
  ·cases e
  ·rename_i p v' bs' hV
   cases e
   classical
   by_cases hp : p
   ·obtain ⟨b1, b2, raw, hr'⟩ := h _ _ _ _ _ hV hp
    exact (lsp_ok raw ok pl hgl (V := fun sz' its' => if sz' = h'.size ∧ its' = its then some (p, v, bs) else none) (fun sz its2 p2 v2 bs2 e2 hp2 => by
     split at e2
     ·rename_i hc
      obtain ⟨rfl, rfl⟩ := hc
      cases e2
      exact ⟨b1, b2, hr'⟩
     ·cases e2) fn).call args (.p p) v bs h' (by unfold lSpec; rw [hr]; simp) same
   ·intro σ A W g r hA hn
    exact absurd hn hp
end
end Go.Eng
namespace Go.Rd
open Go Go.Eng Go.Ar
def neL : List Int → List Int → List Bool
 | i :: p :: q :: r, j :: u :: v :: w => (!(i == j && (p == u && (q == v && true)))) :: neL r w
 | _, _ => []
section
variable (s t : Su)
def nP : Bool := s.kd == t.kd && (s.c == t.c && (s.k == t.k && (s.l == t.l && (s.m == t.m && (s.o == t.o && (s.th == t.th && (s.se == t.se && (s.ho == t.ho && (s.dx == t.dx && (s.dy == t.dy && (s.ax == t.ax && (s.ay == t.ay && (s.az == t.az && ((0 : Int) == 0 && ((0 : Int) == 0 && (s.a0 == t.a0 && (s.a1 == t.a1 && (s.a2 == t.a2 && (s.a3 == t.a3 && (s.f0 == t.f0 && (s.f1 == t.f1 && (eqBytes s.g t.g && true))))))))))))))))))))))
def nR : Bool := bif bif s.kd != t.kd then true else bif s.c != t.c then true else bif s.k != t.k then true else bif s.l != t.l then true else bif s.m != t.m then true else bif !(s.a0 == t.a0 && (s.a1 == t.a1 && (s.a2 == t.a2 && (s.a3 == t.a3 && true)))) then true else bif !(s.f0 == t.f0 && (s.f1 == t.f1 && true)) then true else s.o != t.o then false else bif s.th == t.th then bif eqBytes s.g t.g then bif s.se == t.se then bif s.ho == t.ho then bif s.dx == t.dx then bif s.dy == t.dy then bif s.ax == t.ax then bif s.ay == t.ay then s.az == t.az else false else false else false else false else false else false else false else false
theorem cd1 (u v w : Bool) : (bif (bif u then true else v) then false else w) = (!u && (bif v then false else w)) := by cases u <;> rfl
theorem cd2 (u v : Bool) : (bif u then v else false) = (u && v) := by cases u <;> rfl
theorem cd3 (u w : Bool) : (bif u then false else w) = (!u && w) := by cases u <;> rfl
theorem nR_eq : nR s t = nP s t := by
 rw [Bool.eq_iff_iff]
 unfold nR nP
 simp only [cd1]
 simp only [cd2, cd3, Bool.and_eq_true, Bool.not_not, bne, beq_iff_eq, Bool.and_true, and_true, true_and, beq_self_eq_true, Bool.true_and]
 constructor
 ·rintro ⟨h1, h2, h3, h4, h5, ⟨h6, h7, h8, h9⟩, ⟨h10, h11⟩, h12, h13, h14, h15, h16, h17, h18, h19, h20, h21⟩
  exact ⟨h1, h2, h3, h4, h5, h12, h13, h15, h16, h17, h18, h19, h20, h21, h6, h7, h8, h9, h10, h11, h14⟩
 ·rintro ⟨h1, h2, h3, h4, h5, h12, h13, h15, h16, h17, h18, h19, h20, h21, h6, h7, h8, h9, h10, h11, h14⟩
  exact ⟨h1, h2, h3, h4, h5, ⟨h6, h7, h8, h9⟩, ⟨h10, h11⟩, h12, h13, h14, h15, h16, h17, h18, h19, h20, h21⟩
def sameS (ys zs : List Int) : Bool := nP s t && (decide (ys.length = zs.length) && !anyB (neL ys zs))
def suQ : Prop := t.kd = t.kd ∧ t.c = t.c ∧ t.k = t.k ∧ t.l = t.l ∧ t.m = t.m ∧ t.a0 = t.a0 ∧ t.a1 = t.a1 ∧ t.a2 = t.a2 ∧ t.a3 = t.a3 ∧ t.f0 = t.f0 ∧ t.f1 = t.f1 ∧ t.o = t.o ∧ t.th = t.th ∧ t.g = t.g ∧ t.se = t.se ∧ t.ho = t.ho ∧ t.dx = t.dx ∧ t.dy = t.dy ∧ t.ax = t.ax ∧ t.ay = t.ay ∧ t.az = t.az
theorem suQ_t : suQ t := by unfold suQ; simp only [and_self]
def smP (ys zs : List Int) : Bool := bif nP s t then sel (neL ys zs) false true else false
def smR (ys zs : List Int) : Bool := sel (neL ys zs) false (nR s t)
theorem smP_eq {ys zs : List Int} (h : ys.length = zs.length) : smP s t ys zs = sameS s t ys zs := by
 unfold smP sameS
 rw [sel_eq, decide_eq_true h]
 cases nP s t <;> cases anyB (neL ys zs) <;> rfl
theorem smR_eq {ys zs : List Int} (h : ys.length = zs.length) : smR s t ys zs = sameS s t ys zs := by
 unfold smR sameS
 rw [sel_eq, decide_eq_true h, nR_eq]
 cases nP s t <;> cases anyB (neL ys zs) <;> rfl
end
end Go.Rd
