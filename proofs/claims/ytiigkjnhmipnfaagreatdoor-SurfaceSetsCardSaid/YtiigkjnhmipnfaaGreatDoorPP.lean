/- What is proved: SurfaceSets returns true, whatever the input (part 16 of 31). No conditions beyond those of the row. -/
import Derived.Test.YtiigkjnhmipnfaaGreatDoorPI
import Derived.Test.YtiigkjnhmipnfaaGreatDoorPJ
import Derived.Test.YtiigkjnhmipnfaaGreatDoorPK
import Derived.Test.YtiigkjnhmipnfaaGreatDoorPL
import Derived.Test.YtiigkjnhmipnfaaGreatDoorPM
import Derived.Test.YtiigkjnhmipnfaaGreatDoorPN
import Derived.Test.YtiigkjnhmipnfaaGreatDoorPO
set_option linter.unusedVariables false
set_option linter.unusedSimpArgs false
set_option linter.unusedSectionVars false
namespace Go.Rd
open Go Go.Eng Go.Ar
theorem fE_eq (s : Su) (ys : List Int) (f : Bool) : fE (cE0 s f) ys = bif !f && numsB s && filmsB ys then 0 else 110 := by
 rw [cE0_eq]
 cases hb : (!f && numsB s) with
 | true => simp only [cond_true, fE_0, Bool.true_and]
 | false => simp only [cond_false, fE_1, Bool.false_and]
theorem len24 {ys : List Int} (h : ys.length ≤ 24) : decide (ys.length ≤ 24) = true := decide_eq_true h
theorem sel_kind {s : Su} {ys : List Int} {f : Bool} (h : ys.length ≤ 24) (k : kindB s ys.isEmpty = f) : rightS s ys = (f && numsB s && filmsB ys) := by
 unfold rightS
 rw [len24 h, k]
 cases f <;> cases numsB s <;> cases filmsB ys <;> rfl
theorem k1_eq {s : Su} {e : Bool} (hk : s.kd = 1) : kindB s e = k1N s := by
 unfold kindB k1N noX noT noP
 rw [hk]
 have hp : k1P s = !(s.o == 0 || isM s) := by
  unfold k1P
  cases h : s.o == 0 <;> simp [bne, h]
 simp only [beq_self_eq_true, Bool.true_and, Bool.and_true, show ((1 : Int) == 2) = false from rfl, show ((1 : Int) == 3) = false from rfl, show ((1 : Int) == 4) = false from rfl, Bool.false_and, Bool.or_false]
 have eb : ∀ b : ByteArray, eqBytes b b = true := fun b => (eqBytes_iff _ _).2 rfl
 rw [hp, eb]
 cases h : (s.o == 0 || isM s) with
 | true =>
  simp only [Bool.not_true, cond_false, Bool.false_or, beq_self_eq_true, Bool.true_and, Bool.and_true]
  cases s.o == 0 <;> cases s.l == 0 <;> cases s.m == 0 <;> cases s.dx == 0 <;> cases s.dy == 0 <;> cases s.ax == 0 <;> cases s.ay == 0 <;> cases s.az == 0 <;> simp
 | false =>
  simp only [Bool.not_false, cond_true, Bool.true_or, beq_self_eq_true, Bool.true_and, Bool.and_true]
  cases s.l == 0 <;> cases s.m == 0 <;> cases s.dx == 0 <;> cases s.dy == 0 <;> cases s.ax == 0 <;> cases s.ay == 0 <;> cases s.az == 0 <;> rfl
theorem k2_eq {s : Su} {e : Bool} (hk : s.kd = 2) : kindB s e = k2N s := by
 unfold kindB k2N noA noT noP
 rw [hk]
 have eb : ∀ b : ByteArray, eqBytes b b = true := fun b => (eqBytes_iff _ _).2 rfl
 simp only [eb, beq_self_eq_true, Bool.true_and, Bool.and_true, show ((2 : Int) == 1) = false from rfl, show ((2 : Int) == 3) = false from rfl, show ((2 : Int) == 4) = false from rfl, Bool.false_and, Bool.or_false, Bool.false_or]
 cases s.o == 0 <;> cases s.dx == 0 <;> cases s.dy == 0 <;> cases s.ax == 0 <;> cases s.ay == 0 <;> cases s.az == 0 <;> simp [Bool.and_assoc]
theorem k3_eq {s : Su} (hk : s.kd = 3) : kindB s true = k3N s := by
 unfold kindB k3N noX noA noP
 rw [hk]
 simp only [beq_self_eq_true, Bool.true_and, Bool.and_true, show ((3 : Int) == 1) = false from rfl, show ((3 : Int) == 2) = false from rfl, show ((3 : Int) == 4) = false from rfl, Bool.false_and, Bool.or_false, Bool.false_or]
 cases s.o == 0 <;> cases s.l == 0 <;> cases s.m == 0 <;> cases s.c == 0 <;> cases s.k == 0 <;> cases s.se == 0 <;> cases s.ho == 0 <;> cases noG s <;> simp [Bool.and_assoc]
theorem k4_eq {s : Su} (hk : s.kd = 4) : kindB s true = k4N s := by
 unfold kindB k4N noX noA noP noT
 rw [hk]
 simp only [beq_self_eq_true, Bool.true_and, Bool.and_true, show ((4 : Int) == 1) = false from rfl, show ((4 : Int) == 2) = false from rfl, show ((4 : Int) == 3) = false from rfl, Bool.false_and, Bool.or_false, Bool.false_or]
 cases s.o == 0 <;> cases s.l == 0 <;> cases s.m == 0 <;> cases s.k == 0 <;> cases s.dx == 0 <;> cases s.dy == 0 <;> cases s.ax == 0 <;> cases s.ay == 0 <;> cases s.az == 0 <;> cases noG s <;> simp [Bool.and_assoc]
theorem k34_f {s : Su} (hk : s.kd = 3 ∨ s.kd = 4) : kindB s false = false := by
 unfold kindB
 rcases hk with hk | hk <;> rw [hk] <;> simp
theorem k0_f {s : Su} {e : Bool} (hk : inR 1 4 s.kd = false) : kindB s e = false := by
 unfold inR at hk
 unfold kindB
 have h : ∀ k : Int, 1 ≤ k → k ≤ 4 → (s.kd == k) = false := by
  intro k h1 h2
  simp only [Bool.and_eq_false_iff, decide_eq_false_iff_not] at hk
  rw [beq_eq_false_iff_ne]
  omega
 rw [h 1 (by decide) (by decide), h 2 (by decide) (by decide), h 3 (by decide) (by decide), h 4 (by decide) (by decide)]
 rfl
theorem chk1_eq {s : Su} {ys : List Int} (hk : s.kd = 1) (h : ys.length ≤ 24) : chk1V s ys = bif rightS s ys then 0 else 110 := by
 unfold chk1V k1F
 rw [fE_eq, sel_kind h (k1_eq hk), fQ_t]
 cases k1N s <;> rfl
theorem chk2_eq {s : Su} {ys : List Int} (hk : s.kd = 2) (h : ys.length ≤ 24) : chk2V s ys = bif rightS s ys then 0 else 110 := by
 unfold chk2V k2F
 rw [fE_eq, sel_kind h (k2_eq hk), fQ_t]
 cases k2N s <;> rfl
theorem chk3_eq {s : Su} (hk : s.kd = 3) : cE0 s (k3F s) = bif rightS s [] then 0 else 110 := by
 unfold k3F
 rw [cE0_eq, sel_kind (ys := []) (by decide) (k3_eq hk)]
 cases k3N s <;> cases numsB s <;> rfl
theorem chk4_eq {s : Su} (hk : s.kd = 4) : cE0 s (k4F s) = bif rightS s [] then 0 else 110 := by
 unfold k4F
 rw [cE0_eq, sel_kind (ys := []) (by decide) (k4_eq hk)]
 cases k4N s <;> cases numsB s <;> rfl
theorem right_long {s : Su} {ys : List Int} (h : 24 < ys.length) : rightS s ys = false := by
 unfold rightS
 rw [decide_eq_false (by omega), Bool.and_false]
theorem right_kind {s : Su} {ys : List Int} (h : kindB s ys.isEmpty = false) : rightS s ys = false := by
 unfold rightS
 rw [h, Bool.and_false, Bool.false_and, Bool.false_and]
theorem spinF_len : ∀ (n i : Nat) (x : Nat → Int), (spinF n i x).length = n
 | 0, _, _ => rfl
 | n + 1, i, x => by rw [spinF, List.length_cons, spinF_len n]
theorem kdO_t {s : Su} (h : inR 1 4 s.kd = false) : kdO s = false := by
 unfold kdO
 rw [ix1_eq, oR_eq, h]; rfl
theorem inR_no {n : Int} (h1 : n ≠ 1) (h2 : n ≠ 2) (h3 : n ≠ 3) (h4 : n ≠ 4) : inR 1 4 n = false := by
 unfold inR
 cases a : decide (1 ≤ n) <;> cases b : decide (n ≤ 4) <;> simp_all <;> omega
end Go.Rd
namespace Go.Proofs.YtiigkjnhmipnfaaGreatDoor.K
open Go Go.Eng Go.Ar Go.Rd
noncomputable section
theorem len_fz (n : Nat) (x : Nat → Int) : (fz n x).length = 3 * n := spinF_len _ _ _
theorem r_long {s : Su} {n : Nat} {x : Nat → Int} (h : 9 ≤ n) : (110 : Int) = bif rightS s (fz n x) then 0 else 110 := by rw [right_long (by rw [len_fz]; omega)]; rfl
theorem r_kind {s : Su} {ys : List Int} (h : kindB s ys.isEmpty = false) : (110 : Int) = bif rightS s ys then 0 else 110 := by rw [right_kind h]; rfl
theorem ch1_all (s : Su) (x : Nat → Int) (hk : s.kd = 1) (hg : s.g.size < 1000000000) : ∀ n, n ≤ 12 → ∃ nd v0, rn cNm 18 s (.int false .i64 1) n x = some (nd, v0) ∧ v0.num = true ∧ nd.val ∧ tell v0 (.int true .i64 (bif rightS s (fz n x) then 0 else 110)) := fun n hn => match n, hn with
 | 0, _ => ⟨_, _, ch1_0 s x, rfl, chk1N_t hg, ⟨rfl, chk1_eq hk (by rw [len_fz]; decide)⟩⟩
 | 1, _ => ⟨_, _, ch1_1 s x, rfl, chk1N_t hg, ⟨rfl, chk1_eq hk (by rw [len_fz]; decide)⟩⟩
 | 2, _ => ⟨_, _, ch1_2 s x, rfl, chk1N_t hg, ⟨rfl, chk1_eq hk (by rw [len_fz]; decide)⟩⟩
 | 3, _ => ⟨_, _, ch1_3 s x, rfl, chk1N_t hg, ⟨rfl, chk1_eq hk (by rw [len_fz]; decide)⟩⟩
 | 4, _ => ⟨_, _, ch1_4 s x, rfl, chk1N_t hg, ⟨rfl, chk1_eq hk (by rw [len_fz]; decide)⟩⟩
 | 5, _ => ⟨_, _, ch1_5 s x, rfl, chk1N_t hg, ⟨rfl, chk1_eq hk (by rw [len_fz]; decide)⟩⟩
 | 6, _ => ⟨_, _, ch1_6 s x, rfl, chk1N_t hg, ⟨rfl, chk1_eq hk (by rw [len_fz]; decide)⟩⟩
 | 7, _ => ⟨_, _, ch1_7 s x, rfl, chk1N_t hg, ⟨rfl, chk1_eq hk (by rw [len_fz]; decide)⟩⟩
 | 8, _ => ⟨_, _, ch1_8 s x, rfl, chk1N_t hg, ⟨rfl, chk1_eq hk (by rw [len_fz]; decide)⟩⟩
 | 9, _ => ⟨_, _, ch1_9 s x, rfl, chk1N_t hg, ⟨rfl, r_long (by decide)⟩⟩
 | 10, _ => ⟨_, _, ch1_10 s x, rfl, chk1N_t hg, ⟨rfl, r_long (by decide)⟩⟩
 | 11, _ => ⟨_, _, ch1_11 s x, rfl, chk1N_t hg, ⟨rfl, r_long (by decide)⟩⟩
 | 12, _ => ⟨_, _, ch1_12 s x, rfl, chk1N_t hg, ⟨rfl, r_long (by decide)⟩⟩
theorem ch2_all (s : Su) (x : Nat → Int) (hk : s.kd = 2) (hg : s.g.size < 1000000000) : ∀ n, n ≤ 12 → ∃ nd v0, rn cNm 18 s (.int false .i64 2) n x = some (nd, v0) ∧ v0.num = true ∧ nd.val ∧ tell v0 (.int true .i64 (bif rightS s (fz n x) then 0 else 110)) := fun n hn => match n, hn with
 | 0, _ => ⟨_, _, ch2_0 s x, rfl, chk2N_t hg, ⟨rfl, chk2_eq hk (by rw [len_fz]; decide)⟩⟩
 | 1, _ => ⟨_, _, ch2_1 s x, rfl, chk2N_t hg, ⟨rfl, chk2_eq hk (by rw [len_fz]; decide)⟩⟩
 | 2, _ => ⟨_, _, ch2_2 s x, rfl, chk2N_t hg, ⟨rfl, chk2_eq hk (by rw [len_fz]; decide)⟩⟩
 | 3, _ => ⟨_, _, ch2_3 s x, rfl, chk2N_t hg, ⟨rfl, chk2_eq hk (by rw [len_fz]; decide)⟩⟩
 | 4, _ => ⟨_, _, ch2_4 s x, rfl, chk2N_t hg, ⟨rfl, chk2_eq hk (by rw [len_fz]; decide)⟩⟩
 | 5, _ => ⟨_, _, ch2_5 s x, rfl, chk2N_t hg, ⟨rfl, chk2_eq hk (by rw [len_fz]; decide)⟩⟩
 | 6, _ => ⟨_, _, ch2_6 s x, rfl, chk2N_t hg, ⟨rfl, chk2_eq hk (by rw [len_fz]; decide)⟩⟩
 | 7, _ => ⟨_, _, ch2_7 s x, rfl, chk2N_t hg, ⟨rfl, chk2_eq hk (by rw [len_fz]; decide)⟩⟩
 | 8, _ => ⟨_, _, ch2_8 s x, rfl, chk2N_t hg, ⟨rfl, chk2_eq hk (by rw [len_fz]; decide)⟩⟩
 | 9, _ => ⟨_, _, ch2_9 s x, rfl, chk2N_t hg, ⟨rfl, r_long (by decide)⟩⟩
 | 10, _ => ⟨_, _, ch2_10 s x, rfl, chk2N_t hg, ⟨rfl, r_long (by decide)⟩⟩
 | 11, _ => ⟨_, _, ch2_11 s x, rfl, chk2N_t hg, ⟨rfl, r_long (by decide)⟩⟩
 | 12, _ => ⟨_, _, ch2_12 s x, rfl, chk2N_t hg, ⟨rfl, r_long (by decide)⟩⟩
theorem ch3_all (s : Su) (x : Nat → Int) (hk : s.kd = 3) (hg : s.g.size < 1000000000) : ∀ n, n ≤ 12 → ∃ nd v0, rn cNm 18 s (.int false .i64 3) n x = some (nd, v0) ∧ v0.num = true ∧ nd.val ∧ tell v0 (.int true .i64 (bif rightS s (fz n x) then 0 else 110)) := fun n hn => match n, hn with
 | 0, _ => ⟨_, _, ch3_0 s x, rfl, ⟨w3_t, nmC_t hg⟩, ⟨rfl, chk3_eq hk⟩⟩
 | 1, _ => ⟨_, _, ch3_1 s x, rfl, w3_t, ⟨rfl, r_kind (k34_f (.inl hk))⟩⟩
 | 2, _ => ⟨_, _, ch3_2 s x, rfl, w3_t, ⟨rfl, r_kind (k34_f (.inl hk))⟩⟩
 | 3, _ => ⟨_, _, ch3_3 s x, rfl, w3_t, ⟨rfl, r_kind (k34_f (.inl hk))⟩⟩
 | 4, _ => ⟨_, _, ch3_4 s x, rfl, w3_t, ⟨rfl, r_kind (k34_f (.inl hk))⟩⟩
 | 5, _ => ⟨_, _, ch3_5 s x, rfl, w3_t, ⟨rfl, r_kind (k34_f (.inl hk))⟩⟩
 | 6, _ => ⟨_, _, ch3_6 s x, rfl, w3_t, ⟨rfl, r_kind (k34_f (.inl hk))⟩⟩
 | 7, _ => ⟨_, _, ch3_7 s x, rfl, w3_t, ⟨rfl, r_kind (k34_f (.inl hk))⟩⟩
 | 8, _ => ⟨_, _, ch3_8 s x, rfl, w3_t, ⟨rfl, r_kind (k34_f (.inl hk))⟩⟩
 | 9, _ => ⟨_, _, ch3_9 s x, rfl, w3_t, ⟨rfl, r_kind (k34_f (.inl hk))⟩⟩
 | 10, _ => ⟨_, _, ch3_10 s x, rfl, w3_t, ⟨rfl, r_kind (k34_f (.inl hk))⟩⟩
 | 11, _ => ⟨_, _, ch3_11 s x, rfl, w3_t, ⟨rfl, r_kind (k34_f (.inl hk))⟩⟩
 | 12, _ => ⟨_, _, ch3_12 s x, rfl, w3_t, ⟨rfl, r_kind (k34_f (.inl hk))⟩⟩
theorem ch4_all (s : Su) (x : Nat → Int) (hk : s.kd = 4) (hg : s.g.size < 1000000000) : ∀ n, n ≤ 12 → ∃ nd v0, rn cNm 18 s (.int false .i64 4) n x = some (nd, v0) ∧ v0.num = true ∧ nd.val ∧ tell v0 (.int true .i64 (bif rightS s (fz n x) then 0 else 110)) := fun n hn => match n, hn with
 | 0, _ => ⟨_, _, ch4_0 s x, rfl, ⟨w4_t, nmC_t hg⟩, ⟨rfl, chk4_eq hk⟩⟩
 | 1, _ => ⟨_, _, ch4_1 s x, rfl, w4_t, ⟨rfl, r_kind (k34_f (.inr hk))⟩⟩
 | 2, _ => ⟨_, _, ch4_2 s x, rfl, w4_t, ⟨rfl, r_kind (k34_f (.inr hk))⟩⟩
 | 3, _ => ⟨_, _, ch4_3 s x, rfl, w4_t, ⟨rfl, r_kind (k34_f (.inr hk))⟩⟩
 | 4, _ => ⟨_, _, ch4_4 s x, rfl, w4_t, ⟨rfl, r_kind (k34_f (.inr hk))⟩⟩
 | 5, _ => ⟨_, _, ch4_5 s x, rfl, w4_t, ⟨rfl, r_kind (k34_f (.inr hk))⟩⟩
 | 6, _ => ⟨_, _, ch4_6 s x, rfl, w4_t, ⟨rfl, r_kind (k34_f (.inr hk))⟩⟩
 | 7, _ => ⟨_, _, ch4_7 s x, rfl, w4_t, ⟨rfl, r_kind (k34_f (.inr hk))⟩⟩
 | 8, _ => ⟨_, _, ch4_8 s x, rfl, w4_t, ⟨rfl, r_kind (k34_f (.inr hk))⟩⟩
 | 9, _ => ⟨_, _, ch4_9 s x, rfl, w4_t, ⟨rfl, r_kind (k34_f (.inr hk))⟩⟩
 | 10, _ => ⟨_, _, ch4_10 s x, rfl, w4_t, ⟨rfl, r_kind (k34_f (.inr hk))⟩⟩
 | 11, _ => ⟨_, _, ch4_11 s x, rfl, w4_t, ⟨rfl, r_kind (k34_f (.inr hk))⟩⟩
 | 12, _ => ⟨_, _, ch4_12 s x, rfl, w4_t, ⟨rfl, r_kind (k34_f (.inr hk))⟩⟩
theorem ch0_all (s : Su) (x : Nat → Int) (hk : inR 1 4 s.kd = false) (hg : s.g.size < 1000000000) : ∀ n, n ≤ 12 → ∃ nd v0, rn cNk 18 s (.int true .i64 s.kd) n x = some (nd, v0) ∧ v0.num = true ∧ nd.val ∧ tell v0 (.int true .i64 (bif rightS s (fz n x) then 0 else 110)) := fun n hn => match n, hn with
 | 0, _ => ⟨_, _, ch0_0 s x, rfl, kdO_t hk, ⟨rfl, r_kind (k0_f hk)⟩⟩
 | 1, _ => ⟨_, _, ch0_1 s x, rfl, kdO_t hk, ⟨rfl, r_kind (k0_f hk)⟩⟩
 | 2, _ => ⟨_, _, ch0_2 s x, rfl, kdO_t hk, ⟨rfl, r_kind (k0_f hk)⟩⟩
 | 3, _ => ⟨_, _, ch0_3 s x, rfl, kdO_t hk, ⟨rfl, r_kind (k0_f hk)⟩⟩
 | 4, _ => ⟨_, _, ch0_4 s x, rfl, kdO_t hk, ⟨rfl, r_kind (k0_f hk)⟩⟩
 | 5, _ => ⟨_, _, ch0_5 s x, rfl, kdO_t hk, ⟨rfl, r_kind (k0_f hk)⟩⟩
 | 6, _ => ⟨_, _, ch0_6 s x, rfl, kdO_t hk, ⟨rfl, r_kind (k0_f hk)⟩⟩
 | 7, _ => ⟨_, _, ch0_7 s x, rfl, kdO_t hk, ⟨rfl, r_kind (k0_f hk)⟩⟩
 | 8, _ => ⟨_, _, ch0_8 s x, rfl, kdO_t hk, ⟨rfl, r_kind (k0_f hk)⟩⟩
 | 9, _ => ⟨_, _, ch0_9 s x, rfl, kdO_t hk, ⟨rfl, r_kind (k0_f hk)⟩⟩
 | 10, _ => ⟨_, _, ch0_10 s x, rfl, kdO_t hk, ⟨rfl, r_kind (k0_f hk)⟩⟩
 | 11, _ => ⟨_, _, ch0_11 s x, rfl, kdO_t hk, ⟨rfl, r_kind (k0_f hk)⟩⟩
 | 12, _ => ⟨_, _, ch0_12 s x, rfl, kdO_t hk, ⟨rfl, r_kind (k0_f hk)⟩⟩
def suV (V : Su → List Int → AV) : Nat → List Itm → Option (Prop × AV × List ABody) := fun _ its => match its with
 | [.s xs n ys] => match suOf xs with
  | some s => some (okF3 n ys ∧ s.g.size < 1000000000, V s ys, [])
  | none => none
 | _ => none
theorem tell_su (s : Su) (kd : AV) (k : Nat) (ys : List Int) (h : tell (.int true .i64 s.kd) kd) : tellL (mkA false hG.size [.s suI .i64] [.s s.nus (k : Int) ys]) [suA s kd k] := by
 have e : mkA false hG.size [.s suI .i64] [.s s.nus (k : Int) ys] = [.agg (s.ini ++ [.pslice hG.size (k : Int).toNat false (k : Int)])] := rfl
 rw [e, Int.toNat_natCast]
 refine ⟨⟨h, ?_⟩, trivial⟩
 repeat' first
  | exact trivial
  | refine ⟨⟨rfl, rfl⟩, ?_⟩
  | refine ⟨rfl, ?_⟩
  | exact ⟨⟨rfl, Nat.le_refl _, rfl⟩, trivial⟩
theorem su_ok {f : FuncId} {V : Su → List Int → AV} (fn : ∃ fn : Func, Tryz.prog.funcs[f]? = some fn ∧ fn.body.isSome = true)
  (h : ∀ (s : Su) (x : Nat → Int) (n : Nat), s.g.size < 1000000000 → n ≤ 12 → ∃ (C : Ctx) (kd : AV) (nd : Nd) (v0 : AV), CtxOk C ∧ C.P = Tryz.prog ∧ C.glob = glob ∧ tell (.int true .i64 s.kd) kd ∧ rn C f s kd n x = some (nd, v0) ∧ v0.num = true ∧ nd.val ∧ tell v0 (V s (fz n x))) :
  NOk Tryz.prog glob hG f (lSpec hG [.s suI .i64] (suV V)) := by
 refine lsp_ok false hG_ok hG_plain glob_lt (fun sz its p v bs e hp => ?_) fn
 unfold suV at e
 split at e
 ·rename_i xs n ys
  split at e
  ·rename_i s hs
   cases e
   obtain ⟨ho, hg⟩ := hp
   obtain ⟨k, x, hk, rfl, rfl⟩ := okF3_of ho
   obtain rfl := suOf_eq hs
   obtain ⟨C, kd, nd, v0, co, hP, hG', ht, hr, hnum, hnd, hv⟩ := h s x k hg hk
   obtain ⟨q, h1, h2, h3, h4⟩ := oneG_tells hr hnum
   refine ⟨⟨fun h0 => ?_, trivial⟩, rfl, C, 1000, [suA s kd k], nd, v0, q, co, hP, hG', tell_su s kd k _ ht, h1, h2, hnd, h3, h4 sz _ hv⟩
   have := congrArg List.length h0
   rw [spinF_len] at this
   simp only [List.length_nil] at this
   omega
  ·cases e
 ·cases e
def chkA : Su → List Int → AV := fun s ys => .int true .i64 (bif rightS s ys then 0 else 110)
theorem chkA_ok : NOk Tryz.prog glob hG 18 (lSpec hG [.s suI .i64] (suV chkA)) := by
 refine su_ok ⟨_, Tryz.func18, rfl⟩ fun s x n hg hn => ?_
 by_cases c1 : s.kd = 1
 ·obtain ⟨nd, v0, a⟩ := ch1_all s x c1 hg n hn
  exact ⟨cNm, .int false .i64 1, nd, v0, cNm_ok, rfl, rfl, ⟨rfl, c1⟩, a⟩
 ·by_cases c2 : s.kd = 2
  ·obtain ⟨nd, v0, a⟩ := ch2_all s x c2 hg n hn
   exact ⟨cNm, .int false .i64 2, nd, v0, cNm_ok, rfl, rfl, ⟨rfl, c2⟩, a⟩
  ·by_cases c3 : s.kd = 3
   ·obtain ⟨nd, v0, a⟩ := ch3_all s x c3 hg n hn
    exact ⟨cNm, .int false .i64 3, nd, v0, cNm_ok, rfl, rfl, ⟨rfl, c3⟩, a⟩
   ·by_cases c4 : s.kd = 4
    ·obtain ⟨nd, v0, a⟩ := ch4_all s x c4 hg n hn
     exact ⟨cNm, .int false .i64 4, nd, v0, cNm_ok, rfl, rfl, ⟨rfl, c4⟩, a⟩
    ·obtain ⟨nd, v0, a⟩ := ch0_all s x (inR_no c1 c2 c3 c4) hg n hn
     exact ⟨cNk, .int true .i64 s.kd, nd, v0, cNk_ok, rfl, rfl, ⟨rfl, rfl⟩, a⟩
end
end Go.Proofs.YtiigkjnhmipnfaaGreatDoor.K
namespace Go.Rd
open Go Go.Eng Go.Ar
structure Df where
 kd : Int
 c0 : Int
 c1 : Int
 k0 : Int
 k1 : Int
 a0 : Int
 a1 : Int
 a2 : Int
 a3 : Int
 p0 : Int
 p1 : Int
 o : Int
 th : Int
 gl : Int
 se : Int
 ho : Int
 e0 : Int
 e1 : Int
 e2 : Int
 e3 : Int
 e4 : Int
def Df.cells (d : Df) : List AV := [.int true .u8 d.kd, .int true .i16 d.c0, .int true .i16 d.c1, .int true .i16 d.k0, .int true .i16 d.k1, .int true .i8 d.a0, .int true .i8 d.a1, .int true .i8 d.a2, .int true .i8 d.a3, .int true .i8 d.p0, .int true .i8 d.p1, .int true .i8 d.o, .int true .i16 d.th, .int true .u8 d.gl, .int true .u8 d.se, .int true .u8 d.ho, .int true .i8 d.e0, .int true .i8 d.e1, .int true .i8 d.e2, .int true .i8 d.e3, .int true .i8 d.e4]
def drI : List Sh := [.i .u8, .i .i16, .i .i16, .i .i16, .i .i16, .i .i8, .i .i8, .i .i8, .i .i8, .i .i8, .i .i8, .i .i8, .i .i16, .i .u8, .i .u8, .i .u8, .i .i8, .i .i8, .i .i8, .i .i8, .i .i8]
def Df.nus (d : Df) : List Nu := [.n d.kd, .n d.c0, .n d.c1, .n d.k0, .n d.k1, .n d.a0, .n d.a1, .n d.a2, .n d.a3, .n d.p0, .n d.p1, .n d.o, .n d.th, .n d.gl, .n d.se, .n d.ho, .n d.e0, .n d.e1, .n d.e2, .n d.e3, .n d.e4]
def drOf : List Nu → Option Df
 | [.n kd, .n c0, .n c1, .n k0, .n k1, .n a0, .n a1, .n a2, .n a3, .n p0, .n p1, .n o, .n th, .n gl, .n se, .n ho, .n e0, .n e1, .n e2, .n e3, .n e4] => some ⟨kd, c0, c1, k0, k1, a0, a1, a2, a3, p0, p1, o, th, gl, se, ho, e0, e1, e2, e3, e4⟩
 | _ => none
theorem drOf_eq {xs : List Nu} {d : Df} (h : drOf xs = some d) : xs = d.nus := by
 unfold drOf at h
 split at h
 ·cases h; rfl
 ·cases h
def glB : Nat → ByteArray
 | 0 => ⟨#[]⟩
 | 1 => ⟨#[66, 75, 55]⟩
 | 2 => ⟨#[83, 70, 45, 49]⟩
 | 3 => ⟨#[77, 73, 82, 82, 79, 82]⟩
 | _ => ⟨#[102, 95, 50]⟩
abbrev W64 (n : Int) : Int := IntKind.i64.wrap n
section
variable (d : Df) (g : ByteArray)
def dS : Int := W64 (100000 * W64 d.se)
def dV : Bool := bif d.ho.tmod 4 == 1 then decide (dS d > 0) else false
def tw {α : Type} (b : Bool) (x : α) : α := bif b then x else x
def dC : Int := tw (dV d) (W64 (1000 * W64 d.c0))
def dK : Int := tw (dV d) (W64 (1000 * W64 (d.k0.tmod 3000)))
def dT : Int := tw (dV d) (W64 (1000 * W64 (d.th.tmod 20000)))
def dSe : Int := tw (dV d) (dS d)
def dHo : Int := bif dV d then W64 ((dS d).tdiv 4) else 0
def dsA : Su := ⟨1, dC d, dK d, 0, 0, 0, 0, 0, 0, 0, 0, 0, dT d, tw (dV d) g, dSe d, dHo d, 0, 0, 0, 0, 0⟩
def dsB : Su := ⟨1, dC d, dK d, 0, 0, W64 (1000 * W64 d.a0), W64 (1000 * W64 d.a1), W64 (1000 * W64 d.a2), W64 (1000 * W64 d.a3), 0, 0, 0, dT d, tw (dV d) g, dSe d, dHo d, 0, 0, 0, 0, 0⟩
def dsC : Su := ⟨2, dC d, dK d, W64 (1000 * W64 d.c1), W64 (1000 * W64 (d.k1.tmod 3000)), 0, 0, 0, 0, 0, 0, 0, dT d, tw (dV d) g, dSe d, dHo d, 0, 0, 0, 0, 0⟩
def dsD : Su := ⟨3, 0, 0, 0, 0, 0, 0, 0, 0, 0, 0, 0, dT d, ⟨#[]⟩, 0, 0, W64 (10000 * W64 d.e0), W64 (10000 * W64 d.e1), W64 (100000 * W64 d.e2), W64 (100000 * W64 d.e3), W64 (100000 * W64 d.e4)⟩
def dsE : Su := ⟨4, dC d, 0, 0, 0, 0, 0, 0, 0, 0, 0, 0, dT d, ⟨#[]⟩, dSe d, dHo d, 0, 0, 0, 0, 0⟩
def dM : Bool := !eqBytes (tw (dV d) g) ⟨#[77, 73, 82, 82, 79, 82]⟩
def dsF : Su := ⟨1, tw (dM d g) (dC d), tw (dM d g) (dK d), 0, 0, 0, 0, 0, 0, bif dM d g then W64 (1000 * W64 d.p0) else 0, bif dM d g then W64 (1000 * W64 d.p1) else 0, bif dM d g then W64 (d.o.tmod 4) else 0, tw (dM d g) (dT d), tw (dM d g) (tw (dV d) g), tw (dM d g) (dSe d), tw (dM d g) (dHo d), 0, 0, 0, 0, 0⟩
end
def film0 (z : Int) : List Int := [W64 (13000000 + W64 (50000 * W64 z)), (W64 z).tmod 7, W64 (1 + (W64 z).tmod 5)]
def filmsD : List Int → List Int
 | [] => []
 | [x] => film0 x
 | [x, y] => film0 x ++ film0 y
 | x :: y :: z :: _ => film0 x ++ (film0 y ++ film0 z)
def nfD : List Int → Nat
 | [] => 0
 | [_] => 1
 | [_, _] => 2
 | _ :: _ :: _ :: _ => 3
theorem nfD_len (zs : List Int) : (filmsD zs).length = 3 * nfD zs ∧ nfD zs ≤ 3 := by
 unfold filmsD nfD
 split <;> exact ⟨rfl, by decide⟩
def dsu (d : Df) : Su :=
 let g := glB ((W64 d.gl).tmod 5).toNat
 bif d.kd.tmod 8 == 4 then dsB d g else bif d.kd.tmod 8 == 5 then dsC d g else bif d.kd.tmod 8 == 6 then dsD d else bif d.kd.tmod 8 == 7 then (bif d.o.tmod 2 == 0 then dsE d else dsF d g) else dsA d g
def dys (d : Df) (zs : List Int) : List Int := bif d.kd.tmod 8 == 4 then filmsD zs else []
def dnf (d : Df) (zs : List Int) : Nat := bif d.kd.tmod 8 == 4 then nfD zs else 0
theorem dys_ok (d : Df) (zs : List Int) : (dys d zs).length = 3 * dnf d zs ∧ dnf d zs ≤ 3 := by
 unfold dys dnf
 cases d.kd.tmod 8 == 4 with
 | true => exact nfD_len zs
 | false => exact ⟨rfl, Nat.zero_le _⟩
theorem glB_len (n : Nat) : (glB n).size ≤ 6 := by
 unfold glB
 split <;> decide
theorem tw_eq {α : Type} (b : Bool) (x : α) : tw b x = x := by cases b <;> rfl
theorem dsu_g (d : Df) : (dsu d).g.size ≤ 6 := by
 unfold dsu
 cases d.kd.tmod 8 == 4 <;> cases d.kd.tmod 8 == 5 <;> cases d.kd.tmod 8 == 6 <;> cases d.kd.tmod 8 == 7 <;> cases d.o.tmod 2 == 0 <;> simp only [cond_true, cond_false, dsA, dsB, dsC, dsD, dsE, dsF, tw_eq] <;> first | exact glB_len _ | decide
def avA (s : Su) : List AV := [.int false .i64 1, .int true .i64 s.c, .int true .i64 s.k, .int false .i64 0, .int false .i64 0, .int false .i64 0, .int false .i64 0, .int false .i64 0, .int false .i64 0, .int false .i64 0, .int false .i64 0, .int false .i64 0, .int true .i64 s.th, .str true s.g, .int true .i64 s.se, .int true .i64 s.ho, .int false .i64 0, .int false .i64 0, .int false .i64 0, .int false .i64 0, .int false .i64 0]
def avB (s : Su) : List AV := [.int false .i64 1, .int true .i64 s.c, .int true .i64 s.k, .int false .i64 0, .int false .i64 0, .int true .i64 s.a0, .int true .i64 s.a1, .int true .i64 s.a2, .int true .i64 s.a3, .int false .i64 0, .int false .i64 0, .int false .i64 0, .int true .i64 s.th, .str true s.g, .int true .i64 s.se, .int true .i64 s.ho, .int false .i64 0, .int false .i64 0, .int false .i64 0, .int false .i64 0, .int false .i64 0]
def avC (s : Su) : List AV := [.int false .i64 2, .int true .i64 s.c, .int true .i64 s.k, .int true .i64 s.l, .int true .i64 s.m, .int false .i64 0, .int false .i64 0, .int false .i64 0, .int false .i64 0, .int false .i64 0, .int false .i64 0, .int false .i64 0, .int true .i64 s.th, .str true s.g, .int true .i64 s.se, .int true .i64 s.ho, .int false .i64 0, .int false .i64 0, .int false .i64 0, .int false .i64 0, .int false .i64 0]
def avD (s : Su) : List AV := [.int false .i64 3, .int false .i64 0, .int false .i64 0, .int false .i64 0, .int false .i64 0, .int false .i64 0, .int false .i64 0, .int false .i64 0, .int false .i64 0, .int false .i64 0, .int false .i64 0, .int false .i64 0, .int true .i64 s.th, .str false ⟨#[]⟩, .int false .i64 0, .int false .i64 0, .int true .i64 s.dx, .int true .i64 s.dy, .int true .i64 s.ax, .int true .i64 s.ay, .int true .i64 s.az]
def avE (s : Su) : List AV := [.int false .i64 4, .int true .i64 s.c, .int false .i64 0, .int false .i64 0, .int false .i64 0, .int false .i64 0, .int false .i64 0, .int false .i64 0, .int false .i64 0, .int false .i64 0, .int false .i64 0, .int false .i64 0, .int true .i64 s.th, .str false ⟨#[]⟩, .int true .i64 s.se, .int true .i64 s.ho, .int false .i64 0, .int false .i64 0, .int false .i64 0, .int false .i64 0, .int false .i64 0]
def avF (s : Su) : List AV := [.int false .i64 1, .int true .i64 s.c, .int true .i64 s.k, .int false .i64 0, .int false .i64 0, .int false .i64 0, .int false .i64 0, .int false .i64 0, .int false .i64 0, .int true .i64 s.f0, .int true .i64 s.f1, .int true .i64 s.o, .int true .i64 s.th, .str true s.g, .int true .i64 s.se, .int true .i64 s.ho, .int false .i64 0, .int false .i64 0, .int false .i64 0, .int false .i64 0, .int false .i64 0]
end Go.Rd
namespace Go.Rd
open Go Go.Eng Go.Ar
structure Bn where
 wh : Int
 at' : Int
 n : Int
 t : ByteArray
def Bn.cells (b : Bn) : List AV := [.int true .u8 b.wh, .int true .u8 b.at', .int true .i64 b.n, .str true b.t]
def Bn.nus (b : Bn) : List Nu := [.n b.wh, .n b.at', .n b.n, .s b.t]
def andR : Nat → Prop → Prop
 | 0, p => p
 | k + 1, p => p ∧ andR k p
theorem andR_of {p : Prop} (h : p) : ∀ k, andR k p
 | 0 => h
 | k + 1 => ⟨h, andR_of h k⟩
def bNdW (b : Bn) (n : Nat) : Nat → Nat → Prop
 | 5, a => b.wh.tmod 16 = 5 ∧ (W64 b.at').tmod 4 = a
 | 6, a => b.wh.tmod 16 = 6 ∧ (W64 b.at').tmod 2 = a
 | 9, _ => b.wh.tmod 16 = 9 ∧ (0 : Int) ≤ 0 ∧ 0 ≤ (if (40 : Int) < (b.t.size : Int) then (40 : Int) else (b.t.size : Int)) ∧ (if (40 : Int) < (b.t.size : Int) then (40 : Int) else (b.t.size : Int)) ≤ (b.t.size : Int)
 | 12, a => b.wh.tmod 16 = 12 ∧ (W64 b.at').tmod 5 = a
 | 13, a => b.wh.tmod 16 = 13 ∧ (W64 b.at').tmod 3 = a
 | 14, a => b.wh.tmod 16 = 14 ∧ andR (8 + a - n) ((W64 b.at').tmod 2 = a)
 | w, _ => b.wh.tmod 16 = w
def bIx : Nat → Nat
 | 5 => 4
 | 6 => 2
 | 12 => 5
 | 13 => 3
 | 14 => 2
 | _ => 1
def Bn.w (b : Bn) : Nat := (b.wh.tmod 16).toNat
def Bn.a (b : Bn) : Nat := ((W64 b.at').tmod (bIx b.w)).toNat
theorem bIx_pos (w : Nat) : 0 < bIx w := by unfold bIx; split <;> decide
structure Bn.ok (b : Bn) : Prop where
 w0 : 0 ≤ b.wh
 w1 : b.wh ≤ 255
 a0 : 0 ≤ b.at'
 a1 : b.at' ≤ 255
theorem Bn.ok.case {b : Bn} (h : b.ok) : b.w < 16 ∧ b.wh.tmod 16 = (b.w : Int) := by
 obtain ⟨h0, h1, -, -⟩ := h
 unfold Bn.w
 rw [Int.tmod_eq_emod_of_nonneg h0]
 omega
theorem Bn.ok.ix {b : Bn} (h : b.ok) : b.a < bIx b.w ∧ (W64 b.at').tmod (bIx b.w) = (b.a : Int) := by
 obtain ⟨-, -, h0, h1⟩ := h
 have w : W64 b.at' = b.at' := Go.Ar.i64w (by omega) (by omega)
 have p := bIx_pos b.w
 unfold Bn.a
 rw [w, Int.tmod_eq_emod_of_nonneg h0]
 have h2 : (0 : Int) < (bIx b.w : Int) := by omega
 have h3 := Int.emod_lt_of_pos b.at' h2
 have h4 := Int.emod_nonneg b.at' (show (bIx b.w : Int) ≠ 0 by omega)
 omega
theorem Bn.ok.nd {b : Bn} (h : b.ok) (n : Nat) : bNdW b n b.w b.a := by
 obtain ⟨h1, h2⟩ := h.case
 obtain ⟨h3, h4⟩ := h.ix
 revert h1 h2 h3 h4
 generalize b.w = w
 generalize b.a = a
 intro h1 h2 h3 h4
 unfold bNdW
 split
 ·exact ⟨h2, h4⟩
 ·exact ⟨h2, h4⟩
 ·refine ⟨h2, Int.le_refl _, ?_, ?_⟩ <;> split <;> omega
 ·exact ⟨h2, h4⟩
 ·exact ⟨h2, h4⟩
 ·exact ⟨h2, andR_of h4 _⟩
 ·exact h2
end Go.Rd
namespace Go.Rd
open Go Go.Eng Go.Ar
def getF (s : Su) : Nat → Int
 | 1 => s.c
 | 2 => s.k
 | 3 => s.l
 | 4 => s.m
 | 5 => s.a0
 | 6 => s.a1
 | 7 => s.a2
 | 8 => s.a3
 | 9 => s.th
 | 10 => s.se
 | 11 => s.dx
 | 12 => s.dy
 | 13 => s.ax
 | 14 => s.ay
 | 15 => s.az
 | 16 => s.f0
 | 17 => s.f1
 | _ => 0
def setF (s : Su) (v : Int) : Nat → Su
 | 1 => { s with c := v }
 | 2 => { s with k := v }
 | 3 => { s with l := v }
 | 4 => { s with m := v }
 | 5 => { s with a0 := v }
 | 6 => { s with a1 := v }
 | 7 => { s with a2 := v }
 | 8 => { s with a3 := v }
 | 9 => { s with th := v }
 | 10 => { s with se := v }
 | 11 => { s with dx := v }
 | 12 => { s with dy := v }
 | 13 => { s with ax := v }
 | 14 => { s with ay := v }
 | 15 => { s with az := v }
 | 16 => { s with f0 := v }
 | 17 => { s with f1 := v }
 | _ => s
def plB (kd p : Int) : Bool := bif kd == 1 then p == 1 || p == 2 || p == 5 || p == 6 || p == 7 || p == 8 || p == 10 else bif kd == 2 then p == 1 || p == 2 || p == 3 || p == 4 || p == 10 else bif kd == 3 then p == 11 || p == 12 || p == 13 || p == 14 || p == 15 else bif kd == 4 then p == 1 || p == 10 else false
def hasS (s : Su) (p : Int) : Bool := bif p == 16 || p == 17 then s.o != 0 else p == 9 || plB s.kd p
def su0 : Su := ⟨0, 0, 0, 0, 0, 0, 0, 0, 0, 0, 0, 0, 0, ⟨#[]⟩, 0, 0, 0, 0, 0, 0, 0⟩
def missS (s : Su) (ys : List Int) (p : Int) : Int := bif rightS s ys then (bif hasS s p then 0 else 2) else 110
def getS (s : Su) (ys : List Int) (p : Int) : Int := bif missS s ys p == 0 then getF s p.toNat else 0
def setE (s : Su) (ys : List Int) (p v : Int) : Int := bif missS s ys p == 0 then (bif rightS (setF s v p.toNat) ys then 0 else 2) else missS s ys p
def setSu (s : Su) (ys : List Int) (p v : Int) : Su := bif setE s ys p v == 0 then setF s v p.toNat else su0
def setYs (s : Su) (ys : List Int) (p v : Int) : List Int := bif setE s ys p v == 0 then ys else []
def ix7 (p q r t u v w : Bool) : Int := bif p || !p && (q || !q && (r || !r && (t || !t && (u || !u && (v || !v && w))))) then bif p then 0 else bif q then 1 else bif r then 2 else bif t then 3 else bif u then 4 else bif v then 5 else 6 else -1
theorem ix7_eq (p q r t u v w : Bool) : decide (ix7 p q r t u v w ≥ 0) = (p || q || r || t || u || v || w) := by cases p <;> cases q <;> cases r <;> cases t <;> cases u <;> cases v <;> cases w <;> rfl
def hasR (s : Su) (p : Int) (b : Bool) : Bool := bif bif p == 16 then true else p == 17 then s.o != 0 else bif p == 9 then true else b
theorem hasR_eq (s : Su) (p : Int) (b : Bool) (h : b = plB s.kd p) : hasR s p b = hasS s p := by
 subst h
 unfold hasR hasS
 cases p == 16 <;> cases p == 17 <;> cases p == 9 <;> rfl
theorem has1 (s : Su) (p : Int) (h : s.kd = 1) : hasR s p (decide (ix7 (p == 1) (p == 2) (p == 5) (p == 6) (p == 7) (p == 8) (p == 10) ≥ 0)) = hasS s p := hasR_eq s p _ (by rw [ix7_eq]; unfold plB; rw [h]; rfl)
theorem has2 (s : Su) (p : Int) (h : s.kd = 2) : hasR s p (decide (ix5 (p == 1) (p == 2) (p == 3) (p == 4) (p == 10) ≥ 0)) = hasS s p := hasR_eq s p _ (by rw [ix5_eq]; unfold plB; rw [h]; rfl)
theorem has3 (s : Su) (p : Int) (h : s.kd = 3) : hasR s p (decide (ix5 (p == 11) (p == 12) (p == 13) (p == 14) (p == 15) ≥ 0)) = hasS s p := hasR_eq s p _ (by rw [ix5_eq]; unfold plB; rw [h]; rfl)
theorem has4 (s : Su) (p : Int) (h : s.kd = 4) : hasR s p (decide (ix2 (p == 1) (p == 10) ≥ 0)) = hasS s p := hasR_eq s p _ (by rw [ix2_eq]; unfold plB; rw [h]; rfl)
def mQ (s : Su) (ys : List Int) : Int := bif rightS s ys then 0 else 110
def eQ (s : Su) (ys : List Int) (h : Bool) : Int := bif mQ s ys != 0 then mQ s ys else bif !h then 2 else 0
theorem eQ_eq (s : Su) (ys : List Int) (p : Int) : eQ s ys (hasS s p) = missS s ys p := by
 unfold eQ mQ missS
 cases rightS s ys <;> cases hasS s p <;> rfl
def nG (s : Su) (n : Int) (ys : List Int) : Prop := (okF3 n ys ∧ s.g.size < 1000000000) ∧ ((!(mQ s ys != 0)) = true → okF3 n ys ∧ s.g.size < 1000000000 ∧ (1 ≤ s.kd ∧ s.kd ≤ 4))
theorem right_rng {s : Su} {ys : List Int} (h : rightS s ys = true) : 1 ≤ s.kd ∧ s.kd ≤ 4 := by
 unfold rightS at h
 simp only [Bool.and_eq_true] at h
 have h := h.1.1.2
 unfold kindB at h
 simp only [Bool.or_eq_true, Bool.and_eq_true, beq_iff_eq] at h
 omega
theorem nG_of {s : Su} {n : Int} {ys : List Int} (ho : okF3 n ys) (hg : s.g.size < 1000000000) : nG s n ys := by
 refine ⟨⟨ho, hg⟩, fun h => ⟨ho, hg, ?_⟩⟩
 unfold mQ at h
 cases hr : rightS s ys with
 | true => exact right_rng hr
 | false => rw [hr] at h; cases h
theorem hasS_rng {s : Su} {p : Int} (h : hasS s p = true) : 1 ≤ p ∧ p ≤ 17 := by
 unfold hasS plB at h
 cases h16 : (p == 16 || p == 17) with
 | true => simp only [Bool.or_eq_true, beq_iff_eq] at h16; omega
 | false =>
  rw [h16] at h
  simp only [cond_false, Bool.or_eq_true, beq_iff_eq] at h
  rcases h with h | h
  ·omega
  ·cases k1 : s.kd == 1 <;> cases k2 : s.kd == 2 <;> cases k3 : s.kd == 3 <;> cases k4 : s.kd == 4 <;> rw [k1] at h <;> simp only [k2, k3, k4, cond_true, cond_false, Bool.or_eq_true, beq_iff_eq] at h <;> first | omega | cases h
theorem miss_0 {s : Su} {ys : List Int} {p : Int} (h : missS s ys p = 0) : rightS s ys = true ∧ hasS s p = true ∧ 1 ≤ p ∧ p ≤ 17 := by
 unfold missS at h
 cases hr : rightS s ys with
 | false => rw [hr] at h; cases h
 | true =>
  rw [hr] at h
  cases hh : hasS s p with
  | false => rw [hh] at h; cases h
  | true => exact ⟨rfl, rfl, hasS_rng hh⟩
def setN (s : Su) (ys : List Int) (p v : Int) (n : Int) : Int := bif setE s ys p v == 0 then n else 0
theorem setF_g (s : Su) (v : Int) (k : Nat) : (setF s v k).g = s.g := by
 unfold setF
 split <;> rfl
end Go.Rd
namespace Go.Proofs.YtiigkjnhmipnfaaGreatDoor.K
open Go Go.Eng Go.Ar Go.Rd
noncomputable section
def rg1 (C : Ctx) (f : FuncId) (cs : List AV) (n : Int) (ys : List Int) (rest : List AV) : Option CR := (run C 1000).call f (.agg (cs ++ [.lslice hG.size n]) :: rest) (viewsH true hG [(.i64, ys)])
def rg1v (C : Ctx) (f : FuncId) (cs : List AV) (n : Int) (ys : List Int) (rest : List AV) : Option (Nd × AV) := oneG (viewsH true hG [(.i64, ys)]).size hG.clock (rg1 C f cs n ys rest)
def cHas : Ctx := mkG Tryz.prog glob hG [] ext
theorem cHas_ok : CtxOk cHas := mkG_ok prog_ok ext_ok fun _ h => by cases h
end
end Go.Proofs.YtiigkjnhmipnfaaGreatDoor.K
