/- What is proved: SurfaceChecks returns true, whatever the input (part 24 of 28). No conditions beyond those of the row. -/
import Derived.Test.YtiigkjnhmipnfaaGreatDoorPW
set_option linter.unusedVariables false
set_option linter.unusedSimpArgs false
set_option linter.unusedSectionVars false
namespace Go.Proofs.YtiigkjnhmipnfaaGreatDoor.K
open Go Go.Eng Go.Ar Go.Rd
noncomputable section
def bRun (b : Bn) (s : Su) (x : Nat → Int) (w a n : Nat) : Prop := rb1 (cBn w a) b s n (spinF (3 * n) 0 x) = some (.p (bNdW b n w a), (bsuW b s w a).ini, bnfW n w a, bysW b (spinF (3 * n) 0 x) n w a)
theorem bn_0_0 (b : Bn) (s : Su) (x : Nat → Int) : ∀ n : Nat, n < 10 → bRun b s x 0 0 n := fun n hn => match n, hn with
 | 0, _ => by unfold bRun; kernel_rfl
 | 1, _ => by unfold bRun; kernel_rfl
 | 2, _ => by unfold bRun; kernel_rfl
 | 3, _ => by unfold bRun; kernel_rfl
 | 4, _ => by unfold bRun; kernel_rfl
 | 5, _ => by unfold bRun; kernel_rfl
 | 6, _ => by unfold bRun; kernel_rfl
 | 7, _ => by unfold bRun; kernel_rfl
 | 8, _ => by unfold bRun; kernel_rfl
 | 9, _ => by unfold bRun; kernel_rfl
 | n + 10, h => absurd h (by omega)
theorem bn_1_0 (b : Bn) (s : Su) (x : Nat → Int) : ∀ n : Nat, n < 10 → bRun b s x 1 0 n := fun n hn => match n, hn with
 | 0, _ => by unfold bRun; kernel_rfl
 | 1, _ => by unfold bRun; kernel_rfl
 | 2, _ => by unfold bRun; kernel_rfl
 | 3, _ => by unfold bRun; kernel_rfl
 | 4, _ => by unfold bRun; kernel_rfl
 | 5, _ => by unfold bRun; kernel_rfl
 | 6, _ => by unfold bRun; kernel_rfl
 | 7, _ => by unfold bRun; kernel_rfl
 | 8, _ => by unfold bRun; kernel_rfl
 | 9, _ => by unfold bRun; kernel_rfl
 | n + 10, h => absurd h (by omega)
theorem bn_2_0 (b : Bn) (s : Su) (x : Nat → Int) : ∀ n : Nat, n < 10 → bRun b s x 2 0 n := fun n hn => match n, hn with
 | 0, _ => by unfold bRun; kernel_rfl
 | 1, _ => by unfold bRun; kernel_rfl
 | 2, _ => by unfold bRun; kernel_rfl
 | 3, _ => by unfold bRun; kernel_rfl
 | 4, _ => by unfold bRun; kernel_rfl
 | 5, _ => by unfold bRun; kernel_rfl
 | 6, _ => by unfold bRun; kernel_rfl
 | 7, _ => by unfold bRun; kernel_rfl
 | 8, _ => by unfold bRun; kernel_rfl
 | 9, _ => by unfold bRun; kernel_rfl
 | n + 10, h => absurd h (by omega)
theorem bn_3_0 (b : Bn) (s : Su) (x : Nat → Int) : ∀ n : Nat, n < 10 → bRun b s x 3 0 n := fun n hn => match n, hn with
 | 0, _ => by unfold bRun; kernel_rfl
 | 1, _ => by unfold bRun; kernel_rfl
 | 2, _ => by unfold bRun; kernel_rfl
 | 3, _ => by unfold bRun; kernel_rfl
 | 4, _ => by unfold bRun; kernel_rfl
 | 5, _ => by unfold bRun; kernel_rfl
 | 6, _ => by unfold bRun; kernel_rfl
 | 7, _ => by unfold bRun; kernel_rfl
 | 8, _ => by unfold bRun; kernel_rfl
 | 9, _ => by unfold bRun; kernel_rfl
 | n + 10, h => absurd h (by omega)
theorem bn_4_0 (b : Bn) (s : Su) (x : Nat → Int) : ∀ n : Nat, n < 10 → bRun b s x 4 0 n := fun n hn => match n, hn with
 | 0, _ => by unfold bRun; kernel_rfl
 | 1, _ => by unfold bRun; kernel_rfl
 | 2, _ => by unfold bRun; kernel_rfl
 | 3, _ => by unfold bRun; kernel_rfl
 | 4, _ => by unfold bRun; kernel_rfl
 | 5, _ => by unfold bRun; kernel_rfl
 | 6, _ => by unfold bRun; kernel_rfl
 | 7, _ => by unfold bRun; kernel_rfl
 | 8, _ => by unfold bRun; kernel_rfl
 | 9, _ => by unfold bRun; kernel_rfl
 | n + 10, h => absurd h (by omega)
theorem bn_5_0 (b : Bn) (s : Su) (x : Nat → Int) : ∀ n : Nat, n < 10 → bRun b s x 5 0 n := fun n hn => match n, hn with
 | 0, _ => by unfold bRun; kernel_rfl
 | 1, _ => by unfold bRun; kernel_rfl
 | 2, _ => by unfold bRun; kernel_rfl
 | 3, _ => by unfold bRun; kernel_rfl
 | 4, _ => by unfold bRun; kernel_rfl
 | 5, _ => by unfold bRun; kernel_rfl
 | 6, _ => by unfold bRun; kernel_rfl
 | 7, _ => by unfold bRun; kernel_rfl
 | 8, _ => by unfold bRun; kernel_rfl
 | 9, _ => by unfold bRun; kernel_rfl
 | n + 10, h => absurd h (by omega)
theorem bn_5_1 (b : Bn) (s : Su) (x : Nat → Int) : ∀ n : Nat, n < 10 → bRun b s x 5 1 n := fun n hn => match n, hn with
 | 0, _ => by unfold bRun; kernel_rfl
 | 1, _ => by unfold bRun; kernel_rfl
 | 2, _ => by unfold bRun; kernel_rfl
 | 3, _ => by unfold bRun; kernel_rfl
 | 4, _ => by unfold bRun; kernel_rfl
 | 5, _ => by unfold bRun; kernel_rfl
 | 6, _ => by unfold bRun; kernel_rfl
 | 7, _ => by unfold bRun; kernel_rfl
 | 8, _ => by unfold bRun; kernel_rfl
 | 9, _ => by unfold bRun; kernel_rfl
 | n + 10, h => absurd h (by omega)
theorem bn_5_2 (b : Bn) (s : Su) (x : Nat → Int) : ∀ n : Nat, n < 10 → bRun b s x 5 2 n := fun n hn => match n, hn with
 | 0, _ => by unfold bRun; kernel_rfl
 | 1, _ => by unfold bRun; kernel_rfl
 | 2, _ => by unfold bRun; kernel_rfl
 | 3, _ => by unfold bRun; kernel_rfl
 | 4, _ => by unfold bRun; kernel_rfl
 | 5, _ => by unfold bRun; kernel_rfl
 | 6, _ => by unfold bRun; kernel_rfl
 | 7, _ => by unfold bRun; kernel_rfl
 | 8, _ => by unfold bRun; kernel_rfl
 | 9, _ => by unfold bRun; kernel_rfl
 | n + 10, h => absurd h (by omega)
theorem bn_5_3 (b : Bn) (s : Su) (x : Nat → Int) : ∀ n : Nat, n < 10 → bRun b s x 5 3 n := fun n hn => match n, hn with
 | 0, _ => by unfold bRun; kernel_rfl
 | 1, _ => by unfold bRun; kernel_rfl
 | 2, _ => by unfold bRun; kernel_rfl
 | 3, _ => by unfold bRun; kernel_rfl
 | 4, _ => by unfold bRun; kernel_rfl
 | 5, _ => by unfold bRun; kernel_rfl
 | 6, _ => by unfold bRun; kernel_rfl
 | 7, _ => by unfold bRun; kernel_rfl
 | 8, _ => by unfold bRun; kernel_rfl
 | 9, _ => by unfold bRun; kernel_rfl
 | n + 10, h => absurd h (by omega)
theorem bn_6_0 (b : Bn) (s : Su) (x : Nat → Int) : ∀ n : Nat, n < 10 → bRun b s x 6 0 n := fun n hn => match n, hn with
 | 0, _ => by unfold bRun; kernel_rfl
 | 1, _ => by unfold bRun; kernel_rfl
 | 2, _ => by unfold bRun; kernel_rfl
 | 3, _ => by unfold bRun; kernel_rfl
 | 4, _ => by unfold bRun; kernel_rfl
 | 5, _ => by unfold bRun; kernel_rfl
 | 6, _ => by unfold bRun; kernel_rfl
 | 7, _ => by unfold bRun; kernel_rfl
 | 8, _ => by unfold bRun; kernel_rfl
 | 9, _ => by unfold bRun; kernel_rfl
 | n + 10, h => absurd h (by omega)
theorem bn_6_1 (b : Bn) (s : Su) (x : Nat → Int) : ∀ n : Nat, n < 10 → bRun b s x 6 1 n := fun n hn => match n, hn with
 | 0, _ => by unfold bRun; kernel_rfl
 | 1, _ => by unfold bRun; kernel_rfl
 | 2, _ => by unfold bRun; kernel_rfl
 | 3, _ => by unfold bRun; kernel_rfl
 | 4, _ => by unfold bRun; kernel_rfl
 | 5, _ => by unfold bRun; kernel_rfl
 | 6, _ => by unfold bRun; kernel_rfl
 | 7, _ => by unfold bRun; kernel_rfl
 | 8, _ => by unfold bRun; kernel_rfl
 | 9, _ => by unfold bRun; kernel_rfl
 | n + 10, h => absurd h (by omega)
theorem bn_7_0 (b : Bn) (s : Su) (x : Nat → Int) : ∀ n : Nat, n < 10 → bRun b s x 7 0 n := fun n hn => match n, hn with
 | 0, _ => by unfold bRun; kernel_rfl
 | 1, _ => by unfold bRun; kernel_rfl
 | 2, _ => by unfold bRun; kernel_rfl
 | 3, _ => by unfold bRun; kernel_rfl
 | 4, _ => by unfold bRun; kernel_rfl
 | 5, _ => by unfold bRun; kernel_rfl
 | 6, _ => by unfold bRun; kernel_rfl
 | 7, _ => by unfold bRun; kernel_rfl
 | 8, _ => by unfold bRun; kernel_rfl
 | 9, _ => by unfold bRun; kernel_rfl
 | n + 10, h => absurd h (by omega)
theorem bn_8_0 (b : Bn) (s : Su) (x : Nat → Int) : ∀ n : Nat, n < 10 → bRun b s x 8 0 n := fun n hn => match n, hn with
 | 0, _ => by unfold bRun; kernel_rfl
 | 1, _ => by unfold bRun; kernel_rfl
 | 2, _ => by unfold bRun; kernel_rfl
 | 3, _ => by unfold bRun; kernel_rfl
 | 4, _ => by unfold bRun; kernel_rfl
 | 5, _ => by unfold bRun; kernel_rfl
 | 6, _ => by unfold bRun; kernel_rfl
 | 7, _ => by unfold bRun; kernel_rfl
 | 8, _ => by unfold bRun; kernel_rfl
 | 9, _ => by unfold bRun; kernel_rfl
 | n + 10, h => absurd h (by omega)
theorem bn_9_0 (b : Bn) (s : Su) (x : Nat → Int) : ∀ n : Nat, n < 10 → bRun b s x 9 0 n := fun n hn => match n, hn with
 | 0, _ => by unfold bRun; kernel_rfl
 | 1, _ => by unfold bRun; kernel_rfl
 | 2, _ => by unfold bRun; kernel_rfl
 | 3, _ => by unfold bRun; kernel_rfl
 | 4, _ => by unfold bRun; kernel_rfl
 | 5, _ => by unfold bRun; kernel_rfl
 | 6, _ => by unfold bRun; kernel_rfl
 | 7, _ => by unfold bRun; kernel_rfl
 | 8, _ => by unfold bRun; kernel_rfl
 | 9, _ => by unfold bRun; kernel_rfl
 | n + 10, h => absurd h (by omega)
theorem bn_10_0 (b : Bn) (s : Su) (x : Nat → Int) : ∀ n : Nat, n < 10 → bRun b s x 10 0 n := fun n hn => match n, hn with
 | 0, _ => by unfold bRun; kernel_rfl
 | 1, _ => by unfold bRun; kernel_rfl
 | 2, _ => by unfold bRun; kernel_rfl
 | 3, _ => by unfold bRun; kernel_rfl
 | 4, _ => by unfold bRun; kernel_rfl
 | 5, _ => by unfold bRun; kernel_rfl
 | 6, _ => by unfold bRun; kernel_rfl
 | 7, _ => by unfold bRun; kernel_rfl
 | 8, _ => by unfold bRun; kernel_rfl
 | 9, _ => by unfold bRun; kernel_rfl
 | n + 10, h => absurd h (by omega)
theorem bn_11_0 (b : Bn) (s : Su) (x : Nat → Int) : ∀ n : Nat, n < 10 → bRun b s x 11 0 n := fun n hn => match n, hn with
 | 0, _ => by unfold bRun; kernel_rfl
 | 1, _ => by unfold bRun; kernel_rfl
 | 2, _ => by unfold bRun; kernel_rfl
 | 3, _ => by unfold bRun; kernel_rfl
 | 4, _ => by unfold bRun; kernel_rfl
 | 5, _ => by unfold bRun; kernel_rfl
 | 6, _ => by unfold bRun; kernel_rfl
 | 7, _ => by unfold bRun; kernel_rfl
 | 8, _ => by unfold bRun; kernel_rfl
 | 9, _ => by unfold bRun; kernel_rfl
 | n + 10, h => absurd h (by omega)
theorem bn_12_0 (b : Bn) (s : Su) (x : Nat → Int) : ∀ n : Nat, n < 10 → bRun b s x 12 0 n := fun n hn => match n, hn with
 | 0, _ => by unfold bRun; kernel_rfl
 | 1, _ => by unfold bRun; kernel_rfl
 | 2, _ => by unfold bRun; kernel_rfl
 | 3, _ => by unfold bRun; kernel_rfl
 | 4, _ => by unfold bRun; kernel_rfl
 | 5, _ => by unfold bRun; kernel_rfl
 | 6, _ => by unfold bRun; kernel_rfl
 | 7, _ => by unfold bRun; kernel_rfl
 | 8, _ => by unfold bRun; kernel_rfl
 | 9, _ => by unfold bRun; kernel_rfl
 | n + 10, h => absurd h (by omega)
theorem bn_12_1 (b : Bn) (s : Su) (x : Nat → Int) : ∀ n : Nat, n < 10 → bRun b s x 12 1 n := fun n hn => match n, hn with
 | 0, _ => by unfold bRun; kernel_rfl
 | 1, _ => by unfold bRun; kernel_rfl
 | 2, _ => by unfold bRun; kernel_rfl
 | 3, _ => by unfold bRun; kernel_rfl
 | 4, _ => by unfold bRun; kernel_rfl
 | 5, _ => by unfold bRun; kernel_rfl
 | 6, _ => by unfold bRun; kernel_rfl
 | 7, _ => by unfold bRun; kernel_rfl
 | 8, _ => by unfold bRun; kernel_rfl
 | 9, _ => by unfold bRun; kernel_rfl
 | n + 10, h => absurd h (by omega)
theorem bn_12_2 (b : Bn) (s : Su) (x : Nat → Int) : ∀ n : Nat, n < 10 → bRun b s x 12 2 n := fun n hn => match n, hn with
 | 0, _ => by unfold bRun; kernel_rfl
 | 1, _ => by unfold bRun; kernel_rfl
 | 2, _ => by unfold bRun; kernel_rfl
 | 3, _ => by unfold bRun; kernel_rfl
 | 4, _ => by unfold bRun; kernel_rfl
 | 5, _ => by unfold bRun; kernel_rfl
 | 6, _ => by unfold bRun; kernel_rfl
 | 7, _ => by unfold bRun; kernel_rfl
 | 8, _ => by unfold bRun; kernel_rfl
 | 9, _ => by unfold bRun; kernel_rfl
 | n + 10, h => absurd h (by omega)
theorem bn_12_3 (b : Bn) (s : Su) (x : Nat → Int) : ∀ n : Nat, n < 10 → bRun b s x 12 3 n := fun n hn => match n, hn with
 | 0, _ => by unfold bRun; kernel_rfl
 | 1, _ => by unfold bRun; kernel_rfl
 | 2, _ => by unfold bRun; kernel_rfl
 | 3, _ => by unfold bRun; kernel_rfl
 | 4, _ => by unfold bRun; kernel_rfl
 | 5, _ => by unfold bRun; kernel_rfl
 | 6, _ => by unfold bRun; kernel_rfl
 | 7, _ => by unfold bRun; kernel_rfl
 | 8, _ => by unfold bRun; kernel_rfl
 | 9, _ => by unfold bRun; kernel_rfl
 | n + 10, h => absurd h (by omega)
theorem bn_12_4 (b : Bn) (s : Su) (x : Nat → Int) : ∀ n : Nat, n < 10 → bRun b s x 12 4 n := fun n hn => match n, hn with
 | 0, _ => by unfold bRun; kernel_rfl
 | 1, _ => by unfold bRun; kernel_rfl
 | 2, _ => by unfold bRun; kernel_rfl
 | 3, _ => by unfold bRun; kernel_rfl
 | 4, _ => by unfold bRun; kernel_rfl
 | 5, _ => by unfold bRun; kernel_rfl
 | 6, _ => by unfold bRun; kernel_rfl
 | 7, _ => by unfold bRun; kernel_rfl
 | 8, _ => by unfold bRun; kernel_rfl
 | 9, _ => by unfold bRun; kernel_rfl
 | n + 10, h => absurd h (by omega)
theorem bn_13_0 (b : Bn) (s : Su) (x : Nat → Int) : ∀ n : Nat, n < 10 → bRun b s x 13 0 n := fun n hn => match n, hn with
 | 0, _ => by unfold bRun; kernel_rfl
 | 1, _ => by unfold bRun; kernel_rfl
 | 2, _ => by unfold bRun; kernel_rfl
 | 3, _ => by unfold bRun; kernel_rfl
 | 4, _ => by unfold bRun; kernel_rfl
 | 5, _ => by unfold bRun; kernel_rfl
 | 6, _ => by unfold bRun; kernel_rfl
 | 7, _ => by unfold bRun; kernel_rfl
 | 8, _ => by unfold bRun; kernel_rfl
 | 9, _ => by unfold bRun; kernel_rfl
 | n + 10, h => absurd h (by omega)
theorem bn_13_1 (b : Bn) (s : Su) (x : Nat → Int) : ∀ n : Nat, n < 10 → bRun b s x 13 1 n := fun n hn => match n, hn with
 | 0, _ => by unfold bRun; kernel_rfl
 | 1, _ => by unfold bRun; kernel_rfl
 | 2, _ => by unfold bRun; kernel_rfl
 | 3, _ => by unfold bRun; kernel_rfl
 | 4, _ => by unfold bRun; kernel_rfl
 | 5, _ => by unfold bRun; kernel_rfl
 | 6, _ => by unfold bRun; kernel_rfl
 | 7, _ => by unfold bRun; kernel_rfl
 | 8, _ => by unfold bRun; kernel_rfl
 | 9, _ => by unfold bRun; kernel_rfl
 | n + 10, h => absurd h (by omega)
theorem bn_13_2 (b : Bn) (s : Su) (x : Nat → Int) : ∀ n : Nat, n < 10 → bRun b s x 13 2 n := fun n hn => match n, hn with
 | 0, _ => by unfold bRun; kernel_rfl
 | 1, _ => by unfold bRun; kernel_rfl
 | 2, _ => by unfold bRun; kernel_rfl
 | 3, _ => by unfold bRun; kernel_rfl
 | 4, _ => by unfold bRun; kernel_rfl
 | 5, _ => by unfold bRun; kernel_rfl
 | 6, _ => by unfold bRun; kernel_rfl
 | 7, _ => by unfold bRun; kernel_rfl
 | 8, _ => by unfold bRun; kernel_rfl
 | 9, _ => by unfold bRun; kernel_rfl
 | n + 10, h => absurd h (by omega)
theorem bn_14_0 (b : Bn) (s : Su) (x : Nat → Int) : ∀ n : Nat, n < 10 → bRun b s x 14 0 n := fun n hn => match n, hn with
 | 0, _ => by unfold bRun; kernel_rfl
 | 1, _ => by unfold bRun; kernel_rfl
 | 2, _ => by unfold bRun; kernel_rfl
 | 3, _ => by unfold bRun; kernel_rfl
 | 4, _ => by unfold bRun; kernel_rfl
 | 5, _ => by unfold bRun; kernel_rfl
 | 6, _ => by unfold bRun; kernel_rfl
 | 7, _ => by unfold bRun; kernel_rfl
 | 8, _ => by unfold bRun; kernel_rfl
 | 9, _ => by unfold bRun; kernel_rfl
 | n + 10, h => absurd h (by omega)
theorem bn_14_1 (b : Bn) (s : Su) (x : Nat → Int) : ∀ n : Nat, n < 10 → bRun b s x 14 1 n := fun n hn => match n, hn with
 | 0, _ => by unfold bRun; kernel_rfl
 | 1, _ => by unfold bRun; kernel_rfl
 | 2, _ => by unfold bRun; kernel_rfl
 | 3, _ => by unfold bRun; kernel_rfl
 | 4, _ => by unfold bRun; kernel_rfl
 | 5, _ => by unfold bRun; kernel_rfl
 | 6, _ => by unfold bRun; kernel_rfl
 | 7, _ => by unfold bRun; kernel_rfl
 | 8, _ => by unfold bRun; kernel_rfl
 | 9, _ => by unfold bRun; kernel_rfl
 | n + 10, h => absurd h (by omega)
theorem bn_15_0 (b : Bn) (s : Su) (x : Nat → Int) : ∀ n : Nat, n < 10 → bRun b s x 15 0 n := fun n hn => match n, hn with
 | 0, _ => by unfold bRun; kernel_rfl
 | 1, _ => by unfold bRun; kernel_rfl
 | 2, _ => by unfold bRun; kernel_rfl
 | 3, _ => by unfold bRun; kernel_rfl
 | 4, _ => by unfold bRun; kernel_rfl
 | 5, _ => by unfold bRun; kernel_rfl
 | 6, _ => by unfold bRun; kernel_rfl
 | 7, _ => by unfold bRun; kernel_rfl
 | 8, _ => by unfold bRun; kernel_rfl
 | 9, _ => by unfold bRun; kernel_rfl
 | n + 10, h => absurd h (by omega)
theorem bn_run (b : Bn) (s : Su) (x : Nat → Int) (n : Nat) (hn : n < 10) (w a : Nat) (hw : w < 16) (ha : a < bIx w) : bRun b s x w a n := by
 rcases w with _ | _ | _ | _ | _ | _ | _ | _ | _ | _ | _ | _ | _ | _ | _ | _ | w
 ·rcases a with _ | a
  ·exact bn_0_0 b s x n hn
  ·exact absurd (show a + 1 < 1 from ha) (by omega)
 ·rcases a with _ | a
  ·exact bn_1_0 b s x n hn
  ·exact absurd (show a + 1 < 1 from ha) (by omega)
 ·rcases a with _ | a
  ·exact bn_2_0 b s x n hn
  ·exact absurd (show a + 1 < 1 from ha) (by omega)
 ·rcases a with _ | a
  ·exact bn_3_0 b s x n hn
  ·exact absurd (show a + 1 < 1 from ha) (by omega)
 ·rcases a with _ | a
  ·exact bn_4_0 b s x n hn
  ·exact absurd (show a + 1 < 1 from ha) (by omega)
 ·rcases a with _ | _ | _ | _ | a
  ·exact bn_5_0 b s x n hn
  ·exact bn_5_1 b s x n hn
  ·exact bn_5_2 b s x n hn
  ·exact bn_5_3 b s x n hn
  ·exact absurd (show a + 4 < 4 from ha) (by omega)
 ·rcases a with _ | _ | a
  ·exact bn_6_0 b s x n hn
  ·exact bn_6_1 b s x n hn
  ·exact absurd (show a + 2 < 2 from ha) (by omega)
 ·rcases a with _ | a
  ·exact bn_7_0 b s x n hn
  ·exact absurd (show a + 1 < 1 from ha) (by omega)
 ·rcases a with _ | a
  ·exact bn_8_0 b s x n hn
  ·exact absurd (show a + 1 < 1 from ha) (by omega)
 ·rcases a with _ | a
  ·exact bn_9_0 b s x n hn
  ·exact absurd (show a + 1 < 1 from ha) (by omega)
 ·rcases a with _ | a
  ·exact bn_10_0 b s x n hn
  ·exact absurd (show a + 1 < 1 from ha) (by omega)
 ·rcases a with _ | a
  ·exact bn_11_0 b s x n hn
  ·exact absurd (show a + 1 < 1 from ha) (by omega)
 ·rcases a with _ | _ | _ | _ | _ | a
  ·exact bn_12_0 b s x n hn
  ·exact bn_12_1 b s x n hn
  ·exact bn_12_2 b s x n hn
  ·exact bn_12_3 b s x n hn
  ·exact bn_12_4 b s x n hn
  ·exact absurd (show a + 5 < 5 from ha) (by omega)
 ·rcases a with _ | _ | _ | a
  ·exact bn_13_0 b s x n hn
  ·exact bn_13_1 b s x n hn
  ·exact bn_13_2 b s x n hn
  ·exact absurd (show a + 3 < 3 from ha) (by omega)
 ·rcases a with _ | _ | a
  ·exact bn_14_0 b s x n hn
  ·exact bn_14_1 b s x n hn
  ·exact absurd (show a + 2 < 2 from ha) (by omega)
 ·rcases a with _ | a
  ·exact bn_15_0 b s x n hn
  ·exact absurd (show a + 1 < 1 from ha) (by omega)
 ·exact absurd hw (by omega)
end
end Go.Proofs.YtiigkjnhmipnfaaGreatDoor.K
