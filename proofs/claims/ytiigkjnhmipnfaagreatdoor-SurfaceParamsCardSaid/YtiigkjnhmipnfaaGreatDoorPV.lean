/- What is proved: SurfaceParams returns true, whatever the input (part 22 of 28). No conditions beyond those of the row. -/
import Derived.Test.YtiigkjnhmipnfaaGreatDoorPU
set_option linter.unusedVariables false
set_option linter.unusedSimpArgs false
set_option linter.unusedSectionVars false
namespace Go.Proofs.YtiigkjnhmipnfaaGreatDoor.K
open Go Go.Eng Go.Ar Go.Rd
noncomputable section
def rC (s : Su) (n : Int) (ys : List Int) (k : Nat) (v : Int) (b : Bool) : Prop := ((okF3 n ys ∧ s.g.size < 1000000000) ∧ (!rightS s ys) = false) ∧ ((okF3 n ys ∧ s.g.size < 1000000000 ∧ True) ∧ (!hasGB s ys k) = false) ∧ (okF3 n ys ∧ (setF s v k).g.size < 1000000000) ∧ (!rightS (setF s v k) ys) = b
theorem rset_a (s : Su) (n p v : Int) (ys : List Int) : outT (hG.size + 1) hG.clock 2 .i64 (rg1 (cRG [(0, 10, true)]) 27 s.ini n ys [.int true .i64 p, .int true .i64 v]) = some (.p ((okF3 n ys ∧ s.g.size < 1000000000) ∧ (!rightS s ys) = true), z21, 0, [], .int false .i64 110) := by kernel_rfl
theorem rset_b (s : Su) (n p v : Int) (ys : List Int) : outT (hG.size + 1) hG.clock 2 .i64 (rg1 (cRG [(0, 10, false), (0, 15, true)]) 27 s.ini n ys [.int true .i64 p, .int true .i64 v]) = some (.p (((okF3 n ys ∧ s.g.size < 1000000000) ∧ (!rightS s ys) = false) ∧ (okF3 n ys ∧ s.g.size < 1000000000 ∧ True) ∧ (!hasGB s ys p) = true), z21, 0, [], .int false .i64 2) := by kernel_rfl
def RSetC (s : Su) (n v : Int) (ys : List Int) (k : Nat) : Prop := outT (hG.size + 1) hG.clock 2 .i64 (rg1 (cRG [(0, 10, false), (0, 15, false), (0, 77, true)]) 27 s.ini n ys [.int false .i64 k, .int true .i64 v]) = some (.p (rC s n ys k v true), z21, 0, [], .int false .i64 2)
def RSetD (s : Su) (v : Int) (x : Nat → Int) (n k : Nat) : Prop := rgp (cRP [(0, 10, false), (0, 15, false), (0, 77, false)]) 27 s n (spinF (3 * n) 0 x) [.int false .i64 k, .int true .i64 v] = some (.p (rC s n (spinF (3 * n) 0 x) k v false), (setF s v k).ini, n, spinF (3 * n) 0 x, .int false .i64 0)
theorem rset_c (s : Su) (n v : Int) (ys : List Int) : ∀ k : Nat, 1 ≤ k → k < 18 → RSetC s n v ys k := fun k h0 h1 => match k, h0, h1 with
 | 1, _, _ => by unfold RSetC; kernel_rfl
 | 2, _, _ => by unfold RSetC; kernel_rfl
 | 3, _, _ => by unfold RSetC; kernel_rfl
 | 4, _, _ => by unfold RSetC; kernel_rfl
 | 5, _, _ => by unfold RSetC; kernel_rfl
 | 6, _, _ => by unfold RSetC; kernel_rfl
 | 7, _, _ => by unfold RSetC; kernel_rfl
 | 8, _, _ => by unfold RSetC; kernel_rfl
 | 9, _, _ => by unfold RSetC; kernel_rfl
 | 10, _, _ => by unfold RSetC; kernel_rfl
 | 11, _, _ => by unfold RSetC; kernel_rfl
 | 12, _, _ => by unfold RSetC; kernel_rfl
 | 13, _, _ => by unfold RSetC; kernel_rfl
 | 14, _, _ => by unfold RSetC; kernel_rfl
 | 15, _, _ => by unfold RSetC; kernel_rfl
 | 16, _, _ => by unfold RSetC; kernel_rfl
 | 17, _, _ => by unfold RSetC; kernel_rfl
 | k + 18, _, h => absurd h (by omega)
theorem rset_d0 (s : Su) (v : Int) (x : Nat → Int) : ∀ k : Nat, 1 ≤ k → k < 18 → RSetD s v x 0 k := fun k h0 h1 => match k, h0, h1 with
 | 1, _, _ => by unfold RSetD; kernel_rfl
 | 2, _, _ => by unfold RSetD; kernel_rfl
 | 3, _, _ => by unfold RSetD; kernel_rfl
 | 4, _, _ => by unfold RSetD; kernel_rfl
 | 5, _, _ => by unfold RSetD; kernel_rfl
 | 6, _, _ => by unfold RSetD; kernel_rfl
 | 7, _, _ => by unfold RSetD; kernel_rfl
 | 8, _, _ => by unfold RSetD; kernel_rfl
 | 9, _, _ => by unfold RSetD; kernel_rfl
 | 10, _, _ => by unfold RSetD; kernel_rfl
 | 11, _, _ => by unfold RSetD; kernel_rfl
 | 12, _, _ => by unfold RSetD; kernel_rfl
 | 13, _, _ => by unfold RSetD; kernel_rfl
 | 14, _, _ => by unfold RSetD; kernel_rfl
 | 15, _, _ => by unfold RSetD; kernel_rfl
 | 16, _, _ => by unfold RSetD; kernel_rfl
 | 17, _, _ => by unfold RSetD; kernel_rfl
 | k + 18, _, h => absurd h (by omega)
theorem rset_d1 (s : Su) (v : Int) (x : Nat → Int) : ∀ k : Nat, 1 ≤ k → k < 18 → RSetD s v x 1 k := fun k h0 h1 => match k, h0, h1 with
 | 1, _, _ => by unfold RSetD; kernel_rfl
 | 2, _, _ => by unfold RSetD; kernel_rfl
 | 3, _, _ => by unfold RSetD; kernel_rfl
 | 4, _, _ => by unfold RSetD; kernel_rfl
 | 5, _, _ => by unfold RSetD; kernel_rfl
 | 6, _, _ => by unfold RSetD; kernel_rfl
 | 7, _, _ => by unfold RSetD; kernel_rfl
 | 8, _, _ => by unfold RSetD; kernel_rfl
 | 9, _, _ => by unfold RSetD; kernel_rfl
 | 10, _, _ => by unfold RSetD; kernel_rfl
 | 11, _, _ => by unfold RSetD; kernel_rfl
 | 12, _, _ => by unfold RSetD; kernel_rfl
 | 13, _, _ => by unfold RSetD; kernel_rfl
 | 14, _, _ => by unfold RSetD; kernel_rfl
 | 15, _, _ => by unfold RSetD; kernel_rfl
 | 16, _, _ => by unfold RSetD; kernel_rfl
 | 17, _, _ => by unfold RSetD; kernel_rfl
 | k + 18, _, h => absurd h (by omega)
theorem rset_d2 (s : Su) (v : Int) (x : Nat → Int) : ∀ k : Nat, 1 ≤ k → k < 18 → RSetD s v x 2 k := fun k h0 h1 => match k, h0, h1 with
 | 1, _, _ => by unfold RSetD; kernel_rfl
 | 2, _, _ => by unfold RSetD; kernel_rfl
 | 3, _, _ => by unfold RSetD; kernel_rfl
 | 4, _, _ => by unfold RSetD; kernel_rfl
 | 5, _, _ => by unfold RSetD; kernel_rfl
 | 6, _, _ => by unfold RSetD; kernel_rfl
 | 7, _, _ => by unfold RSetD; kernel_rfl
 | 8, _, _ => by unfold RSetD; kernel_rfl
 | 9, _, _ => by unfold RSetD; kernel_rfl
 | 10, _, _ => by unfold RSetD; kernel_rfl
 | 11, _, _ => by unfold RSetD; kernel_rfl
 | 12, _, _ => by unfold RSetD; kernel_rfl
 | 13, _, _ => by unfold RSetD; kernel_rfl
 | 14, _, _ => by unfold RSetD; kernel_rfl
 | 15, _, _ => by unfold RSetD; kernel_rfl
 | 16, _, _ => by unfold RSetD; kernel_rfl
 | 17, _, _ => by unfold RSetD; kernel_rfl
 | k + 18, _, h => absurd h (by omega)
theorem rset_d3 (s : Su) (v : Int) (x : Nat → Int) : ∀ k : Nat, 1 ≤ k → k < 18 → RSetD s v x 3 k := fun k h0 h1 => match k, h0, h1 with
 | 1, _, _ => by unfold RSetD; kernel_rfl
 | 2, _, _ => by unfold RSetD; kernel_rfl
 | 3, _, _ => by unfold RSetD; kernel_rfl
 | 4, _, _ => by unfold RSetD; kernel_rfl
 | 5, _, _ => by unfold RSetD; kernel_rfl
 | 6, _, _ => by unfold RSetD; kernel_rfl
 | 7, _, _ => by unfold RSetD; kernel_rfl
 | 8, _, _ => by unfold RSetD; kernel_rfl
 | 9, _, _ => by unfold RSetD; kernel_rfl
 | 10, _, _ => by unfold RSetD; kernel_rfl
 | 11, _, _ => by unfold RSetD; kernel_rfl
 | 12, _, _ => by unfold RSetD; kernel_rfl
 | 13, _, _ => by unfold RSetD; kernel_rfl
 | 14, _, _ => by unfold RSetD; kernel_rfl
 | 15, _, _ => by unfold RSetD; kernel_rfl
 | 16, _, _ => by unfold RSetD; kernel_rfl
 | 17, _, _ => by unfold RSetD; kernel_rfl
 | k + 18, _, h => absurd h (by omega)
theorem rset_d4 (s : Su) (v : Int) (x : Nat → Int) : ∀ k : Nat, 1 ≤ k → k < 18 → RSetD s v x 4 k := fun k h0 h1 => match k, h0, h1 with
 | 1, _, _ => by unfold RSetD; kernel_rfl
 | 2, _, _ => by unfold RSetD; kernel_rfl
 | 3, _, _ => by unfold RSetD; kernel_rfl
 | 4, _, _ => by unfold RSetD; kernel_rfl
 | 5, _, _ => by unfold RSetD; kernel_rfl
 | 6, _, _ => by unfold RSetD; kernel_rfl
 | 7, _, _ => by unfold RSetD; kernel_rfl
 | 8, _, _ => by unfold RSetD; kernel_rfl
 | 9, _, _ => by unfold RSetD; kernel_rfl
 | 10, _, _ => by unfold RSetD; kernel_rfl
 | 11, _, _ => by unfold RSetD; kernel_rfl
 | 12, _, _ => by unfold RSetD; kernel_rfl
 | 13, _, _ => by unfold RSetD; kernel_rfl
 | 14, _, _ => by unfold RSetD; kernel_rfl
 | 15, _, _ => by unfold RSetD; kernel_rfl
 | 16, _, _ => by unfold RSetD; kernel_rfl
 | 17, _, _ => by unfold RSetD; kernel_rfl
 | k + 18, _, h => absurd h (by omega)
theorem rset_d5 (s : Su) (v : Int) (x : Nat → Int) : ∀ k : Nat, 1 ≤ k → k < 18 → RSetD s v x 5 k := fun k h0 h1 => match k, h0, h1 with
 | 1, _, _ => by unfold RSetD; kernel_rfl
 | 2, _, _ => by unfold RSetD; kernel_rfl
 | 3, _, _ => by unfold RSetD; kernel_rfl
 | 4, _, _ => by unfold RSetD; kernel_rfl
 | 5, _, _ => by unfold RSetD; kernel_rfl
 | 6, _, _ => by unfold RSetD; kernel_rfl
 | 7, _, _ => by unfold RSetD; kernel_rfl
 | 8, _, _ => by unfold RSetD; kernel_rfl
 | 9, _, _ => by unfold RSetD; kernel_rfl
 | 10, _, _ => by unfold RSetD; kernel_rfl
 | 11, _, _ => by unfold RSetD; kernel_rfl
 | 12, _, _ => by unfold RSetD; kernel_rfl
 | 13, _, _ => by unfold RSetD; kernel_rfl
 | 14, _, _ => by unfold RSetD; kernel_rfl
 | 15, _, _ => by unfold RSetD; kernel_rfl
 | 16, _, _ => by unfold RSetD; kernel_rfl
 | 17, _, _ => by unfold RSetD; kernel_rfl
 | k + 18, _, h => absurd h (by omega)
theorem rset_d6 (s : Su) (v : Int) (x : Nat → Int) : ∀ k : Nat, 1 ≤ k → k < 18 → RSetD s v x 6 k := fun k h0 h1 => match k, h0, h1 with
 | 1, _, _ => by unfold RSetD; kernel_rfl
 | 2, _, _ => by unfold RSetD; kernel_rfl
 | 3, _, _ => by unfold RSetD; kernel_rfl
 | 4, _, _ => by unfold RSetD; kernel_rfl
 | 5, _, _ => by unfold RSetD; kernel_rfl
 | 6, _, _ => by unfold RSetD; kernel_rfl
 | 7, _, _ => by unfold RSetD; kernel_rfl
 | 8, _, _ => by unfold RSetD; kernel_rfl
 | 9, _, _ => by unfold RSetD; kernel_rfl
 | 10, _, _ => by unfold RSetD; kernel_rfl
 | 11, _, _ => by unfold RSetD; kernel_rfl
 | 12, _, _ => by unfold RSetD; kernel_rfl
 | 13, _, _ => by unfold RSetD; kernel_rfl
 | 14, _, _ => by unfold RSetD; kernel_rfl
 | 15, _, _ => by unfold RSetD; kernel_rfl
 | 16, _, _ => by unfold RSetD; kernel_rfl
 | 17, _, _ => by unfold RSetD; kernel_rfl
 | k + 18, _, h => absurd h (by omega)
theorem rset_d7 (s : Su) (v : Int) (x : Nat → Int) : ∀ k : Nat, 1 ≤ k → k < 18 → RSetD s v x 7 k := fun k h0 h1 => match k, h0, h1 with
 | 1, _, _ => by unfold RSetD; kernel_rfl
 | 2, _, _ => by unfold RSetD; kernel_rfl
 | 3, _, _ => by unfold RSetD; kernel_rfl
 | 4, _, _ => by unfold RSetD; kernel_rfl
 | 5, _, _ => by unfold RSetD; kernel_rfl
 | 6, _, _ => by unfold RSetD; kernel_rfl
 | 7, _, _ => by unfold RSetD; kernel_rfl
 | 8, _, _ => by unfold RSetD; kernel_rfl
 | 9, _, _ => by unfold RSetD; kernel_rfl
 | 10, _, _ => by unfold RSetD; kernel_rfl
 | 11, _, _ => by unfold RSetD; kernel_rfl
 | 12, _, _ => by unfold RSetD; kernel_rfl
 | 13, _, _ => by unfold RSetD; kernel_rfl
 | 14, _, _ => by unfold RSetD; kernel_rfl
 | 15, _, _ => by unfold RSetD; kernel_rfl
 | 16, _, _ => by unfold RSetD; kernel_rfl
 | 17, _, _ => by unfold RSetD; kernel_rfl
 | k + 18, _, h => absurd h (by omega)
theorem rset_d8 (s : Su) (v : Int) (x : Nat → Int) : ∀ k : Nat, 1 ≤ k → k < 18 → RSetD s v x 8 k := fun k h0 h1 => match k, h0, h1 with
 | 1, _, _ => by unfold RSetD; kernel_rfl
 | 2, _, _ => by unfold RSetD; kernel_rfl
 | 3, _, _ => by unfold RSetD; kernel_rfl
 | 4, _, _ => by unfold RSetD; kernel_rfl
 | 5, _, _ => by unfold RSetD; kernel_rfl
 | 6, _, _ => by unfold RSetD; kernel_rfl
 | 7, _, _ => by unfold RSetD; kernel_rfl
 | 8, _, _ => by unfold RSetD; kernel_rfl
 | 9, _, _ => by unfold RSetD; kernel_rfl
 | 10, _, _ => by unfold RSetD; kernel_rfl
 | 11, _, _ => by unfold RSetD; kernel_rfl
 | 12, _, _ => by unfold RSetD; kernel_rfl
 | 13, _, _ => by unfold RSetD; kernel_rfl
 | 14, _, _ => by unfold RSetD; kernel_rfl
 | 15, _, _ => by unfold RSetD; kernel_rfl
 | 16, _, _ => by unfold RSetD; kernel_rfl
 | 17, _, _ => by unfold RSetD; kernel_rfl
 | k + 18, _, h => absurd h (by omega)
theorem rset_d (s : Su) (v : Int) (x : Nat → Int) : ∀ n : Nat, n ≤ 8 → ∀ k : Nat, 1 ≤ k → k < 18 → RSetD s v x n k := fun n h => match n, h with
 | 0, _ => rset_d0 s v x
 | 1, _ => rset_d1 s v x
 | 2, _ => rset_d2 s v x
 | 3, _ => rset_d3 s v x
 | 4, _ => rset_d4 s v x
 | 5, _ => rset_d5 s v x
 | 6, _ => rset_d6 s v x
 | 7, _ => rset_d7 s v x
 | 8, _ => rset_d8 s v x
 | n + 9, h => absurd h (by omega)
theorem rset_ok : NOk Tryz.prog glob hG 27 (lSpec hG gP2 (suV3 setV)) := by
 refine lsp_okM hG_ok hG_plain glob_lt (fun sz its p v bs e hp => ?_) ⟨_, Tryz.func27, rfl⟩
 unfold suV3 at e
 split at e
 ·rename_i xs n ys p' v'
  split at e
  ·rename_i s hs
   cases e
   obtain ⟨ho, hg⟩ := hp
   obtain rfl := suOf_eq hs
   refine ⟨⟨okF3_emp ho, trivial⟩, rfl, ?_⟩
   have tA : ∀ q : AV, tell (.int true .i64 p') q → tellL (mkA true hG.size gP2 [.s s.nus n ys, .n [.n p'], .n [.n v']]) [.agg (s.ini ++ [.lslice hG.size n]), q, .int true .i64 v'] := fun q h => by
    rw [mk_g2]
    exact ⟨tellL_app (tell_ini s) ⟨rfl, trivial⟩, h, ⟨rfl, rfl⟩, trivial⟩
   have badS : ∀ e0 : Int, setE s ys p' v' = e0 → e0 ≠ 0 → setN s ys p' v' n = (0 : Nat) ∧ setSu s ys p' v' = su0 ∧ setYs s ys p' v' = [] := fun e0 h1 h2 => by
    have ne : (setE s ys p' v' == 0) = false := by rw [h1]; exact beq_eq_false_iff_ne.2 h2
    exact ⟨by unfold setN; rw [ne]; rfl, by unfold setSu; rw [ne]; rfl, by unfold setYs; rw [ne]; rfl⟩
   by_cases hm : missS s ys p' = 0
   ·obtain ⟨hR, hH, h1, h2⟩ := miss_0 hm
    have hb : hasGB s ys p' = true := by unfold hasGB; rw [hR, hH]; rfl
    obtain ⟨k, rfl⟩ : ∃ k : Nat, p' = k := ⟨p'.toNat, by omega⟩
    have sg : (setF s v' k).g.size < 1000000000 := by rw [setF_g]; exact hg
    cases hr : rightS (setF s v' k) ys with
    | false =>
     have eE : setE s ys k v' = 2 := by
      unfold setE
      rw [hm]
      show (bif rightS (setF s v' k) ys then (0 : Int) else 2) = 2
      rw [hr]; rfl
     have r := rset_c s n v' ys k (by omega) (by omega)
     unfold RSetC rg1 at r
     obtain ⟨v0, q, a1, a2, a3, a4⟩ := outT_tells r rfl rfl
     obtain ⟨sN, sS, sY⟩ := badS 2 eE (by decide)
     refine ⟨true, cRG [(0, 10, false), (0, 15, false), (0, 77, true)], 1000, [AV.agg (s.ini ++ [AV.lslice hG.size n]), .int false .i64 k, .int true .i64 v'], _, v0, q, cRG_ok _, rfl, rfl, tA _ ⟨rfl, rfl⟩, a1, a2, ⟨⟨⟨ho, hg⟩, by rw [hR]; rfl⟩, ⟨⟨ho, hg, trivial⟩, by rw [hb]; rfl⟩, ⟨ho, sg⟩, by rw [hr]; rfl⟩, a3, ?_⟩
     exact a4 sz (setSu s ys k v').ini _ _ (.int true .i64 (setE s ys k v')) (by rw [sS]; exact z21_t) sN sY ⟨rfl, eE.symm⟩
    | true =>
     have eE : setE s ys k v' = 0 := by
      unfold setE
      rw [hm]
      show (bif rightS (setF s v' k) ys then (0 : Int) else 2) = 0
      rw [hr]; rfl
     have sN : setN s ys k v' n = n := by unfold setN; rw [eE]; rfl
     have sS : setSu s ys k v' = setF s v' k := by unfold setSu; rw [eE]; rfl
     have sY : setYs s ys k v' = ys := by unfold setYs; rw [eE]; rfl
     obtain ⟨m, x, hk, rfl, rfl⟩ := okF3_of ho
     have h8 : m ≤ 8 := by
      rcases Nat.lt_or_ge 8 m with h | h
      ·exfalso
       rw [right_long (by rw [spinF_len]; omega)] at hr
       cases hr
      ·exact h
     have r := rset_d s v' x m h8 k (by omega) (by omega)
     unfold RSetD rgp at r
     obtain ⟨v0, q, a1, a2, a3, a4⟩ := outT_tells r rfl rfl
     refine ⟨false, cRP [(0, 10, false), (0, 15, false), (0, 77, false)], 1000, [AV.agg (s.ini ++ [.pslice hG.size m false m]), .int false .i64 k, .int true .i64 v'], rC s m (spinF (3 * m) 0 x) k v' false |> .p, v0, q, cRP_ok _, rfl, rfl, ?_, ?_, a2, ⟨⟨⟨ho, hg⟩, by rw [hR]; rfl⟩, ⟨⟨ho, hg, trivial⟩, by rw [hb]; rfl⟩, ⟨ho, sg⟩, by rw [hr]; rfl⟩, a3, ?_⟩
     ·exact ⟨tellL_app (tell_ini s) ⟨⟨rfl, Nat.le_refl _, rfl⟩, trivial⟩, ⟨rfl, rfl⟩, ⟨rfl, rfl⟩, trivial⟩
     ·exact a1
     ·unfold setV
      rw [sN, sS, sY, eE]
      exact a4 sz (setF s v' k).ini _ _ (.int true .i64 0) (tell_ini _) rfl rfl ⟨rfl, rfl⟩
   ·cases hR : rightS s ys with
    | false =>
     have e0 : missS s ys p' = 110 := by unfold missS; rw [hR]; rfl
     have eE : setE s ys p' v' = 110 := by unfold setE; rw [e0]; rfl
     have r := rset_a s n p' v' ys
     unfold rg1 at r
     obtain ⟨v0, q, a1, a2, a3, a4⟩ := outT_tells r rfl rfl
     obtain ⟨sN, sS, sY⟩ := badS 110 eE (by decide)
     refine ⟨true, cRG [(0, 10, true)], 1000, [AV.agg (s.ini ++ [AV.lslice hG.size n]), .int true .i64 p', .int true .i64 v'], _, v0, q, cRG_ok _, rfl, rfl, tA _ ⟨rfl, rfl⟩, a1, a2, ⟨⟨ho, hg⟩, by rw [hR]; rfl⟩, a3, ?_⟩
     exact a4 sz (setSu s ys p' v').ini _ _ (.int true .i64 (setE s ys p' v')) (by rw [sS]; exact z21_t) sN sY ⟨rfl, eE.symm⟩
    | true =>
     have hH : hasS s p' = false := by
      unfold missS at hm
      rw [hR] at hm
      cases hh : hasS s p' with
      | false => rfl
      | true => rw [hh] at hm; exact absurd rfl hm
     have e0 : missS s ys p' = 2 := by unfold missS; rw [hR, hH]; rfl
     have eE : setE s ys p' v' = 2 := by unfold setE; rw [e0]; rfl
     have hb : hasGB s ys p' = false := by unfold hasGB; rw [hR, hH]; rfl
     have r := rset_b s n p' v' ys
     unfold rg1 at r
     obtain ⟨v0, q, a1, a2, a3, a4⟩ := outT_tells r rfl rfl
     obtain ⟨sN, sS, sY⟩ := badS 2 eE (by decide)
     refine ⟨true, cRG [(0, 10, false), (0, 15, true)], 1000, [AV.agg (s.ini ++ [AV.lslice hG.size n]), .int true .i64 p', .int true .i64 v'], _, v0, q, cRG_ok _, rfl, rfl, tA _ ⟨rfl, rfl⟩, a1, a2, ⟨⟨⟨ho, hg⟩, by rw [hR]; rfl⟩, ⟨ho, hg, trivial⟩, by rw [hb]; rfl⟩, a3, ?_⟩
     exact a4 sz (setSu s ys p' v').ini _ _ (.int true .i64 (setE s ys p' v')) (by rw [sS]; exact z21_t) sN sY ⟨rfl, eE.symm⟩
  ·cases e
 ·cases e
end
end Go.Proofs.YtiigkjnhmipnfaaGreatDoor.K
