/- What is proved: SurfaceSets returns true, whatever the input (part 20 of 31). No conditions beyond those of the row. -/
import Derived.Test.YtiigkjnhmipnfaaGreatDoorPS
set_option linter.unusedVariables false
set_option linter.unusedSimpArgs false
set_option linter.unusedSectionVars false
namespace Go.Proofs.YtiigkjnhmipnfaaGreatDoor.K
open Go Go.Eng Go.Ar Go.Rd
noncomputable section
def GetR (s : Su) (n : Int) (ys : List Int) (k : Nat) : Prop := rg1v cGet 22 s.ini n ys [.int false .i64 k] = some (.p (nG s n ys), .tuple [.int true .i64 (bif eQ s ys (hasS s k) != 0 then 0 else getF s k), .int true .i64 (bif eQ s ys (hasS s k) != 0 then eQ s ys (hasS s k) else 0)])
theorem get_k (s : Su) (n : Int) (ys : List Int) : ∀ k : Nat, 1 ≤ k → k < 18 → GetR s n ys k := fun k h0 h1 => match k, h0, h1 with
 | 1, _, _ => by unfold GetR; kernel_rfl
 | 2, _, _ => by unfold GetR; kernel_rfl
 | 3, _, _ => by unfold GetR; kernel_rfl
 | 4, _, _ => by unfold GetR; kernel_rfl
 | 5, _, _ => by unfold GetR; kernel_rfl
 | 6, _, _ => by unfold GetR; kernel_rfl
 | 7, _, _ => by unfold GetR; kernel_rfl
 | 8, _, _ => by unfold GetR; kernel_rfl
 | 9, _, _ => by unfold GetR; kernel_rfl
 | 10, _, _ => by unfold GetR; kernel_rfl
 | 11, _, _ => by unfold GetR; kernel_rfl
 | 12, _, _ => by unfold GetR; kernel_rfl
 | 13, _, _ => by unfold GetR; kernel_rfl
 | 14, _, _ => by unfold GetR; kernel_rfl
 | 15, _, _ => by unfold GetR; kernel_rfl
 | 16, _, _ => by unfold GetR; kernel_rfl
 | 17, _, _ => by unfold GetR; kernel_rfl
 | k + 18, _, h => absurd h (by omega)
theorem get_n (s : Su) (n p : Int) (ys : List Int) : rg1v (cGetH [(26, 11, true)]) 22 s.ini n ys [.int true .i64 p] = some (.p (nG s n ys ∧ (eQ s ys (hasS s p) != 0) = true), .tuple [.int false .i64 0, .int true .i64 (eQ s ys (hasS s p))]) := by kernel_rfl
def getV (s : Su) (ys : List Int) (p : Int) : AV := .tuple [.int true .i64 (getS s ys p), .int true .i64 (missS s ys p)]
theorem tell_ini (s : Su) : tellL s.ini s.ini := tell_kd ⟨rfl, rfl⟩
theorem get_ok : NOk Tryz.prog glob hG 22 (lSpec hG gP (suV1 (fun _ => True) getV)) := by
 refine su1_ok ⟨_, Tryz.func22, rfl⟩ fun s n ys p ho hg _ => ?_
 by_cases hm : missS s ys p = 0
 ·obtain ⟨-, -, h1, h2⟩ := miss_0 hm
  obtain ⟨k, rfl⟩ : ∃ k : Nat, p = k := ⟨p.toNat, by omega⟩
  refine ⟨cGet, s.ini, .int false .i64 k, _, _, cGet_ok, rfl, rfl, tell_ini s, ⟨rfl, rfl⟩, get_k s n ys k (by omega) (by omega), rfl, nG_of ho hg, ?_⟩
  rw [eQ_eq, hm]
  refine ⟨⟨rfl, ?_⟩, ⟨rfl, hm.symm⟩, trivial⟩
  unfold getS
  rw [hm]
  rfl
 ·have hb : (missS s ys p != 0) = true := bne_iff_ne.2 hm
  refine ⟨cGetH [(26, 11, true)], s.ini, .int true .i64 p, _, _, cGetH_ok _, rfl, rfl, tell_ini s, ⟨rfl, rfl⟩, get_n s n p ys, rfl, ⟨nG_of ho hg, by rw [eQ_eq]; exact hb⟩, ?_⟩
  rw [eQ_eq]
  refine ⟨⟨rfl, ?_⟩, ⟨rfl, rfl⟩, trivial⟩
  unfold getS
  rw [beq_eq_false_iff_ne.2 hm]
  rfl
abbrev gP2 : List Pa := [.s suI .i64, .n (.i .i64), .n (.i .i64)]
def suV3 (V : Nat → Su → Int → List Int → Int → Int → AV × List ABody) : Nat → List Itm → Option (Prop × AV × List ABody) := fun sz its => match its with
 | [.s xs n ys, .n [.n p], .n [.n v]] => match suOf xs with
  | some s => some (okF3 n ys ∧ s.g.size < 1000000000, (V sz s n ys p v).1, (V sz s n ys p v).2)
  | none => none
 | _ => none
def setV (sz : Nat) (s : Su) (n : Int) (ys : List Int) (p v : Int) : AV × List ABody := (.tuple [.agg ((setSu s ys p v).ini ++ [.lslice sz (setN s ys p v n)]), .int true .i64 (setE s ys p v)], [.rows .i64 (setYs s ys p v)])
def z21 : List AV := su0.cells (.int false .i64 0) |>.map fun
 | .int _ k n => .int false k n
 | .str _ b => .str false b
 | x => x
theorem set_a (s : Su) (n p v : Int) (ys : List Int) : outT (hG.size + 1) hG.clock 2 .i64 (rg1 (cSet [(26, 13, true)]) 26 s.ini n ys [.int true .i64 p, .int true .i64 v]) = some (.p (nG s n ys ∧ (eQ s ys (hasS s p) != 0) = true), z21, 0, [], .int true .i64 (eQ s ys (hasS s p))) := by kernel_rfl
def SetB (s : Su) (n v : Int) (ys : List Int) (k : Nat) : Prop := outT (hG.size + 1) hG.clock 2 .i64 (rg1 (cSet [(26, 13, false), (0, 22, true)]) 26 s.ini n ys [.int false .i64 k, .int true .i64 v]) = some (.p ((nG s n ys ∧ (eQ s ys (hasS s k) != 0) = false) ∧ (okF3 n ys ∧ (setF s v k).g.size < 1000000000) ∧ (mQ (setF s v k) ys != 0) = true), z21, 0, [], .int false .i64 2)
def SetC (s : Su) (n v : Int) (ys : List Int) (k : Nat) : Prop := outR (hG.size + 1) hG.clock .i64 (rg1 (cSet [(26, 13, false), (0, 22, false)]) 26 s.ini n ys [.int false .i64 k, .int true .i64 v]) = some (.p ((nG s n ys ∧ (eQ s ys (hasS s k) != 0) = false) ∧ ((okF3 n ys ∧ (setF s v k).g.size < 1000000000) ∧ (mQ (setF s v k) ys != 0) = false) ∧ okF3 n ys), (setF s v k).ini, n, ys, .int false .i64 0)
theorem set_b (s : Su) (n v : Int) (ys : List Int) : ∀ k : Nat, 1 ≤ k → k < 18 → SetB s n v ys k := fun k h0 h1 => match k, h0, h1 with
 | 1, _, _ => by unfold SetB; kernel_rfl
 | 2, _, _ => by unfold SetB; kernel_rfl
 | 3, _, _ => by unfold SetB; kernel_rfl
 | 4, _, _ => by unfold SetB; kernel_rfl
 | 5, _, _ => by unfold SetB; kernel_rfl
 | 6, _, _ => by unfold SetB; kernel_rfl
 | 7, _, _ => by unfold SetB; kernel_rfl
 | 8, _, _ => by unfold SetB; kernel_rfl
 | 9, _, _ => by unfold SetB; kernel_rfl
 | 10, _, _ => by unfold SetB; kernel_rfl
 | 11, _, _ => by unfold SetB; kernel_rfl
 | 12, _, _ => by unfold SetB; kernel_rfl
 | 13, _, _ => by unfold SetB; kernel_rfl
 | 14, _, _ => by unfold SetB; kernel_rfl
 | 15, _, _ => by unfold SetB; kernel_rfl
 | 16, _, _ => by unfold SetB; kernel_rfl
 | 17, _, _ => by unfold SetB; kernel_rfl
 | k + 18, _, h => absurd h (by omega)
theorem set_c (s : Su) (n v : Int) (ys : List Int) : ∀ k : Nat, 1 ≤ k → k < 18 → SetC s n v ys k := fun k h0 h1 => match k, h0, h1 with
 | 1, _, _ => by unfold SetC; kernel_rfl
 | 2, _, _ => by unfold SetC; kernel_rfl
 | 3, _, _ => by unfold SetC; kernel_rfl
 | 4, _, _ => by unfold SetC; kernel_rfl
 | 5, _, _ => by unfold SetC; kernel_rfl
 | 6, _, _ => by unfold SetC; kernel_rfl
 | 7, _, _ => by unfold SetC; kernel_rfl
 | 8, _, _ => by unfold SetC; kernel_rfl
 | 9, _, _ => by unfold SetC; kernel_rfl
 | 10, _, _ => by unfold SetC; kernel_rfl
 | 11, _, _ => by unfold SetC; kernel_rfl
 | 12, _, _ => by unfold SetC; kernel_rfl
 | 13, _, _ => by unfold SetC; kernel_rfl
 | 14, _, _ => by unfold SetC; kernel_rfl
 | 15, _, _ => by unfold SetC; kernel_rfl
 | 16, _, _ => by unfold SetC; kernel_rfl
 | 17, _, _ => by unfold SetC; kernel_rfl
 | k + 18, _, h => absurd h (by omega)
theorem z21_t : tellL z21 su0.ini := by
 repeat' first
  | exact trivial
  | refine ⟨⟨rfl, rfl⟩, ?_⟩
  | refine ⟨rfl, ?_⟩
theorem mk_g2 (s : Su) (n : Int) (ys : List Int) (p v : Int) : mkA true hG.size gP2 [.s s.nus n ys, .n [.n p], .n [.n v]] = [.agg (s.ini ++ [.lslice hG.size n]), .int true .i64 p, .int true .i64 v] := rfl
theorem set_ok : NOk Tryz.prog glob hG 26 (lSpec hG gP2 (suV3 setV)) := by
 refine lsp_ok true hG_ok hG_plain glob_lt (fun sz its p v bs e hp => ?_) ⟨_, Tryz.func26, rfl⟩
 unfold suV3 at e
 split at e
 ·rename_i xs n ys p' v'
  split at e
  ·rename_i s hs
   cases e
   obtain ⟨ho, hg⟩ := hp
   obtain rfl := suOf_eq hs
   refine ⟨⟨okF3_emp ho, trivial⟩, rfl, ?_⟩
   have tA : ∀ q : AV, tell (.int true .i64 p') q → tellL (mkA true hG.size gP2 [.s s.nus n ys, .n [.n p'], .n [.n v']]) [.agg (s.ini ++ [.lslice hG.size n]), q, .int true .i64 v'] := fun q h => by
    rw [mk_g2]
    exact ⟨tellL_app (tell_ini s) ⟨rfl, trivial⟩, h, ⟨rfl, rfl⟩, trivial⟩
   by_cases hm : missS s ys p' = 0
   ·obtain ⟨-, -, h1, h2⟩ := miss_0 hm
    obtain ⟨k, rfl⟩ : ∃ k : Nat, p' = k := ⟨p'.toNat, by omega⟩
    have e0 : (eQ s ys (hasS s k) != 0) = false := by rw [eQ_eq, hm]; rfl
    have sg : (setF s v' k).g.size < 1000000000 := by rw [setF_g]; exact hg
    cases hr : rightS (setF s v' k) ys with
    | false =>
     have mq : (mQ (setF s v' k) ys != 0) = true := by unfold mQ; rw [hr]; rfl
     have eE : setE s ys k v' = 2 := by
      unfold setE
      rw [hm]
      show (bif rightS (setF s v' k) ys then (0 : Int) else 2) = 2
      rw [hr]; rfl
     have r := set_b s n v' ys k (by omega) (by omega)
     unfold SetB rg1 at r
     obtain ⟨v0, q, a1, a2, a3, a4⟩ := outT_tells r rfl rfl
     refine ⟨cSet [(26, 13, false), (0, 22, true)], 1000, [AV.agg (s.ini ++ [AV.lslice hG.size n]), .int false .i64 k, .int true .i64 v'], _, v0, q, cSet_ok _, rfl, rfl, tA _ ⟨rfl, rfl⟩, a1, a2, ⟨⟨nG_of ho hg, e0⟩, ⟨ho, sg⟩, mq⟩, a3, ?_⟩
     have sN : setN s ys k v' n = (0 : Nat) := by unfold setN; rw [eE]; rfl
     have sS : setSu s ys k v' = su0 := by unfold setSu; rw [eE]; rfl
     have sY : setYs s ys k v' = [] := by unfold setYs; rw [eE]; rfl
     have := a4 sz (setSu s ys k v').ini _ _ (.int true .i64 (setE s ys k v')) (by rw [sS]; exact z21_t) sN sY ⟨rfl, eE.symm⟩
     exact this
    | true =>
     have mq : (mQ (setF s v' k) ys != 0) = false := by unfold mQ; rw [hr]; rfl
     have eE : setE s ys k v' = 0 := by
      unfold setE
      rw [hm]
      show (bif rightS (setF s v' k) ys then (0 : Int) else 2) = 0
      rw [hr]; rfl
     have r := set_c s n v' ys k (by omega) (by omega)
     unfold SetC rg1 at r
     obtain ⟨v0, q, a1, a2, a3, a4⟩ := outR_tells r rfl rfl
     refine ⟨cSet [(26, 13, false), (0, 22, false)], 1000, [AV.agg (s.ini ++ [AV.lslice hG.size n]), .int false .i64 k, .int true .i64 v'], _, v0, q, cSet_ok _, rfl, rfl, tA _ ⟨rfl, rfl⟩, a1, a2, ⟨⟨nG_of ho hg, e0⟩, ⟨⟨ho, sg⟩, mq⟩, ho⟩, a3, ?_⟩
     have sN : setN s ys k v' n = n := by unfold setN; rw [eE]; rfl
     have sS : setSu s ys k v' = setF s v' k := by unfold setSu; rw [eE]; rfl
     have sY : setYs s ys k v' = ys := by unfold setYs; rw [eE]; rfl
     have := a4 sz (setF s v' k).ini (.int true .i64 0) (okF3_emp ho) (tell_ini _) ⟨rfl, rfl⟩
     unfold setV
     rw [sN, sS, sY, eE]
     exact this
   ·have hb : (missS s ys p' != 0) = true := bne_iff_ne.2 hm
    have eE : setE s ys p' v' = missS s ys p' := by
     unfold setE
     rw [beq_eq_false_iff_ne.2 hm]; rfl
    have r := set_a s n p' v' ys
    unfold rg1 at r
    obtain ⟨v0, q, a1, a2, a3, a4⟩ := outT_tells r rfl rfl
    refine ⟨cSet [(26, 13, true)], 1000, [AV.agg (s.ini ++ [AV.lslice hG.size n]), .int true .i64 p', .int true .i64 v'], _, v0, q, cSet_ok _, rfl, rfl, tA _ ⟨rfl, rfl⟩, a1, a2, ⟨nG_of ho hg, by rw [eQ_eq]; exact hb⟩, a3, ?_⟩
    have ne : (setE s ys p' v' == 0) = false := by rw [eE]; exact beq_eq_false_iff_ne.2 hm
    have sN : setN s ys p' v' n = (0 : Nat) := by unfold setN; rw [ne]; rfl
    have sS : setSu s ys p' v' = su0 := by unfold setSu; rw [ne]; rfl
    have sY : setYs s ys p' v' = [] := by unfold setYs; rw [ne]; rfl
    exact a4 sz (setSu s ys p' v').ini _ _ (.int true .i64 (setE s ys p' v')) (by rw [sS]; exact z21_t) sN sY ⟨rfl, by rw [eQ_eq, eE]⟩
  ·cases e
 ·cases e
end
end Go.Proofs.YtiigkjnhmipnfaaGreatDoor.K
