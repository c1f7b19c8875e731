/- What is proved: SurfaceChecks returns true, whatever the input (part 22 of 28). No conditions beyond those of the row. -/
import Derived.Test.YtiigkjnhmipnfaaGreatDoorPO
import Derived.Test.YtiigkjnhmipnfaaGreatDoorPU
set_option linter.unusedVariables false
set_option linter.unusedSimpArgs false
set_option linter.unusedSectionVars false
namespace Go.Proofs.YtiigkjnhmipnfaaGreatDoor.K
open Go Go.Eng Go.Ar Go.Rd
noncomputable section
def fwH (_ t : Nat) : Option AV := match Nat.beq t 17 with
 | true => some (.int false .i64 12)
 | false => none
def cFw (b : Bool) : Ctx := match b with
 | true => hinting (mkG Tryz.prog glob hG [] ext) fwH
 | false => mkG Tryz.prog glob hG [] ext
theorem cFw_ok (b : Bool) : CtxOk (cFw b) := by
 have co : CtxOk (mkG Tryz.prog glob hG [] ext) := mkG_ok prog_ok ext_ok fun _ h => by cases h
 cases b
 ·exact co
 ·exact hinting_ok co _
def rfw (b : Bool) (s : Su) (coat : AV) (ys : List Int) : Option (Nd × List AV × Nat × List Int) := outL (hG.size + 1) hG.clock 2 .i64 ((run (cFw b) 1000).call 17 [.agg (s.ini ++ [coat])] (viewsH false hG [(.i64, ys)]))
def fwI (s : Su) : Int := if (40 : Int) < (s.g.size : Int) then (40 : Int) else (s.g.size : Int)
def fwS (s : Su) : Su := { s with g := s.g.extract (Int.toNat 0) (fwI s).toNat }
def fwN (s : Su) : Prop := (0 : Int) ≤ 0 ∧ 0 ≤ fwI s ∧ fwI s ≤ (s.g.size : Int)
def fwK (n : Int) : Nat := min n.toNat 12
def fwY (ys : List Int) : List Int := ys.take 36
theorem fwN_t (s : Su) : fwN s := by
 unfold fwN fwI
 refine ⟨Int.le_refl _, ?_, ?_⟩ <;> split <;> omega
theorem fwS_g (s : Su) : (fwS s).g.size ≤ 40 := by
 show (s.g.extract (Int.toNat 0) (fwI s).toNat).size ≤ 40
 rw [ByteArray.size_extract]
 have : (fwI s).toNat ≤ 40 := by unfold fwI; split <;> omega
 omega
theorem fwY_ok {n : Int} {ys : List Int} (h0 : 0 ≤ n) (hl : ys.length = 3 * n.toNat) : okF3 (fwK n : Int) (fwY ys) := by
 refine ⟨by omega, by unfold fwK; omega, ?_⟩
 rw [Int.toNat_natCast]
 unfold fwY fwK
 rw [List.length_take, hl]
 omega
def FwK (s : Su) (x : Nat → Int) (k : Nat) : Prop := rfw false s (co k) (spinF (3 * k) 0 x) = some (.p (fwN s), (fwS s).ini, k, spinF (3 * k) 0 x)
theorem fw_all (s : Su) (x : Nat → Int) : ∀ k : Nat, k ≤ 12 → FwK s x k := fun k h => match k, h with
 | 0, _ => by unfold FwK; kernel_rfl
 | 1, _ => by unfold FwK; kernel_rfl
 | 2, _ => by unfold FwK; kernel_rfl
 | 3, _ => by unfold FwK; kernel_rfl
 | 4, _ => by unfold FwK; kernel_rfl
 | 5, _ => by unfold FwK; kernel_rfl
 | 6, _ => by unfold FwK; kernel_rfl
 | 7, _ => by unfold FwK; kernel_rfl
 | 8, _ => by unfold FwK; kernel_rfl
 | 9, _ => by unfold FwK; kernel_rfl
 | 10, _ => by unfold FwK; kernel_rfl
 | 11, _ => by unfold FwK; kernel_rfl
 | 12, _ => by unfold FwK; kernel_rfl
 | k + 13, h => absurd h (by omega)
theorem fw_long (s : Su) (n : Int) (x : Nat → Int) (r : List Int) : rfw true s (.pslice hG.size 12 true n) (spinF (3 * 12) 0 x ++ r) = some (.p (fwN s ∧ (if (12 : Int) < n then (12 : Int) else n) = 12), (fwS s).ini, 12, spinF (3 * 12) 0 x) := by kernel_rfl
def fewV : Nat → List Itm → Option (Prop × AV × List ABody) := fun sz its => match its with
 | [.s xs n ys] => match suOf xs with
  | some s => some (0 ≤ n ∧ ys.length = 3 * n.toNat, .agg ((fwS s).ini ++ [.lslice sz (fwK n)]), [.rows .i64 (fwY ys)])
  | none => none
 | _ => none
theorem few_ok : NOk Tryz.prog glob hG 17 (lSpec hG [.s suI .i64] fewV) := by
 refine lsp_okM hG_ok hG_plain glob_lt (fun sz its p v bs e hp => ?_) ⟨_, Tryz.func17, rfl⟩
 unfold fewV at e
 split at e
 ·rename_i xs n ys
  split at e
  ·rename_i s hs
   cases e
   obtain ⟨h0, hl⟩ := hp
   obtain rfl := suOf_eq hs
   refine ⟨⟨fun hy => by rw [hy] at hl; simp only [List.length_nil] at hl; omega, trivial⟩, rfl, false, ?_⟩
   have hnum : AV.numL (fwS s).ini = true := rfl
   by_cases h12 : n ≤ 12
   ·obtain ⟨k, x, hk, rfl, rfl⟩ := okF3_of (n := n) (ys := ys) ⟨h0, h12, hl⟩
    have r := fw_all s x k hk
    unfold FwK rfw at r
    obtain ⟨v0, q, h1, h2, h3, h4⟩ := outL_tells r hnum
    refine ⟨cFw false, 1000, [.agg (s.ini ++ [co k])], _, v0, q, cFw_ok _, rfl, rfl, ?_, h1, h2, fwN_t s, h3, ?_⟩
    ·exact ⟨tellL_app (tellS s) ⟨⟨rfl, Nat.le_refl _, rfl⟩, trivial⟩, trivial⟩
    ·refine h4 sz _ _ _ (tellS (fwS s)) ?_ ?_
     ·show ((min (k : Int).toNat 12 : Nat) : Int) = (k : Int)
      rw [Int.toNat_natCast, Nat.min_eq_left hk]
     ·exact List.take_of_length_le (by rw [spinF_len]; omega)
   ·obtain ⟨k, x, hk, e1, e2⟩ := okF3_of (n := 12) (ys := ys.take 36) ⟨by decide, by decide, by rw [List.length_take, hl]; show min 36 (3 * n.toNat) = 36; omega⟩
    obtain rfl : k = 12 := by omega
    have ey : ys = spinF (3 * 12) 0 x ++ ys.drop 36 := by rw [← e2, List.take_append_drop]
    have r := fw_long s n x (ys.drop 36)
    rw [← ey] at r
    unfold rfw at r
    obtain ⟨v0, q, h1, h2, h3, h4⟩ := outL_tells r hnum
    refine ⟨cFw true, 1000, [.agg (s.ini ++ [.pslice hG.size 12 true n])], .p (fwN s ∧ (if (12 : Int) < n then (12 : Int) else n) = 12), v0, q, cFw_ok _, rfl, rfl, ?_, ?_, h2, ⟨fwN_t s, by rw [if_pos (by omega)]⟩, h3, ?_⟩
    ·exact ⟨tellL_app (tellS s) ⟨⟨rfl, by omega, rfl⟩, trivial⟩, trivial⟩
    ·exact h1
    ·refine h4 sz _ _ _ (tellS (fwS s)) ?_ e2
     show ((min n.toNat 12 : Nat) : Int) = ((12 : Nat) : Int)
     rw [Nat.min_eq_right (by omega)]
  ·cases e
 ·cases e
end
end Go.Proofs.YtiigkjnhmipnfaaGreatDoor.K
