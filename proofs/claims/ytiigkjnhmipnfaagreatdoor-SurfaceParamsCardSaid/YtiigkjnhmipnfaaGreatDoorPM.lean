/- What is proved: SurfaceParams returns true, whatever the input (part 13 of 28). No conditions beyond those of the row. -/
import Derived.Test.YtiigkjnhmipnfaaGreatDoorPF
import Derived.Test.YtiigkjnhmipnfaaGreatDoorPL
set_option linter.unusedVariables false
set_option linter.unusedSimpArgs false
set_option linter.unusedSectionVars false
namespace Go.Proofs.YtiigkjnhmipnfaaGreatDoor.K
open Go Go.Eng Go.Ar Go.Rd
noncomputable section
def suPair (s t : Su) (c d : AV) : List AV := [.agg (s.ini ++ [c]), .agg (t.ini ++ [d])]
def rsm (C : Ctx) (raw : Bool) (f : FuncId) (s t : Su) (c d : AV) (ys zs : List Int) : Option (Nd × AV) := oneG (viewsH raw hG [(.i64, ys), (.i64, zs)]).size hG.clock ((run C 1000).call f (suPair s t c d) (viewsH raw hG [(.i64, ys), (.i64, zs)]))
def rsk (C : Ctx) (f : FuncId) (s t : Su) (k : Nat) (x y : Nat → Int) : Option (Nd × AV) := rsm C false f s t (.pslice hG.size k false k) (.pslice (hG.size + 1) k false k) (spinF (3 * k) 0 x) (spinF (3 * k) 0 y)
def RsmK (s t : Su) (x y : Nat → Int) (k : Nat) : Prop := rsk cHas 21 s t k x y = some (.tt, .bool true (smR s t (spinF (3 * k) 0 x) (spinF (3 * k) 0 y)))
theorem rsm_0 (s t : Su) (x y : Nat → Int) : RsmK s t x y 0 := by unfold RsmK; kernel_rfl
theorem rsm_1 (s t : Su) (x y : Nat → Int) : RsmK s t x y 1 := by unfold RsmK; kernel_rfl
theorem rsm_2 (s t : Su) (x y : Nat → Int) : RsmK s t x y 2 := by unfold RsmK; kernel_rfl
theorem rsm_3 (s t : Su) (x y : Nat → Int) : RsmK s t x y 3 := by unfold RsmK; kernel_rfl
theorem rsm_4 (s t : Su) (x y : Nat → Int) : RsmK s t x y 4 := by unfold RsmK; kernel_rfl
theorem rsm_5 (s t : Su) (x y : Nat → Int) : RsmK s t x y 5 := by unfold RsmK; kernel_rfl
theorem rsm_6 (s t : Su) (x y : Nat → Int) : RsmK s t x y 6 := by unfold RsmK; kernel_rfl
theorem rsm_7 (s t : Su) (x y : Nat → Int) : RsmK s t x y 7 := by unfold RsmK; kernel_rfl
theorem rsm_8 (s t : Su) (x y : Nat → Int) : RsmK s t x y 8 := by unfold RsmK; kernel_rfl
theorem rsm_9 (s t : Su) (x y : Nat → Int) : RsmK s t x y 9 := by unfold RsmK; kernel_rfl
theorem rsm_10 (s t : Su) (x y : Nat → Int) : RsmK s t x y 10 := by unfold RsmK; kernel_rfl
theorem rsm_11 (s t : Su) (x y : Nat → Int) : RsmK s t x y 11 := by unfold RsmK; kernel_rfl
theorem rsm_12 (s t : Su) (x y : Nat → Int) : RsmK s t x y 12 := by unfold RsmK; kernel_rfl
theorem rsm_all (s t : Su) (x y : Nat → Int) : ∀ k : Nat, k ≤ 12 → RsmK s t x y k := fun k h => match k, h with
 | 0, _ => rsm_0 s t x y
 | 1, _ => rsm_1 s t x y
 | 2, _ => rsm_2 s t x y
 | 3, _ => rsm_3 s t x y
 | 4, _ => rsm_4 s t x y
 | 5, _ => rsm_5 s t x y
 | 6, _ => rsm_6 s t x y
 | 7, _ => rsm_7 s t x y
 | 8, _ => rsm_8 s t x y
 | 9, _ => rsm_9 s t x y
 | 10, _ => rsm_10 s t x y
 | 11, _ => rsm_11 s t x y
 | 12, _ => rsm_12 s t x y
 | k + 13, h => absurd h (by omega)
abbrev smPa : List Pa := [.s suI .i64, .s suI .i64]
def sameV : Nat → List Itm → Option (Prop × AV × List ABody) := fun _ its => match its with
 | [.s xs n ys, .s us m zs] => match suOf xs, suOf us with
  | some s, some t => some (okF3 n ys ∧ okF3 m zs ∧ n = m, .bool true (sameS s t ys zs), [])
  | _, _ => none
 | _ => none
theorem same_gen {f : FuncId} {nd : Su → Su → Nd} {g : Su → Su → List Int → List Int → Bool} (fn : ∃ fn : Func, Tryz.prog.funcs[f]? = some fn ∧ fn.body.isSome = true)
  (hr : ∀ (s t : Su) (x y : Nat → Int) (k : Nat), k ≤ 12 → rsk cHas f s t k x y = some (nd s t, .bool true (g s t (spinF (3 * k) 0 x) (spinF (3 * k) 0 y)))) (hn : ∀ s t, (nd s t).val) (hg : ∀ s t ys zs, ys.length = zs.length → g s t ys zs = sameS s t ys zs) : NOk Tryz.prog glob hG f (lSpec hG smPa sameV) := by
 refine lsp_okM hG_ok hG_plain glob_lt (fun sz its p v bs e hp => ?_) fn
 unfold sameV at e
 split at e
 ·rename_i xs n ys us m zs
  split at e
  ·rename_i s t hs ht
   cases e
   obtain ⟨h1, h2, h3⟩ := hp
   subst h3
   obtain rfl := suOf_eq hs
   obtain rfl := suOf_eq ht
   refine ⟨⟨okF3_emp h1, okF3_emp h2, trivial⟩, rfl, false, ?_⟩
   obtain ⟨k, x, hk, rfl, rfl⟩ := okF3_of h1
   obtain ⟨k', y, hk', e2, rfl⟩ := okF3_of h2
   obtain rfl : k = k' := by omega
   have r := hr s t x y k hk
   unfold rsk rsm at r
   obtain ⟨q, a1, a2, a3, a4⟩ := oneG_tells r rfl
   refine ⟨cHas, 1000, suPair s t (.pslice hG.size k false k) (.pslice (hG.size + 1) k false k), nd s t, _, q, cHas_ok, rfl, rfl, ?_, a1, a2, hn s t, a3, a4 sz _ ?_⟩
   ·exact ⟨tellL_app (tell_ini s) ⟨⟨rfl, Nat.le_refl _, rfl⟩, trivial⟩, tellL_app (tell_ini t) ⟨⟨rfl, Nat.le_refl _, rfl⟩, trivial⟩, trivial⟩
   ·exact hg s t _ _ (by rw [spinF_len, spinF_len])
  ·cases e
 ·cases e
theorem rsame_ok : NOk Tryz.prog glob hG 21 (lSpec hG smPa sameV) :=
 same_gen (nd := fun _ _ => .tt) (g := smR) ⟨_, Tryz.func21, rfl⟩ (fun s t x y k hk => rsm_all s t x y k hk) (fun _ _ => trivial) fun s t _ _ h => smR_eq s t h
end
end Go.Proofs.YtiigkjnhmipnfaaGreatDoor.K
