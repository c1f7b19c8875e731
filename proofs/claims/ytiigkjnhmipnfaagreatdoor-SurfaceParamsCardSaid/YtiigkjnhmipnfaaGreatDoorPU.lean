/- What is proved: SurfaceParams returns true, whatever the input (part 21 of 28). No conditions beyond those of the row. -/
import Derived.Test.YtiigkjnhmipnfaaGreatDoorPF
import Derived.Test.YtiigkjnhmipnfaaGreatDoorPL
import Derived.Test.YtiigkjnhmipnfaaGreatDoorPM
import Derived.Test.YtiigkjnhmipnfaaGreatDoorPO
import Derived.Test.YtiigkjnhmipnfaaGreatDoorPT
set_option linter.unusedVariables false
set_option linter.unusedSimpArgs false
set_option linter.unusedSectionVars false
namespace Go.Proofs.YtiigkjnhmipnfaaGreatDoor
open Go Go.Eng
theorem call77 : MemoOk Tryz.prog glob hG (14, [], (.bool false true)) := known table5_ok (by kernel_rfl) (by kernel_rfl) (by kernel_rfl)
end Go.Proofs.YtiigkjnhmipnfaaGreatDoor
namespace Go.Proofs.YtiigkjnhmipnfaaGreatDoor.K
open Go Go.Eng Go.Ar Go.Rd
noncomputable section
theorem hasG_run (s : Su) (n p : Int) (ys : List Int) : rg1v cGet 24 s.ini n ys [.int true .i64 p] = some (.p ((okF3 n ys ∧ s.g.size < 1000000000) ∧ ((mQ s ys == 0) = true → okF3 n ys ∧ s.g.size < 1000000000 ∧ (1 ≤ s.kd ∧ s.kd ≤ 4))), .bool true (bif mQ s ys == 0 then hasS s p else false)) := by kernel_rfl
def hasGB (s : Su) (ys : List Int) (p : Int) : Bool := rightS s ys && hasS s p
theorem hasG_ok : NOk Tryz.prog glob hG 24 (lSpec hG gP (suV1 (fun _ => True) fun s ys p => .bool true (hasGB s ys p))) := by
 refine su1_ok ⟨_, Tryz.func24, rfl⟩ fun s n ys p ho hg _ => ?_
 refine ⟨cGet, s.ini, .int true .i64 p, _, _, cGet_ok, rfl, rfl, tell_ini s, ⟨rfl, rfl⟩, hasG_run s n p ys, rfl, ⟨⟨ho, hg⟩, fun h => ⟨ho, hg, ?_⟩⟩, ?_⟩
 ·unfold mQ at h
  cases hr : rightS s ys with
  | true => exact right_rng hr
  | false => rw [hr] at h; cases h
 ·show (bif mQ s ys == 0 then hasS s p else false) = hasGB s ys p
  unfold hasGB mQ
  cases rightS s ys <;> rfl
def hL0 (zs : List Int) : Hp := hG.push0 (.rows .u8 zs)
end
end Go.Proofs.YtiigkjnhmipnfaaGreatDoor.K
namespace Go.Rd
open Go Go.Eng Go.Ar
def rHas5 (s : Su) (p : Int) : Bool := bif p == 10 then true else bif p == 16 then s.o != 0 else bif p == 17 then s.o != 0 else false
def rHasB (s : Su) (R : Bool) (p : Int) : Bool := bif !R then false else bif !(p == 9) && (!(s.kd == 1) && (!(s.kd == 2) && !(s.kd == 3))) then bif p == 1 then true else p == 10 else bif p == 9 then true else bif s.kd == 1 then bif p == 1 then true else bif p == 2 then true else bif decide (p ≥ 5) then bif decide (p < 9) then true else rHas5 s p else rHas5 s p else bif s.kd == 2 then bif decide (p ≥ 1) then bif decide (p ≤ 4) then true else p == 10 else p == 10 else bif decide (p ≥ 11) then decide (p ≤ 15) else false
theorem right_o {s : Su} {ys : List Int} (h : rightS s ys = true) : s.kd = 1 ∨ (s.kd = 2 ∨ s.kd = 3 ∨ s.kd = 4) ∧ s.o = 0 := by
 unfold rightS at h
 simp only [Bool.and_eq_true] at h
 have h := h.1.1.2
 unfold kindB at h
 simp only [Bool.or_eq_true, Bool.and_eq_true, beq_iff_eq] at h
 rcases h with ((h | h) | h) | h
 ·exact .inl h.1
 ·exact .inr ⟨.inl h.1, h.2.1.2⟩
 ·exact .inr ⟨.inr (.inl h.1), by simp_all⟩
 ·exact .inr ⟨.inr (.inr h.1), by simp_all⟩
theorem p_cases (p : Int) : (∃ k : Nat, k < 18 ∧ 1 ≤ k ∧ p = k) ∨ p < 1 ∨ 17 < p := by
 by_cases h : 1 ≤ p ∧ p ≤ 17
 ·exact .inl ⟨p.toNat, by omega, by omega, by omega⟩
 ·omega
theorem rHas_k (s : Su) (h : s.kd = 1 ∨ (s.kd = 2 ∨ s.kd = 3 ∨ s.kd = 4) ∧ s.o = 0) (k : Nat) (hk : k < 18) (h1 : 1 ≤ k) : rHasB s true k = hasS s k := by
 unfold rHasB rHas5 hasS plB
 rcases k with _ | _ | _ | _ | _ | _ | _ | _ | _ | _ | _ | _ | _ | _ | _ | _ | _ | _ | k
 ·omega
 all_goals first
  | omega
  | (
    rcases h with h | ⟨h | h | h, ho⟩
    ·rw [h]; rfl
    ·rw [h, ho]; rfl
    ·rw [h, ho]; rfl
    ·rw [h, ho]; rfl)
theorem rHas_o (s : Su) (h : s.kd = 1 ∨ (s.kd = 2 ∨ s.kd = 3 ∨ s.kd = 4) ∧ s.o = 0) (p : Int) (hp : p < 1 ∨ 17 < p) : rHasB s true p = hasS s p := by
 have e : ∀ k : Int, 1 ≤ k → k ≤ 17 → (p == k) = false := fun k a b => beq_eq_false_iff_ne.2 (by omega)
 unfold rHasB rHas5 hasS plB
 rw [e 1 (by decide) (by decide), e 2 (by decide) (by decide), e 3 (by decide) (by decide), e 4 (by decide) (by decide), e 5 (by decide) (by decide), e 6 (by decide) (by decide), e 7 (by decide) (by decide), e 8 (by decide) (by decide), e 9 (by decide) (by decide), e 10 (by decide) (by decide), e 11 (by decide) (by decide), e 12 (by decide) (by decide), e 13 (by decide) (by decide), e 14 (by decide) (by decide), e 15 (by decide) (by decide), e 16 (by decide) (by decide), e 17 (by decide) (by decide)]
 rcases hp with hp | hp
 ·rw [decide_eq_false (show ¬ p ≥ 5 by omega), decide_eq_false (show ¬ p ≥ 1 by omega), decide_eq_false (show ¬ p ≥ 11 by omega)]
  rcases h with h | ⟨h | h | h, ho⟩ <;> rw [h] <;> rfl
 ·rw [decide_eq_true (show p ≥ 5 by omega), decide_eq_false (show ¬ p < 9 by omega), decide_eq_true (show p ≥ 1 by omega), decide_eq_false (show ¬ p ≤ 4 by omega), decide_eq_true (show p ≥ 11 by omega), decide_eq_false (show ¬ p ≤ 15 by omega)]
  rcases h with h | ⟨h | h | h, ho⟩ <;> rw [h] <;> rfl
theorem rHas_eq (s : Su) (ys : List Int) (p : Int) : rHasB s (rightS s ys) p = (rightS s ys && hasS s p) := by
 cases hr : rightS s ys with
 | false => rfl
 | true =>
  rw [Bool.true_and]
  rcases p_cases p with ⟨k, hk, h1, rfl⟩ | hp
  ·exact rHas_k s (right_o hr) k hk h1
  ·exact rHas_o s (right_o hr) p hp
end Go.Rd
namespace Go.Proofs.YtiigkjnhmipnfaaGreatDoor.K
open Go Go.Eng Go.Ar Go.Rd
noncomputable section
def tblRH : List (FuncId × NSpec) := [(59, lSpec hG [.s suI .i64] (suV rightA))]
theorem tblRH_g : ∀ x ∈ tblRH, NOk Tryz.prog glob hG x.1 x.2 := by
 intro x hx
 simp only [tblRH, List.mem_cons, List.not_mem_nil, or_false] at hx
 subst hx
 exact rightA_ok
def cRH : Ctx := mkN Tryz.prog glob hG tblRH [] ext
theorem cRH_ok : CtxOk cRH := mkN_ok prog_ok ext_ok tblRH_g fun _ h => by cases h
theorem rhas_run (s : Su) (n p : Int) (ys : List Int) : rg1v cRH 25 s.ini n ys [.int true .i64 p] = some (.p (okF3 n ys ∧ s.g.size < 1000000000), .bool true (rHasB s (rightS s ys) p)) := by kernel_rfl
theorem rhas_ok : NOk Tryz.prog glob hG 25 (lSpec hG gP (suV1 (fun _ => True) fun s ys p => .bool true (hasGB s ys p))) := by
 refine su1_ok ⟨_, Tryz.func25, rfl⟩ fun s n ys p ho hg _ => ?_
 exact ⟨cRH, s.ini, .int true .i64 p, _, _, cRH_ok, rfl, rfl, tell_ini s, ⟨rfl, rfl⟩, rhas_run s n p ys, rfl, ⟨ho, hg⟩, rHas_eq s ys p⟩
def tblRG : List (FuncId × NSpec) := (25, lSpec hG gP (suV1 (fun _ => True) fun s ys p => .bool true (hasGB s ys p))) :: tblRH
theorem tblRG_g : ∀ x ∈ tblRG, NOk Tryz.prog glob hG x.1 x.2 := by
 intro x hx
 rcases List.mem_cons.1 hx with rfl | hx
 ·exact rhas_ok
 ·exact tblRH_g x hx
def cRG (l : List (Nat × Nat × Bool)) : Ctx := hinting (mkN Tryz.prog glob hG tblRG [] ext) (hT l)
theorem cRG_ok (l : List (Nat × Nat × Bool)) : CtxOk (cRG l) := hinting_ok (mkN_ok prog_ok ext_ok tblRG_g fun _ h => by cases h) _
def rnG (s : Su) (n : Int) (ys : List Int) : Prop := (okF3 n ys ∧ s.g.size < 1000000000) ∧ ((!!rightS s ys) = true → okF3 n ys ∧ s.g.size < 1000000000 ∧ True)
def RGetR (s : Su) (n : Int) (ys : List Int) (k : Nat) : Prop := rg1v (cRG []) 23 s.ini n ys [.int false .i64 k] = some (.p (rnG s n ys), .tuple [.int true .i64 (bif !rightS s ys then 0 else bif !hasGB s ys k then 0 else getF s k), .int true .i64 (bif !rightS s ys then 110 else bif !hasGB s ys k then 2 else 0)])
theorem rget_k (s : Su) (n : Int) (ys : List Int) : ∀ k : Nat, 1 ≤ k → k < 18 → RGetR s n ys k := fun k h0 h1 => match k, h0, h1 with
 | 1, _, _ => by unfold RGetR; kernel_rfl
 | 2, _, _ => by unfold RGetR; kernel_rfl
 | 3, _, _ => by unfold RGetR; kernel_rfl
 | 4, _, _ => by unfold RGetR; kernel_rfl
 | 5, _, _ => by unfold RGetR; kernel_rfl
 | 6, _, _ => by unfold RGetR; kernel_rfl
 | 7, _, _ => by unfold RGetR; kernel_rfl
 | 8, _, _ => by unfold RGetR; kernel_rfl
 | 9, _, _ => by unfold RGetR; kernel_rfl
 | 10, _, _ => by unfold RGetR; kernel_rfl
 | 11, _, _ => by unfold RGetR; kernel_rfl
 | 12, _, _ => by unfold RGetR; kernel_rfl
 | 13, _, _ => by unfold RGetR; kernel_rfl
 | 14, _, _ => by unfold RGetR; kernel_rfl
 | 15, _, _ => by unfold RGetR; kernel_rfl
 | 16, _, _ => by unfold RGetR; kernel_rfl
 | 17, _, _ => by unfold RGetR; kernel_rfl
 | k + 18, _, h => absurd h (by omega)
theorem rget_n (s : Su) (n p : Int) (ys : List Int) : rg1v (cRG [(13, 13, true)]) 23 s.ini n ys [.int true .i64 p] = some (.p ((okF3 n ys ∧ s.g.size < 1000000000) ∧ ((!!rightS s ys) = true → (okF3 n ys ∧ s.g.size < 1000000000 ∧ True) ∧ (!hasGB s ys p) = true)), .tuple [.int false .i64 0, .int true .i64 (bif !rightS s ys then 110 else 2)]) := by kernel_rfl
theorem rget_ok : NOk Tryz.prog glob hG 23 (lSpec hG gP (suV1 (fun _ => True) getV)) := by
 refine su1_ok ⟨_, Tryz.func23, rfl⟩ fun s n ys p ho hg _ => ?_
 by_cases hm : missS s ys p = 0
 ·obtain ⟨hr, hh, h1, h2⟩ := miss_0 hm
  obtain ⟨k, rfl⟩ : ∃ k : Nat, p = k := ⟨p.toNat, by omega⟩
  refine ⟨cRG [], s.ini, .int false .i64 k, _, _, cRG_ok _, rfl, rfl, tell_ini s, ⟨rfl, rfl⟩, rget_k s n ys k (by omega) (by omega), rfl, ⟨⟨ho, hg⟩, fun _ => ⟨ho, hg, trivial⟩⟩, ?_⟩
  have hb : hasGB s ys k = true := by unfold hasGB; rw [hr, hh]; rfl
  rw [hr, hb]
  refine ⟨⟨rfl, ?_⟩, ⟨rfl, hm.symm⟩, trivial⟩
  unfold getS
  rw [hm]
  rfl
 ·have hn : (!!rightS s ys) = true → (!hasGB s ys p) = true := fun h => by
   unfold hasGB
   unfold missS at hm
   cases hr : rightS s ys with
   | false => rfl
   | true =>
    rw [hr] at hm
    cases hh : hasS s p with
    | false => rfl
    | true => rw [hh] at hm; exact absurd rfl hm
  refine ⟨cRG [(13, 13, true)], s.ini, .int true .i64 p, _, _, cRG_ok _, rfl, rfl, tell_ini s, ⟨rfl, rfl⟩, rget_n s n p ys, rfl, ⟨⟨ho, hg⟩, fun h => ⟨⟨ho, hg, trivial⟩, hn h⟩⟩, ?_⟩
  refine ⟨⟨rfl, ?_⟩, ⟨rfl, ?_⟩, trivial⟩
  ·unfold getS
   rw [beq_eq_false_iff_ne.2 hm]
   rfl
  ·unfold missS at hm ⊢
   cases hr : rightS s ys with
   | false => rfl
   | true =>
    rw [hr] at hm
    cases hh : hasS s p with
    | false => rfl
    | true => rw [hh] at hm; exact absurd rfl hm
end
end Go.Proofs.YtiigkjnhmipnfaaGreatDoor.K
namespace Go.Proofs.YtiigkjnhmipnfaaGreatDoor.K
open Go Go.Eng Go.Ar Go.Rd
noncomputable section
def rightPV : List Itm → Option (Prop × AV) := fun its => match its with
 | [.s xs n ys] => match suOf xs with
  | some s => some (okF3 n ys ∧ s.g.size < 1000000000, rightA s ys)
  | none => none
 | _ => none
theorem rightP_ok : NOk Tryz.prog glob hG 59 (vSpec hG [.s suI .i64] rightPV) := by
 refine vSpec_ok hG_ok hG_plain glob_lt rightA_ok fun its p v e hp => ?_
 unfold rightPV at e
 split at e
 ·rename_i xs n ys
  split at e
  ·rename_i s hs
   cases e
   obtain rfl := suOf_eq hs
   exact ⟨_, by simp only [suV, hs], hp, rfl, ⟨okF3_emp hp.1, trivial⟩, rfl, ⟨_, rfl⟩, rfl, rfl⟩
  ·cases e
 ·cases e
def hasPV : List Itm → Option (Prop × AV) := fun its => match its with
 | [.s xs n ys, .n [.n p]] => match suOf xs with
  | some s => some (okF3 n ys ∧ s.g.size < 1000000000 ∧ True, .bool true (hasGB s ys p))
  | none => none
 | _ => none
theorem hasP_ok : NOk Tryz.prog glob hG 25 (vSpec hG gP hasPV) := by
 refine vSpec_ok hG_ok hG_plain glob_lt rhas_ok fun its p v e hp => ?_
 unfold hasPV at e
 split at e
 ·rename_i xs n ys q
  split at e
  ·rename_i s hs
   cases e
   obtain rfl := suOf_eq hs
   exact ⟨_, by simp only [suV1, hs], hp, rfl, ⟨okF3_emp hp.1, trivial⟩, rfl, ⟨_, rfl⟩, rfl, rfl⟩
  ·cases e
 ·cases e
def tblRP : List (FuncId × NSpec) := [(59, vSpec hG [.s suI .i64] rightPV), (25, vSpec hG gP hasPV)]
theorem tblRP_g : ∀ x ∈ tblRP, NOk Tryz.prog glob hG x.1 x.2 := by
 intro x hx
 simp only [tblRP, List.mem_cons, List.not_mem_nil, or_false] at hx
 rcases hx with rfl | rfl
 ·exact rightP_ok
 ·exact hasP_ok
def cRP (l : List (Nat × Nat × Bool)) : Ctx := hinting (mkN Tryz.prog glob hG tblRP [] ext) (hT l)
theorem cRP_ok (l : List (Nat × Nat × Bool)) : CtxOk (cRP l) := hinting_ok (mkN_ok prog_ok ext_ok tblRP_g fun _ h => by cases h) _
def rgp (C : Ctx) (f : FuncId) (s : Su) (n : Nat) (ys : List Int) (rest : List AV) : Option (Nd × List AV × Nat × List Int × AV) := outT (hG.size + 1) hG.clock 2 .i64 ((run C 1000).call f (.agg (s.ini ++ [.pslice hG.size n false n]) :: rest) (viewsH false hG [(.i64, ys)]))
end
end Go.Proofs.YtiigkjnhmipnfaaGreatDoor.K
