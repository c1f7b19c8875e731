/- What is proved: SurfaceSets returns true, whatever the input (part 3 of 31). No conditions beyond those of the row. -/
import Derived.Test.YtiigkjnhmipnfaaGreatDoorPB
set_option linter.unusedVariables false
set_option linter.unusedSimpArgs false
set_option linter.unusedSectionVars false
namespace Go.Eng
theorem add_lit (B o n : Nat) : (⟨B, o, none⟩ : Addr).add n = ⟨B, o + n, none⟩ := by unfold Addr.add; split <;> simp_all
theorem bound_ok {len : Nat} {s : Bool} {i : Int} {nd : Nd} {j : Nat} (e : boundV len s i = some (nd, j)) (hn : nd.val) : (0 ≤ i ∧ i < len) ∧ j = i.toNat := by
 unfold boundV at e
 split at e
 ·split at e
  ·rename_i h; cases e; exact ⟨h, rfl⟩
  ·cases e
 ·cases e; exact ⟨hn, rfl⟩
theorem indexAddr_ok {P : Program} {σ : Sg} {t : TypeId} {x ix v : AV} {X I : Value} (hx : VRel σ x X) (hi : VRel σ ix I) {nd : Nd} (e : indexAddrV P t x ix = some (nd, v)) (hn : nd.val) (W : World) :
  ∃ V, (Instr.indexAt t X I).run P W = .ok V W ∧ VRel σ v V := by
 unfold indexAddrV at e
 split at e
 ·rename_i s k i
  obtain rfl := hi
  split at e
  ·rename_i len elem id off hu
   obtain ⟨B, N, hσ, rfl⟩ := hx
   split at e
   ·rename_i n q j hsz hb
    have main : ∀ nd', nd' = nd → q = nd → ∃ V, (Instr.indexAt t (.pointer (some ⟨B, off, none⟩)) (.int k i)).run P W = .ok V W ∧ V = .pointer (some ⟨B, off + j * n, none⟩) := by
     intro _ _ hq
     subst hq
     obtain ⟨h1, rfl⟩ := bound_ok hb hn
     exact ⟨_, by simp [Instr.indexAt, asIntOf, run_underlying hu, Instr.sureAddr, h1.1, h1.2, run_sizeT hsz, add_lit]; rfl, by rfl⟩
    split at e <;> cases e
    ·obtain ⟨V, h1, rfl⟩ := main _ rfl rfl
     exact ⟨_, h1, by simp only [addOff, forceNat_eq]; exact ⟨B, N, hσ, rfl⟩⟩
    ·obtain ⟨V, h1, rfl⟩ := main _ rfl rfl
     exact ⟨_, h1, B, N, hσ, rfl⟩
   ·cases e
  ·rename_i elem id off len cap hu
   obtain ⟨B, N, hσ, rfl⟩ := hx
   split at e
   ·rename_i n q j hsz hb
    have main : ∀ nd', nd' = nd → q = nd → ∃ V, (Instr.indexAt t (.slice (some ⟨B, off, none⟩) len cap) (.int k i)).run P W = .ok V W ∧ V = .pointer (some ⟨B, off + j * n, none⟩) := by
     intro _ _ hq
     subst hq
     obtain ⟨h1, rfl⟩ := bound_ok hb hn
     exact ⟨_, by simp [Instr.indexAt, asIntOf, run_underlying hu, h1.1, h1.2, run_sizeT hsz, add_lit]; rfl, by rfl⟩
    split at e <;> cases e
    ·obtain ⟨V, h1, rfl⟩ := main _ rfl rfl
     exact ⟨_, h1, by simp only [addOff, forceNat_eq]; exact ⟨B, N, hσ, rfl⟩⟩
    ·obtain ⟨V, h1, rfl⟩ := main _ rfl rfl
     exact ⟨_, h1, B, N, hσ, rfl⟩
   ·cases e
  ·rename_i elem id len hu
   obtain ⟨B, N, c, hσ, rfl⟩ := hx
   split at e
   ·rename_i n q j hsz hb
    have main : ∀ nd', nd' = nd → q = nd → ∃ V, (Instr.indexAt t (.slice (some ⟨B, N, none⟩) len c) (.int k i)).run P W = .ok V W ∧ V = .pointer (some ⟨B, N + j * n, none⟩) := by
     intro _ _ hq
     subst hq
     obtain ⟨h1, rfl⟩ := bound_ok hb hn
     exact ⟨_, by simp [Instr.indexAt, asIntOf, run_underlying hu, h1.1, h1.2, run_sizeT hsz, add_lit]; rfl, by rfl⟩
    split at e <;> cases e
    ·obtain ⟨V, h1, rfl⟩ := main _ rfl rfl
     exact ⟨_, h1, by simp only [forceNat_eq]; exact ⟨B, N, hσ, rfl⟩⟩
    ·obtain ⟨V, h1, rfl⟩ := main _ rfl rfl
     exact ⟨_, h1, B, N, hσ, rfl⟩
   ·cases e
  ·rename_i elem id l sn n' hu
   obtain ⟨p, len, c, rfl, hn', hle, hp⟩ := hx
   split at e
   ·split at e
    ·rename_i n q j hsz hb
     cases e
     obtain ⟨h1, rfl⟩ := bound_ok hb hn
     have hl0 : l ≠ 0 := by omega
     rcases hp with hp | ⟨B, N, hσ, rfl⟩
     ·exact absurd hp hl0
     ·have h2 : i < (len : Int) := by omega
      exact ⟨.pointer (some ⟨B, N + i.toNat * n, none⟩), by simp [Instr.indexAt, asIntOf, run_underlying hu, h1.1, h2, run_sizeT hsz, add_lit], by simp only [forceNat_eq]; exact ⟨B, N, hσ, rfl⟩⟩
    ·cases e
   ·cases e
  ·rename_i elem id off len ee hu
   obtain ⟨B, N, qo, c, hσ, rfl, hq, hc⟩ := hx
   split at e
   ·rename_i n q j hsz hb
    split at e
    ·rename_i hne; subst hne
     have main : ∀ nd', nd' = nd → q = nd → ∃ V, (Instr.indexAt t (.slice (some ⟨B, qo, none⟩) len c) (.int k i)).run P W = .ok V W ∧ V = .pointer (some ⟨B, off + j * n, none⟩) := by
      intro _ _ hq'
      subst hq'
      obtain ⟨h1, rfl⟩ := bound_ok hb hn
      obtain ⟨rfl, _⟩ := hq (by omega)
      exact ⟨_, by simp [Instr.indexAt, asIntOf, run_underlying hu, h1.1, h1.2, run_sizeT hsz, add_lit]; rfl, by rfl⟩
     split at e <;> cases e
     ·obtain ⟨V, h1, rfl⟩ := main _ rfl rfl
      exact ⟨_, h1, by simp only [addOff, forceNat_eq]; exact ⟨B, N, hσ, rfl⟩⟩
     ·obtain ⟨V, h1, rfl⟩ := main _ rfl rfl
      exact ⟨_, h1, B, N, hσ, rfl⟩
    ·cases e
   ·cases e
  ·cases e
 ·cases e
theorem index_ok {P : Program} {σ : Sg} {t : TypeId} {x ix v : AV} {X I : Value} (hx : VRel σ x X) (hi : VRel σ ix I) (e : indexV P t x ix = some v) (W : World) :
  ∃ V, (Instr.index t X I).run P W = .ok V W ∧ VRel σ v V := by
 unfold indexV at e
 split at e
 ·rename_i k i cs
  obtain rfl := hi
  obtain ⟨K, rfl, hK⟩ := hx
  split at e
  ·rename_i len elem hu
   split at e
   ·cases e
   ·rename_i n hsz
    split at e
    ·rename_i hb
     obtain ⟨V, h1, h2⟩ := part_ok (P := P) hK e W
     have : K.toList.toArray = K := by simp
     rw [this] at h1
     exact ⟨V, by simp [Instr.index, asIntOf, run_underlying hu, hb.1, hb.2, run_sizeT hsz, h1], h2⟩
    ·cases e
  ·cases e
 ·rename_i k i b
  obtain rfl := hi
  obtain rfl := hx
  split at e
  ·rename_i hu
   split at e
   ·rename_i hb
    split at e
    ·rename_i c hc
     cases e
     have hs : b[i.toNat]? = some c := by
      have hl : i.toNat < b.size := by
       rcases Nat.lt_or_ge i.toNat b.size with h | h
       ·exact h
       ·have : b.data.toList.length ≤ i.toNat := h
        rw [List.getElem?_eq_none this] at hc; cases hc
      rw [getElem?_pos b i.toNat hl]
      have : b.data.toList[i.toNat]? = some b[i.toNat] := by
       rw [List.getElem?_eq_getElem (by exact hl)]; rfl
      rw [this] at hc; exact hc
     exact ⟨.int .u8 c.toNat, by simp [Instr.index, asIntOf, run_underlying hu, hb, hs], rfl⟩
    ·cases e
   ·cases e
  ·cases e
 ·cases e
theorem field_ok {P : Program} {σ : Sg} {t : TypeId} {x v : AV} {X : Value} {f : Nat} (hx : VRel σ x X) (e : fieldV P t x f = some v) (W : World) :
  ∃ V, (Instr.field t X f).run P W = .ok V W ∧ VRel σ v V := by
 unfold fieldV at e
 split at e
 ·rename_i fs cs hu
  obtain ⟨K, rfl, hK⟩ := hx
  split at e
  ·cases e
  ·rename_i fd hf
   obtain ⟨V, h1, h2⟩ := part_ok (P := P) hK e W
   have : K.toList.toArray = K := by simp
   rw [this] at h1
   exact ⟨V, by simp [Instr.field, run_underlying hu, hf, asAgg, h1], h2⟩
 ·cases e
theorem fieldAddr_ok {P : Program} {σ : Sg} {t : TypeId} {x v : AV} {X : Value} {f : Nat} (hx : VRel σ x X) (e : fieldAddrV P t x f = some v) (W : World) :
  ∃ V, (Instr.fieldAt t X f).run P W = .ok V W ∧ VRel σ v V := by
 unfold fieldAddrV at e
 split at e
 ·rename_i fs id off hu
  obtain ⟨B, N, hσ, rfl⟩ := hx
  split at e
  ·cases e
  ·rename_i fd hf
   split at e
   ·rename_i m hsz
    cases e
    refine ⟨.pointer (some ⟨B, off + fd.offset, none⟩), by simp [Instr.fieldAt, run_underlying hu, hf, Instr.sureAddr, fieldPlace, run_sizeT hsz, add_lit], ?_⟩
    simp only [addOff, forceNat_eq]; exact ⟨B, N, hσ, rfl⟩
   ·cases e
 ·cases e
theorem nilCheck_ok {P : Program} {σ : Sg} {h : Hp} {W : World} (r : HRel σ h W) {a : AV} {A : Value} (ha : VRel σ a A) {q : S1} (e : opNilCheck h a = some q) {T : Array Value} {x : Operand} (hx : ev T x = A) {o : Oper} (ho : o.op = .nilCheck x) :
  OpOk P (execOp (ev T) o) σ h W q := by
 unfold opNilCheck at e
 split at e
 ·cases e
  obtain ⟨B, N, hσ, rfl⟩ := ha
  exact OpOk.pure r fun _ => ⟨_, by simp [execOp, ho, hx], B, N, hσ, rfl⟩
 ·cases e
  obtain ⟨F, K, rfl, h1, h2⟩ := ha
  exact OpOk.pure r fun _ => ⟨_, by simp [execOp, ho, hx], F, K, rfl, h1, h2⟩
 ·cases e
theorem extract_ok {P : Program} {σ : Sg} {h : Hp} {W : World} (r : HRel σ h W) {a : AV} {A : Value} (ha : VRel σ a A) {i : Nat} {q : S1} (e : opExtract h a i = some q) :
  OpOk P (do pure (.value (← Instr.extract A i))) σ h W q := by
 unfold opExtract at e
 split at e
 ·rename_i l
  obtain ⟨v, h1, rfl⟩ := plain1_some e
  obtain ⟨K, rfl, hK⟩ := ha
  obtain ⟨V, h2, h3⟩ := VRels.nth hK h1
  have h2' : K[i]? = some V := by simpa using h2
  exact OpOk.pure r fun _ => ⟨V, by simp [Instr.extract, h2'], h3⟩
 ·cases e
def ORel (σ : Sg) (a : Option AV) (A : Option Value) : Prop := match a, A with
 | none, none => True
 | some a, some A => VRel σ a A
 | _, _ => False
theorem evalO_rel {C : Ctx} {σ : Sg} {s : St} {T : Array Value} (g : GRel C σ) (h : TRel σ s.tmps T) (x : Option Operand) : ORel σ (evalO C s x) (x.map (ev T)) := by
 cases x with
 | none => trivial
 | some x => exact evalA_rel g h x
theorem boundA_ok {P : Program} {σ : Sg} {y n : Nat} {a : AV} {A : Value} (e : boundA y a = some n) (h : VRel σ a A) (code : BoundsCode) (W : World) :
  (Instr.sliceBound A y code).run P W = .ok n W ∧ n ≤ y := by
 unfold boundA at e
 split at e
 ·rename_i k i
  obtain rfl := h
  split at e
  ·rename_i hb
   cases e
   have hb := of_decide_eq_true hb
   exact ⟨by simp [Instr.sliceBound, asIntOf, hb.1, hb.2], by omega⟩
  ·cases e
 ·cases e
theorem bounds_ok {P : Program} {σ : Sg} {len cap l h m : Nat} {lo hi mx : Option AV} {L H M : Option Value} (hl : ORel σ lo L) (hh : ORel σ hi H) (hm : ORel σ mx M) (e : boundsA len cap lo hi mx = some (l, h, m)) (q : Bool) (W : World) :
  (Instr.sliceBounds q len cap L H M).run P W = .ok (l, h, m) W ∧ l ≤ h ∧ (h = len ∨ h ≤ m) ∧ m ≤ cap := by
 unfold boundsA at e
 split at e
 ·cases e
 ·rename_i m' hm1
  split at e
  ·cases e
  ·rename_i h' hh1
   split at e
   ·cases e
   ·rename_i l' hl1
    simp only [Option.some.injEq, Prod.mk.injEq] at e
    obtain ⟨rfl, rfl, rfl⟩ := e
    unfold Instr.sliceBounds
    cases mx with
    | none =>
     cases M with
     | some M => exact hm.elim
     | none =>
      simp only [boundMx, Option.some.injEq] at hm1
      subst hm1
      cases hi with
      | none =>
       cases H with
       | some H => exact hh.elim
       | none =>
        simp only [boundHi, Option.some.injEq] at hh1
        subst hh1
        cases lo with
        | none =>
         cases L with
         | some L => exact hl.elim
         | none =>
          simp only [boundLo, Option.some.injEq] at hl1
          subst hl1
          exact ⟨by simp, Nat.zero_le _, .inl rfl, Nat.le_refl _⟩
        | some lo =>
         cases L with
         | none => exact hl.elim
         | some L =>
          obtain ⟨h1, h2⟩ := boundA_ok (P := P) hl1 hl .sliceB W
          exact ⟨by simp [h1], h2, .inl rfl, Nat.le_refl _⟩
      | some hi =>
       cases H with
       | none => exact hh.elim
       | some H =>
        have hq := fun c => boundA_ok (P := P) hh1 hh c W
        cases lo with
        | none =>
         cases L with
         | some L => exact hl.elim
         | none =>
          simp only [boundLo, Option.some.injEq] at hl1
          subst hl1
          exact ⟨by simp [(hq _).1], Nat.zero_le _, .inr (hq .index).2, Nat.le_refl _⟩
        | some lo =>
         cases L with
         | none => exact hl.elim
         | some L =>
          obtain ⟨h1, h2⟩ := boundA_ok (P := P) hl1 hl .sliceB W
          exact ⟨by simp [(hq _).1, h1], h2, .inr (hq .index).2, Nat.le_refl _⟩
    | some mx =>
     cases M with
     | none => exact hm.elim
     | some M =>
      have hq1 := fun c => boundA_ok (P := P) (show boundA cap mx = some m' from hm1) hm c W
      cases hi with
      | none => simp [boundHi] at hh1
      | some hi =>
       cases H with
       | none => exact hh.elim
       | some H =>
        have hq := fun c => boundA_ok (P := P) hh1 hh c W
        cases lo with
        | none =>
         cases L with
         | some L => exact hl.elim
         | none =>
          simp only [boundLo, Option.some.injEq] at hl1
          subst hl1
          exact ⟨by simp [(hq1 _).1, (hq _).1], Nat.zero_le _, .inr (hq .index).2, (hq1 .index).2⟩
        | some lo =>
         cases L with
         | none => exact hl.elim
         | some L =>
          have hq2 := fun c => boundA_ok (P := P) hl1 hl c W
          exact ⟨by simp [(hq1 _).1, (hq _).1, (hq2 _).1], (hq2 .index).2, .inr (hq .index).2, (hq1 .index).2⟩
theorem beq_bif {α : Type} (m l : Nat) (x y : α) : (bif Nat.beq m l then x else y) = if m = l then x else y := by
 by_cases h : m = l
 ·subst h; simp
 ·have : Nat.beq m l = false := by rw [Bool.eq_false_iff]; intro e; exact h (Nat.eq_of_beq_eq_true e)
  rw [this, if_neg h]; rfl
theorem slice_ok {P : Program} {σ : Sg} {t : TypeId} {x v : AV} {X : Value} {lo hi mx : Option AV} {L H M : Option Value} (hx : VRel σ x X) (hl : ORel σ lo L) (hh : ORel σ hi H) (hm : ORel σ mx M) (e : sliceV P t x lo hi mx = some v) (W : World) :
  ∃ V, (Instr.sliceAt t X L H M).run P W = .ok V W ∧ VRel σ v V := by
 unfold sliceV at e
 split at e
 ·rename_i elem hu
  split at e
  ·cases e
  ·rename_i n hsz
   split at e
   ·rename_i id off len cap
    obtain ⟨B, N, hσ, rfl⟩ := hx
    split at e
    ·cases e
    ·rename_i l h m hb
     cases e
     obtain ⟨h1, _⟩ := bounds_ok (P := P) hl hh hm hb true W
     refine ⟨.slice (some (if m = l then ⟨B, off, none⟩ else ⟨B, off + l * n, none⟩)) (h - l) (m - l), by simp [Instr.sliceAt, Instr.slice, run_underlying hu, h1, run_sizeT hsz, add_lit]; split <;> rfl, ?_⟩
     simp only [forceNat_eq, beq_bif]
     refine ⟨B, N, hσ, ?_⟩
     split <;> rfl
   ·rename_i id off len ee
    obtain ⟨B, N, qo, c, hσ, rfl, hq, hc⟩ := hx
    split at e
    ·rename_i mxv
     split at e
     ·cases e
     ·rename_i l h m hb
      split at e
      ·rename_i hne
       rw [Bool.and_eq_true] at hne
       obtain rfl := Nat.eq_of_beq_eq_true hne.1
       have h0 : 0 < len := Nat.le_of_ble_eq_true hne.2
       cases e
       obtain ⟨rfl, _⟩ := hq (by omega)
       have hb' : boundsA len c lo hi (some mxv) = some (l, h, m) := by
        have : boundA c mxv = boundA len mxv ∨ boundA len mxv = none := by
         unfold boundA
         split
         ·rename_i k i
          by_cases h1 : 0 ≤ i ∧ i ≤ len
          ·left
           have h2 : 0 ≤ i ∧ i ≤ c := ⟨h1.1, by omega⟩
           simp [h1, h2]
          ·right
           simp only [h1, decide_false]
         ·right; rfl
        simp only [boundsA, boundMx] at hb ⊢
        rcases this with h1 | h1
        ·rw [h1]; exact hb
        ·rw [h1] at hb; cases hb
       obtain ⟨h1, _⟩ := bounds_ok (P := P) hl hh hm hb' true W
       refine ⟨.slice (some (if m = l then ⟨B, qo, none⟩ else ⟨B, qo + l * n, none⟩)) (h - l) (m - l), by simp [Instr.sliceAt, Instr.slice, run_underlying hu, h1, run_sizeT hsz, add_lit]; split <;> rfl, ?_⟩
       simp only [forceNat_eq, beq_bif]
       refine ⟨B, N, hσ, ?_⟩
       split <;> rfl
      ·cases e
    ·split at e
     ·cases e
     ·rename_i l h m hb
      split at e
      ·rename_i hne
       obtain rfl := Nat.eq_of_beq_eq_true hne
       cases e
       obtain ⟨_, hlh, hhm, hmc⟩ := bounds_ok (P := P) hl hh hm hb true W
       cases M with
       | some M => exact hm.elim
       | none =>
        have hb' : boundsA len c lo hi none = some (l, h, c) := by
         simp only [boundsA, boundMx] at hb ⊢
         cases hi with
         | none =>
          simp only [boundHi] at hb ⊢
          cases hlo : boundLo len lo with
          | none => rw [hlo] at hb; cases hb
          | some l' => rw [hlo] at hb; simp at hb ⊢; exact ⟨hb.1, hb.2.1⟩
         | some hi =>
          simp only [boundHi] at hb ⊢
          have : boundA c hi = boundA len hi ∨ boundA len hi = none := by
           unfold boundA
           split
           ·rename_i k i
            by_cases h1 : 0 ≤ i ∧ i ≤ len
            ·left
             have h2 : 0 ≤ i ∧ i ≤ c := ⟨h1.1, by omega⟩
             simp [h1, h2]
            ·right
             simp only [h1, decide_false]
           ·right; rfl
          rcases this with h1 | h1
          ·rw [h1]
           cases hq1 : boundA len hi with
           | none => rw [hq1] at hb; cases hb
           | some h' =>
            rw [hq1] at hb
            simp only at hb ⊢
            cases hlo : boundLo h' lo with
            | none => rw [hlo] at hb; cases hb
            | some l' => rw [hlo] at hb; simp at hb ⊢; exact ⟨hb.1, hb.2.1⟩
          ·rw [h1] at hb; cases hb
        obtain ⟨h1, _⟩ := bounds_ok (P := P) hl hh hm hb' true W
        refine ⟨.slice (some (if c = l then ⟨B, qo, none⟩ else ⟨B, qo + l * n, none⟩)) (h - l) (c - l), by simp [Instr.sliceAt, Instr.slice, run_underlying hu, h1, run_sizeT hsz, add_lit]; split <;> rfl, ?_⟩
        simp only [forceNat_eq]
        have hm' : m = len := by
         simp only [boundsA, boundMx] at hb
         split at hb
         ·cases hb
         ·split at hb
          ·cases hb
          ·simp at hb; exact hb.2.2.symm
        by_cases hcl : c = l
        ·rw [if_pos hcl]
         refine ⟨B, N, qo, c - l, hσ, rfl, fun h0 => by omega, by omega⟩
        ·rw [if_neg hcl]
         refine ⟨B, N, qo + l * n, c - l, hσ, rfl, fun h0 => ?_, by omega⟩
         obtain ⟨rfl, h4⟩ := hq (by omega)
         refine ⟨rfl, ?_⟩
         have : (c - l) * n = c * n - l * n := Nat.sub_mul c l n
         have : l * n ≤ c * n := Nat.mul_le_mul_right n (by omega)
         omega
      ·cases e
   ·obtain rfl := hx
    split at e
    ·cases e
    ·rename_i w hb
     obtain ⟨l, h, m⟩ := w
     cases e
     obtain ⟨h1, h2, h3, h4⟩ := bounds_ok (P := P) hl hh hm hb true W
     obtain rfl : m = 0 := by omega
     obtain rfl : h = 0 := by omega
     obtain rfl : l = 0 := by omega
     exact ⟨.slice none 0 0, by simp [Instr.sliceAt, Instr.slice, run_underlying hu, h1, run_sizeT hsz], rfl⟩
   ·cases e
 ·rename_i len elem hu
  split at e
  ·cases e
  ·rename_i n hsz
   split at e
   ·rename_i id off
    obtain ⟨B, N, hσ, rfl⟩ := hx
    split at e
    ·cases e
    ·rename_i l h m hb
     cases e
     obtain ⟨h1, _⟩ := bounds_ok (P := P) hl hh hm hb false W
     refine ⟨.slice (some (if m = l then ⟨B, off, none⟩ else ⟨B, off + l * n, none⟩)) (h - l) (m - l), by simp [Instr.sliceAt, Instr.sureAddr, run_underlying hu, h1, run_sizeT hsz, add_lit], ?_⟩
     simp only [forceNat_eq, beq_bif]
     refine ⟨B, N, hσ, ?_⟩
     split <;> rfl
   ·cases e
 ·rename_i hu
  split at e
  ·obtain rfl := hx
   split at e
   ·cases e
   ·split at e
    ·cases e
    ·rename_i l h m hb
     cases e
     cases M with
     | some M => exact hm.elim
     | none =>
      obtain ⟨h1, _⟩ := bounds_ok (P := P) hl hh hm hb false W
      exact ⟨_, by simp [Instr.sliceAt, Instr.slice, run_underlying hu, h1], rfl⟩
  ·cases e
 ·cases e
def plainO : Option AV → Option AV
 | some (.int _ k i) => some (.int false k i)
 | x => x
theorem plainO_rel {σ : Sg} {a : Option AV} {A : Option Value} (h : ORel σ a A) : ORel σ (plainO a) A := by
 unfold plainO
 split
 ·cases A with
  | none => exact h
  | some A => exact h
 ·exact h
theorem boundA_plain {y : Nat} {k : IntKind} {i : Int} (h0 : 0 ≤ i) (h1 : i ≤ y) : boundA y (.int false k i) = some i.toNat := by
 simp only [boundA, h0, h1, and_self, decide_true]
theorem index_okN {P : Program} {σ : Sg} {t : TypeId} {x ix v : AV} {nd : Nd} {X I : Value} (hx : VRel σ x X) (hi : VRel σ ix I) (e : indexN P t x ix = some (nd, v)) (hn : nd.val) (W : World) :
  ∃ V, (Instr.index t X I).run P W = .ok V W ∧ VRel σ v V := by
 unfold indexN at e
 split at e
 ·rename_i v' h
  cases e
  exact index_ok hx hi h W
 ·split at e
  ·rename_i s k i _
   split at e
   ·rename_i s' b _
    split at e
    ·rename_i hu
     cases e
     obtain ⟨h0, h1⟩ := hn
     have hl : i.toNat < b.data.toList.length := by
      have : b.data.toList.length = b.size := rfl
      omega
     have e2 : indexV P t (.str false b) (.int false k i) = some (.int false .u8 (b.data.toList.getD i.toNat 0).toNat) := by
      have e3 : b.data.toList[i.toNat]? = some (b.data.toList.getD i.toNat 0) := by
       rw [List.getD_eq_getElem?_getD, List.getElem?_eq_getElem hl]; rfl
      simp only [indexV, hu, h0, if_true, e3]
     exact index_ok (σ := σ) (x := .str false b) (ix := .int false k i) hx hi e2 W
    ·cases e
   ·cases e
  ·cases e
theorem slice_okN {P : Program} {σ : Sg} {t : TypeId} {x v : AV} {nd : Nd} {X : Value} {lo hi mx : Option AV} {L H M : Option Value} (hx : VRel σ x X) (hl : ORel σ lo L) (hh : ORel σ hi H) (hm : ORel σ mx M) (e : sliceN P t x lo hi mx = some (nd, v)) (hn : nd.val) (W : World) :
  ∃ V, (Instr.sliceAt t X L H M).run P W = .ok V W ∧ VRel σ v V := by
 unfold sliceN at e
 split at e
 ·rename_i v' h
  cases e
  exact slice_ok hx hl hh hm h W
 ·split at e
  ·cases e
  ·split at e
   ·rename_i s b _
    split at e
    ·rename_i hu
     split at e
     ·cases e
     ·rename_i l hlo
      split at e
      ·cases e
      ·rename_i h hhi
       cases e
       obtain ⟨h0, h1, h2⟩ := hn
       have e2 : sliceV P t (.str false b) (plainO lo) (plainO hi) none = some (.str false (b.extract l.toNat h.toNat)) := by
        have q1 : boundHi b.size b.size none (plainO hi) = some h.toNat := by
         unfold bndN at hhi
         split at hhi
         ·cases hhi; rfl
         ·cases hhi
          simp only [plainO, boundHi]
          exact boundA_plain (by omega) h2
         ·cases hhi
        have q2 : boundLo h.toNat (plainO lo) = some l.toNat := by
         unfold bndN at hlo
         split at hlo
         ·cases hlo; rfl
         ·cases hlo
          simp only [plainO, boundLo]
          exact boundA_plain h0 (by omega)
         ·cases hlo
        simp only [sliceV, hu, boundsA, boundMx, q1, q2]
       exact slice_ok (σ := σ) (x := .str false b) hx (plainO_rel hl) (plainO_rel hh) hm e2 W
    ·cases e
   ·cases e
end Go.Eng
namespace Go.Eng
theorem HRel.world {σ : Sg} {h : Hp} {W V : World} (r : HRel σ h W) (e : V.heap = W.heap) : HRel σ h V :=
 ⟨r.ok, fun i b hg hd => let ⟨B, N, o, h1, h2, h3⟩ := r.blk i b hg hd; ⟨B, N, o, h1, by rw [e]; exact h2, h3⟩, fun i B N h => by rw [e]; exact r.dom i B N h, r.inj⟩
theorem Good.drew {σ : Sg} {h : Hp} {W : World} (r : HRel σ h W) : Good σ h W σ h W.drew :=
 ⟨Sub.refl _, fun _ _ e _ => e, ⟨rfl, rfl, rfl, Nat.le_refl _, fun _ => rfl⟩, Mon.refl _, fun i B N e hi _ => absurd (r.dom i B N e).1 (Nat.not_lt.2 hi), fun _ _ _ _ => rfl⟩
theorem HRel.kill {σ : Sg} {h : Hp} {W : World} (r : HRel σ h W) {i : Nat} {b : ABlk} (hg : h.get i = some b) (hnl : ∀ c, b.body ≠ .loop c) : HRel σ (h.put i .dead) W ∧ Good σ h W σ (h.put i .dead) W := by
 have hi := Hp.get_lt hg
 refine ⟨⟨Hp.ok_put r.ok i _, ?_, fun j B M e => r.dom j B M e, ?_⟩, ⟨Sub.refl _, fun _ _ e _ => e, Ext.refl _, Mon.put r.ok hg _ (loopKept_of hnl), fun j B M e hj _ => absurd (r.dom j B M e).1 (Nat.not_lt.2 hj), fun _ _ _ _ => rfl⟩⟩
 ·intro j c e hd
  rw [Hp.get_put r.ok i j hi] at e
  by_cases hj : j = i
  ·simp only [hj, if_true, Option.some.injEq] at e
   subst e; cases hd
  ·simp only [hj, if_false] at e
   exact r.blk j c e hd
 ·intro j k c e B' M K q1 q2 q3 q4 q5 q6
  rw [Hp.get_put r.ok i j hi] at q1
  rw [Hp.get_put r.ok i k hi] at q2
  by_cases hj : j = i
  ·simp only [hj, if_true, Option.some.injEq] at q1
   subst q1; cases q3
  ·by_cases hk : k = i
   ·simp only [hk, if_true, Option.some.injEq] at q2
    subst q2; cases q4
   ·simp only [hj, hk, if_false] at q1 q2
    exact r.inj j k c e B' M K q1 q2 q3 q4 q5 q6
theorem HRel.move {σ : Sg} {h : Hp} {W V : World} (r : HRel σ h W) {i B N : Nat} {b : ABlk} (hg : h.get i = some b) (hl : b.body.isDead = false) (hnl : ∀ c, b.body ≠ .loop c) (hσ : σ i = some (B, N)) (d : ABody) (o : Obj)
  (ho : V.heap[B]? = some o) (hb : BRel (σ.add h.size (B, N)) N d o) (hsz : V.heap.size = W.heap.size) (hold : ∀ k, k ≠ B → V.heap[k]? = W.heap[k]?) (h1 : V.os = W.os) (h2 : V.tape = W.tape) (h3 : V.output = W.output) (hc : coldO o := by intro _ _ _ h; first | (cases h; rfl) | cases h) (hnv : b.body.isView = false := by rfl) :
  HRel (σ.add h.size (B, N)) ((h.put i .dead).push d) V ∧ Good σ h W (σ.add h.size (B, N)) ((h.put i .dead).push d) V := by
 have hi := Hp.get_lt hg
 have hfz : ∀ a, V.frozen? a = W.frozen? a := fun a => by
  by_cases h : a.block = B
  ·obtain ⟨B', N', o', q1, q2, q3⟩ := r.blk i b hg hl
   rw [hσ] at q1; cases q1
   rw [cold_frozen (by rw [h]; exact ho) hc, cold_frozen (by rw [h]; exact q2) (coldO_of q3 hl hnv)]
  ·unfold World.frozen?
   rw [hold _ h]
 have hs := Sub.add (x := (B, N)) r.fresh
 have hB := (r.dom _ _ _ hσ).2
 have hget : ∀ j, ((h.put i .dead).push d).get j = if j = h.size then some ⟨h.clock, d⟩ else if j = i then some ⟨h.clock, .dead⟩ else h.get j := by
  intro j
  rw [Hp.get_push, Hp.get_put r.ok i j hi]; rfl
 refine ⟨⟨Hp.ok_push (Hp.ok_put r.ok i _) d, ?_, ?_, ?_⟩, ⟨hs, ?_, ⟨h1, h2, h3, by omega, hfz⟩, ⟨Nat.le_refl _, by simp [Hp.push, Hp.put], ?_, ?_⟩, ?_, ?_⟩⟩
 ·intro j c e hd
  rw [hget] at e
  by_cases hj : j = h.size
  ·simp only [hj, if_true, Option.some.injEq] at e
   subst e
   exact ⟨B, N, o, by simp [Sg.add, hj], ho, hb⟩
  ·by_cases hji : j = i
   ·simp only [hji, if_true] at e
    rw [if_neg (by omega)] at e
    cases e; cases hd
   ·simp only [hj, hji, if_false] at e
    obtain ⟨B', M, p, q1, q2, q3⟩ := r.blk j c e hd
    refine ⟨B', M, p, hs _ _ q1, ?_, BRel.mono hs q3⟩
    rw [hold]; exact q2
    intro eB; subst eB
    exact hji ((r.inj j i c b B' M N e hg hd hl q1 hσ).resolve_right fun h => by rw [hnv] at h; cases h.2)
 ·intro j B' M e
  unfold Sg.add at e
  by_cases hj : j = h.size
  ·simp only [hj, if_true, Option.some.injEq, Prod.mk.injEq] at e
   obtain ⟨rfl, rfl⟩ := e
   exact ⟨by simp [Hp.push, Hp.put, hj], by omega⟩
  ·simp only [hj, if_false] at e
   have := r.dom _ _ _ e
   exact ⟨by simp [Hp.push, Hp.put]; omega, by omega⟩
 ·intro j k c e B' M K q1 q2 q3 q4 q5 q6
  rw [hget] at q1 q2
  unfold Sg.add at q5 q6
  by_cases hj : j = h.size <;> by_cases hk : k = h.size
  ·omega
  ·simp only [hj, if_true, Option.some.injEq, Prod.mk.injEq] at q5
   simp only [hk, if_false] at q2 q6
   obtain ⟨rfl, rfl⟩ := q5
   by_cases hki : k = i
   ·simp only [hki, if_true, Option.some.injEq] at q2
    subst q2; cases q4
   ·simp only [hki, if_false] at q2
    exact absurd ((r.inj k i e b B K N q2 hg q4 hl q6 hσ).resolve_right fun h => by rw [hnv] at h; cases h.2) hki
  ·simp only [hk, if_true, Option.some.injEq, Prod.mk.injEq] at q6
   simp only [hj, if_false] at q1 q5
   obtain ⟨rfl, rfl⟩ := q6
   by_cases hji : j = i
   ·simp only [hji, if_true, Option.some.injEq] at q1
    subst q1; cases q3
   ·simp only [hji, if_false] at q1
    exact absurd ((r.inj j i c b B M N q1 hg q3 hl q5 hσ).resolve_right fun h => by rw [hnv] at h; cases h.2) hji
  ·simp only [hj, hk, if_false] at q1 q2 q5 q6
   by_cases hji : j = i
   ·simp only [hji, if_true, Option.some.injEq] at q1
    subst q1; cases q3
   ·by_cases hki : k = i
    ·simp only [hki, if_true, Option.some.injEq] at q2
     subst q2; cases q4
    ·simp only [hji, hki, if_false] at q1 q2
     exact r.inj j k c e B' M K q1 q2 q3 q4 q5 q6
 ·intro j x e hj
  unfold Sg.add at e
  rw [if_neg (by omega)] at e
  exact e
 ·intro j c e q1 q2
  rw [hget] at q2
  have := Hp.get_lt q1
  rw [if_neg (by omega)] at q2
  by_cases hj : j = i
  ·simp only [hj, if_true, Option.some.injEq] at q2
   subst q2; exact .inr (Nat.le_refl _)
  ·simp only [hj, if_false, q1, Option.some.injEq] at q2
   subst q2; exact .inl rfl
 ·intro j w c e
  have := Hp.get_lt e
  rw [hget, if_neg (by omega)]
  by_cases hj : j = i
  ·subst hj; rw [hg] at e; cases e
   exact absurd rfl (hnl c)
  ·rw [if_neg hj]; exact ⟨w, c.state, c.pending, e⟩
 ·intro j B' M e hj hB'
  unfold Sg.add at e
  by_cases h1 : j = h.size
  ·simp only [h1, if_true, Option.some.injEq, Prod.mk.injEq] at e
   obtain ⟨rfl, rfl⟩ := e
   exact .inr ⟨i, N, ⟨h.clock, .dead⟩, hi, hσ, by rw [hget, if_neg (by omega), if_pos rfl], Nat.le_refl _⟩
  ·simp only [h1, if_false] at e
   have := (r.dom _ _ _ e).1; omega
 ·intro B' hB' _ hw
  apply hold
  intro e; subst e
  have := hw i N ⟨h.clock, .dead⟩ hσ (by rw [hget, if_neg (by omega), if_pos rfl])
  exact absurd this (Nat.lt_irrefl _)
theorem run_cells_at {P : Program} {W : World} {B : Nat} {K : Array Value} {e : TypeId} {fz : Nat × Nat} (hB : W.heap[B]? = some (.cells K e fz)) {σ : Sg} {l m : List AV} {A Z : List Value} (hK : K.toList = A ++ Z) (hl : VRels σ l A) {n off : Nat}
  (h : takeN n (dropN off l) = some m) : ∃ M, (loadCells ⟨B, off, none⟩ n).run P W = .ok M.toArray W ∧ VRels σ m M ∧ M.length = n ∧ (n ≠ 0 → off + n ≤ K.size) ∧ ∀ j v, M[j]? = some v → W.cell? ((⟨B, off, none⟩ : Addr).add j) = some v := by
 obtain ⟨h2, h3⟩ := VRels.take n (VRels.drop off hl) h
 have hlen : ((A.drop off).take n).length = n := by rw [VRels.length h2, h3]
 have hget : ∀ j v, ((A.drop off).take n)[j]? = some v → W.cell? ((⟨B, off, none⟩ : Addr).add j) = some v := by
  intro j u hu
  rw [add_lit, cell_of_row W B _ K e fz hB, ← Array.getElem?_toList, hK]
  rw [List.getElem?_take] at hu
  split at hu
  ·rw [List.getElem?_drop] at hu
   rw [List.getElem?_append_left (by rcases Nat.lt_or_ge (off + j) A.length with h | h; exact h; simp [List.getElem?_eq_none h] at hu)]
   exact hu
  ·cases hu
 have := run_loadCells_list (P := P) W ⟨B, off, none⟩ ((A.drop off).take n) hget
 rw [hlen] at this
 refine ⟨_, this, h2, hlen, fun hn => ?_, hget⟩
 have h5 := congrArg List.length hK
 simp at h5 hlen
 omega
theorem cellsOf_ok {P : Program} {σ : Sg} {h : Hp} {W : World} (r : HRel σ h W) {size n : Nat} {x : AV} {X : Value} {m : List AV} (hx : VRel σ x X) (e : cellsOfV h size x = some (n, m)) :
  ∃ M, (∀ V : World, V.heap = W.heap → (Builtin.lenOf X).run P V = .ok n V ∧ (Builtin.firstCells size n X).run P V = .ok M.toArray V) ∧ VRels σ m M ∧ M.length = n * size := by
 unfold cellsOfV at e
 split at e
 ·cases e
  obtain rfl := hx
  exact ⟨[], fun V _ => ⟨by simp [Builtin.lenOf], by simp [Builtin.firstCells]⟩, rfl, by simp⟩
 ·cases e
  obtain ⟨a, c, rfl, _⟩ := hx
  refine ⟨[], fun V _ => ⟨by simp [Builtin.lenOf], ?_⟩, rfl, by simp⟩
  cases a with
  | none => simp [Builtin.firstCells]
  | some a =>
   have := run_loadCells_list (P := P) V a [] (fun j v h => by simp at h)
   simpa [Builtin.firstCells] using this
 ·rename_i i off len cap
  obtain ⟨B, N, hσ, rfl⟩ := hx
  split at e
  ·rename_i w l hg
   obtain ⟨B', N', o, h1, h2, K, el, rfl, h3, h4⟩ := r.blk i _ hg rfl
   rw [hσ] at h1; cases h1
   cases ht : takeN (len * size) (dropN off l) with
   | none => rw [ht] at e; cases e
   | some q =>
    rw [ht] at e; cases e
    obtain ⟨M, q1, q2, q3, q4, q5⟩ := run_cells_at (P := P) h2 (A := K.toList) (Z := []) (by simp) h3 ht
    refine ⟨M, fun V hV => ⟨by simp [Builtin.lenOf], ?_⟩, q2, q3⟩
    obtain ⟨M', p1, p2, p3, p4, p5⟩ := run_cells_at (P := P) (W := V) (by rw [hV]; exact h2) (A := K.toList) (Z := []) (by simp) h3 ht
    have : M' = M := by
     apply List.ext_getElem?
     intro j
     rcases Nat.lt_or_ge j (n * size) with hj | hj
     ·have a1 := p5 j M'[j] (by rw [List.getElem?_eq_getElem])
      have a2 := q5 j M[j] (by rw [List.getElem?_eq_getElem])
      have a3 : V.cell? ((⟨B, off, none⟩ : Addr).add j) = W.cell? ((⟨B, off, none⟩ : Addr).add j) := by simp [World.cell?, hV]
      rw [a3, a2] at a1
      rw [List.getElem?_eq_getElem (by omega), List.getElem?_eq_getElem (by omega)]
      exact a1.symm
     ·rw [List.getElem?_eq_none (by omega), List.getElem?_eq_none (by omega)]
    subst this
    simp [Builtin.firstCells, p1]
  ·rename_i w l hg
   obtain ⟨B', N', o, h1, h2, K, el, A, Z, rfl, hA, h3, h4⟩ := r.blk i _ hg rfl
   rw [hσ] at h1; cases h1
   cases ht : takeN (len * size) (dropN off l) with
   | none => rw [ht] at e; cases e
   | some q =>
    rw [ht] at e; cases e
    obtain ⟨M, q1, q2, q3, q4, q5⟩ := run_cells_at (P := P) h2 hA h3 ht
    refine ⟨M, fun V hV => ⟨by simp [Builtin.lenOf], ?_⟩, q2, q3⟩
    have := run_loadCells_list (P := P) V ⟨B, off, none⟩ M (fun j v hv => by
     have a3 : V.cell? ((⟨B, off, none⟩ : Addr).add j) = W.cell? ((⟨B, off, none⟩ : Addr).add j) := by simp [World.cell?, hV]
     rw [a3]; exact q5 j v hv)
    rw [q3] at this
    simp [Builtin.firstCells, this]
  ·cases e
 ·rename_i i off len ee
  obtain ⟨B, N, qo, c, hσ, rfl, hq, hc⟩ := hx
  split at e
  ·rename_i w l hg
   obtain ⟨B', N', o, h1, h2, K, el, A, Z, rfl, hA, h3, h4⟩ := r.blk i _ hg rfl
   rw [hσ] at h1; cases h1
   cases ht : takeN (len * size) (dropN off l) with
   | none => rw [ht] at e; cases e
   | some q =>
    rw [ht] at e; cases e
    by_cases hz : n = 0
    ·subst hz
     simp [takeN] at ht
     subst ht
     exact ⟨[], fun V _ => ⟨by simp [Builtin.lenOf], by simp [Builtin.firstCells, loadCells, loadCellsFrom]⟩, rfl, by simp⟩
    ·obtain ⟨rfl, _⟩ := hq hz
     obtain ⟨M, q1, q2, q3, q4, q5⟩ := run_cells_at (P := P) h2 hA h3 ht
     refine ⟨M, fun V hV => ⟨by simp [Builtin.lenOf], ?_⟩, q2, q3⟩
     have := run_loadCells_list (P := P) V ⟨B, qo, none⟩ M (fun j v hv => by
      have a3 : V.cell? ((⟨B, qo, none⟩ : Addr).add j) = W.cell? ((⟨B, qo, none⟩ : Addr).add j) := by simp [World.cell?, hV]
      rw [a3]; exact q5 j v hv)
     rw [q3] at this
     simp [Builtin.firstCells, this]
  ·cases e
 ·rename_i i l n'
  obtain ⟨p, len, c, rfl, hn', hle, hp⟩ := hx
  split at e
  ·cases e
  ·cases e
   obtain rfl : len = 0 := by simpa using hn'
   refine ⟨[], fun V _ => ⟨by simp [Builtin.lenOf], ?_⟩, rfl, by simp⟩
   cases p <;> simp [Builtin.firstCells, loadCells, loadCellsFrom]
  ·rename_i m'
   obtain rfl : len = m' + 1 := by have : (len : Int) = (m' + 1 : Nat) := hn'; omega
   split at e
   ·rename_i w cs hg
    split at e
    ·rename_i hb
     have hb := Nat.le_of_ble_eq_true hb
     rcases hp with hp | ⟨B, N, hσ, rfl⟩
     ·omega
     obtain ⟨B', N', o, h1, h2, K, el, fr, rfl, h3⟩ := r.blk i _ hg rfl
     rw [hσ] at h1; cases h1
     cases ht : takeN ((m' + 1) * size) cs with
     | none => rw [ht] at e; cases e
     | some q =>
      rw [ht] at e; cases e
      obtain ⟨k1, k2⟩ := VRels.take _ h3 ht
      have k3 : (List.take ((m' + 1) * size) ((K.toList.drop N).take cs.length)).length = (m' + 1) * size := by rw [VRels.length k1, k2]
      refine ⟨_, fun V hV => ⟨by simp [Builtin.lenOf], ?_⟩, k1, k3⟩
      have := run_loadCells_list (P := P) V ⟨B, N, none⟩ (List.take ((m' + 1) * size) ((K.toList.drop N).take cs.length)) (fun j v hv => by
       have hj : j < (m' + 1) * size := by
        rcases Nat.lt_or_ge j ((m' + 1) * size) with h | h
        ·exact h
        ·rw [List.getElem?_eq_none (by rw [k3]; exact h)] at hv; cases hv
       have hj2 : j < cs.length := by
        have := VRels.length h3
        rw [List.length_take] at k3
        omega
       rw [List.getElem?_take, if_pos hj, List.getElem?_take, if_pos hj2, List.getElem?_drop, Array.getElem?_toList] at hv
       unfold World.cell? Addr.add
       by_cases h0 : j = 0
       ·subst h0; simp [hV, h2]; simpa using hv
       ·simp [h0, hV, h2]; simpa using hv)
      rw [k3] at this
      simp [Builtin.firstCells, this]
    ·cases e
   ·cases e
 ·cases e
theorem run_append_new {P : Program} {W : World} {t u ty e eu : TypeId} {i : TypeInfo} {z : Value} (ht : P.underlying t = some (.slice e)) (hu : P.underlying u = some (.slice eu)) (hi : P.info? e = some i) (hz : i.zero = some z)
  {base : Option Addr} {len cap n : Nat} {X : Value} {O M : List Value}
  (hO : ∀ V : World, V.heap = W.heap → (Builtin.firstCells i.size len (.slice base len cap)).run P V = .ok O.toArray V)
  (hX : ∀ V : World, V.heap = W.heap → (Builtin.lenOf X).run P V = .ok n V ∧ (Builtin.firstCells i.size n X).run P V = .ok M.toArray V)
  (hg : cap < len + n) (hmax : len + n ≤ 1048576) (hby : i.bytes ≤ 65536) :
  (Builtin.append_ #[t, u] ty #[.slice base len cap, X]).run P W =
   .ok (.slice (some ⟨W.heap.size, 0, none⟩) (len + n) (grownCap W (len + n) cap e))
    (W.drew.alloc (.cells (O.toArray ++ M.toArray ++ Builtin.zeroCells z.cells (grownCap W (len + n) cap e - (len + n))) e)) := by
 have hn : ¬ (len + n ≤ cap) := by omega
 have h63' : ¬ (9223372036854775807 < ((len : Int) + (n : Int))) := by omega
 have hfit := growslice_fits hg (show (len + n) * i.bytes ≤ 140737488355328 from Nat.le_trans (Nat.mul_le_mul hmax hby) (by decide))
 have h48' : ¬ (281474976710656 < Builtin.nextslicecap (len + n) cap * i.bytes) := by omega
 have hf := (hX W.drew rfl).2
 have hfo := hO W.drew rfl
 have hl := (hX W rfl).1
 simp [Builtin.append_, run_underlying ht, run_underlying hu, sizeOf, typeInfo, zeroValue, hi, hz, hl, hn, h63', h48', Question.forced, hf, hfo, newRow, grownCap]
 congr 2
 apply Array.toList_inj.1
 simp
theorem run_append_in {P : Program} {W : World} {t u ty e eu : TypeId} {i : TypeInfo} (ht : P.underlying t = some (.slice e)) (hu : P.underlying u = some (.slice eu)) (hi : P.info? e = some i)
  {B off len cap n : Nat} {X : Value} {M : List Value} {K : Array Value} {el : TypeId} (hB : W.heap[B]? = some (.cells K el (0, 0)))
  (hX : ∀ V : World, V.heap = W.heap → (Builtin.lenOf X).run P V = .ok n V ∧ (Builtin.firstCells i.size n X).run P V = .ok M.toArray V)
  (h1 : ∀ v ∈ M, v.oneCell' = true) (hg : len + n ≤ cap) (hfit : off + len * i.size + M.length ≤ K.size) :
  (Builtin.append_ #[t, u] ty #[.slice (some ⟨B, off, none⟩) len cap, X]).run P W =
   .ok (.slice (some ⟨B, off, none⟩) (len + n) cap) (W.setRow B (K.toList.take (off + len * i.size) ++ M ++ K.toList.drop (off + len * i.size + M.length)).toArray) := by
 have hf := (hX W rfl).2
 have hl := (hX W rfl).1
 have hst := run_storeCells_at P B (off + len * i.size) el M 0 K W hB (by simpa using hfit) h1
 simp only [Nat.add_zero] at hst
 simp [Builtin.append_, run_underlying ht, run_underlying hu, sizeOf, typeInfo, hi, hl, hg, hf, add_lit, hst]
theorem grown_new {P : Program} {σ : Sg} {h : Hp} {W : World} (r : HRel σ h W) {l : List AV} {A Z : List Value} {K : Array Value} (e : TypeId) (hK : K.toList = A ++ Z) (hl : VRels σ l A) {n c esz : Nat} (hc : n ≤ c) (hcap : c * esz ≤ K.size) (m : Sem Value)
  (hm : m.run P W = .ok (.slice (some ⟨W.heap.size, 0, none⟩) n c) (W.drew.alloc (.cells K e))) : OpOk P (do pure (.value (← m))) σ h W ⟨.tt, .gslice h.size 0 n esz, h.push (.grown l)⟩ := fun _ => by
 have r' := r.world (V := W.drew) rfl
 obtain ⟨h1, h2⟩ := r'.alloc (.grown l) (.cells K e) K.size ⟨K, e, A, Z, rfl, hK, VRels.mono (Sub.add r.fresh) _ _ hl, rfl⟩
 refine ⟨_, .slice (some ⟨W.heap.size, 0, none⟩) n c, _, _, by simp [hm], .inl rfl, ⟨W.heap.size, K.size, 0, c, add_here, rfl, fun _ => ⟨rfl, by omega⟩, hc⟩, h1, ?_⟩
 exact (Good.drew r).trans r.ok h1.ok h2
theorem nextcap_bound {W : World} {len n cap : Nat} {e : TypeId} {z : Value} {size : Nat} (hz : z.cells.size = size) {O M : List Value} (hO : O.length = len * size) (hM : M.length = n * size) :
  (grownCap W (len + n) cap e) * size ≤ (O.toArray ++ M.toArray ++ Builtin.zeroCells z.cells (grownCap W (len + n) cap e - (len + n))).size := by
 have hge := grownCap_ge W (len + n) cap e
 simp only [Array.size_append, List.size_toArray, hO, hM, size_zeroCells, hz]
 rw [← Nat.add_mul, ← Nat.add_mul]
 apply Nat.mul_le_mul_right
 omega
theorem append_ok {P : Program} {σ : Sg} {h : Hp} {W : World} (r : HRel σ h W) {t u ty : TypeId} {a b : AV} {A B : Value} (ha : VRel σ a A) (hb : VRel σ b B) {q : S1} (e : opAppend P h t u a b = some q) :
  OpOk P (do pure (.value (← Builtin.append_ #[t, u] ty #[A, B]))) σ h W q := by
 unfold opAppend at e
 split at e
 ·rename_i eu hu
  split at e
  ·cases e
  ·rename_i v h' he
   cases e
   unfold appendV at he
   split at he
   ·rename_i el ht
    split at he
    ·cases he
    ·rename_i i hi
     split at he
     ·cases he
     ·rename_i z hz
      obtain ⟨i', zv, hi', hz', hzr, _⟩ := zeroCells_spec (σ := σ) hz
      rw [hi] at hi'; cases hi'
      split at he
      ·cases he
      ·rename_i hc
       simp only [Bool.and_eq_true, Nat.ble_eq, Nat.beq_eq] at hc
       have hzs : zv.cells.size = i.size := by have := VRels.length hzr; simp at this; omega
       split at he
       ·cases he
       ·rename_i n new hnew
        obtain ⟨M, hX, hM, hMl⟩ := cellsOf_ok (P := P) r hb hnew
        split at he
        ·cases he
        ·rename_i hall
         have h1 := allCell_one hM hall
         split at he
         ·-- a nil slice
          obtain rfl := ha
          unfold appNil at he
          split at he
          ·cases he
           have hM0 : M = [] := List.length_eq_zero_iff.1 (by rw [hMl]; simp)
           subst hM0
           refine OpOk.pure r fun _ => ⟨.slice none 0 0, ?_, rfl⟩
           have hl := (hX W rfl).1
           have hf := (hX W rfl).2
           simp [Builtin.append_, run_underlying ht, run_underlying hu, sizeOf, typeInfo, hi, hl, hf]
          ·rename_i m
           split at he
           ·rename_i hmax
            cases he
            have hmax := Nat.le_of_ble_eq_true hmax
            have hrun := run_append_new (P := P) (W := W) (ty := ty) ht hu hi hz' (base := none) (len := 0) (cap := 0) (O := []) (fun V _ => by simp [Builtin.firstCells]) hX (by omega) (by unfold growMax at hmax; omega) hc.2
            have := grown_new r el (l := new) (A := M) (Z := (Builtin.zeroCells zv.cells (grownCap W (0 + (m + 1)) 0 el - (0 + (m + 1)))).toList) (K := ([] : List Value).toArray ++ M.toArray ++ Builtin.zeroCells zv.cells (grownCap W (0 + (m + 1)) 0 el - (0 + (m + 1)))) (by simp) hM (n := 0 + (m + 1)) (c := grownCap W (0 + (m + 1)) 0 el) (esz := i.size) (grownCap_ge _ _ _ _) (nextcap_bound hzs (by simp) hMl) _ hrun
            rw [Nat.zero_add] at this
            exact this
           ·cases he
         ·rename_i id off len cap
          obtain ⟨Bl, N, hσ, rfl⟩ := ha
          split at he
          ·-- room
           rename_i hroom
           have hroom := Nat.le_of_ble_eq_true hroom
           unfold appRoom at he
           split at he
           ·rename_i w l hg
            split at he
            ·cases he
            ·rename_i l' hp
             rw [Hp.set_eq] at he
             cases he
             obtain ⟨B', N', o, q1, q2, K, ek, rfl, q3, q4⟩ := r.blk id _ hg rfl
             rw [hσ] at q1; cases q1
             obtain ⟨q5, q6⟩ := putCells_spec l _ _ l' q3 hM hp
             have hrun := run_append_in (P := P) (ty := ty) ht hu hi q2 hX h1 hroom (by simpa using q6)
             obtain ⟨q7, q8⟩ := r.row hg rfl (fun _ h => by cases h) hσ (K' := (K.toList.take (off + len * i.size) ++ M ++ K.toList.drop (off + len * i.size + M.length)).toArray) q2 (.cells l') ⟨_, ek, rfl, by simpa using q5, by
              subst q4; simp at q6 ⊢; omega⟩
             exact fun _ => ⟨σ, _, _, _, by simp [hrun]; rfl, .inl rfl, by simp only [forceNat_eq]; exact ⟨Bl, N, hσ, rfl⟩, q7, q8⟩
           ·cases he
          ·-- no room
           rename_i hroom
           have hroom : cap < len + n := by
            rcases Nat.lt_or_ge cap (len + n) with h | h
            ·exact h
            ·rw [Nat.ble_eq_true_of_le h] at hroom; cases hroom
           unfold appGrow at he
           split at he
           ·cases he
           ·rename_i n' old hold
            split at he
            ·rename_i hmax
             have hmax := Nat.le_of_ble_eq_true hmax
             rw [catC_eq] at he
             cases he
             obtain ⟨O, hOr, hO, hOl⟩ := cellsOf_ok (P := P) r (x := .slice id off len cap) (X := .slice (some ⟨Bl, off, none⟩) len cap) ⟨Bl, N, hσ, rfl⟩ hold
             have hn' : n' = len := by
              have := (hOr W rfl).1
              simp [Builtin.lenOf] at this; omega
             subst hn'
             have hrun := run_append_new (P := P) (W := W) (ty := ty) ht hu hi hz' (base := some ⟨Bl, off, none⟩) (O := O) (fun V hV => (hOr V hV).2) hX hroom (by unfold growMax at hmax; omega) hc.2
             have := grown_new r el (l := old ++ new) (A := O ++ M) (Z := (Builtin.zeroCells zv.cells (grownCap W (n' + n) cap el - (n' + n))).toList) (K := O.toArray ++ M.toArray ++ Builtin.zeroCells zv.cells (grownCap W (n' + n) cap el - (n' + n))) (by simp) (VRels.append hO hM) (n := n' + n) (c := grownCap W (n' + n) cap el) (esz := i.size) (grownCap_ge _ _ _ _) (nextcap_bound hzs hOl hMl) _ hrun
             simpa using this
            ·cases he
         ·rename_i id off len esz
          unfold appGs at he
          split at he
          ·cases he
           have hM0 : M = [] := List.length_eq_zero_iff.1 (by rw [hMl]; simp)
           subst hM0
           obtain ⟨Bl, N, qo, c, hσ, rfl, hq, hcl⟩ := ha
           refine OpOk.pure r fun _ => ⟨.slice (some ⟨Bl, qo, none⟩) len c, ?_, Bl, N, qo, c, hσ, rfl, hq, hcl⟩
           have hl := (hX W rfl).1
           have hf := (hX W rfl).2
           have hst : ∀ a : Addr, (storeCells a []).run P W = .ok () W := fun _ => rfl
           simp [Builtin.append_, run_underlying ht, run_underlying hu, sizeOf, typeInfo, hi, hl, hf, hcl, hst]
          ·rename_i m
           split at he
           ·rename_i w l hg
            split at he
            ·rename_i hk
             simp only [Bool.and_eq_true, Nat.beq_eq, Nat.blt_eq, Nat.ble_eq] at hk
             obtain ⟨⟨⟨⟨rfl, rfl⟩, hlen⟩, hll⟩, hmax⟩ := hk
             rw [Hp.set_eq, catC_eq] at he
             cases he
             have hA : VRel σ (.gslice id 0 len i.size) A := ha
             obtain ⟨Bl, N, qo, c, hσ, rfl, hq, hcl⟩ := ha
             obtain ⟨rfl, hcN⟩ := hq (by omega)
             obtain ⟨B', N', o, q1, q2, K, ek, X, Z, rfl, hXZ, q3, q4⟩ := r.blk id _ hg rfl
             rw [hσ] at q1; cases q1
             have hXl : X.length = len * i.size := by rw [VRels.length q3, hll]
             by_cases hroom : len + (m + 1) ≤ c
             ·have hmul : (len + (m + 1)) * i.size ≤ c * i.size := Nat.mul_le_mul_right _ hroom
              rw [Nat.add_mul] at hmul
              have hMK : len * i.size + M.length ≤ K.size := by
               rw [hMl, ← q4]
               exact Nat.le_trans hmul (by simpa using hcN)
              have hrun := run_append_in (P := P) (ty := ty) ht hu hi q2 (off := 0) hX h1 hroom (by omega)
              obtain ⟨q7, q8⟩ := r.move (V := W.setRow Bl (K.toList.take (0 + len * i.size) ++ M ++ K.toList.drop (0 + len * i.size + M.length)).toArray) hg rfl (fun _ h => by cases h) hσ (.grown (l ++ new)) _ (setRow_heap W Bl K _ ek (0, 0) q2)
               ⟨_, ek, X ++ M, Z.drop M.length, rfl, by
                simp only [Nat.zero_add, hXZ]
                rw [← hXl, List.take_left, ← List.drop_drop, List.drop_left], VRels.append (VRels.mono (Sub.add r.fresh) _ _ q3) (VRels.mono (Sub.add r.fresh) _ _ hM), by
                subst q4; simp; omega⟩
               (setRow_size W Bl _) (fun k hk => setRow_other W Bl k _ hk) rfl rfl rfl
              refine fun _ => ⟨_, _, _, _, by simp [hrun]; rfl, .inl rfl, ?_, q7, q8⟩
              simp only [forceNat_eq]
              exact ⟨Bl, N, 0, c, add_here, rfl, fun _ => ⟨rfl, hcN⟩, hroom⟩
             ·obtain ⟨k1, k2⟩ := r.kill hg (fun _ h => by cases h)
              have hold : cellsOfV h i.size (.gslice id 0 len i.size) = some (len, l) := by
               simp only [cellsOfV, hg, dropN]
               have : takeN (len * i.size) l = some l := by
                rw [← hll]
                clear hll q3 hg hXl
                induction l with
                | nil => rfl
                | cons a l ih => simp [takeN, ih]
               rw [this]; rfl
              obtain ⟨O, hOr, hO, hOl⟩ := cellsOf_ok (P := P) r hA hold
              have hrun := run_append_new (P := P) (W := W) (ty := ty) ht hu hi hz' (base := some ⟨Bl, 0, none⟩) (cap := c) (O := O) (fun V hV => (hOr V hV).2) hX (by omega) (by unfold growMax at hmax; omega) hc.2
              have := grown_new k1 el (l := l ++ new) (A := O ++ M) (Z := (Builtin.zeroCells zv.cells (grownCap W (len + (m + 1)) c el - (len + (m + 1)))).toList) (K := O.toArray ++ M.toArray ++ Builtin.zeroCells zv.cells (grownCap W (len + (m + 1)) c el - (len + (m + 1)))) (by simp) (VRels.append hO hM) (n := len + (m + 1)) (c := grownCap W (len + (m + 1)) c el) (esz := i.size) (grownCap_ge _ _ _ _) (nextcap_bound hzs hOl hMl) _ hrun
              intro _
              obtain ⟨τ, V, X', rr, p1, p2, p3, p4, p5⟩ := this trivial
              exact ⟨τ, V, X', rr, p1, p2, by simpa using p3, p4, k2.trans k1.ok p4.ok p5⟩
            ·cases he
           ·cases he
         ·cases he
   ·cases he
 ·cases e
end Go.Eng
