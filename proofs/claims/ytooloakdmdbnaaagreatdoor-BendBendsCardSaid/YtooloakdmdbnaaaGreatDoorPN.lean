/- What is proved: BendBends returns true, whatever the input (part 14 of 18). No conditions beyond those of the row. -/
import Derived.Test.YtooloakdmdbnaaaGreatDoorPE
import Derived.Test.YtooloakdmdbnaaaGreatDoorPF
import Derived.Test.YtooloakdmdbnaaaGreatDoorPG
import Derived.Test.YtooloakdmdbnaaaGreatDoorPH
import Derived.Test.YtooloakdmdbnaaaGreatDoorPI
import Derived.Test.YtooloakdmdbnaaaGreatDoorPJ
import Derived.Test.YtooloakdmdbnaaaGreatDoorPK
import Derived.Test.YtooloakdmdbnaaaGreatDoorPL
import Derived.Test.YtooloakdmdbnaaaGreatDoorPM
set_option linter.unusedVariables false
set_option linter.unusedSimpArgs false
set_option linter.unusedSectionVars false
namespace Go.Proofs.YtooloakdmdbnaaaGreatDoor.K
open Go Go.Eng Go.Ar Go.Rd
noncomputable section
theorem rt_0 (s : Su) (x : Nat -> Int) : rn cNm 18 s (.int true .i64 s.kd) 0 x = some (.p (rRightN s (fz 0 x)), .bool true (rRight s (fz 0 x))) := by kernel_rfl
theorem rt_1 (s : Su) (x : Nat -> Int) : rn cNm 18 s (.int true .i64 s.kd) 1 x = some (.p (rRightN s (fz 1 x)), .bool true (rRight s (fz 1 x))) := by kernel_rfl
theorem rt_2 (s : Su) (x : Nat -> Int) : rn cNm 18 s (.int true .i64 s.kd) 2 x = some (.p (rRightN s (fz 2 x)), .bool true (rRight s (fz 2 x))) := by kernel_rfl
theorem rt_3 (s : Su) (x : Nat -> Int) : rn cNm 18 s (.int true .i64 s.kd) 3 x = some (.p (rRightN s (fz 3 x)), .bool true (rRight s (fz 3 x))) := by kernel_rfl
theorem rt_4 (s : Su) (x : Nat -> Int) : rn cNm 18 s (.int true .i64 s.kd) 4 x = some (.p (rRightN s (fz 4 x)), .bool true (rRight s (fz 4 x))) := by kernel_rfl
theorem rt_5 (s : Su) (x : Nat -> Int) : rn cNm 18 s (.int true .i64 s.kd) 5 x = some (.p (rRightN s (fz 5 x)), .bool true (rRight s (fz 5 x))) := by kernel_rfl
theorem rt_6 (s : Su) (x : Nat -> Int) : rn cNm 18 s (.int true .i64 s.kd) 6 x = some (.p (rRightN s (fz 6 x)), .bool true (rRight s (fz 6 x))) := by kernel_rfl
theorem rt_7 (s : Su) (x : Nat -> Int) : rn cNm 18 s (.int true .i64 s.kd) 7 x = some (.p (rRightN s (fz 7 x)), .bool true (rRight s (fz 7 x))) := by kernel_rfl
theorem rt_8 (s : Su) (x : Nat -> Int) : rn cNm 18 s (.int true .i64 s.kd) 8 x = some (.p (rRightN s (fz 8 x)), .bool true (rRight s (fz 8 x))) := by kernel_rfl
theorem rt_9 (s : Su) (x : Nat -> Int) : rn cNm 18 s (.int true .i64 s.kd) 9 x = some (.tt, .bool false false) := by kernel_rfl
theorem rt_10 (s : Su) (x : Nat -> Int) : rn cNm 18 s (.int true .i64 s.kd) 10 x = some (.tt, .bool false false) := by kernel_rfl
theorem rt_11 (s : Su) (x : Nat -> Int) : rn cNm 18 s (.int true .i64 s.kd) 11 x = some (.tt, .bool false false) := by kernel_rfl
theorem rt_12 (s : Su) (x : Nat -> Int) : rn cNm 18 s (.int true .i64 s.kd) 12 x = some (.tt, .bool false false) := by kernel_rfl
end
end Go.Proofs.YtooloakdmdbnaaaGreatDoor.K
namespace Go.Proofs.YtooloakdmdbnaaaGreatDoor.K
open Go Go.Eng Go.Ar Go.Rd
noncomputable section
theorem len_fz (n : Nat) (x : Nat -> Int) : (fz n x).length = 3 * n := spinF_len _ _ _
theorem r_long {s : Su} {n : Nat} {x : Nat -> Int} (h : 9 <= n) : (110 : Int) = bif rightS s (fz n x) then 0 else 110 := by rw [right_long (by rw [len_fz]; omega)]; rfl
theorem r_kind {s : Su} {ys : List Int} (h : kindB s ys.isEmpty = false) : (110 : Int) = bif rightS s ys then 0 else 110 := by rw [right_kind h]; rfl
theorem ch1_all (s : Su) (x : Nat -> Int) (hk : s.kd = 1) (hg : s.g.size < 1000000000) : ∀ n, n <= 12 -> ∃ nd v0, rn cNm 14 s (.int false .i64 1) n x = some (nd, v0) /\ v0.num = true /\ nd.val /\ tell v0 (.int true .i64 (bif rightS s (fz n x) then 0 else 110)) := fun n hn => match n, hn with
 | 0, _ => ⟨_, _, ch1_0 s x, rfl, chk1N_t hg, ⟨rfl, chk1_eq hk (by rw [len_fz]; decide)⟩⟩
 | 1, _ => ⟨_, _, ch1_1 s x, rfl, chk1N_t hg, ⟨rfl, chk1_eq hk (by rw [len_fz]; decide)⟩⟩
 | 2, _ => ⟨_, _, ch1_2 s x, rfl, chk1N_t hg, ⟨rfl, chk1_eq hk (by rw [len_fz]; decide)⟩⟩
 | 3, _ => ⟨_, _, ch1_3 s x, rfl, chk1N_t hg, ⟨rfl, chk1_eq hk (by rw [len_fz]; decide)⟩⟩
 | 4, _ => ⟨_, _, ch1_4 s x, rfl, chk1N_t hg, ⟨rfl, chk1_eq hk (by rw [len_fz]; decide)⟩⟩
 | 5, _ => ⟨_, _, ch1_5 s x, rfl, chk1N_t hg, ⟨rfl, chk1_eq hk (by rw [len_fz]; decide)⟩⟩
 | 6, _ => ⟨_, _, ch1_6 s x, rfl, chk1N_t hg, ⟨rfl, chk1_eq hk (by rw [len_fz]; decide)⟩⟩
 | 7, _ => ⟨_, _, ch1_7 s x, rfl, chk1N_t hg, ⟨rfl, chk1_eq hk (by rw [len_fz]; decide)⟩⟩
 | 8, _ => ⟨_, _, ch1_8 s x, rfl, chk1N_t hg, ⟨rfl, chk1_eq hk (by rw [len_fz]; decide)⟩⟩
 | 9, _ => ⟨_, _, ch1_9 s x, rfl, chk1N_t hg, ⟨rfl, r_long (by decide)⟩⟩
 | 10, _ => ⟨_, _, ch1_10 s x, rfl, chk1N_t hg, ⟨rfl, r_long (by decide)⟩⟩
 | 11, _ => ⟨_, _, ch1_11 s x, rfl, chk1N_t hg, ⟨rfl, r_long (by decide)⟩⟩
 | 12, _ => ⟨_, _, ch1_12 s x, rfl, chk1N_t hg, ⟨rfl, r_long (by decide)⟩⟩
theorem ch2_all (s : Su) (x : Nat -> Int) (hk : s.kd = 2) (hg : s.g.size < 1000000000) : ∀ n, n <= 12 -> ∃ nd v0, rn cNm 14 s (.int false .i64 2) n x = some (nd, v0) /\ v0.num = true /\ nd.val /\ tell v0 (.int true .i64 (bif rightS s (fz n x) then 0 else 110)) := fun n hn => match n, hn with
 | 0, _ => ⟨_, _, ch2_0 s x, rfl, chk2N_t hg, ⟨rfl, chk2_eq hk (by rw [len_fz]; decide)⟩⟩
 | 1, _ => ⟨_, _, ch2_1 s x, rfl, chk2N_t hg, ⟨rfl, chk2_eq hk (by rw [len_fz]; decide)⟩⟩
 | 2, _ => ⟨_, _, ch2_2 s x, rfl, chk2N_t hg, ⟨rfl, chk2_eq hk (by rw [len_fz]; decide)⟩⟩
 | 3, _ => ⟨_, _, ch2_3 s x, rfl, chk2N_t hg, ⟨rfl, chk2_eq hk (by rw [len_fz]; decide)⟩⟩
 | 4, _ => ⟨_, _, ch2_4 s x, rfl, chk2N_t hg, ⟨rfl, chk2_eq hk (by rw [len_fz]; decide)⟩⟩
 | 5, _ => ⟨_, _, ch2_5 s x, rfl, chk2N_t hg, ⟨rfl, chk2_eq hk (by rw [len_fz]; decide)⟩⟩
 | 6, _ => ⟨_, _, ch2_6 s x, rfl, chk2N_t hg, ⟨rfl, chk2_eq hk (by rw [len_fz]; decide)⟩⟩
 | 7, _ => ⟨_, _, ch2_7 s x, rfl, chk2N_t hg, ⟨rfl, chk2_eq hk (by rw [len_fz]; decide)⟩⟩
 | 8, _ => ⟨_, _, ch2_8 s x, rfl, chk2N_t hg, ⟨rfl, chk2_eq hk (by rw [len_fz]; decide)⟩⟩
 | 9, _ => ⟨_, _, ch2_9 s x, rfl, chk2N_t hg, ⟨rfl, r_long (by decide)⟩⟩
 | 10, _ => ⟨_, _, ch2_10 s x, rfl, chk2N_t hg, ⟨rfl, r_long (by decide)⟩⟩
 | 11, _ => ⟨_, _, ch2_11 s x, rfl, chk2N_t hg, ⟨rfl, r_long (by decide)⟩⟩
 | 12, _ => ⟨_, _, ch2_12 s x, rfl, chk2N_t hg, ⟨rfl, r_long (by decide)⟩⟩
theorem ch3_all (s : Su) (x : Nat -> Int) (hk : s.kd = 3) (hg : s.g.size < 1000000000) : ∀ n, n <= 12 -> ∃ nd v0, rn cNm 14 s (.int false .i64 3) n x = some (nd, v0) /\ v0.num = true /\ nd.val /\ tell v0 (.int true .i64 (bif rightS s (fz n x) then 0 else 110)) := fun n hn => match n, hn with
 | 0, _ => ⟨_, _, ch3_0 s x, rfl, ⟨w3_t, nmC_t hg⟩, ⟨rfl, chk3_eq hk⟩⟩
 | 1, _ => ⟨_, _, ch3_1 s x, rfl, w3_t, ⟨rfl, r_kind (k34_f (.inl hk))⟩⟩
 | 2, _ => ⟨_, _, ch3_2 s x, rfl, w3_t, ⟨rfl, r_kind (k34_f (.inl hk))⟩⟩
 | 3, _ => ⟨_, _, ch3_3 s x, rfl, w3_t, ⟨rfl, r_kind (k34_f (.inl hk))⟩⟩
 | 4, _ => ⟨_, _, ch3_4 s x, rfl, w3_t, ⟨rfl, r_kind (k34_f (.inl hk))⟩⟩
 | 5, _ => ⟨_, _, ch3_5 s x, rfl, w3_t, ⟨rfl, r_kind (k34_f (.inl hk))⟩⟩
 | 6, _ => ⟨_, _, ch3_6 s x, rfl, w3_t, ⟨rfl, r_kind (k34_f (.inl hk))⟩⟩
 | 7, _ => ⟨_, _, ch3_7 s x, rfl, w3_t, ⟨rfl, r_kind (k34_f (.inl hk))⟩⟩
 | 8, _ => ⟨_, _, ch3_8 s x, rfl, w3_t, ⟨rfl, r_kind (k34_f (.inl hk))⟩⟩
 | 9, _ => ⟨_, _, ch3_9 s x, rfl, w3_t, ⟨rfl, r_kind (k34_f (.inl hk))⟩⟩
 | 10, _ => ⟨_, _, ch3_10 s x, rfl, w3_t, ⟨rfl, r_kind (k34_f (.inl hk))⟩⟩
 | 11, _ => ⟨_, _, ch3_11 s x, rfl, w3_t, ⟨rfl, r_kind (k34_f (.inl hk))⟩⟩
 | 12, _ => ⟨_, _, ch3_12 s x, rfl, w3_t, ⟨rfl, r_kind (k34_f (.inl hk))⟩⟩
theorem ch4_all (s : Su) (x : Nat -> Int) (hk : s.kd = 4) (hg : s.g.size < 1000000000) : ∀ n, n <= 12 -> ∃ nd v0, rn cNm 14 s (.int false .i64 4) n x = some (nd, v0) /\ v0.num = true /\ nd.val /\ tell v0 (.int true .i64 (bif rightS s (fz n x) then 0 else 110)) := fun n hn => match n, hn with
 | 0, _ => ⟨_, _, ch4_0 s x, rfl, ⟨w4_t, nmC_t hg⟩, ⟨rfl, chk4_eq hk⟩⟩
 | 1, _ => ⟨_, _, ch4_1 s x, rfl, w4_t, ⟨rfl, r_kind (k34_f (.inr hk))⟩⟩
 | 2, _ => ⟨_, _, ch4_2 s x, rfl, w4_t, ⟨rfl, r_kind (k34_f (.inr hk))⟩⟩
 | 3, _ => ⟨_, _, ch4_3 s x, rfl, w4_t, ⟨rfl, r_kind (k34_f (.inr hk))⟩⟩
 | 4, _ => ⟨_, _, ch4_4 s x, rfl, w4_t, ⟨rfl, r_kind (k34_f (.inr hk))⟩⟩
 | 5, _ => ⟨_, _, ch4_5 s x, rfl, w4_t, ⟨rfl, r_kind (k34_f (.inr hk))⟩⟩
 | 6, _ => ⟨_, _, ch4_6 s x, rfl, w4_t, ⟨rfl, r_kind (k34_f (.inr hk))⟩⟩
 | 7, _ => ⟨_, _, ch4_7 s x, rfl, w4_t, ⟨rfl, r_kind (k34_f (.inr hk))⟩⟩
 | 8, _ => ⟨_, _, ch4_8 s x, rfl, w4_t, ⟨rfl, r_kind (k34_f (.inr hk))⟩⟩
 | 9, _ => ⟨_, _, ch4_9 s x, rfl, w4_t, ⟨rfl, r_kind (k34_f (.inr hk))⟩⟩
 | 10, _ => ⟨_, _, ch4_10 s x, rfl, w4_t, ⟨rfl, r_kind (k34_f (.inr hk))⟩⟩
 | 11, _ => ⟨_, _, ch4_11 s x, rfl, w4_t, ⟨rfl, r_kind (k34_f (.inr hk))⟩⟩
 | 12, _ => ⟨_, _, ch4_12 s x, rfl, w4_t, ⟨rfl, r_kind (k34_f (.inr hk))⟩⟩
theorem ch0_all (s : Su) (x : Nat -> Int) (hk : inR 1 4 s.kd = false) (hg : s.g.size < 1000000000) : ∀ n, n <= 12 -> ∃ nd v0, rn cNk 14 s (.int true .i64 s.kd) n x = some (nd, v0) /\ v0.num = true /\ nd.val /\ tell v0 (.int true .i64 (bif rightS s (fz n x) then 0 else 110)) := fun n hn => match n, hn with
 | 0, _ => ⟨_, _, ch0_0 s x, rfl, kdO_t hk, ⟨rfl, r_kind (k0_f hk)⟩⟩
 | 1, _ => ⟨_, _, ch0_1 s x, rfl, kdO_t hk, ⟨rfl, r_kind (k0_f hk)⟩⟩
 | 2, _ => ⟨_, _, ch0_2 s x, rfl, kdO_t hk, ⟨rfl, r_kind (k0_f hk)⟩⟩
 | 3, _ => ⟨_, _, ch0_3 s x, rfl, kdO_t hk, ⟨rfl, r_kind (k0_f hk)⟩⟩
 | 4, _ => ⟨_, _, ch0_4 s x, rfl, kdO_t hk, ⟨rfl, r_kind (k0_f hk)⟩⟩
 | 5, _ => ⟨_, _, ch0_5 s x, rfl, kdO_t hk, ⟨rfl, r_kind (k0_f hk)⟩⟩
 | 6, _ => ⟨_, _, ch0_6 s x, rfl, kdO_t hk, ⟨rfl, r_kind (k0_f hk)⟩⟩
 | 7, _ => ⟨_, _, ch0_7 s x, rfl, kdO_t hk, ⟨rfl, r_kind (k0_f hk)⟩⟩
 | 8, _ => ⟨_, _, ch0_8 s x, rfl, kdO_t hk, ⟨rfl, r_kind (k0_f hk)⟩⟩
 | 9, _ => ⟨_, _, ch0_9 s x, rfl, kdO_t hk, ⟨rfl, r_kind (k0_f hk)⟩⟩
 | 10, _ => ⟨_, _, ch0_10 s x, rfl, kdO_t hk, ⟨rfl, r_kind (k0_f hk)⟩⟩
 | 11, _ => ⟨_, _, ch0_11 s x, rfl, kdO_t hk, ⟨rfl, r_kind (k0_f hk)⟩⟩
 | 12, _ => ⟨_, _, ch0_12 s x, rfl, kdO_t hk, ⟨rfl, r_kind (k0_f hk)⟩⟩
theorem rt_all (s : Su) (x : Nat -> Int) (hg : s.g.size < 1000000000) : ∀ n, n <= 12 -> ∃ nd v0, rn cNm 18 s (.int true .i64 s.kd) n x = some (nd, v0) /\ v0.num = true /\ nd.val /\ tell v0 (.bool true (rightS s (fz n x))) := fun n hn => match n, hn with
 | 0, _ => ⟨_, _, rt_0 s x, rfl, rRightN_t hg, rRight_eq (by rw [len_fz]; decide) (by rw [len_fz]; exact Nat.dvd_mul_right _ _)⟩
 | 1, _ => ⟨_, _, rt_1 s x, rfl, rRightN_t hg, rRight_eq (by rw [len_fz]; decide) (by rw [len_fz]; exact Nat.dvd_mul_right _ _)⟩
 | 2, _ => ⟨_, _, rt_2 s x, rfl, rRightN_t hg, rRight_eq (by rw [len_fz]; decide) (by rw [len_fz]; exact Nat.dvd_mul_right _ _)⟩
 | 3, _ => ⟨_, _, rt_3 s x, rfl, rRightN_t hg, rRight_eq (by rw [len_fz]; decide) (by rw [len_fz]; exact Nat.dvd_mul_right _ _)⟩
 | 4, _ => ⟨_, _, rt_4 s x, rfl, rRightN_t hg, rRight_eq (by rw [len_fz]; decide) (by rw [len_fz]; exact Nat.dvd_mul_right _ _)⟩
 | 5, _ => ⟨_, _, rt_5 s x, rfl, rRightN_t hg, rRight_eq (by rw [len_fz]; decide) (by rw [len_fz]; exact Nat.dvd_mul_right _ _)⟩
 | 6, _ => ⟨_, _, rt_6 s x, rfl, rRightN_t hg, rRight_eq (by rw [len_fz]; decide) (by rw [len_fz]; exact Nat.dvd_mul_right _ _)⟩
 | 7, _ => ⟨_, _, rt_7 s x, rfl, rRightN_t hg, rRight_eq (by rw [len_fz]; decide) (by rw [len_fz]; exact Nat.dvd_mul_right _ _)⟩
 | 8, _ => ⟨_, _, rt_8 s x, rfl, rRightN_t hg, rRight_eq (by rw [len_fz]; decide) (by rw [len_fz]; exact Nat.dvd_mul_right _ _)⟩
 | 9, _ => ⟨_, _, rt_9 s x, rfl, trivial, (right_long (by rw [len_fz]; decide)).symm⟩
 | 10, _ => ⟨_, _, rt_10 s x, rfl, trivial, (right_long (by rw [len_fz]; decide)).symm⟩
 | 11, _ => ⟨_, _, rt_11 s x, rfl, trivial, (right_long (by rw [len_fz]; decide)).symm⟩
 | 12, _ => ⟨_, _, rt_12 s x, rfl, trivial, (right_long (by rw [len_fz]; decide)).symm⟩
def suV (V : Su -> List Int -> AV) : Nat -> List Itm -> Option (Prop × AV × List ABody) := fun _ its => match its with
 | [.s xs n ys] => match suOf xs with
  | some s => some (okF3 n ys /\ s.g.size < 1000000000, V s ys, [])
  | none => none
 | _ => none
theorem tell_su (s : Su) (kd : AV) (k : Nat) (ys : List Int) (h : tell (.int true .i64 s.kd) kd) : tellL (mkA false hG.size [.s suI .i64] [.s s.nus (k : Int) ys]) [suA s kd k] := by
 have e : mkA false hG.size [.s suI .i64] [.s s.nus (k : Int) ys] = [.agg (s.ini ++ [.pslice hG.size (k : Int).toNat false (k : Int)])] := rfl
 rw [e, Int.toNat_natCast]
 refine ⟨⟨h, ?_⟩, trivial⟩
 repeat' first
  | exact trivial
  | refine ⟨⟨rfl, rfl⟩, ?_⟩
  | refine ⟨rfl, ?_⟩
  | exact ⟨⟨rfl, Nat.le_refl _, rfl⟩, trivial⟩
theorem su_ok {f : FuncId} {V : Su -> List Int -> AV} (fn : ∃ fn : Func, Tryz.prog.funcs[f]? = some fn /\ fn.body.isSome = true)
  (h : ∀ (s : Su) (x : Nat -> Int) (n : Nat), s.g.size < 1000000000 -> n <= 12 -> ∃ (C : Ctx) (kd : AV) (nd : Nd) (v0 : AV), CtxOk C /\ C.P = Tryz.prog /\ C.glob = glob /\ tell (.int true .i64 s.kd) kd /\ rn C f s kd n x = some (nd, v0) /\ v0.num = true /\ nd.val /\ tell v0 (V s (fz n x))) :
  NOk Tryz.prog glob hG f (lSpec hG [.s suI .i64] (suV V)) := by
 refine lsp_ok false hG_ok hG_plain glob_lt (fun sz its p v bs e hp => ?_) fn
 unfold suV at e
 split at e
 .rename_i xs n ys
  split at e
  .rename_i s hs
   cases e
   obtain ⟨ho, hg⟩ := hp
   obtain ⟨k, x, hk, rfl, rfl⟩ := okF3_of ho
   obtain rfl := suOf_eq hs
   obtain ⟨C, kd, nd, v0, co, hP, hG', ht, hr, hnum, hnd, hv⟩ := h s x k hg hk
   obtain ⟨q, h1, h2, h3, h4⟩ := oneG_tells hr hnum
   refine ⟨⟨fun h0 => ?_, trivial⟩, rfl, C, 1000, [suA s kd k], nd, v0, q, co, hP, hG', tell_su s kd k _ ht, h1, h2, hnd, h3, h4 sz _ hv⟩
   have := congrArg List.length h0
   rw [spinF_len] at this
   simp only [List.length_nil] at this
   omega
  .cases e
 .cases e
def chkA : Su -> List Int -> AV := fun s ys => .int true .i64 (bif rightS s ys then 0 else 110)
theorem chkA_ok : NOk Tryz.prog glob hG 14 (lSpec hG [.s suI .i64] (suV chkA)) := by
 refine su_ok ⟨_, Tryz.func14, rfl⟩ fun s x n hg hn => ?_
 by_cases c1 : s.kd = 1
 .obtain ⟨nd, v0, a⟩ := ch1_all s x c1 hg n hn
  exact ⟨cNm, .int false .i64 1, nd, v0, cNm_ok, rfl, rfl, ⟨rfl, c1⟩, a⟩
 .by_cases c2 : s.kd = 2
  .obtain ⟨nd, v0, a⟩ := ch2_all s x c2 hg n hn
   exact ⟨cNm, .int false .i64 2, nd, v0, cNm_ok, rfl, rfl, ⟨rfl, c2⟩, a⟩
  .by_cases c3 : s.kd = 3
   .obtain ⟨nd, v0, a⟩ := ch3_all s x c3 hg n hn
    exact ⟨cNm, .int false .i64 3, nd, v0, cNm_ok, rfl, rfl, ⟨rfl, c3⟩, a⟩
   .by_cases c4 : s.kd = 4
    .obtain ⟨nd, v0, a⟩ := ch4_all s x c4 hg n hn
     exact ⟨cNm, .int false .i64 4, nd, v0, cNm_ok, rfl, rfl, ⟨rfl, c4⟩, a⟩
    .obtain ⟨nd, v0, a⟩ := ch0_all s x (inR_no c1 c2 c3 c4) hg n hn
     exact ⟨cNk, .int true .i64 s.kd, nd, v0, cNk_ok, rfl, rfl, ⟨rfl, rfl⟩, a⟩
def rightA : Su -> List Int -> AV := fun s ys => .bool true (rightS s ys)
theorem rightA_ok : NOk Tryz.prog glob hG 18 (lSpec hG [.s suI .i64] (suV rightA)) := by
 refine su_ok ⟨_, Tryz.func18, rfl⟩ fun s x n hg hn => ?_
 obtain ⟨nd, v0, a⟩ := rt_all s x hg n hn
 exact ⟨cNm, .int true .i64 s.kd, nd, v0, cNm_ok, rfl, rfl, ⟨rfl, rfl⟩, a⟩
end
end Go.Proofs.YtooloakdmdbnaaaGreatDoor.K
namespace Go.Proofs.YtooloakdmdbnaaaGreatDoor.K
open Go Go.Eng Go.Ar Go.Rd
noncomputable section
end
end Go.Proofs.YtooloakdmdbnaaaGreatDoor.K
namespace Go.Proofs.YtooloakdmdbnaaaGreatDoor.K
open Go Go.Eng Go.Ar Go.Rd
noncomputable section
end
end Go.Proofs.YtooloakdmdbnaaaGreatDoor.K
namespace Go.Proofs.YtooloakdmdbnaaaGreatDoor.K
open Go Go.Eng Go.Ar Go.Rd
noncomputable section
def tblTe : List (FuncId × TSpec) := (181, tEval) :: tblTw
theorem tblTe_g : ∀ x ∈ tblTe, TOk Tryz.prog glob hG x.1 x.2 := by
 intro x hx
 rcases List.mem_cons.1 hx with rfl | hx
 .exact teval_ok
 .exact tblTw_g x hx
end
end Go.Proofs.YtooloakdmdbnaaaGreatDoor.K
namespace Go.Proofs.YtooloakdmdbnaaaGreatDoor.K
open Go Go.Eng Go.Ar Go.Rd
noncomputable section
def chkC (b : Bool) (k : Int) : Nat -> List Itm -> Option (Prop × AV × List ABody) := fun _ its => match its with
 | [.s xs n ys] => match suOf xs with
  | some s => some (okF3 n ys /\ s.g.size < 1000000000 /\ rightS s ys = b, .int false .i64 k, [])
  | none => none
 | _ => none
theorem chkC_ok {b : Bool} {k : Int} (h : (bif b then 0 else 110) = k) : NOk Tryz.prog glob hG 14 (lSpec hG [.s suI .i64] (chkC b k)) := by
 refine lSpec_weaken chkA_ok fun sz its p v bs e => ?_
 unfold chkC at e
 split at e
 .rename_i xs n ys
  split at e
  .rename_i s hs
   cases e
   refine ⟨okF3 n ys /\ s.g.size < 1000000000, chkA s ys, by simp only [suV, hs], fun hp => ⟨⟨hp.1, hp.2.1⟩, fun σ U hU => ?_⟩⟩
   have hU : VRel σ (.int true .i64 (bif rightS s ys then 0 else 110)) U := hU
   rw [hp.2.2, h] at hU
   exact hU
  .cases e
 .cases e
def chk0S : NSpec := lSpec hG [.s suI .i64] (chkC true 0)
def chk1S : NSpec := lSpec hG [.s suI .i64] (chkC false 110)
def cA : Ctx := mkN Tryz.prog glob hG [(14, chk0S), (89, hN (gH chkSpec))] tblTe ext
theorem cA_ok : CtxOk cA := by
 refine mkN_ok prog_ok ext_ok (fun x hx => ?_) tblTe_g
 simp only [List.mem_cons, List.not_mem_nil, or_false] at hx
 rcases hx with rfl | rfl
 .exact chkC_ok rfl
 .exact chk0.h.n
def chkBad : PSpec := fun args => match Sh.readL [shS] args with
 | some (_, [.n a, .n b]) => some (.p (okSp a b = false), .int false .i64 20)
 | _ => none
theorem chkBad_ok : GOk Tryz.prog glob hG 89 chkBad := by
 refine (schk_ok.g glob hG).weaken fun args nd v e => ?_
 unfold chkBad at e
 split at e
 .rename_i s a b hr
  cases e
  refine ⟨.tt, ((Tm.n .i64 (chkS a b)).av s), ?_, fun h => ⟨trivial, fun σ V k => ?_⟩⟩
  .show sChk args = _
   unfold sChk numSpec
   rw [hr]
  .rw [show chkS a b = 20 by unfold chkS; rw [show okSp a b = false from h]; rfl] at k
   exact (Go.Eng.mkInt_rel _ _ _ _).1 k
 .cases e
def chkAt (c : Nat) : HSpec := fun args h => match Nat.blt h.clock c with
 | true => gH chkSpec args h
 | false => gH chkBad args h
theorem chkAt_ok (c : Nat) : HOk Tryz.prog glob hG 89 (chkAt c) := by
 refine ⟨fun args nd v h e same => ?_, chk0.h.fn⟩
 unfold chkAt at e
 split at e
 .exact chk0.h.call args nd v h e same
 .exact chkBad_ok.h.call args nd v h e same
def cBd (c : Nat) : Ctx := mkN Tryz.prog glob hG [(14, chk0S), (89, hN (chkAt c))] [] ext
theorem cBd_ok (c : Nat) : CtxOk (cBd c) := by
 refine mkN_ok prog_ok ext_ok (fun x hx => ?_) (fun _ h => by cases h)
 simp only [List.mem_cons, List.not_mem_nil, or_false] at hx
 rcases hx with rfl | rfl
 .exact chkC_ok rfl
 .exact (chkAt_ok c).n
def cNo : Ctx := mkN Tryz.prog glob hG [(14, chk1S)] [] ext
theorem cNo_ok : CtxOk cNo := by
 refine mkN_ok prog_ok ext_ok (fun x hx => ?_) (fun _ h => by cases h)
 simp only [List.mem_cons, List.not_mem_nil, or_false] at hx
 subst hx
 exact chkC_ok rfl
def suB (cs : List AV) (n : Int) (a b x y : Int) : List AV := [.agg (cs ++ [.lslice hG.size n]), .agg [.int true .i64 a, .int true .i64 b], .agg [.int true .i64 x, .int true .i64 y]]
def suHr (ys : List Int) : Hp := viewsH true hG [(.i64, ys)]
def rw2 (C : Ctx) (f : FuncId) (cs : List AV) (n : Int) (ys : List Int) (a b x y : Int) : Option (Nd × AV) := oneG (hG.size + 1) hG.clock ((run C 1000).call f (suB cs n a b x y) (suHr ys))
def pOk (s : Su) (k n : Int) (ys : List Int) (b : Bool) : Prop := okF3 n ys /\ s.g.size < 1000000000 /\ rightS { s with kd := k } ys = b
def suV2 (V : Su -> List Int -> Int -> Int -> Int -> Int -> AV) : Nat -> List Itm -> Option (Prop × AV × List ABody) := fun _ its => match its with
 | [.s xs n ys, .n [.n a, .n b], .n [.n x, .n y]] => match suOf xs with
  | some s => some (okF3 n ys /\ s.g.size < 1000000000, V s ys a b x y, [])
  | none => none
 | _ => none
theorem tell_suB (s : Su) (cs : List AV) (n : Int) (ys : List Int) (a b x y : Int) (h : tellL s.ini cs) : tellL (mkA true hG.size [.s suI .i64, .n sS, .n sS] [.s s.nus n ys, .n [.n a, .n b], .n [.n x, .n y]]) (suB cs n a b x y) := by
 have e : mkA true hG.size [.s suI .i64, .n sS, .n sS] [.s s.nus n ys, .n [.n a, .n b], .n [.n x, .n y]] = [.agg (s.ini ++ [.lslice hG.size n]), .agg [.int true .i64 a, .int true .i64 b], .agg [.int true .i64 x, .int true .i64 y]] := rfl
 rw [e]
 exact ⟨tellL_app h ⟨rfl, trivial⟩, ⟨⟨rfl, rfl⟩, ⟨rfl, rfl⟩, trivial⟩, ⟨⟨rfl, rfl⟩, ⟨rfl, rfl⟩, trivial⟩, trivial⟩
theorem tell_kd {s : Su} {kd : AV} (h : tell (.int true .i64 s.kd) kd) : tellL s.ini (s.cells kd) := by
 refine ⟨h, ?_⟩
 repeat' first
  | exact trivial
  | refine ⟨⟨rfl, rfl⟩, ?_⟩
  | refine ⟨rfl, ?_⟩
theorem tell_kz {s : Su} (h : s.kd = 2) (h0 : s.a0 = 0 /\ s.a1 = 0 /\ s.a2 = 0 /\ s.a3 = 0) : tellL s.ini (s.cellsZ (.int false .i64 2)) := by
 refine ⟨⟨rfl, h⟩, ⟨rfl, rfl⟩, ⟨rfl, rfl⟩, ⟨rfl, rfl⟩, ⟨rfl, rfl⟩, ⟨rfl, h0.1⟩, ⟨rfl, h0.2.1⟩, ⟨rfl, h0.2.2.1⟩, ⟨rfl, h0.2.2.2⟩, ?_⟩
 repeat' first
  | exact trivial
  | refine ⟨⟨rfl, rfl⟩, ?_⟩
  | refine ⟨rfl, ?_⟩
theorem su2_ok {f : FuncId} {V : Su -> List Int -> Int -> Int -> Int -> Int -> AV} (fn : ∃ fn : Func, Tryz.prog.funcs[f]? = some fn /\ fn.body.isSome = true)
  (h : ∀ (s : Su) (n : Int) (ys : List Int) (a b x y : Int), s.g.size < 1000000000 -> okF3 n ys -> ∃ (C : Ctx) (cs : List AV) (nd : Nd) (v0 : AV), CtxOk C /\ C.P = Tryz.prog /\ C.glob = glob /\ tellL s.ini cs /\ rw2 C f cs n ys a b x y = some (nd, v0) /\ v0.num = true /\ nd.val /\ tell v0 (V s ys a b x y)) :
  NOk Tryz.prog glob hG f (lSpec hG [.s suI .i64, .n sS, .n sS] (suV2 V)) := by
 refine lsp_ok true hG_ok hG_plain glob_lt (fun sz its p v bs e hp => ?_) fn
 unfold suV2 at e
 split at e
 .rename_i xs n ys a b x y
  split at e
  .rename_i s hs
   cases e
   obtain ⟨ho, hg⟩ := hp
   obtain rfl := suOf_eq hs
   obtain ⟨C, cs, nd, v0, co, hP, hG', ht, hr, hnum, hnd, hv⟩ := h s n ys a b x y hg ho
   obtain ⟨q, h1, h2, h3, h4⟩ := oneG_tells hr hnum
   refine ⟨⟨fun h0 => ?_, trivial⟩, rfl, C, 1000, suB cs n a b x y, nd, v0, q, co, hP, hG', tell_suB s cs n ys a b x y ht, h1, h2, hnd, h3, h4 sz _ hv⟩
   obtain ⟨k1, k2, k3⟩ := ho
   rw [h0] at k3
   simp only [List.length_nil] at k3
   omega
  .cases e
 .cases e
theorem rkz {s : Su} {ys : List Int} {n : Int} {b : Bool} (hk : s.kd = 2) (h0 : s.a0 = 0 /\ s.a1 = 0 /\ s.a2 = 0 /\ s.a3 = 0) (ho : okF3 n ys) (hg : s.g.size < 1000000000) (h : rightS s ys = b) : pOk { s with a0 := 0, a1 := 0, a2 := 0, a3 := 0 } 2 n ys b := by
 have e : ({ s with a0 := 0, a1 := 0, a2 := 0, a3 := 0 } : Su) = s := by
  obtain ⟨h1, h2, h3, h4⟩ := h0
  cases s
  simp_all
 rw [e]
 exact ⟨ho, hg, by rw [su_kd hk]; exact h⟩
theorem rk {s : Su} {ys : List Int} {n : Int} {b : Bool} {k : Int} (hk : s.kd = k) (ho : okF3 n ys) (hg : s.g.size < 1000000000) (h : rightS s ys = b) : pOk s k n ys b := ⟨ho, hg, by rw [su_kd hk]; exact h⟩
end
end Go.Proofs.YtooloakdmdbnaaaGreatDoor.K
namespace Go.Proofs.YtooloakdmdbnaaaGreatDoor.K
open Go Go.Eng Go.Ar Go.Rd
noncomputable section
def rightC (b : Bool) : Nat -> List Itm -> Option (Prop × AV × List ABody) := fun _ its => match its with
 | [.s xs n ys] => match suOf xs with
  | some s => some (okF3 n ys /\ s.g.size < 1000000000 /\ rightS s ys = b, (match b with | true => .bool false true | false => .bool false false), [])
  | none => none
 | _ => none
theorem rightC_ok (b : Bool) : NOk Tryz.prog glob8 hG8 18 (lSpec hG [.s suI .i64] (rightC b)) := by
 refine up8 (lSpec_weaken rightA_ok fun sz its p v bs e => ?_)
 unfold rightC at e
 split at e
 .rename_i xs n ys
  split at e
  .rename_i s hs
   cases e
   refine ⟨okF3 n ys /\ s.g.size < 1000000000, rightA s ys, by simp only [suV, hs], fun hp => ⟨⟨hp.1, hp.2.1⟩, fun σ U hU => ?_⟩⟩
   have hU : VRel σ (.bool true (rightS s ys)) U := hU
   rw [hp.2.2] at hU
   cases b <;> exact hU
  .cases e
 .cases e
def gN (s : PSpec) : NSpec := hN (gH s)
def tblR2 : List (FuncId × NSpec) := (185, hN (listSpec hG8 4 2 sp4 [sS] revalV)) :: tblR1.map fun x => (x.1, gN x.2)
theorem tblR2_g : ∀ x ∈ tblR2, NOk Tryz.prog glob8 hG8 x.1 x.2 := by
 intro x hx
 rcases List.mem_cons.1 hx with rfl | hx
 .exact reval_ok.n
 .obtain ⟨y, hy, rfl⟩ := List.mem_map.1 hx
  exact (tblR1_g y hy).h.n
def cRr (b : Bool) : Ctx := mkN Tryz.prog glob8 hG8 ((18, lSpec hG [.s suI .i64] (rightC b)) :: tblR2) [] ext
theorem cRr_ok (b : Bool) : CtxOk (cRr b) := mkN_ok prog_ok ext_ok (fun x hx => by
 rcases List.mem_cons.1 hx with rfl | hx
 .exact rightC_ok b
 .exact tblR2_g x hx) (fun _ h => by cases h)
def suHr8 (ys : List Int) : Hp := viewsH true hG8 [(.i64, ys)]
def suB8 (cs : List AV) (n : Int) (a b x y : Int) : List AV := [.agg (cs ++ [.lslice hG8.size n]), .agg [.int true .i64 a, .int true .i64 b], .agg [.int true .i64 x, .int true .i64 y]]
def rw8 (C : Ctx) (f : FuncId) (cs : List AV) (n : Int) (ys : List Int) (a b x y : Int) : Option (Nd × AV) := oneG (hG8.size + 1) hG8.clock ((run C 1000).call f (suB8 cs n a b x y) (suHr8 ys))
end
end Go.Proofs.YtooloakdmdbnaaaGreatDoor.K
namespace Go.Rd
open Go Go.Eng Go.Ar
def vs (s : Sp) : Sp := ⟨s.lo, s.hi, 0⟩
def badS : Sp := ⟨1, 0, 0⟩
structure Reg (r : Sp) (c : Bool) (s : Sp) : Prop where
 eq : r = bif c then vs s else badS
 ri : c = true -> Ri s
theorem Reg.t {r s : Sp} {c : Bool} (h : Reg r c s) (hc : c = true) : r.lo = s.lo /\ r.hi = s.hi /\ Ri s := by
 have e := h.eq
 rw [hc] at e
 subst e
 exact ⟨rfl, rfl, h.ri hc⟩
theorem Reg.f {r s : Sp} {c : Bool} (h : Reg r c s) (hc : c = false) : r = badS := by
 have e := h.eq
 rw [hc] at e
 exact e
theorem Reg.cases {r s : Sp} {c : Bool} (h : Reg r c s) : (c = true /\ r.lo = s.lo /\ r.hi = s.hi /\ Ri s) ∨ (c = false /\ r = badS) := by
 cases c with
 | true => exact .inl ⟨rfl, h.t rfl⟩
 | false => exact .inr ⟨rfl, h.f rfl⟩
theorem kB_of (s : Sp) (hr : z0 s = true -> Ri s) : Reg (kB s) (z0 s) s := by
 refine ⟨?_, hr⟩
 unfold kB z0 vs badS
 cases h : s.e == 0 with
 | true => simp [bne, h]
 | false => simp [bne, h]
theorem kB_err {s : Sp} (h : s.e ≠ 0) : kB s = badS := by
 unfold kB badS
 rw [bne0 h]; rfl
theorem bad_not : okSp badS.lo badS.hi = false := by decide
theorem Reg.chk {r s : Sp} {c : Bool} (h : Reg r c s) : (chkS r.lo r.hi != 0) = !c := by
 rcases h.cases with ⟨rfl, h1, h2, h3⟩ | ⟨rfl, rfl⟩
 .unfold chkS; rw [h1, h2, h3.ok]; rfl
 .rfl
theorem Reg.one {s : Sp} (h : Ri s) : Reg (vs s) true s := ⟨rfl, fun _ => h⟩
theorem Reg.const {n : Int} (h : Ri ⟨n, n, 0⟩) : Reg ⟨n, n, 0⟩ true ⟨n, n, 0⟩ := ⟨rfl, fun _ => h⟩
theorem Reg.bin {F : Int -> Int -> Int -> Int -> Sp} (hF : ∀ a b c d, (okSp a b && okSp c d) = false -> (F a b c d).e ≠ 0) (hR : ∀ {s t : Sp}, Ri s -> Ri t -> (F s.lo s.hi t.lo t.hi).e = 0 -> Ri (F s.lo s.hi t.lo t.hi)) {r s q t : Sp} {c d : Bool} (h : Reg r c s) (k : Reg q d t) :
  Reg (kB (F r.lo r.hi q.lo q.hi)) (c && d && z0 (F s.lo s.hi t.lo t.hi)) (F s.lo s.hi t.lo t.hi) := by
 rcases h.cases with ⟨rfl, h1, h2, h3⟩ | ⟨rfl, rfl⟩
 .rcases k.cases with ⟨rfl, k1, k2, k3⟩ | ⟨rfl, rfl⟩
  .rw [h1, h2, k1, k2]
   exact kB_of _ fun z => hR h3 k3 (z0e z)
  .rw [kB_err (hF _ _ _ _ (by rw [bad_not, Bool.and_false]))]
   exact ⟨rfl, fun h => by cases h⟩
 .rw [kB_err (hF _ _ _ _ (by rw [bad_not, Bool.false_and]))]
  exact ⟨rfl, fun h => by cases h⟩
theorem both_e {a b c d : Int} {x : Sp} (h : (okSp a b && okSp c d) = false) : (both a b c d x).e ≠ 0 := by
 unfold both
 rw [h]
 exact fun h => by cases h
theorem Reg.add {r s q t : Sp} {c d : Bool} (h : Reg r c s) (k : Reg q d t) : Reg (kB (addS r.lo r.hi q.lo q.hi)) (c && d && z0 (addS s.lo s.hi t.lo t.hi)) (addS s.lo s.hi t.lo t.hi) := Reg.bin (F := addS) (fun _ _ _ _ h => both_e h) r_add h k
theorem Reg.sub {r s q t : Sp} {c d : Bool} (h : Reg r c s) (k : Reg q d t) : Reg (kB (subS r.lo r.hi q.lo q.hi)) (c && d && z0 (subS s.lo s.hi t.lo t.hi)) (subS s.lo s.hi t.lo t.hi) := Reg.bin (F := subS) (fun _ _ _ _ h => both_e h) r_sub h k
theorem Reg.mul {r s q t : Sp} {c d : Bool} (h : Reg r c s) (k : Reg q d t) : Reg (kB (mulS r.lo r.hi q.lo q.hi)) (c && d && z0 (mulS s.lo s.hi t.lo t.hi)) (mulS s.lo s.hi t.lo t.hi) := Reg.bin (F := mulS) (fun _ _ _ _ h => both_e h) r_mul h k
theorem Reg.div {r s q t : Sp} {c d : Bool} (h : Reg r c s) (k : Reg q d t) : Reg (kB (divS r.lo r.hi q.lo q.hi)) (c && d && z0 (divS s.lo s.hi t.lo t.hi)) (divS s.lo s.hi t.lo t.hi) := Reg.bin (F := divS) (fun _ _ _ _ h => both_e h) r_div h k
theorem Reg.sqr {r s : Sp} {c : Bool} (h : Reg r c s) : Reg (kB (sqrS r.lo r.hi)) (c && z0 (sqrS s.lo s.hi)) (sqrS s.lo s.hi) := by
 rcases h.cases with ⟨rfl, h1, h2, h3⟩ | ⟨rfl, rfl⟩
 .rw [h1, h2]; exact kB_of _ fun z => r_sqr h3 (z0e z)
 .exact ⟨by unfold sqrS; rw [bad_not]; rfl, fun h => by cases h⟩
theorem Reg.root {r s : Sp} {c : Bool} (h : Reg r c s) : Reg (kB (sqrtS r.lo r.hi)) (c && z0 (sqrtS s.lo s.hi)) (sqrtS s.lo s.hi) := by
 rcases h.cases with ⟨rfl, h1, h2, h3⟩ | ⟨rfl, rfl⟩
 .rw [h1, h2]; exact kB_of _ fun z => r_rt h3 (z0e z)
 .exact ⟨by unfold sqrtS; rw [bad_not]; rfl, fun h => by cases h⟩
theorem Reg.sc {r s : Sp} {c : Bool} {n d : Int} (h : Reg r c s) (k : okSc n d) : Reg (kB (scaleS r.lo r.hi n d)) (c && z0 (xScaleS s.lo s.hi n d)) (xScaleS s.lo s.hi n d) := by
 rcases h.cases with ⟨rfl, h1, h2, h3⟩ | ⟨rfl, rfl⟩
 .rw [h1, h2, <- sc_eq k]; exact kB_of _ fun z => r_sc h3 k (z0e z)
 .exact ⟨by unfold scaleS; rw [bad_not]; rfl, fun h => by cases h⟩
theorem Reg.imp {r s : Sp} {c d : Bool} (h : Reg r c s) (e : c = d) : Reg r d s := e ▸ h
theorem add0 {s : Sp} (h : Ri s) : addS 0 0 s.lo s.hi = vs s := by
 unfold addS both toldS
 rw [show okSp 0 0 = true by decide, h.ok]
 have h1 := h.lo
 have h2 := h.le
 have h3 := h.hi
 rw [Int.zero_add, Int.zero_add, okF_iff.2 (by omega), okF_iff.2 (by omega)]
 rfl
theorem add0' {s : Sp} (h : Ri s) : addS s.lo s.hi 0 0 = vs s := by
 unfold addS both toldS
 rw [show okSp 0 0 = true by decide, h.ok]
 have h1 := h.lo
 have h2 := h.le
 have h3 := h.hi
 rw [Int.add_zero, Int.add_zero, okF_iff.2 (by omega), okF_iff.2 (by omega)]
 rfl
theorem mul00 {v : Sp} (h : Ri v) : mulS 0 0 v.lo v.hi = ⟨0, 0, 0⟩ := by
 unfold mulS both
 rw [show okSp 0 0 = true by decide, h.ok]
 unfold hull4 mF
 simp only [Int.zero_mul]
 rfl
theorem ev1_eq {v c : Sp} (hv : Ri v) (h : Ri c) : ev1 v c = vs c := by
 unfold ev1 evS
 simp only [mul00 hv]
 show (⟨(addS 0 0 c.lo c.hi).lo, (addS 0 0 c.lo c.hi).hi, (addS 0 0 c.lo c.hi).e⟩ : Sp) = vs c
 rw [add0 h]
theorem evS_e0 {a v c : Sp} (h : (evS a v c).e = 0) : (mulS a.lo a.hi v.lo v.hi).e = 0 /\ (addS (mulS a.lo a.hi v.lo v.hi).lo (mulS a.lo a.hi v.lo v.hi).hi c.lo c.hi).e = 0 /\ evS a v c = addS (mulS a.lo a.hi v.lo v.hi).lo (mulS a.lo a.hi v.lo v.hi).hi c.lo c.hi := by
 have e0 : (mulS a.lo a.hi v.lo v.hi).e = 0 := by
  rcases Decidable.em ((mulS a.lo a.hi v.lo v.hi).e = 0) with d | d
  .exact d
  .unfold evS at h
   simp only [beq0 d, cond_false] at h
   exact h
 have e : evS a v c = addS (mulS a.lo a.hi v.lo v.hi).lo (mulS a.lo a.hi v.lo v.hi).hi c.lo c.hi := by
  unfold evS
  simp only [e0]
  rfl
 exact ⟨e0, by rw [<- e]; exact h, e⟩
theorem evS_0 {a v c : Sp} (h : (mulS a.lo a.hi v.lo v.hi).e = 0) : evS a v c = addS (mulS a.lo a.hi v.lo v.hi).lo (mulS a.lo a.hi v.lo v.hi).hi c.lo c.hi := by
 unfold evS
 simp only [h]
 rfl
theorem rB_f {s : Sp} (h : s.e = 0) : rB s = false := by unfold rB; rw [h]; rfl
theorem rB_t {s : Sp} (h : rB s = false) : s.e = 0 := by unfold rB at h; simpa using h
theorem rB_n {s : Sp} (h : rB s = true) : s.e ≠ 0 := by unfold rB at h; simpa using h
theorem Reg.eval {r0 r1 r2 r3 rv s0 s1 s2 s3 v : Sp} {c0 c1 c2 c3 cv : Bool} (h0 : Reg r0 c0 s0) (h1 : Reg r1 c1 s1) (h2 : Reg r2 c2 s2) (h3 : Reg r3 c3 s3) (hv : Reg rv cv v) :
  Reg (kB (rEv r0.lo r0.hi r1.lo r1.hi r2.lo r2.hi r3.lo r3.hi rv.lo rv.hi)) ((c0 && (c1 && (c2 && c3))) && cv && z0 (evalS v s0 s1 s2 s3)) (evalS v s0 s1 s2 s3) := by
 cases hc : ((c0 && (c1 && (c2 && c3))) && cv) with
 | false =>
  have key : rE0 r0.lo r0.hi r1.lo r1.hi r2.lo r2.hi r3.lo r3.hi rv.lo rv.hi = 20 := by
   have ok : ∀ {r s : Sp} {c : Bool}, Reg r c s -> okSp r.lo r.hi = c := fun {r s c} h => by
    rcases h.cases with ⟨rfl, a1, a2, a3⟩ | ⟨rfl, rfl⟩
    .rw [a1, a2]; exact a3.ok
    .rfl
   unfold rE0
   rw [ok h0, ok h1, ok h2, ok h3]
   simp only [Bool.not_not]
   cases hd : (c0 && (c1 && (c2 && c3))) with
   | true =>
    rw [hd, Bool.true_and] at hc
    unfold chkS
    rw [ok hv, hc]
    rfl
   | false => rfl
  rw [kB_err]
  .exact ⟨rfl, fun h => by cases h⟩
  .unfold rEv rP1
   rw [key]
   exact fun h => by cases h
 | true =>
  simp only [Bool.and_eq_true] at hc
  obtain ⟨⟨k0, k1, k2, k3⟩, kv⟩ := hc
  obtain ⟨a0, b0, i0⟩ := h0.t k0
  obtain ⟨a1, b1, i1⟩ := h1.t k1
  obtain ⟨a2, b2, i2⟩ := h2.t k2
  obtain ⟨a3, b3, i3⟩ := h3.t k3
  obtain ⟨av, bv, iv⟩ := hv.t kv
  rw [a0, b0, a1, b1, a2, b2, a3, b3, av, bv]
  have p1 : rP1 s0.lo s0.hi s1.lo s1.hi s2.lo s2.hi s3.lo s3.hi v.lo v.hi = false := by
   unfold rP1 rE0 chkS
   rw [i0.ok, i1.ok, i2.ok, i3.ok, iv.ok]; rfl
  rw [Bool.true_and]
  have e2 : ev2 v s2 s3 = evS s3 v s2 := by
   unfold ev2
   rw [ev1_eq iv i3]
   rfl
  rcases Decidable.em ((evalS v s0 s1 s2 s3).e = 0) with hz | hz
  .obtain ⟨d1, d2, d3, d4⟩ := evG_ok hz
   have ee := evG_of d1 d2 d3 d4
   rw [e2] at d2
   obtain ⟨m1, n1, q1⟩ := evS_e0 d2
   have e3 : ev3 v s1 s2 s3 = evS (rA1 s2.lo s2.hi s3.lo s3.hi v.lo v.hi) v s1 := by unfold ev3; rw [e2, q1]; rfl
   rw [e3] at d3
   obtain ⟨m2, n2, q2⟩ := evS_e0 d3
   have e4 : ev4 v s0 s1 s2 s3 = evS (rA2 s1.lo s1.hi s2.lo s2.hi s3.lo s3.hi v.lo v.hi) v s0 := by unfold ev4; rw [e3, q2]; rfl
   rw [e4] at d4
   obtain ⟨m3, n3, q3⟩ := evS_e0 d4
   have go : rGo s0.lo s0.hi s1.lo s1.hi s2.lo s2.hi s3.lo s3.hi v.lo v.hi = true := by
    unfold rGo
    rw [rB_f (s := rM1 ..) m1, rB_f (s := rA1 ..) n1, rB_f (s := rM2 ..) m2, rB_f (s := rA2 ..) n2, rB_f (s := rM3 ..) m3, rB_f (s := rA3 ..) n3]; rfl
   have er : rEv s0.lo s0.hi s1.lo s1.hi s2.lo s2.hi s3.lo s3.hi v.lo v.hi = vs (evalS v s0 s1 s2 s3) := by
    unfold rEv
    rw [p1, go, ee, e4, q3]
    rfl
   rw [er]
   have := kB_of (vs (evalS v s0 s1 s2 s3)) (fun _ => by
    have := evl_r iv i0 i1 i2 i3 hz
    exact ⟨this.lo, this.le, this.hi⟩)
   refine ⟨?_, fun _ => evl_r iv i0 i1 i2 i3 hz⟩
   rw [zt hz]
   exact this.eq
  .have ez : z0 (evalS v s0 s1 s2 s3) = false := by
    unfold z0
    exact beq0 hz
   rw [ez, kB_err]
   .exact ⟨rfl, fun h => by cases h⟩
   .intro he
    apply hz
    unfold rEv at he
    simp only [p1, cond_false] at he
    have all : rB (rM1 s3.lo s3.hi v.lo v.hi) = false /\ rB (rA1 s2.lo s2.hi s3.lo s3.hi v.lo v.hi) = false /\ rB (rM2 s2.lo s2.hi s3.lo s3.hi v.lo v.hi) = false /\ rB (rA2 s1.lo s1.hi s2.lo s2.hi s3.lo s3.hi v.lo v.hi) = false /\ rB (rM3 s1.lo s1.hi s2.lo s2.hi s3.lo s3.hi v.lo v.hi) = false /\ rB (rA3 s0.lo s0.hi s1.lo s1.hi s2.lo s2.hi s3.lo s3.hi v.lo v.hi) = false := by
     unfold rGo rP12 at he
     cases f1 : rB (rM1 s3.lo s3.hi v.lo v.hi) with
     | true => rw [f1] at he; exact absurd he (rB_n f1)
     | false =>
      cases f2 : rB (rA1 s2.lo s2.hi s3.lo s3.hi v.lo v.hi) with
      | true => rw [f1, f2] at he; exact absurd he (rB_n f2)
      | false =>
       cases f3 : rB (rM2 s2.lo s2.hi s3.lo s3.hi v.lo v.hi) with
       | true => rw [f1, f2, f3] at he; exact absurd he (rB_n f3)
       | false =>
        cases f4 : rB (rA2 s1.lo s1.hi s2.lo s2.hi s3.lo s3.hi v.lo v.hi) with
        | true => rw [f1, f2, f3, f4] at he; exact absurd he (rB_n f4)
        | false =>
         cases f5 : rB (rM3 s1.lo s1.hi s2.lo s2.hi s3.lo s3.hi v.lo v.hi) with
         | true => rw [f1, f2, f3, f4, f5] at he; exact absurd he (rB_n f5)
         | false =>
          cases f6 : rB (rA3 s0.lo s0.hi s1.lo s1.hi s2.lo s2.hi s3.lo s3.hi v.lo v.hi) with
          | true => rw [f1, f2, f3, f4, f5, f6] at he; exact absurd he (rB_n f6)
          | false => exact ⟨rfl, rfl, rfl, rfl, rfl, rfl⟩
    obtain ⟨m1, n1, m2, n2, m3, n3⟩ := all
    have x2 : ev2 v s2 s3 = rA1 s2.lo s2.hi s3.lo s3.hi v.lo v.hi := by rw [e2]; exact evS_0 (rB_t m1)
    have x3 : ev3 v s1 s2 s3 = rA2 s1.lo s1.hi s2.lo s2.hi s3.lo s3.hi v.lo v.hi := by unfold ev3; rw [x2]; exact evS_0 (rB_t m2)
    have x4 : ev4 v s0 s1 s2 s3 = rA3 s0.lo s0.hi s1.lo s1.hi s2.lo s2.hi s3.lo s3.hi v.lo v.hi := by unfold ev4; rw [x3]; exact evS_0 (rB_t m3)
    rw [evG_of (by rw [ev1_eq iv i3]; rfl) (by rw [x2]; exact rB_t n1) (by rw [x3]; exact rB_t n2) (by rw [x4]; exact rB_t n3), x4]
    exact rB_t n3
end Go.Rd
namespace Go.Rd
open Go Go.Eng Go.Ar
section
variable (c k a0 a1 a2 a3 a b x y : Int)
def j0 : Sp := kB (sqrS a b)
def j1 : Sp := kB (sqrS x y)
def j2 : Sp := kB (addS (j0 a b).lo (j0 a b).hi (j1 x y).lo (j1 x y).hi)
def j3 : Sp := kB (scaleS (j2 a b x y).lo (j2 a b x y).hi c 1000000000)
def j4 : Sp := kB (scaleS (j3 c a b x y).lo (j3 c a b x y).hi c 1000000000)
def j5 : Sp := kB (scaleS (j4 c a b x y).lo (j4 c a b x y).hi (IntKind.i64.wrap (1000000 + k)) 1000000)
def j6 : Sp := kB (subS 4294967296 4294967296 (j5 c k a b x y).lo (j5 c k a b x y).hi)
def j7 : Sp := kB (sqrtS (j6 c k a b x y).lo (j6 c k a b x y).hi)
def j9 : Sp := kB (addS 4294967296 4294967296 (j7 c k a b x y).lo (j7 c k a b x y).hi)
def j10 : Sp := kB (divS (j3 c a b x y).lo (j3 c a b x y).hi (j9 c k a b x y).lo (j9 c k a b x y).hi)
def jb : Bool := chkS (j6 c k a b x y).lo (j6 c k a b x y).hi != 0
def jn : Bool := decide ((j6 c k a b x y).lo <= 0)
def jout : Bool := bif jb c k a b x y then false else bif jn c k a b x y then true else false
def jz : Sp := ⟨bif jb c k a b x y then 1 else bif jn c k a b x y then 1 else (j10 c k a b x y).lo, bif jb c k a b x y then 0 else bif jn c k a b x y then 0 else (j10 c k a b x y).hi, 0⟩
def jh : Sp := kB (scaleS (j2 a b x y).lo (j2 a b x y).hi 1 100)
def jc (n : Int) : Sp := kB (scaleS 4294967296 4294967296 n 1000000)
def je : Sp := kB (rEv (jc a0).lo (jc a0).hi (jc a1).lo (jc a1).hi (jc a2).lo (jc a2).hi (jc a3).lo (jc a3).hi (jh a b x y).lo (jh a b x y).hi)
def jq : Sp := kB (sqrS (jh a b x y).lo (jh a b x y).hi)
def jw : Sp := kB (mulS (jq a b x y).lo (jq a b x y).hi (je a0 a1 a2 a3 a b x y).lo (je a0 a1 a2 a3 a b x y).hi)
def js : Sp := kB (addS (jz c k a b x y).lo (jz c k a b x y).hi (jw a0 a1 a2 a3 a b x y).lo (jw a0 a1 a2 a3 a b x y).hi)
def jr : Sp := ⟨bif asp a0 a1 a2 a3 then (js c k a0 a1 a2 a3 a b x y).lo else (jz c k a b x y).lo, bif asp a0 a1 a2 a3 then (js c k a0 a1 a2 a3 a b x y).hi else (jz c k a b x y).hi, 0⟩
def jp : Int := bif bif chkS a b != 0 then true else chkS x y != 0 then 20 else 0
def jp1 : Bool := bif jp a b x y != 0 then true else false
def jfin (out : Bool) (r : Sp) : Sp := ⟨bif jp1 a b x y then 0 else bif out then 0 else bif chkS r.lo r.hi != 0 then 0 else r.lo, bif jp1 a b x y then 0 else bif out then 0 else bif chkS r.lo r.hi != 0 then 0 else r.hi,
 bif jp1 a b x y then jp a b x y else bif out then 9 else bif chkS r.lo r.hi != 0 then 6 else 0⟩
end
theorem ri_of {a b : Int} (h : okSp a b = true) : Ri ⟨a, b, 0⟩ := by
 have := okSp_iff.1 h
 exact ⟨this.1, this.2.1, this.2.2⟩
section
variable {c k a0 a1 a2 a3 a b x y : Int} (hc : inL c) (hk : inK k) (hx : okSp a b = true) (hy : okSp x y = true)
include hx in
theorem J0 : Reg (j0 a b) (z0 (s0 c k a b x y)) (s0 c k a b x y) := by
 have := Reg.sqr (Reg.one (ri_of hx))
 exact this.imp (Bool.true_and _)
include hy in
theorem J1 : Reg (j1 x y) (z0 (s1 c k a b x y)) (s1 c k a b x y) := by
 have := Reg.sqr (Reg.one (ri_of hy))
 exact this.imp (Bool.true_and _)
include hx hy in
theorem J2 : Reg (j2 a b x y) (z0 (s0 c k a b x y) && z0 (s1 c k a b x y) && z0 (s2 c k a b x y)) (s2 c k a b x y) := Reg.add (J0 hx) (J1 hy)
include hc hx hy in
theorem J3 : Reg (j3 c a b x y) (z0 (s0 c k a b x y) && z0 (s1 c k a b x y) && z0 (s2 c k a b x y) && z0 (s3 c k a b x y)) (s3 c k a b x y) := Reg.sc (J2 hx hy) (sc_c hc)
include hc hx hy in
theorem J4 : Reg (j4 c a b x y) (z0 (s0 c k a b x y) && z0 (s1 c k a b x y) && z0 (s2 c k a b x y) && z0 (s3 c k a b x y) && z0 (s4 c k a b x y)) (s4 c k a b x y) := Reg.sc (J3 hc hx hy) (sc_c hc)
include hc hk hx hy in
theorem J5 : Reg (j5 c k a b x y) (sagH0 c k a b x y) (s5 c k a b x y) := (Reg.sc (J4 hc hx hy) (sc_k hk)).imp (by unfold sagH0; simp only [Bool.and_assoc]; rfl)
include hc hk hx hy in
theorem J6 : Reg (j6 c k a b x y) (sagH0 c k a b x y && z0 (s6 c k a b x y)) (s6 c k a b x y) := (Reg.sub (Reg.const one_ri) (J5 hc hk hx hy)).imp (by rw [Bool.true_and]; rfl)
include hc hk hx hy in
theorem J7 : Reg (j7 c k a b x y) (sagH0 c k a b x y && z0 (s6 c k a b x y) && z0 (s7 c k a b x y)) (s7 c k a b x y) := Reg.root (J6 hc hk hx hy)
include hc hk hx hy in
theorem J9 : Reg (j9 c k a b x y) (sagH0 c k a b x y && z0 (s6 c k a b x y) && z0 (s7 c k a b x y) && z0 (s9 c k a b x y)) (s9 c k a b x y) := (Reg.add (Reg.const one_ri) (J7 hc hk hx hy)).imp (by rw [Bool.true_and]; rfl)
include hc hx hy in
theorem s8_eq (h : (z0 (s0 c k a b x y) && z0 (s1 c k a b x y) && z0 (s2 c k a b x y) && z0 (s3 c k a b x y)) = true) : (s8 c k a b x y).lo = (s3 c k a b x y).lo /\ (s8 c k a b x y).hi = (s3 c k a b x y).hi /\ z0 (s8 c k a b x y) = true := by
 have h3 := (J3 (k := k) hc hx hy).ri h
 have e : s8 c k a b x y = vs (s3 c k a b x y) := add0' h3
 rw [e]
 exact ⟨rfl, rfl, rfl⟩
include hc hk hx hy in
theorem J10 : Reg (j10 c k a b x y) (sagH0 c k a b x y && z0 (s6 c k a b x y) && z0 (s7 c k a b x y) && z0 (s8 c k a b x y) && z0 (s9 c k a b x y) && z0 (s10 c k a b x y)) (s10 c k a b x y) := by
 have h := Reg.div (J3 (k := k) hc hx hy) (J9 hc hk hx hy)
 cases h3 : (z0 (s0 c k a b x y) && z0 (s1 c k a b x y) && z0 (s2 c k a b x y) && z0 (s3 c k a b x y)) with
 | true =>
  obtain ⟨e1, e2, e3⟩ := s8_eq hc hx hy h3
  have e : divS (s3 c k a b x y).lo (s3 c k a b x y).hi (s9 c k a b x y).lo (s9 c k a b x y).hi = s10 c k a b x y := by unfold s10; rw [e1, e2]
  rw [e, h3, Bool.true_and] at h
  refine h.imp ?_
  rw [e3, Bool.and_true]
 | false =>
  have hs : sagH0 c k a b x y = false := by
   unfold sagH0
   cases e0 : z0 (s0 c k a b x y) <;> cases e1 : z0 (s1 c k a b x y) <;> cases e2 : z0 (s2 c k a b x y) <;> cases e3 : z0 (s3 c k a b x y) <;> simp_all
  rw [h3, Bool.false_and, Bool.false_and] at h
  rw [hs]
  exact ⟨h.eq, fun h => by cases h⟩
include hc hk hx hy in
theorem Jb : jb c k a b x y = !(sagH0 c k a b x y && z0 (s6 c k a b x y)) := (J6 hc hk hx hy).chk
include hc hk hx hy in
theorem Jn (h : (sagH0 c k a b x y && z0 (s6 c k a b x y)) = true) : jn c k a b x y = decide ((s6 c k a b x y).lo <= 0) := by
 unfold jn
 rw [((J6 hc hk hx hy).t h).1]
include hc hk hx hy in
theorem Jout : jout c k a b x y = sagD c k a b x y := by
 unfold jout sagD
 rw [Jb hc hk hx hy]
 cases h : (sagH0 c k a b x y && z0 (s6 c k a b x y)) with
 | true =>
  rw [Jn hc hk hx hy h]
  simp only [Bool.and_eq_true] at h
  rw [h.1, h.2]
  cases decide ((s6 c k a b x y).lo <= 0) <;> rfl
 | false =>
  cases h1 : sagH0 c k a b x y <;> cases h2 : z0 (s6 c k a b x y) <;> simp_all
include hc hk hx hy in
theorem Jz : Reg (jz c k a b x y) (sagB c k a b x y) (s10 c k a b x y) := by
 have hb := Jb hc hk hx hy
 have h10 := J10 hc hk hx hy
 cases h : (sagH0 c k a b x y && z0 (s6 c k a b x y)) with
 | true =>
  have hn := Jn hc hk hx hy h
  rw [h] at hb h10
  have hB : sagB c k a b x y = (!decide ((s6 c k a b x y).lo <= 0) && (z0 (s7 c k a b x y) && (z0 (s8 c k a b x y) && (z0 (s9 c k a b x y) && z0 (s10 c k a b x y))))) := by
   unfold sagB
   simp only [Bool.and_eq_true] at h
   rw [h.1, h.2]; rfl
  rw [hB]
  cases hd : decide ((s6 c k a b x y).lo <= 0) with
  | true =>
   rw [hd] at hn
   refine ⟨?_, fun h => by cases h⟩
   unfold jz
   rw [hb, hn]; rfl
  | false =>
   rw [hd] at hn
   have e : jz c k a b x y = j10 c k a b x y := by
    unfold jz
    rw [hb, hn]
    rfl
   rw [e]
   refine h10.imp ?_
   simp only [Bool.true_and, Bool.not_false, Bool.and_assoc]
 | false =>
  rw [h] at hb
  have hB : sagB c k a b x y = false := by
   unfold sagB
   cases h1 : sagH0 c k a b x y <;> cases h2 : z0 (s6 c k a b x y) <;> simp_all
  rw [hB]
  refine ⟨?_, fun h => by cases h⟩
  unfold jz
  rw [hb]; rfl
include hx hy in
theorem Jh : Reg (jh a b x y) (z0 (s0 c k a b x y) && z0 (s1 c k a b x y) && z0 (s2 c k a b x y) && z0 (u0 c k a b x y)) (u0 c k a b x y) := Reg.sc (J2 hx hy) sc_h
theorem Jc {n : Int} (h : inL n) : Reg (jc n) (z0 (ca n)) (ca n) := (Reg.sc (Reg.const one_ri) (sc_a h)).imp (Bool.true_and _)
variable (i0 : inL a0) (i1 : inL a1) (i2 : inL a2) (i3 : inL a3)
include hx hy i0 i1 i2 i3 in
theorem Je : Reg (je a0 a1 a2 a3 a b x y) ((z0 (ca a0) && (z0 (ca a1) && (z0 (ca a2) && z0 (ca a3)))) && (z0 (s0 c k a b x y) && z0 (s1 c k a b x y) && z0 (s2 c k a b x y) && z0 (u0 c k a b x y)) && z0 (u1 c k a0 a1 a2 a3 a b x y)) (u1 c k a0 a1 a2 a3 a b x y) :=
 Reg.eval (Jc i0) (Jc i1) (Jc i2) (Jc i3) (Jh hx hy)
include hx hy in
theorem Jq : Reg (jq a b x y) (z0 (s0 c k a b x y) && z0 (s1 c k a b x y) && z0 (s2 c k a b x y) && z0 (u0 c k a b x y) && z0 (u2 c k a b x y)) (u2 c k a b x y) := Reg.sqr (Jh hx hy)
include hc hk hx hy i0 i1 i2 i3 in
theorem Js : Reg (js c k a0 a1 a2 a3 a b x y) (sagB c k a b x y && sagE c k a0 a1 a2 a3 a b x y) (u4 c k a0 a1 a2 a3 a b x y) := by
 have h := Reg.add (Jz hc hk hx hy) (Reg.mul (Jq (c := c) (k := k) hx hy) (Je (c := c) (k := k) hx hy i0 i1 i2 i3))
 refine Reg.imp (s := u4 c k a0 a1 a2 a3 a b x y) h ?_
 unfold sagE
 show (sagB c k a b x y && (_ && _ && z0 (u3 c k a0 a1 a2 a3 a b x y)) && z0 (u4 c k a0 a1 a2 a3 a b x y)) = _
 cases z0 (s0 c k a b x y) <;> cases z0 (s1 c k a b x y) <;> cases z0 (s2 c k a b x y) <;> cases z0 (u0 c k a b x y) <;> cases z0 (ca a0) <;> cases z0 (ca a1) <;> cases z0 (ca a2) <;> cases z0 (ca a3) <;> cases z0 (u1 c k a0 a1 a2 a3 a b x y) <;> cases z0 (u2 c k a b x y) <;> simp [Bool.and_assoc]
include hc hk hx hy i0 i1 i2 i3 in
theorem Jr : Reg (jr c k a0 a1 a2 a3 a b x y) (sagC c k a0 a1 a2 a3 a b x y) (bif asp a0 a1 a2 a3 then u4 c k a0 a1 a2 a3 a b x y else s10 c k a b x y) := by
 unfold jr sagC
 cases asp a0 a1 a2 a3 with
 | true =>
  have h := Js hc hk hx hy i0 i1 i2 i3
  exact ⟨by show (⟨(js c k a0 a1 a2 a3 a b x y).lo, (js c k a0 a1 a2 a3 a b x y).hi, 0⟩ : Sp) = bif (sagB c k a b x y && sagE c k a0 a1 a2 a3 a b x y) then vs (u4 c k a0 a1 a2 a3 a b x y) else badS; rw [h.eq]; cases (sagB c k a b x y && sagE c k a0 a1 a2 a3 a b x y) <;> rfl, h.ri⟩
 | false =>
  have h := Jz hc hk hx hy
  refine Reg.imp (c := sagB c k a b x y) ⟨by show (⟨(jz c k a b x y).lo, (jz c k a b x y).hi, 0⟩ : Sp) = bif sagB c k a b x y then vs (s10 c k a b x y) else badS; rw [h.eq]; cases sagB c k a b x y <;> rfl, h.ri⟩ ?_
  show _ = (_ && true)
  rw [Bool.and_true]
include hx hy in
theorem Jp : jp1 a b x y = false := by
 unfold jp1 jp chkS
 rw [hx, hy]; rfl
theorem fin_of {r s : Sp} {cc : Bool} (hp : jp1 a b x y = false) (h : Reg r cc s) (out : Bool) (hoc : cc = true -> out = false) : jfin a b x y out r = ⟨bif cc then s.lo else 0, bif cc then s.hi else 0, bif cc then 0 else bif out then 9 else 6⟩ := by
 unfold jfin
 rw [hp, h.chk]
 rcases h.cases with ⟨rfl, h1, h2, h3⟩ | ⟨rfl, rfl⟩
 .rw [hoc rfl, h1, h2]; rfl
 .cases out <;> rfl
theorem sagD_C (h : sagC c k a0 a1 a2 a3 a b x y = true) : sagD c k a b x y = false := by
 have hb : sagB c k a b x y = true := by
  unfold sagC at h
  simp only [Bool.and_eq_true] at h
  exact h.1
 unfold sagB at hb
 simp only [Bool.and_eq_true] at hb
 unfold sagD
 have := hb.2.2.1
 cases hd : decide ((s6 c k a b x y).lo <= 0) with
 | true => rw [hd] at this; cases this
 | false => rw [Bool.and_false, Bool.and_false]
include hc hk hx hy i0 i1 i2 i3 in
theorem ref_sagS : jfin a b x y (jout c k a b x y) (jr c k a0 a1 a2 a3 a b x y) = sagS c k a0 a1 a2 a3 a b x y := by
 rw [fin_of (Jp hx hy) (Jr hc hk hx hy i0 i1 i2 i3) _ (fun h => by rw [Jout hc hk hx hy]; exact sagD_C h), Jout hc hk hx hy]
 unfold sagS
 cases asp a0 a1 a2 a3 <;> rfl
end
section
variable (c k l m a b x y : Int)
def hh2 : Sp := kB (scaleS (j1 x y).lo (j1 x y).hi c 1000000000)
def hh4 : Sp := kB (scaleS (j0 a b).lo (j0 a b).hi l 1000000000)
def hh5 : Sp := kB (scaleS (hh4 l a b).lo (hh4 l a b).hi l 1000000000)
def hh6 : Sp := kB (scaleS (hh5 l a b).lo (hh5 l a b).hi (IntKind.i64.wrap (1000000 + m)) 1000000)
def hh7 : Sp := kB (scaleS (hh2 c x y).lo (hh2 c x y).hi c 1000000000)
def hh8 : Sp := kB (scaleS (hh7 c x y).lo (hh7 c x y).hi (IntKind.i64.wrap (1000000 + k)) 1000000)
def hh9 : Sp := kB (addS (hh6 l m a b).lo (hh6 l m a b).hi (hh8 c k x y).lo (hh8 c k x y).hi)
def hhD : Sp := kB (subS 4294967296 4294967296 (hh9 c k l m a b x y).lo (hh9 c k l m a b x y).hi)
def hhR : Sp := kB (sqrtS (hhD c k l m a b x y).lo (hhD c k l m a b x y).hi)
def hhT : Sp := kB (addS (hh4 l a b).lo (hh4 l a b).hi (hh2 c x y).lo (hh2 c x y).hi)
def hhO : Sp := kB (addS 4294967296 4294967296 (hhR c k l m a b x y).lo (hhR c k l m a b x y).hi)
def hhZ : Sp := kB (divS (hhT c l a b x y).lo (hhT c l a b x y).hi (hhO c k l m a b x y).lo (hhO c k l m a b x y).hi)
def hhb : Bool := chkS (hhD c k l m a b x y).lo (hhD c k l m a b x y).hi != 0
def hhn : Bool := decide ((hhD c k l m a b x y).lo <= 0)
def hhout : Bool := bif hhb c k l m a b x y then false else bif hhn c k l m a b x y then true else false
def hhz : Sp := ⟨bif hhb c k l m a b x y then 1 else bif hhn c k l m a b x y then 1 else (hhZ c k l m a b x y).lo, bif hhb c k l m a b x y then 0 else bif hhn c k l m a b x y then 0 else (hhZ c k l m a b x y).hi, 0⟩
end
section
variable {c k l m a b x y : Int} (hc : inL c) (hk : inK k) (hl : inL l) (hm : inK m) (hx : okSp a b = true) (hy : okSp x y = true)
include hx in
theorem HH0 : Reg (j0 a b) (z0 (b0 c k l m a b x y)) (b0 c k l m a b x y) := (Reg.sqr (Reg.one (ri_of hx))).imp (Bool.true_and _)
include hy in
theorem HH1 : Reg (j1 x y) (z0 (b2 c k l m a b x y)) (b2 c k l m a b x y) := (Reg.sqr (Reg.one (ri_of hy))).imp (Bool.true_and _)
include hc hy in
theorem HH2 : Reg (hh2 c x y) (z0 (b2 c k l m a b x y) && z0 (b3 c k l m a b x y)) (b3 c k l m a b x y) := Reg.sc (HH1 hy) (sc_c hc)
include hl hx in
theorem HH4 : Reg (hh4 l a b) (z0 (b0 c k l m a b x y) && z0 (b1 c k l m a b x y)) (b1 c k l m a b x y) := Reg.sc (HH0 hx) (sc_c hl)
include hl hx in
theorem HH5 : Reg (hh5 l a b) (z0 (b0 c k l m a b x y) && z0 (b1 c k l m a b x y) && z0 (b4 c k l m a b x y)) (b4 c k l m a b x y) := Reg.sc (HH4 hl hx) (sc_c hl)
include hl hm hx in
theorem HH6 : Reg (hh6 l m a b) (z0 (b0 c k l m a b x y) && z0 (b1 c k l m a b x y) && z0 (b4 c k l m a b x y) && z0 (b6 c k l m a b x y)) (b6 c k l m a b x y) := Reg.sc (HH5 hl hx) (sc_k hm)
include hc hy in
theorem HH7 : Reg (hh7 c x y) (z0 (b2 c k l m a b x y) && z0 (b3 c k l m a b x y) && z0 (b5 c k l m a b x y)) (b5 c k l m a b x y) := Reg.sc (HH2 hc hy) (sc_c hc)
include hc hk hy in
theorem HH8 : Reg (hh8 c k x y) (z0 (b2 c k l m a b x y) && z0 (b3 c k l m a b x y) && z0 (b5 c k l m a b x y) && z0 (b7 c k l m a b x y)) (b7 c k l m a b x y) := Reg.sc (HH7 hc hy) (sc_k hk)
include hc hk hl hm hx hy in
theorem HH9 : Reg (hh9 c k l m a b x y) (sagX0 c k l m a b x y) (b8 c k l m a b x y) := by
 have h := Reg.add (HH6 (c := c) (k := k) (x := x) (y := y) hl hm hx) (HH8 (l := l) (m := m) (a := a) (b := b) hc hk hy)
 refine Reg.imp (s := b8 c k l m a b x y) h ?_
 unfold sagX0
 show (_ && _ && z0 (b8 c k l m a b x y)) = _
 cases z0 (b0 c k l m a b x y) <;> cases z0 (b1 c k l m a b x y) <;> cases z0 (b2 c k l m a b x y) <;> cases z0 (b3 c k l m a b x y) <;> cases z0 (b4 c k l m a b x y) <;> cases z0 (b5 c k l m a b x y) <;> cases z0 (b6 c k l m a b x y) <;> cases z0 (b7 c k l m a b x y) <;> simp
include hc hk hl hm hx hy in
theorem HHD : Reg (hhD c k l m a b x y) (sagX0 c k l m a b x y && z0 (b9 c k l m a b x y)) (b9 c k l m a b x y) := (Reg.sub (Reg.const one_ri) (HH9 hc hk hl hm hx hy)).imp (by rw [Bool.true_and]; rfl)
include hc hk hl hm hx hy in
theorem HHR : Reg (hhR c k l m a b x y) (sagX0 c k l m a b x y && z0 (b9 c k l m a b x y) && z0 (b10 c k l m a b x y)) (b10 c k l m a b x y) := Reg.root (HHD hc hk hl hm hx hy)
include hc hl hx hy in
theorem HHT : Reg (hhT c l a b x y) ((z0 (b0 c k l m a b x y) && z0 (b1 c k l m a b x y)) && (z0 (b2 c k l m a b x y) && z0 (b3 c k l m a b x y)) && z0 (b11 c k l m a b x y)) (b11 c k l m a b x y) := Reg.add (HH4 hl hx) (HH2 hc hy)
include hc hk hl hm hx hy in
theorem HHO : Reg (hhO c k l m a b x y) (sagX0 c k l m a b x y && z0 (b9 c k l m a b x y) && z0 (b10 c k l m a b x y) && z0 (b12 c k l m a b x y)) (b12 c k l m a b x y) := (Reg.add (Reg.const one_ri) (HHR hc hk hl hm hx hy)).imp (by rw [Bool.true_and]; rfl)
include hc hk hl hm hx hy in
theorem HHZ : Reg (hhZ c k l m a b x y) (sagX0 c k l m a b x y && z0 (b9 c k l m a b x y) && (z0 (b10 c k l m a b x y) && (z0 (b11 c k l m a b x y) && (z0 (b12 c k l m a b x y) && z0 (b13 c k l m a b x y))))) (b13 c k l m a b x y) := by
 have h := Reg.div (HHT (k := k) (m := m) hc hl hx hy) (HHO hc hk hl hm hx hy)
 refine Reg.imp (s := b13 c k l m a b x y) h ?_
 show (_ && _ && z0 (b13 c k l m a b x y)) = _
 unfold sagX0
 cases z0 (b0 c k l m a b x y) <;> cases z0 (b1 c k l m a b x y) <;> cases z0 (b2 c k l m a b x y) <;> cases z0 (b3 c k l m a b x y) <;> cases z0 (b11 c k l m a b x y) <;> simp [Bool.and_assoc]
include hc hk hl hm hx hy in
theorem HHb : hhb c k l m a b x y = !(sagX0 c k l m a b x y && z0 (b9 c k l m a b x y)) := (HHD hc hk hl hm hx hy).chk
include hc hk hl hm hx hy in
theorem HHn (h : (sagX0 c k l m a b x y && z0 (b9 c k l m a b x y)) = true) : hhn c k l m a b x y = decide ((b9 c k l m a b x y).lo <= 0) := by
 unfold hhn
 rw [((HHD hc hk hl hm hx hy).t h).1]
include hc hk hl hm hx hy in
theorem HHout : hhout c k l m a b x y = sagXD c k l m a b x y := by
 unfold hhout sagXD
 rw [HHb hc hk hl hm hx hy]
 cases h : (sagX0 c k l m a b x y && z0 (b9 c k l m a b x y)) with
 | true =>
  rw [HHn hc hk hl hm hx hy h]
  simp only [Bool.and_eq_true] at h
  rw [h.1, h.2]
  cases decide ((b9 c k l m a b x y).lo <= 0) <;> rfl
 | false =>
  cases h1 : sagX0 c k l m a b x y <;> cases h2 : z0 (b9 c k l m a b x y) <;> simp_all
include hc hk hl hm hx hy in
theorem HHz : Reg (hhz c k l m a b x y) (sagXC c k l m a b x y) (b13 c k l m a b x y) := by
 have hb := HHb hc hk hl hm hx hy
 have h10 := HHZ hc hk hl hm hx hy
 cases h : (sagX0 c k l m a b x y && z0 (b9 c k l m a b x y)) with
 | true =>
  have hn := HHn hc hk hl hm hx hy h
  rw [h] at hb h10
  have hB : sagXC c k l m a b x y = (!decide ((b9 c k l m a b x y).lo <= 0) && (z0 (b10 c k l m a b x y) && (z0 (b11 c k l m a b x y) && (z0 (b12 c k l m a b x y) && z0 (b13 c k l m a b x y))))) := by
   unfold sagXC
   simp only [Bool.and_eq_true] at h
   rw [h.1, h.2]; rfl
  rw [hB]
  cases hd : decide ((b9 c k l m a b x y).lo <= 0) with
  | true =>
   rw [hd] at hn
   refine ⟨?_, fun h => by cases h⟩
   unfold hhz
   rw [hb, hn]; rfl
  | false =>
   rw [hd] at hn
   have e : hhz c k l m a b x y = hhZ c k l m a b x y := by
    unfold hhz
    rw [hb, hn]
    rfl
   rw [e]
   refine h10.imp ?_
   simp only [Bool.true_and, Bool.not_false]
 | false =>
  rw [h] at hb
  have hB : sagXC c k l m a b x y = false := by
   unfold sagXC
   cases h1 : sagX0 c k l m a b x y <;> cases h2 : z0 (b9 c k l m a b x y) <;> simp_all
  rw [hB]
  refine ⟨?_, fun h => by cases h⟩
  unfold hhz
  rw [hb]; rfl
theorem sagXD_C (h : sagXC c k l m a b x y = true) : sagXD c k l m a b x y = false := by
 unfold sagXC at h
 simp only [Bool.and_eq_true] at h
 unfold sagXD
 have := h.2.2.1
 cases hd : decide ((b9 c k l m a b x y).lo <= 0) with
 | true => rw [hd] at this; cases this
 | false => rw [Bool.and_false, Bool.and_false]
include hc hk hl hm hx hy in
theorem ref_sagX : jfin a b x y (hhout c k l m a b x y) (hhz c k l m a b x y) = sagX c k l m a b x y := by
 rw [fin_of (Jp hx hy) (HHz hc hk hl hm hx hy) _ (fun h => by rw [HHout hc hk hl hm hx hy]; exact sagXD_C h), HHout hc hk hl hm hx hy]
 rfl
end
end Go.Rd
namespace Go.Proofs.YtooloakdmdbnaaaGreatDoor.K
open Go Go.Eng Go.Ar Go.Rd
noncomputable section
def eV (k : Int) : AV := .tuple [.agg [.int false .i64 0, .int false .i64 0], .int false .i64 k]
theorem us_1 (s : Su) (n : Int) (ys : List Int) (a b x y : Int) : rw2 cA 90 (s.cells (.int false .i64 1)) n ys a b x y = some (.p (taF (pOk s 1 n ys true) ⟨s.c, s.k, s.a0, s.a1, s.a2, s.a3, a, b, x, y⟩), spV (sagS s.c s.k s.a0 s.a1 s.a2 s.a3 a b x y)) := by kernel_rfl
theorem us_2 (s : Su) (n : Int) (ys : List Int) (a b x y : Int) : rw2 cA 90 (s.cellsZ (.int false .i64 2)) n ys a b x y = some (.p (tbF (pOk { s with a0 := 0, a1 := 0, a2 := 0, a3 := 0 } 2 n ys true) ⟨s.c, s.k, s.l, s.m, a, b, x, y⟩), spV (sagX s.c s.k s.l s.m a b x y)) := by kernel_rfl
theorem us_3 (s : Su) (n : Int) (ys : List Int) (a b x y : Int) : rw2 cA 90 (s.cells (.int false .i64 3)) n ys a b x y = some (.p (pOk s 3 n ys true), eV 5) := by kernel_rfl
theorem us_4 (s : Su) (n : Int) (ys : List Int) (a b x y : Int) : rw2 cA 90 (s.cells (.int false .i64 4)) n ys a b x y = some (.p (pOk s 4 n ys true /\ okSp a b = true /\ okSp x y = true), eV 0) := by kernel_rfl
theorem us_1b (s : Su) (n : Int) (ys : List Int) (a b x y : Int) : rw2 (cBd 0) 90 (s.cells (.int false .i64 1)) n ys a b x y = some (.p (pOk s 1 n ys true /\ okSp a b = false), eV 20) := by kernel_rfl
theorem us_1c (s : Su) (n : Int) (ys : List Int) (a b x y : Int) : rw2 (cBd 40) 90 (s.cells (.int false .i64 1)) n ys a b x y = some (.p (pOk s 1 n ys true /\ okSp a b = true /\ okSp x y = false), eV 20) := by kernel_rfl
theorem us_2b (s : Su) (n : Int) (ys : List Int) (a b x y : Int) : rw2 (cBd 0) 90 (s.cellsZ (.int false .i64 2)) n ys a b x y = some (.p (pOk { s with a0 := 0, a1 := 0, a2 := 0, a3 := 0 } 2 n ys true /\ okSp a b = false), eV 20) := by kernel_rfl
theorem us_2c (s : Su) (n : Int) (ys : List Int) (a b x y : Int) : rw2 (cBd 40) 90 (s.cellsZ (.int false .i64 2)) n ys a b x y = some (.p (pOk { s with a0 := 0, a1 := 0, a2 := 0, a3 := 0 } 2 n ys true /\ okSp a b = true /\ okSp x y = false), eV 20) := by kernel_rfl
theorem us_4b (s : Su) (n : Int) (ys : List Int) (a b x y : Int) : rw2 (cBd 0) 90 (s.cells (.int false .i64 4)) n ys a b x y = some (.p (pOk s 4 n ys true /\ okSp a b = false), eV 20) := by kernel_rfl
theorem us_4c (s : Su) (n : Int) (ys : List Int) (a b x y : Int) : rw2 (cBd 40) 90 (s.cells (.int false .i64 4)) n ys a b x y = some (.p (pOk s 4 n ys true /\ okSp a b = true /\ okSp x y = false), eV 20) := by kernel_rfl
theorem us_0 (s : Su) (n : Int) (ys : List Int) (a b x y : Int) : rw2 cNo 90 (s.cells (.int true .i64 s.kd)) n ys a b x y = some (.p (pOk s s.kd n ys false), eV 110) := by kernel_rfl
theorem two_bad {a b x y : Int} (h : okXY a b x y = false) : okSp a b = false ∨ (okSp a b = true /\ okSp x y = false) := by
 unfold okXY at h
 cases h1 : okSp a b with
 | false => exact .inl rfl
 | true => rw [h1] at h; exact .inr ⟨rfl, h⟩
theorem eV_tell {k : Int} {S : Sp} (h : (⟨0, 0, k⟩ : Sp) = S) : tell (eV k) (spV S) := by
 subst h
 exact ⟨⟨⟨rfl, rfl⟩, ⟨rfl, rfl⟩, trivial⟩, ⟨rfl, rfl⟩, trivial⟩
theorem spV_tell {S T : Sp} (h : S = T) : tell (spV S) (spV T) := by
 subst h
 exact ⟨⟨⟨rfl, rfl⟩, ⟨rfl, rfl⟩, trivial⟩, ⟨rfl, rfl⟩, trivial⟩
def sagA' : Su -> List Int -> Int -> Int -> Int -> Int -> AV := fun s ys a b x y => spV (sagG s ys a b x y)
theorem sagG_ok : NOk Tryz.prog glob hG 90 (lSpec hG [.s suI .i64, .n sS, .n sS] (suV2 sagA')) := by
 refine su2_ok ⟨_, Tryz.func90, rfl⟩ fun s n ys a b x y hg ho => ?_
 cases hr : rightS s ys with
 | false => exact ⟨cNo, s.cells (.int true .i64 s.kd), _, _, cNo_ok, rfl, rfl, tell_kd ⟨rfl, rfl⟩, us_0 s n ys a b x y, rfl, rk rfl ho hg hr, eV_tell (by unfold sagG; rw [hr]; rfl)⟩
 | true =>
  have bad : okXY a b x y = false -> s.kd ≠ 3 -> (⟨0, 0, 20⟩ : Sp) = sagG s ys a b x y := fun h h3 => by unfold sagG; rw [hr, h, beq_eq_false_iff_ne.2 h3]; rfl
  have good : okXY a b x y = true -> s.kd ≠ 3 -> sagK s a b x y = sagG s ys a b x y := fun h h3 => by unfold sagG; rw [hr, h, beq_eq_false_iff_ne.2 h3]; rfl
  rcases right_kd hr with hk | hk | hk | hk
  .cases hx : okXY a b x y with
   | true =>
    have hh : okSp a b = true /\ okSp x y = true := by simpa [okXY] using hx
    exact ⟨cA, s.cells (.int false .i64 1), _, _, cA_ok, rfl, rfl, tell_kd ⟨rfl, hk⟩, us_1 s n ys a b x y, rfl, taF_ok (rk hk ho hg hr) (right_std hr) hh.1 hh.2, spV_tell (by rw [<- good hx (by omega)]; unfold sagK; rw [hk]; rfl)⟩
   | false =>
    rcases two_bad hx with h1 | h1
    .exact ⟨cBd 0, s.cells (.int false .i64 1), _, _, cBd_ok _, rfl, rfl, tell_kd ⟨rfl, hk⟩, us_1b s n ys a b x y, rfl, ⟨rk hk ho hg hr, h1⟩, eV_tell (bad hx (by omega))⟩
    .exact ⟨cBd 40, s.cells (.int false .i64 1), _, _, cBd_ok _, rfl, rfl, tell_kd ⟨rfl, hk⟩, us_1c s n ys a b x y, rfl, ⟨rk hk ho hg hr, h1⟩, eV_tell (bad hx (by omega))⟩
  .cases hx : okXY a b x y with
   | true =>
    have hh : okSp a b = true /\ okSp x y = true := by simpa [okXY] using hx
    exact ⟨cA, s.cellsZ (.int false .i64 2), _, _, cA_ok, rfl, rfl, tell_kz hk (right_noA hr hk), us_2 s n ys a b x y, rfl, tbF_ok (rkz hk (right_noA hr hk) ho hg hr) (right_bic hr) hh.1 hh.2, spV_tell (by rw [<- good hx (by omega)]; unfold sagK; rw [hk]; rfl)⟩
   | false =>
    rcases two_bad hx with h1 | h1
    .exact ⟨cBd 0, s.cellsZ (.int false .i64 2), _, _, cBd_ok _, rfl, rfl, tell_kz hk (right_noA hr hk), us_2b s n ys a b x y, rfl, ⟨rkz hk (right_noA hr hk) ho hg hr, h1⟩, eV_tell (bad hx (by omega))⟩
    .exact ⟨cBd 40, s.cellsZ (.int false .i64 2), _, _, cBd_ok _, rfl, rfl, tell_kz hk (right_noA hr hk), us_2c s n ys a b x y, rfl, ⟨rkz hk (right_noA hr hk) ho hg hr, h1⟩, eV_tell (bad hx (by omega))⟩
  .exact ⟨cA, s.cells (.int false .i64 3), _, _, cA_ok, rfl, rfl, tell_kd ⟨rfl, hk⟩, us_3 s n ys a b x y, rfl, rk hk ho hg hr, eV_tell (by unfold sagG; rw [hr, hk]; rfl)⟩
  .cases hx : okXY a b x y with
   | true =>
    have hh : okSp a b = true /\ okSp x y = true := by simpa [okXY] using hx
    exact ⟨cA, s.cells (.int false .i64 4), _, _, cA_ok, rfl, rfl, tell_kd ⟨rfl, hk⟩, us_4 s n ys a b x y, rfl, ⟨rk hk ho hg hr, hh.1, hh.2⟩, eV_tell (by rw [<- good hx (by omega)]; unfold sagK; rw [hk]; rfl)⟩
   | false =>
    rcases two_bad hx with h1 | h1
    .exact ⟨cBd 0, s.cells (.int false .i64 4), _, _, cBd_ok _, rfl, rfl, tell_kd ⟨rfl, hk⟩, us_4b s n ys a b x y, rfl, ⟨rk hk ho hg hr, h1⟩, eV_tell (bad hx (by omega))⟩
    .exact ⟨cBd 40, s.cells (.int false .i64 4), _, _, cBd_ok _, rfl, rfl, tell_kd ⟨rfl, hk⟩, us_4c s n ys a b x y, rfl, ⟨rk hk ho hg hr, h1⟩, eV_tell (bad hx (by omega))⟩
end
end Go.Proofs.YtooloakdmdbnaaaGreatDoor.K
namespace Go.Proofs.YtooloakdmdbnaaaGreatDoor.K
open Go Go.Eng Go.Ar Go.Rd
noncomputable section
theorem su8_ok {f : FuncId} {V : Su -> List Int -> Int -> Int -> Int -> Int -> AV} (fn : ∃ fn : Func, Tryz.prog.funcs[f]? = some fn /\ fn.body.isSome = true)
  (h : ∀ (s : Su) (n : Int) (ys : List Int) (a b x y : Int), s.g.size < 1000000000 -> okF3 n ys -> ∃ (C : Ctx) (cs : List AV) (nd : Nd) (v0 : AV), CtxOk C /\ C.P = Tryz.prog /\ C.glob = glob8 /\ tellL s.ini cs /\ rw8 C f cs n ys a b x y = some (nd, v0) /\ v0.num = true /\ nd.val /\ tell v0 (V s ys a b x y)) :
  NOk Tryz.prog glob8 hG8 f (lSpec hG8 [.s suI .i64, .n sS, .n sS] (suV2 V)) := by
 refine lsp_ok true hG8_ok hG8_plain glob8_lt (fun sz its p v bs e hp => ?_) fn
 unfold suV2 at e
 split at e
 .rename_i xs n ys a b x y
  split at e
  .rename_i s hs
   cases e
   obtain ⟨ho, hg⟩ := hp
   obtain rfl := suOf_eq hs
   obtain ⟨C, cs, nd, v0, co, hP, hG', ht, hr, hnum, hnd, hv⟩ := h s n ys a b x y hg ho
   obtain ⟨q, h1, h2, h3, h4⟩ := oneG_tells hr hnum
   refine ⟨⟨fun h0 => ?_, trivial⟩, rfl, C, 1000, suB8 cs n a b x y, nd, v0, q, co, hP, hG', ⟨tellL_app ht ⟨rfl, trivial⟩, ⟨⟨rfl, rfl⟩, ⟨rfl, rfl⟩, trivial⟩, ⟨⟨rfl, rfl⟩, ⟨rfl, rfl⟩, trivial⟩, trivial⟩, h1, h2, hnd, h3, h4 sz _ hv⟩
   obtain ⟨k1, k2, k3⟩ := ho
   rw [h0] at k3
   simp only [List.length_nil] at k3
   omega
  .cases e
 .cases e
def same21 (s : Su) (n : Int) : Prop := s.c = s.c /\ s.k = s.k /\ s.l = s.l /\ s.m = s.m /\ s.a0 = s.a0 /\ s.a1 = s.a1 /\ s.a2 = s.a2 /\ s.a3 = s.a3 /\ s.f0 = s.f0 /\ s.f1 = s.f1 /\ s.o = s.o /\ s.th = s.th /\ s.g = s.g /\ s.se = s.se /\ s.ho = s.ho /\ s.dx = s.dx /\ s.dy = s.dy /\ s.ax = s.ax /\ s.ay = s.ay /\ s.az = s.az /\ n = n
def eqS (t : Sp) : Prop := t.lo = t.lo /\ t.hi = t.hi
theorem eqS_t (t : Sp) : eqS t := ⟨rfl, rfl⟩
theorem same21_t (s : Su) (n : Int) : same21 s n := by unfold same21; simp
def ld1 (s : Su) (a b x y : Int) : Prop := (((s.c = s.c /\ x = x /\ y = y) /\ s.c = s.c /\ s.c = s.c) /\ (s.k = s.k /\ s.c = s.c /\ eqS (j3 s.c a b x y) /\ eqS (j3 s.c a b x y)) /\ eqS (j3 s.c a b x y) /\ eqS (j3 s.c a b x y)) /\
 ((!jb s.c s.k a b x y) = true -> (!jn s.c s.k a b x y) = true -> (eqS (j7 s.c s.k a b x y) /\ eqS (j7 s.c s.k a b x y) /\ eqS (j3 s.c a b x y)) /\ (eqS (j7 s.c s.k a b x y) /\ eqS (j3 s.c a b x y)) /\ eqS (j7 s.c s.k a b x y) /\ eqS (j7 s.c s.k a b x y))
theorem ld1_t (s : Su) (a b x y : Int) : ld1 s a b x y := ⟨⟨by simp, ⟨rfl, rfl, eqS_t _, eqS_t _⟩, eqS_t _, eqS_t _⟩, fun _ _ => ⟨⟨eqS_t _, eqS_t _, eqS_t _⟩, ⟨eqS_t _, eqS_t _⟩, eqS_t _, eqS_t _⟩⟩
def rN1 (s : Su) (n : Int) (ys : List Int) (a b x y : Int) : Prop := pOk s 1 n ys true /\ ((!jp1 a b x y) = true -> ld1 s a b x y /\ ((!jout s.c s.k a b x y) = true -> asp s.a0 s.a1 s.a2 s.a3 = true ->
 (x = x /\ y = y) /\ (eqS (jh a b x y) /\ same21 s n /\ eqS (jz s.c s.k a b x y)) /\ True /\ eqS (jz s.c s.k a b x y) /\ eqS (jz s.c s.k a b x y)))
theorem rN1_t {s : Su} {n : Int} {ys : List Int} {a b x y : Int} (h : pOk s 1 n ys true) : rN1 s n ys a b x y := ⟨h, fun _ => ⟨ld1_t s a b x y, fun _ _ => ⟨⟨rfl, rfl⟩, ⟨eqS_t _, same21_t s n, eqS_t _⟩, trivial, eqS_t _, eqS_t _⟩⟩⟩
def ld2 (s : Su) (a b x y : Int) : Prop := (((s.c = s.c /\ (x = x /\ y = y) /\ s.l = s.l) /\ (s.c = s.c /\ x = x /\ y = y) /\ s.c = s.c) /\ (s.k = s.k /\ s.c = s.c /\ eqS (hh2 s.c x y) /\ s.m = s.m /\ s.l = s.l /\ eqS (hh4 s.l a b)) /\ (s.k = s.k /\ s.c = s.c /\ eqS (hh2 s.c x y) /\ s.m = s.m /\ s.l = s.l /\ eqS (hh4 s.l a b)) /\ s.k = s.k /\ s.c = s.c /\ eqS (hh2 s.c x y)) /\
 ((!hhb s.c s.k s.l s.m a b x y) = true -> (!hhn s.c s.k s.l s.m a b x y) = true -> (eqS (hhR s.c s.k s.l s.m a b x y) /\ eqS (hhR s.c s.k s.l s.m a b x y) /\ eqS (hhT s.c s.l a b x y)) /\ (eqS (hhR s.c s.k s.l s.m a b x y) /\ eqS (hhT s.c s.l a b x y)) /\ eqS (hhR s.c s.k s.l s.m a b x y) /\ eqS (hhR s.c s.k s.l s.m a b x y))
theorem ld2_t (s : Su) (a b x y : Int) : ld2 s a b x y := ⟨⟨by simp, ⟨rfl, rfl, eqS_t _, rfl, rfl, eqS_t _⟩, ⟨rfl, rfl, eqS_t _, rfl, rfl, eqS_t _⟩, rfl, rfl, eqS_t _⟩, fun _ _ => ⟨⟨eqS_t _, eqS_t _, eqS_t _⟩, ⟨eqS_t _, eqS_t _⟩, eqS_t _, eqS_t _⟩⟩
theorem rs_1 (s : Su) (n : Int) (ys : List Int) (a b x y : Int) : rw8 (cRr true) 102 (s.cells (.int false .i64 1)) n ys a b x y = some (.p (rN1 s n ys a b x y), spV (jfin a b x y (jout s.c s.k a b x y) (jr s.c s.k s.a0 s.a1 s.a2 s.a3 a b x y))) := by kernel_rfl
theorem rs_2 (s : Su) (n : Int) (ys : List Int) (a b x y : Int) : rw8 (cRr true) 102 (s.cellsZ (.int false .i64 2)) n ys a b x y = some (.p (pOk { s with a0 := 0, a1 := 0, a2 := 0, a3 := 0 } 2 n ys true /\ ((!jp1 a b x y) = true -> ld2 s a b x y)), spV (jfin a b x y (hhout s.c s.k s.l s.m a b x y) (hhz s.c s.k s.l s.m a b x y))) := by kernel_rfl
theorem rs_3 (s : Su) (n : Int) (ys : List Int) (a b x y : Int) : rw8 (cRr true) 102 (s.cells (.int false .i64 3)) n ys a b x y = some (.p (pOk s 3 n ys true), eV 5) := by kernel_rfl
theorem rs_4 (s : Su) (n : Int) (ys : List Int) (a b x y : Int) : rw8 (cRr true) 102 (s.cells (.int false .i64 4)) n ys a b x y = some (.p (pOk s 4 n ys true), .tuple [.agg [.int false .i64 0, .int false .i64 0], .int true .i64 (jp a b x y)]) := by kernel_rfl
theorem rs_0 (s : Su) (n : Int) (ys : List Int) (a b x y : Int) : rw8 (cRr false) 102 (s.cells (.int true .i64 s.kd)) n ys a b x y = some (.p (pOk s s.kd n ys false), eV 110) := by kernel_rfl
theorem jp_eq (a b x y : Int) : jp a b x y = bif okXY a b x y then 0 else 20 := by
 unfold jp chkS okXY
 cases okSp a b <;> cases okSp x y <;> rfl
theorem jfin_bad {a b x y : Int} (h : okXY a b x y = false) (out : Bool) (r : Sp) : jfin a b x y out r = ⟨0, 0, 20⟩ := by
 have e : jp a b x y = 20 := by rw [jp_eq, h]; rfl
 have e1 : jp1 a b x y = true := by unfold jp1; rw [e]; rfl
 unfold jfin
 rw [e1, e]; rfl
theorem rsag_ok : NOk Tryz.prog glob8 hG8 102 (lSpec hG8 [.s suI .i64, .n sS, .n sS] (suV2 sagA')) := by
 refine su8_ok ⟨_, Tryz.func102, rfl⟩ fun s n ys a b x y hg ho => ?_
 cases hr : rightS s ys with
 | false => exact ⟨cRr false, s.cells (.int true .i64 s.kd), _, _, cRr_ok _, rfl, rfl, tell_kd ⟨rfl, rfl⟩, rs_0 s n ys a b x y, rfl, rk rfl ho hg hr, eV_tell (by unfold sagG; rw [hr]; rfl)⟩
 | true =>
  rcases right_kd hr with hk | hk | hk | hk
  .have v := right_std hr
   refine ⟨cRr true, s.cells (.int false .i64 1), _, _, cRr_ok _, rfl, rfl, tell_kd ⟨rfl, hk⟩, rs_1 s n ys a b x y, rfl, rN1_t (rk hk ho hg hr), spV_tell ?_⟩
   cases hx : okXY a b x y with
   | true =>
    have hh : okSp a b = true /\ okSp x y = true := by simpa [okXY] using hx
    rw [ref_sagS v.hc v.hk hh.1 hh.2 v.h0 v.h1 v.h2 v.h3]
    unfold sagG sagK; rw [hr, hx, hk]; rfl
   | false =>
    rw [jfin_bad hx]
    unfold sagG; rw [hr, hx, hk]; rfl
  .have v := right_bic hr
   refine ⟨cRr true, s.cellsZ (.int false .i64 2), _, _, cRr_ok _, rfl, rfl, tell_kz hk (right_noA hr hk), rs_2 s n ys a b x y, rfl, ⟨rkz hk (right_noA hr hk) ho hg hr, fun _ => ld2_t s a b x y⟩, spV_tell ?_⟩
   cases hx : okXY a b x y with
   | true =>
    have hh : okSp a b = true /\ okSp x y = true := by simpa [okXY] using hx
    rw [ref_sagX v.hc v.hk v.hl v.hm hh.1 hh.2]
    unfold sagG sagK; rw [hr, hx, hk]; rfl
   | false =>
    rw [jfin_bad hx]
    unfold sagG; rw [hr, hx, hk]; rfl
  .exact ⟨cRr true, s.cells (.int false .i64 3), _, _, cRr_ok _, rfl, rfl, tell_kd ⟨rfl, hk⟩, rs_3 s n ys a b x y, rfl, rk hk ho hg hr, eV_tell (by unfold sagG; rw [hr, hk]; rfl)⟩
  .refine ⟨cRr true, s.cells (.int false .i64 4), _, _, cRr_ok _, rfl, rfl, tell_kd ⟨rfl, hk⟩, rs_4 s n ys a b x y, rfl, rk hk ho hg hr, ?_⟩
   have e : sagG s ys a b x y = ⟨0, 0, jp a b x y⟩ := by
    rw [jp_eq]
    unfold sagG sagK; rw [hr, hk]
    cases okXY a b x y <;> rfl
   show tell _ (spV (sagG s ys a b x y))
   rw [e]
   exact ⟨⟨⟨rfl, rfl⟩, ⟨rfl, rfl⟩, trivial⟩, ⟨rfl, rfl⟩, trivial⟩
end
end Go.Proofs.YtooloakdmdbnaaaGreatDoor.K
namespace Go.Proofs.YtooloakdmdbnaaaGreatDoor.K
open Go Go.Eng Go.Ar Go.Rd
noncomputable section
def cRs : Ctx := mkN Tryz.prog glob8 hG8 ((102, lSpec hG8 [.s suI .i64, .n sS, .n sS] (suV2 sagA')) :: tblR2) [] ext
theorem cRs_ok : CtxOk cRs := mkN_ok prog_ok ext_ok (fun x hx => by
 rcases List.mem_cons.1 hx with rfl | hx
 .exact rsag_ok
 .exact tblR2_g x hx) (fun _ h => by cases h)
end
end Go.Proofs.YtooloakdmdbnaaaGreatDoor.K
namespace Go.Rd
open Go Go.Eng Go.Ar
def slR (g : Int) (bad : Bool) (u v : Sp) : AV := .tuple [.agg [.int true .i64 (bif t1 g then 0 else bif bad then 0 else u.lo), .int true .i64 (bif t1 g then 0 else bif bad then 0 else u.hi)], .agg [.int true .i64 (bif t1 g then 0 else bif bad then 0 else v.lo), .int true .i64 (bif t1 g then 0 else bif bad then 0 else v.hi)], .int true .i64 (bif t1 g then g else bif bad then 6 else 0)]
def badUV (u v : Sp) : Bool := bif chkS u.lo u.hi != 0 then true else chkS v.lo v.hi != 0
theorem slR_tell {g : Int} {u v u' v' : Sp} {p : Bool} (h : g = 0 -> ∃ c d, Reg u c u' /\ Reg v d v' /\ p = (c && d)) : tell (slR g (badUV u v) u v) (sp2V g p u' v') := by
 have key : ∀ z z' : Int, (g = 0 -> badUV u v = !p /\ (p = true -> z = z')) -> (bif t1 g then 0 else bif badUV u v then 0 else z) = tw1 g p z' := by
  intro z z' k
  unfold tw1
  cases ht : t1 g with
  | true => rfl
  | false =>
   have hg : g = 0 := by unfold t1 at ht; cases hb : (g != 0) <;> simp_all
   obtain ⟨k1, k2⟩ := k hg
   rw [k1]
   cases hp : p with
   | true => exact k2 hp
   | false => rfl
 have hb : g = 0 -> badUV u v = !p /\ (p = true -> u.lo = u'.lo /\ u.hi = u'.hi /\ v.lo = v'.lo /\ v.hi = v'.hi) := by
  intro hg
  obtain ⟨c, d, hu, hv, rfl⟩ := h hg
  refine ⟨?_, fun hp => ?_⟩
  .unfold badUV
   rw [hu.chk, hv.chk]
   cases c <;> cases d <;> rfl
  .simp only [Bool.and_eq_true] at hp
   obtain ⟨a1, a2, _⟩ := hu.t hp.1
   obtain ⟨b1, b2, _⟩ := hv.t hp.2
   exact ⟨a1, a2, b1, b2⟩
 refine ⟨⟨⟨rfl, key _ _ fun hg => ⟨(hb hg).1, fun hp => ((hb hg).2 hp).1⟩⟩, ⟨rfl, key _ _ fun hg => ⟨(hb hg).1, fun hp => ((hb hg).2 hp).2.1⟩⟩, trivial⟩, ⟨⟨rfl, key _ _ fun hg => ⟨(hb hg).1, fun hp => ((hb hg).2 hp).2.2.1⟩⟩, ⟨rfl, key _ _ fun hg => ⟨(hb hg).1, fun hp => ((hb hg).2 hp).2.2.2⟩⟩, trivial⟩, ⟨rfl, ?_⟩, trivial⟩
 unfold twE
 cases ht : t1 g with
 | true => rfl
 | false =>
  have hg : g = 0 := by unfold t1 at ht; cases hb : (g != 0) <;> simp_all
  rw [(hb hg).1]
  cases p <;> rfl
section
variable (c k a0 a1 a2 a3 a b x y : Int)
def jR : Sp := ⟨bif jb c k a b x y then 1 else bif jn c k a b x y then 1 else (j7 c k a b x y).lo, bif jb c k a b x y then 0 else bif jn c k a b x y then 0 else (j7 c k a b x y).hi, 0⟩
def jd (p q : Int) : Sp := kB (divS (kB (scaleS p q c 1000000000)).lo (kB (scaleS p q c 1000000000)).hi (jR c k a b x y).lo (jR c k a b x y).hi)
def jcb (n m : Int) : Sp := kB (scaleS 4294967296 4294967296 (IntKind.i64.wrap (n * m)) 1000000)
def jE : Sp := kB (rEv (jcb a0 2).lo (jcb a0 2).hi (jcb a1 3).lo (jcb a1 3).hi (jcb a2 4).lo (jcb a2 4).hi (jcb a3 5).lo (jcb a3 5).hi (jh a b x y).lo (jh a b x y).hi)
def jv : Sp := kB (mulS (jh a b x y).lo (jh a b x y).hi (jE a0 a1 a2 a3 a b x y).lo (jE a0 a1 a2 a3 a b x y).hi)
def jf (p q : Int) : Sp := kB (scaleS p q 1 50)
def jm (p q : Int) : Sp := kB (mulS (jf p q).lo (jf p q).hi (jv a0 a1 a2 a3 a b x y).lo (jv a0 a1 a2 a3 a b x y).hi)
def jS (p q : Int) : Sp := kB (addS (jd c k a b x y p q).lo (jd c k a b x y p q).hi (jm a0 a1 a2 a3 a b x y p q).lo (jm a0 a1 a2 a3 a b x y p q).hi)
def jU (p q : Int) : Sp := ⟨bif asp a0 a1 a2 a3 then (jS c k a0 a1 a2 a3 a b x y p q).lo else (jd c k a b x y p q).lo, bif asp a0 a1 a2 a3 then (jS c k a0 a1 a2 a3 a b x y p q).hi else (jd c k a b x y p q).hi, 0⟩
end
theorem Reg.vsE {r s : Sp} {c : Bool} (h : Reg r c s) : Reg ⟨r.lo, r.hi, 0⟩ c s := by
 refine ⟨?_, h.ri⟩
 rw [h.eq]
 cases c <;> rfl
section
variable {c k a0 a1 a2 a3 a b x y : Int} (hc : inL c) (hk : inK k) (hx : okSp a b = true) (hy : okSp x y = true) (i0 : inL a0) (i1 : inL a1) (i2 : inL a2) (i3 : inL a3) (f : BaseF c k a b x y)
include f in
theorem base_t : (sagH0 c k a b x y && z0 (s6 c k a b x y)) = true := by
 obtain ⟨e0, e1, e2, e3, e4, e5, e6⟩ := f.h
 unfold sagH0
 rw [e0, e1, e2, e3, e4, e5, e6]; rfl
include hc hk hx hy f in
theorem JR : Reg (jR c k a b x y) true (s7 c k a b x y) := by
 have h := base_t f
 have h1 := Jb hc hk hx hy
 have h2 := Jn hc hk hx hy h
 have h3 := J7 hc hk hx hy
 rw [h] at h1 h3
 rw [decide_eq_false (show ¬ (s6 c k a b x y).lo <= 0 by have := f.p; omega)] at h2
 have e : jR c k a b x y = ⟨(j7 c k a b x y).lo, (j7 c k a b x y).hi, 0⟩ := by unfold jR; rw [h1, h2]; rfl
 rw [e]
 refine (Reg.vsE h3).imp ?_
 rw [f.h7]; rfl
include hc hk hx hy f in
theorem Jd {p q : Int} (hp : okSp p q = true) : Reg (jd c k a b x y p q) (z0 (divS (xScaleS p q c 1000000000).lo (xScaleS p q c 1000000000).hi (s7 c k a b x y).lo (s7 c k a b x y).hi)) (divS (xScaleS p q c 1000000000).lo (xScaleS p q c 1000000000).hi (s7 c k a b x y).lo (s7 c k a b x y).hi) := by
 have h := Reg.div (Reg.sc (Reg.one (ri_of hp)) (sc_c hc)) (JR hc hk hx hy f)
 refine Reg.imp h ?_
 rw [show z0 (xScaleS (⟨p, q, 0⟩ : Sp).lo (⟨p, q, 0⟩ : Sp).hi c 1000000000) = true from zt (cur_0 hp hc).1]
 rfl
theorem cb_sc {n m : Int} (h : inL n) (hm : 2 <= m /\ m <= 5) : scaleS 4294967296 4294967296 (IntKind.i64.wrap (n * m)) 1000000 = cb n m := by
 unfold inL at h
 have h1 : -5000000000 <= n * m /\ n * m <= 5000000000 := by
  obtain ⟨m1, m2⟩ := hm
  have : m = 2 ∨ m = 3 ∨ m = 4 ∨ m = 5 := by omega
  rcases this with rfl | rfl | rfl | rfl <;> omega
 unfold cb
 rw [i64w (by omega) (by omega)]
 refine (xScaleS_eq _ _ _ _ fun _ _ => ?_).symm
 have e : abH 4294967296 4294967296 = 4294967296 := by decide
 rw [e]
 have q : sg (n * m) (n * m) <= 5000000000 := by
  unfold sg
  cases h : decide (n * m < 0) with
  | true => have := of_decide_eq_true h; show -(n * m) <= _; omega
  | false => have := of_decide_eq_false h; show n * m <= _; omega
 omega
theorem Jcb {n m : Int} (h : inL n) (hm : 2 <= m /\ m <= 5) : Reg (jcb n m) true (cb n m) := by
 obtain ⟨e, r⟩ := cb_0 h hm
 unfold jcb
 rw [cb_sc h hm]
 exact (kB_of _ fun _ => r).imp (zt e)
variable (u : z0 (u0 c k a b x y) = true)
include hx hy f u in
theorem Jh' : Reg (jh a b x y) true (u0 c k a b x y) := by
 obtain ⟨e0, e1, e2, e3, e4, e5, e6⟩ := f.h
 refine (Jh hx hy).imp ?_
 rw [e0, e1, e2, u]; rfl
include hx hy i0 i1 i2 i3 f u in
theorem JE : Reg (jE a0 a1 a2 a3 a b x y) (z0 (q1 c k a0 a1 a2 a3 a b x y)) (q1 c k a0 a1 a2 a3 a b x y) := by
 have h := Reg.eval (Jcb i0 (m := 2) (by decide)) (Jcb i1 (m := 3) (by decide)) (Jcb i2 (m := 4) (by decide)) (Jcb i3 (m := 5) (by decide)) (Jh' hx hy f u)
 exact Reg.imp (s := q1 c k a0 a1 a2 a3 a b x y) h (Bool.true_and _)
include hx hy i0 i1 i2 i3 f u in
theorem Jv : Reg (jv a0 a1 a2 a3 a b x y) (z0 (q1 c k a0 a1 a2 a3 a b x y) && z0 (q2 c k a0 a1 a2 a3 a b x y)) (q2 c k a0 a1 a2 a3 a b x y) := by
 have h := Reg.mul (Jh' hx hy f u) (JE hx hy i0 i1 i2 i3 f u)
 exact Reg.imp (s := q2 c k a0 a1 a2 a3 a b x y) h (by rw [Bool.true_and]; rfl)
theorem Jf {p q : Int} (hp : okSp p q = true) : Reg (jf p q) true (fif p q) := by
 have h := Reg.sc (Reg.one (ri_of hp)) sc_50
 refine Reg.imp (s := fif p q) h ?_
 rw [show z0 (xScaleS _ _ 1 50) = true from zt (fif_0 hp).1]; rfl
include hc hk hx hy i0 i1 i2 i3 f u in
theorem JSx : Reg (jS c k a0 a1 a2 a3 a b x y a b) (z0 (s14 c k a b x y) && (z0 (q1 c k a0 a1 a2 a3 a b x y) && z0 (q2 c k a0 a1 a2 a3 a b x y) && z0 (q3 c k a0 a1 a2 a3 a b x y)) && z0 (q4 c k a0 a1 a2 a3 a b x y)) (q4 c k a0 a1 a2 a3 a b x y) :=
 Reg.add (Jd hc hk hx hy f hx) ((Reg.mul (Jf hx) (Jv hx hy i0 i1 i2 i3 f u)).imp (by rw [Bool.true_and]; rfl))
include hc hk hx hy i0 i1 i2 i3 f u in
theorem JSy : Reg (jS c k a0 a1 a2 a3 a b x y x y) (z0 (s12 c k a b x y) && (z0 (q1 c k a0 a1 a2 a3 a b x y) && z0 (q2 c k a0 a1 a2 a3 a b x y) && z0 (q5 c k a0 a1 a2 a3 a b x y)) && z0 (q6 c k a0 a1 a2 a3 a b x y)) (q6 c k a0 a1 a2 a3 a b x y) :=
 Reg.add (Jd hc hk hx hy f hy) ((Reg.mul (Jf hy) (Jv hx hy i0 i1 i2 i3 f u)).imp (by rw [Bool.true_and]; rfl))
end
theorem jU_t {c k a0 a1 a2 a3 a b x y p q : Int} {cc : Bool} {s : Sp} (has : asp a0 a1 a2 a3 = true) (h : Reg (jS c k a0 a1 a2 a3 a b x y p q) cc s) : Reg (jU c k a0 a1 a2 a3 a b x y p q) cc s := by
 unfold jU; rw [has]; exact Reg.vsE h
section
variable {c k a0 a1 a2 a3 a b x y : Int} (hc : inL c) (hk : inK k) (hx : okSp a b = true) (hy : okSp x y = true) (i0 : inL a0) (i1 : inL a1) (i2 : inL a2) (i3 : inL a3)
include hc hk hx hy i0 i1 i2 i3 in
theorem ref_slpS (g : (sagS c k a0 a1 a2 a3 a b x y).e = 0) : ∃ cc d, Reg (jU c k a0 a1 a2 a3 a b x y a b) cc (slU c k a0 a1 a2 a3 a b x y) /\ Reg (jU c k a0 a1 a2 a3 a b x y x y) d (slV c k a0 a1 a2 a3 a b x y) /\ slC c k a0 a1 a2 a3 a b x y = (cc && d) := by
 have f := sag_base g
 obtain ⟨e0, e1, e2, e3, e4, e5, e6⟩ := f.h
 unfold slU slV slC
 cases has : asp a0 a1 a2 a3 with
 | true =>
  have u := sag_even g has
  have hX := JSx hc hk hx hy i0 i1 i2 i3 f u
  have hY := JSy hc hk hx hy i0 i1 i2 i3 f u
  have hX' := jU_t has hX
  have hY' := jU_t has hY
  refine ⟨_, _, hX', hY', ?_⟩
  .show slA c k a0 a1 a2 a3 a b x y = _
   unfold slA slB slE
   rw [e2, f.h8, f.h9, f.h10]
   simp only [Bool.true_and, Bool.and_assoc]
 | false =>
  have hX' : Reg (jU c k a0 a1 a2 a3 a b x y a b) (z0 (s14 c k a b x y)) (s14 c k a b x y) := by unfold jU; rw [has]; exact Reg.vsE (Jd hc hk hx hy f hx)
  have hY' : Reg (jU c k a0 a1 a2 a3 a b x y x y) (z0 (s12 c k a b x y)) (s12 c k a b x y) := by unfold jU; rw [has]; exact Reg.vsE (Jd hc hk hx hy f hy)
  refine ⟨_, _, hX', hY', ?_⟩
  .show slP c k a b x y = _
   unfold slP slB
   rw [e2, f.h8, f.h9, f.h10]
   rfl
end
section
variable (c k l m a b x y : Int)
def hhr : Sp := ⟨bif hhb c k l m a b x y then 1 else bif hhn c k l m a b x y then 1 else (hhR c k l m a b x y).lo, bif hhb c k l m a b x y then 0 else bif hhn c k l m a b x y then 0 else (hhR c k l m a b x y).hi, 0⟩
def hq1 (p q n : Int) : Sp := kB (scaleS p q n 1000000000)
def hq2 (p q n : Int) : Sp := kB (scaleS (hq1 p q n).lo (hq1 p q n).hi n 1000000000)
def hq3 (p q n w : Int) : Sp := kB (scaleS (hq2 p q n).lo (hq2 p q n).hi (IntKind.i64.wrap (1000000 + w)) 1000000)
def hq4 (p q n w : Int) : Sp := kB (divS (hq3 p q n w).lo (hq3 p q n w).hi (hhr c k l m a b x y).lo (hhr c k l m a b x y).hi)
def hq5 (p q n w : Int) : Sp := kB (mulS (hhz c k l m a b x y).lo (hhz c k l m a b x y).hi (hq4 c k l m a b x y p q n w).lo (hq4 c k l m a b x y p q n w).hi)
def hq6 (p q n : Int) : Sp := kB (scaleS (hq1 p q n).lo (hq1 p q n).hi 2 1)
def hq7 (p q n w : Int) : Sp := kB (addS (hq6 p q n).lo (hq6 p q n).hi (hq5 c k l m a b x y p q n w).lo (hq5 c k l m a b x y p q n w).hi)
def hq8 : Sp := kB (addS 4294967296 4294967296 (hhr c k l m a b x y).lo (hhr c k l m a b x y).hi)
def hq9 (p q n w : Int) : Sp := kB (divS (hq7 c k l m a b x y p q n w).lo (hq7 c k l m a b x y p q n w).hi (hq8 c k l m a b x y).lo (hq8 c k l m a b x y).hi)
end
section
variable {c k l m a b x y : Int} (hc : inL c) (hk : inK k) (hl : inL l) (hm : inK m) (hx : okSp a b = true) (hy : okSp x y = true) (f : BaseX c k l m a b x y)
include f in
theorem baseX_t : sagXC c k l m a b x y = true /\ (sagX0 c k l m a b x y && z0 (b9 c k l m a b x y)) = true := by
 have h0 : sagX0 c k l m a b x y = true := by
  unfold sagX0
  rw [f.e0, f.e1, f.e2, f.e3, f.e4, f.e5, f.e6, f.e7, f.e8]; rfl
 refine ⟨?_, by rw [h0, f.e9]; rfl⟩
 unfold sagXC
 rw [h0, f.e9, f.e10, f.e11, f.e12, f.e13, decide_eq_false (show ¬ (b9 c k l m a b x y).lo <= 0 by have := f.p; omega)]; rfl
include hc hk hl hm hx hy f in
theorem Hr : Reg (hhr c k l m a b x y) true (b10 c k l m a b x y) := by
 have h := (baseX_t f).2
 have h1 := HHb hc hk hl hm hx hy
 have h2 := HHn hc hk hl hm hx hy h
 have h3 := HHR hc hk hl hm hx hy
 rw [h] at h1 h3
 rw [decide_eq_false (show ¬ (b9 c k l m a b x y).lo <= 0 by have := f.p; omega)] at h2
 have e : hhr c k l m a b x y = ⟨(hhR c k l m a b x y).lo, (hhR c k l m a b x y).hi, 0⟩ := by unfold hhr; rw [h1, h2]; rfl
 rw [e]
 refine (Reg.vsE h3).imp ?_
 rw [f.e10]; rfl
include hc hk hl hm hx hy f in
theorem Hz : Reg (hhz c k l m a b x y) true (b13 c k l m a b x y) := (HHz hc hk hl hm hx hy).imp (baseX_t f).1
include hc hk hl hm hx hy f in
theorem H8 : Reg (hq8 c k l m a b x y) true (b12 c k l m a b x y) := by
 have h := Reg.add (Reg.const one_ri) (Hr hc hk hl hm hx hy f)
 exact Reg.imp (s := b12 c k l m a b x y) h (by show (true && true && z0 (b12 c k l m a b x y)) = true; rw [f.e12]; rfl)
theorem z0_bd {s : Sp} {M : Int} (h : Bd s M) : z0 s = true := zt h.e
include hc hk hl hm hx hy f in
theorem HX : Reg (hq9 c k l m a b x y a b l m) (z0 (b17 c k l m a b x y) && (z0 (b26 c k l m a b x y) && (z0 (b28 c k l m a b x y) && z0 (b29 c k l m a b x y)))) (b29 c k l m a b x y) := by
 have r1 : Reg (hq1 a b l) true (b14 c k l m a b x y) := (Reg.sc (Reg.one (ri_of hx)) (sc_c hl)).imp (by show (true && z0 (b14 c k l m a b x y)) = true; rw [z0_bd (X14_b hc hk hl hm hx hy f)]; rfl)
 have r2 : Reg (hq2 a b l) true (b15 c k l m a b x y) := (Reg.sc r1 (sc_c hl)).imp (by show (true && z0 (b15 c k l m a b x y)) = true; rw [z0_bd (X15_b hc hk hl hm hx hy f)]; rfl)
 have r3 : Reg (hq3 a b l m) true (b16 c k l m a b x y) := (Reg.sc r2 (sc_k hm)).imp (by show (true && z0 (b16 c k l m a b x y)) = true; rw [z0_bd (X16_b hc hk hl hm hx hy f)]; rfl)
 have r4 := Reg.div r3 (Hr hc hk hl hm hx hy f)
 have r5 := Reg.mul (Hz hc hk hl hm hx hy f) r4
 have r6 : Reg (hq6 a b l) true (b27 c k l m a b x y) := (Reg.sc r1 sc_21).imp (by show (true && z0 (b27 c k l m a b x y)) = true; rw [z0_bd (X27_b hc hk hl hm hx hy f)]; rfl)
 have r7 := Reg.add r6 r5
 have r9 := Reg.div r7 (H8 hc hk hl hm hx hy f)
 refine Reg.imp (s := b29 c k l m a b x y) r9 ?_
 show (true && (true && (true && true && z0 (b17 c k l m a b x y)) && z0 (b26 c k l m a b x y)) && z0 (b28 c k l m a b x y) && true && z0 (b29 c k l m a b x y)) = _
 simp only [Bool.true_and, Bool.and_true, Bool.and_assoc]
include hc hk hl hm hx hy f in
theorem HY : Reg (hq9 c k l m a b x y x y c k) (z0 (b21 c k l m a b x y) && (z0 (b22 c k l m a b x y) && (z0 (b24 c k l m a b x y) && z0 (b25 c k l m a b x y)))) (b25 c k l m a b x y) := by
 have r1 : Reg (hq1 x y c) true (b18 c k l m a b x y) := (Reg.sc (Reg.one (ri_of hy)) (sc_c hc)).imp (by show (true && z0 (b18 c k l m a b x y)) = true; rw [z0_bd (X18_b hc hk hl hm hx hy f)]; rfl)
 have r2 : Reg (hq2 x y c) true (b19 c k l m a b x y) := (Reg.sc r1 (sc_c hc)).imp (by show (true && z0 (b19 c k l m a b x y)) = true; rw [z0_bd (X19_b hc hk hl hm hx hy f)]; rfl)
 have r3 : Reg (hq3 x y c k) true (b20 c k l m a b x y) := (Reg.sc r2 (sc_k hk)).imp (by show (true && z0 (b20 c k l m a b x y)) = true; rw [z0_bd (X20_b hc hk hl hm hx hy f)]; rfl)
 have r4 := Reg.div r3 (Hr hc hk hl hm hx hy f)
 have r5 := Reg.mul (Hz hc hk hl hm hx hy f) r4
 have r6 : Reg (hq6 x y c) true (b23 c k l m a b x y) := (Reg.sc r1 sc_21).imp (by show (true && z0 (b23 c k l m a b x y)) = true; rw [z0_bd (X23_b hc hk hl hm hx hy f)]; rfl)
 have r7 := Reg.add r6 r5
 have r9 := Reg.div r7 (H8 hc hk hl hm hx hy f)
 refine Reg.imp (s := b25 c k l m a b x y) r9 ?_
 show (true && (true && (true && true && z0 (b21 c k l m a b x y)) && z0 (b22 c k l m a b x y)) && z0 (b24 c k l m a b x y) && true && z0 (b25 c k l m a b x y)) = _
 simp only [Bool.true_and, Bool.and_true, Bool.and_assoc]
end
section
variable {c k l m a b x y : Int} (hc : inL c) (hk : inK k) (hl : inL l) (hm : inK m) (hx : okSp a b = true) (hy : okSp x y = true)
include hc hk hl hm hx hy in
theorem ref_slpX (g : (sagX c k l m a b x y).e = 0) : ∃ cc d, Reg (hq9 c k l m a b x y a b l m) cc (b29 c k l m a b x y) /\ Reg (hq9 c k l m a b x y x y c k) d (b25 c k l m a b x y) /\ slX c k l m a b x y = (cc && d) := by
 have f := sagX_base g
 refine ⟨_, _, HX hc hk hl hm hx hy f, HY hc hk hl hm hx hy f, ?_⟩
 unfold slX slXB
 rw [f.e8, f.e11, f.e12, f.e13]
 simp only [Bool.true_and]
end
end Go.Rd
namespace Go.Proofs.YtooloakdmdbnaaaGreatDoor.K
open Go Go.Eng Go.Ar Go.Rd
noncomputable section
def pK (s : Su) (n : Int) (ys : List Int) (k : Int) : Prop := okF3 n ys /\ s.g.size < 1000000000 /\ rightS s ys = true /\ s.kd = k
def sagV (k : Int) (F : Su -> Int -> Int -> Int -> Int -> Sp) : Nat -> List Itm -> Option (Prop × AV × List ABody) := fun _ its => match its with
 | [.s xs n ys, .n [.n a, .n b], .n [.n x, .n y]] => match suOf xs with
  | some s => some (pK s n ys k /\ okSp a b = true /\ okSp x y = true, spV (F s a b x y), [])
  | none => none
 | _ => none
theorem sagV_ok {k : Int} {F : Su -> Int -> Int -> Int -> Int -> Sp} (h : ∀ s a b x y, s.kd = k -> k ≠ 3 /\ sagK s a b x y = F s a b x y) : NOk Tryz.prog glob hG 90 (lSpec hG [.s suI .i64, .n sS, .n sS] (sagV k F)) := by
 refine lSpec_weaken sagG_ok fun sz its p v bs e => ?_
 unfold sagV at e
 split at e
 .rename_i xs n ys a b x y
  split at e
  .rename_i s hs
   cases e
   refine ⟨okF3 n ys /\ s.g.size < 1000000000, sagA' s ys a b x y, by simp only [suV2, hs], fun hp => ⟨⟨hp.1.1, hp.1.2.1⟩, fun σ U hU => ?_⟩⟩
   obtain ⟨h3, hF⟩ := h s a b x y hp.1.2.2.2
   have e : sagG s ys a b x y = F s a b x y := by
    unfold sagG okXY
    rw [hp.1.2.2.1, hp.2.1, hp.2.2, hp.1.2.2.2, beq_eq_false_iff_ne.2 h3]
    exact hF
   unfold sagA' at hU
   rw [e] at hU
   exact hU
  .cases e
 .cases e
def sag1F : Su -> Int -> Int -> Int -> Int -> Sp := fun s a b x y => sagS s.c s.k s.a0 s.a1 s.a2 s.a3 a b x y
def sag2F : Su -> Int -> Int -> Int -> Int -> Sp := fun s a b x y => sagX s.c s.k s.l s.m a b x y
theorem sag1_ok : NOk Tryz.prog glob hG 90 (lSpec hG [.s suI .i64, .n sS, .n sS] (sagV 1 sag1F)) := sagV_ok fun s a b x y h => ⟨by decide, by unfold sagK sag1F; rw [h]; rfl⟩
theorem sag2_ok : NOk Tryz.prog glob hG 90 (lSpec hG [.s suI .i64, .n sS, .n sS] (sagV 2 sag2F)) := sagV_ok fun s a b x y h => ⟨by decide, by unfold sagK sag2F; rw [h]; rfl⟩
def sagE' (k : Int) : Nat -> List Itm -> Option (Prop × AV × List ABody) := fun _ its => match its with
 | [.s xs n ys, .n [.n a, .n b], .n [.n x, .n y]] => match suOf xs with
  | some s => some (okF3 n ys /\ s.g.size < 1000000000 /\ sagG s ys a b x y = ⟨0, 0, k⟩, eV k, [])
  | none => none
 | _ => none
theorem sagE_ok (k : Int) : NOk Tryz.prog glob hG 90 (lSpec hG [.s suI .i64, .n sS, .n sS] (sagE' k)) := by
 refine lSpec_weaken sagG_ok fun sz its p v bs e => ?_
 unfold sagE' at e
 split at e
 .rename_i xs n ys a b x y
  split at e
  .rename_i s hs
   cases e
   refine ⟨okF3 n ys /\ s.g.size < 1000000000, sagA' s ys a b x y, by simp only [suV2, hs], fun hp => ⟨⟨hp.1, hp.2.1⟩, fun σ U hU => ?_⟩⟩
   unfold sagA' at hU
   rw [hp.2.2] at hU
   exact hU
  .cases e
 .cases e
def tblV : List (FuncId × NSpec) := [(89, hN (gH chkSpec)), (115, hN (gH (good2 [shS] sqrS))), (119, hN (gH (good4 [shS, shS] subS))), (68, hN (gH (good2 [shS] sqrtS))), (124, hN (gH (good4 [shS, .i .i64, .i .i64] xScaleS)))]
theorem tblV_g : ∀ x ∈ tblV, NOk Tryz.prog glob hG x.1 x.2 := by
 intro x hx
 simp only [tblV, List.mem_cons, List.not_mem_nil, or_false] at hx
 rcases hx with rfl | rfl | rfl | rfl | rfl
 .exact chk0.h.n
 .exact (good_un ssqr_ok).h.n
 .exact (good_bin ssub_ok).h.n
 .exact (good_un ssqrt_ok).h.n
 .exact (good_sc sscale_ok).h.n
def hDom (q : Bool) (_ d : Nat) : Option AV := match Nat.beq d 102 with
 | true => some (.bool false false)
 | false => match Nat.beq d 62 with
  | true => (match q with | true => some (.bool false true) | false => some (.bool false false))
  | false => none
def cV (S : NSpec) (q : Bool) : Ctx := hinting (mkN Tryz.prog glob hG ((90, S) :: tblV) tblTe ext) (hDom q)
theorem cV_ok {S : NSpec} (h : NOk Tryz.prog glob hG 90 S) (q : Bool) : CtxOk (cV S q) := hinting_ok (mkN_ok prog_ok ext_ok (fun x hx => by
 rcases List.mem_cons.1 hx with rfl | hx
 .exact h
 .exact tblV_g x hx) tblTe_g) (hDom q)
def cV1 (q : Bool) : Ctx := cV (lSpec hG [.s suI .i64, .n sS, .n sS] (sagV 1 sag1F)) q
def cV2 : Ctx := cV (lSpec hG [.s suI .i64, .n sS, .n sS] (sagV 2 sag2F)) false
def cVe (k : Int) : Ctx := mkN Tryz.prog glob hG [(90, lSpec hG [.s suI .i64, .n sS, .n sS] (sagE' k))] [] ext
theorem cVe_ok (k : Int) : CtxOk (cVe k) := by
 refine mkN_ok prog_ok ext_ok (fun x hx => ?_) (fun _ h => by cases h)
 simp only [List.mem_cons, List.not_mem_nil, or_false] at hx
 subst hx
 exact sagE_ok k
def eV2 (k : Int) : AV := .tuple [.agg [.int false .i64 0, .int false .i64 0], .agg [.int false .i64 0, .int false .i64 0], .int false .i64 k]
theorem ul_1t (s : Su) (n : Int) (ys : List Int) (a b x y : Int) : rw2 (cV1 true) 48 (s.cells (.int false .i64 1)) n ys a b x y = some (.p (tcF (pK { s with kd := 1 } n ys 1) ⟨s.c, s.k, s.a0, s.a1, s.a2, s.a3, a, b, x, y⟩), sp2V (sagS s.c s.k s.a0 s.a1 s.a2 s.a3 a b x y).e (slA s.c s.k s.a0 s.a1 s.a2 s.a3 a b x y) (q4 s.c s.k s.a0 s.a1 s.a2 s.a3 a b x y) (q6 s.c s.k s.a0 s.a1 s.a2 s.a3 a b x y)) := by kernel_rfl
theorem ul_1f (s : Su) (n : Int) (ys : List Int) (a b x y : Int) : rw2 (cV1 false) 48 (s.cells (.int false .i64 1)) n ys a b x y = some (.p (teF (pK { s with kd := 1 } n ys 1) ⟨s.c, s.k, s.a0, s.a1, s.a2, s.a3, a, b, x, y⟩), sp2V (sagS s.c s.k s.a0 s.a1 s.a2 s.a3 a b x y).e (slP s.c s.k a b x y) (s14 s.c s.k a b x y) (s12 s.c s.k a b x y)) := by kernel_rfl
theorem ul_2 (s : Su) (n : Int) (ys : List Int) (a b x y : Int) : rw2 cV2 48 (s.cellsZ (.int false .i64 2)) n ys a b x y = some (.p (tdF (pK { s with kd := 2, a0 := 0, a1 := 0, a2 := 0, a3 := 0 } n ys 2) ⟨s.c, s.k, s.l, s.m, a, b, x, y⟩), slpX s.c s.k s.l s.m a b x y) := by kernel_rfl
theorem ul_4 (s : Su) (n : Int) (ys : List Int) (a b x y : Int) : rw2 (cVe 0) 48 (s.cells (.int false .i64 4)) n ys a b x y = some (.p (okF3 n ys /\ s.g.size < 1000000000 /\ sagG { s with kd := 4 } ys a b x y = ⟨0, 0, 0⟩), eV2 0) := by kernel_rfl
theorem ul_e5 (s : Su) (n : Int) (ys : List Int) (a b x y : Int) : rw2 (cVe 5) 48 (s.cells (.int true .i64 s.kd)) n ys a b x y = some (.p (okF3 n ys /\ s.g.size < 1000000000 /\ sagG s ys a b x y = ⟨0, 0, 5⟩), eV2 5) := by kernel_rfl
theorem ul_e20 (s : Su) (n : Int) (ys : List Int) (a b x y : Int) : rw2 (cVe 20) 48 (s.cells (.int true .i64 s.kd)) n ys a b x y = some (.p (okF3 n ys /\ s.g.size < 1000000000 /\ sagG s ys a b x y = ⟨0, 0, 20⟩), eV2 20) := by kernel_rfl
theorem ul_e110 (s : Su) (n : Int) (ys : List Int) (a b x y : Int) : rw2 (cVe 110) 48 (s.cells (.int true .i64 s.kd)) n ys a b x y = some (.p (okF3 n ys /\ s.g.size < 1000000000 /\ sagG s ys a b x y = ⟨0, 0, 110⟩), eV2 110) := by kernel_rfl
theorem eV2_tell {k : Int} {g : Int} {p : Bool} {u v : Sp} (h : g = k) (h0 : k ≠ 0) : tell (eV2 k) (sp2V g p u v) := by
 subst h
 have e : t1 g = true := by unfold t1; rw [bne0 h0]; rfl
 have e1 : ∀ z, tw1 g p z = 0 := fun z => by unfold tw1; rw [e]; rfl
 have e2 : twE g p = g := by unfold twE; rw [e]; rfl
 exact ⟨⟨⟨rfl, (e1 _).symm⟩, ⟨rfl, (e1 _).symm⟩, trivial⟩, ⟨⟨rfl, (e1 _).symm⟩, ⟨rfl, (e1 _).symm⟩, trivial⟩, ⟨rfl, e2.symm⟩, trivial⟩
theorem sp2V_tell {g : Int} {p : Bool} {u v : Sp} {S : AV} (h : sp2V g p u v = S) : tell (sp2V g p u v) S := by
 subst h
 exact ⟨⟨⟨rfl, rfl⟩, ⟨rfl, rfl⟩, trivial⟩, ⟨⟨rfl, rfl⟩, ⟨rfl, rfl⟩, trivial⟩, ⟨rfl, rfl⟩, trivial⟩
theorem pkz {s : Su} {ys : List Int} {n : Int} (hk : s.kd = 2) (h0 : s.a0 = 0 /\ s.a1 = 0 /\ s.a2 = 0 /\ s.a3 = 0) (ho : okF3 n ys) (hg : s.g.size < 1000000000) (h : rightS s ys = true) : pK { s with kd := 2, a0 := 0, a1 := 0, a2 := 0, a3 := 0 } n ys 2 := by
 have e : ({ s with kd := 2, a0 := 0, a1 := 0, a2 := 0, a3 := 0 } : Su) = s := by
  obtain ⟨h1, h2, h3, h4⟩ := h0
  cases s
  simp_all
 rw [e]
 exact ⟨ho, hg, h, hk⟩
theorem pk1 {s : Su} {ys : List Int} {n : Int} (hk : s.kd = 1) (ho : okF3 n ys) (hg : s.g.size < 1000000000) (h : rightS s ys = true) : pK { s with kd := 1 } n ys 1 := by rw [su_kd hk]; exact ⟨ho, hg, h, hk⟩
theorem slpG_ok : NOk Tryz.prog glob hG 48 (lSpec hG [.s suI .i64, .n sS, .n sS] (suV2 slpG)) := by
 refine su2_ok ⟨_, Tryz.func48, rfl⟩ fun s n ys a b x y hg ho => ?_
 cases hr : rightS s ys with
 | false =>
  have e : sagG s ys a b x y = ⟨0, 0, 110⟩ := by unfold sagG; rw [hr]; rfl
  exact ⟨cVe 110, s.cells (.int true .i64 s.kd), _, _, cVe_ok _, rfl, rfl, tell_kd ⟨rfl, rfl⟩, ul_e110 s n ys a b x y, rfl, ⟨ho, hg, e⟩, eV2_tell (by rw [e]) (by decide)⟩
 | true =>
  have bad : okXY a b x y = false -> s.kd ≠ 3 -> sagG s ys a b x y = ⟨0, 0, 20⟩ := fun h h3 => by unfold sagG; rw [hr, h, beq_eq_false_iff_ne.2 h3]; rfl
  have good : okXY a b x y = true -> s.kd ≠ 3 -> sagG s ys a b x y = sagK s a b x y := fun h h3 => by unfold sagG; rw [hr, h, beq_eq_false_iff_ne.2 h3]; rfl
  cases hx : okXY a b x y with
  | false =>
   by_cases h3 : s.kd = 3
   .have e : sagG s ys a b x y = ⟨0, 0, 5⟩ := by unfold sagG; rw [hr, h3]; rfl
    exact ⟨cVe 5, s.cells (.int true .i64 s.kd), _, _, cVe_ok _, rfl, rfl, tell_kd ⟨rfl, rfl⟩, ul_e5 s n ys a b x y, rfl, ⟨ho, hg, e⟩, eV2_tell (by rw [e]) (by decide)⟩
   .exact ⟨cVe 20, s.cells (.int true .i64 s.kd), _, _, cVe_ok _, rfl, rfl, tell_kd ⟨rfl, rfl⟩, ul_e20 s n ys a b x y, rfl, ⟨ho, hg, bad hx h3⟩, eV2_tell (by rw [bad hx h3]) (by decide)⟩
  | true =>
   have hh : okSp a b = true /\ okSp x y = true := by simpa [okXY] using hx
   rcases right_kd hr with hk | hk | hk | hk
   .have eg : sagG s ys a b x y = sagS s.c s.k s.a0 s.a1 s.a2 s.a3 a b x y := by rw [good hx (by omega)]; unfold sagK; rw [hk]; rfl
    have e : slpV s.c s.k s.a0 s.a1 s.a2 s.a3 a b x y = slpG s ys a b x y := by unfold slpG slpC slpU slpZ; rw [eg, hk]; rfl
    cases has : asp s.a0 s.a1 s.a2 s.a3 with
    | true => exact ⟨cV1 true, s.cells (.int false .i64 1), _, _, cV_ok sag1_ok _, rfl, rfl, tell_kd ⟨rfl, hk⟩, ul_1t s n ys a b x y, rfl, tcF_ok (pk1 hk ho hg hr) (right_std hr) hh.1 hh.2 has, sp2V_tell ((slpV_t (h := has) ..).trans e)⟩
    | false => exact ⟨cV1 false, s.cells (.int false .i64 1), _, _, cV_ok sag1_ok _, rfl, rfl, tell_kd ⟨rfl, hk⟩, ul_1f s n ys a b x y, rfl, teF_ok (pk1 hk ho hg hr) (right_std hr) hh.1 hh.2 has, sp2V_tell ((slpV_f (h := has) ..).trans e)⟩
   .have eg : sagG s ys a b x y = sagX s.c s.k s.l s.m a b x y := by rw [good hx (by omega)]; unfold sagK; rw [hk]; rfl
    have e : slpX s.c s.k s.l s.m a b x y = slpG s ys a b x y := by unfold slpG slpC slpU slpZ slpX; rw [eg, hk]; rfl
    exact ⟨cV2, s.cellsZ (.int false .i64 2), _, _, cV_ok sag2_ok _, rfl, rfl, tell_kz hk (right_noA hr hk), ul_2 s n ys a b x y, rfl, tdF_ok (pkz hk (right_noA hr hk) ho hg hr) (right_bic hr) hh.1 hh.2, sp2V_tell e⟩
   .have e : sagG s ys a b x y = ⟨0, 0, 5⟩ := by unfold sagG; rw [hr, hk]; rfl
    exact ⟨cVe 5, s.cells (.int true .i64 s.kd), _, _, cVe_ok _, rfl, rfl, tell_kd ⟨rfl, rfl⟩, ul_e5 s n ys a b x y, rfl, ⟨ho, hg, e⟩, eV2_tell (by rw [e]) (by decide)⟩
   .have eg : sagG s ys a b x y = ⟨0, 0, 0⟩ := by rw [good hx (by omega)]; unfold sagK; rw [hk]; rfl
    have e : slpG s ys a b x y = sp2V 0 true ⟨0, 0, 0⟩ ⟨0, 0, 0⟩ := by unfold slpG slpC slpU slpZ; rw [eg, hk]; rfl
    refine ⟨cVe 0, s.cells (.int false .i64 4), _, _, cVe_ok _, rfl, rfl, tell_kd ⟨rfl, hk⟩, ul_4 s n ys a b x y, rfl, ⟨ho, hg, by rw [su_kd hk]; exact eg⟩, ?_⟩
    rw [e]
    exact ⟨⟨⟨rfl, rfl⟩, ⟨rfl, rfl⟩, trivial⟩, ⟨⟨rfl, rfl⟩, ⟨rfl, rfl⟩, trivial⟩, ⟨rfl, rfl⟩, trivial⟩
end
end Go.Proofs.YtooloakdmdbnaaaGreatDoor.K
namespace Go.Proofs.YtooloakdmdbnaaaGreatDoor.K
open Go Go.Eng Go.Ar Go.Rd
noncomputable section
theorem rsagE_ok (k : Int) : NOk Tryz.prog glob8 hG8 102 (lSpec hG8 [.s suI .i64, .n sS, .n sS] (sagE' k)) := by
 refine lSpec_weaken rsag_ok fun sz its p v bs e => ?_
 unfold sagE' at e
 split at e
 .rename_i xs n ys a b x y
  split at e
  .rename_i s hs
   cases e
   refine ⟨okF3 n ys /\ s.g.size < 1000000000, sagA' s ys a b x y, by simp only [suV2, hs], fun hp => ⟨⟨hp.1, hp.2.1⟩, fun σ U hU => ?_⟩⟩
   unfold sagA' at hU
   rw [hp.2.2] at hU
   exact hU
  .cases e
 .cases e
def cRe (k : Int) : Ctx := mkN Tryz.prog glob8 hG8 [(102, lSpec hG8 [.s suI .i64, .n sS, .n sS] (sagE' k))] [] ext
theorem cRe_ok (k : Int) : CtxOk (cRe k) := by
 refine mkN_ok prog_ok ext_ok (fun x hx => ?_) (fun _ h => by cases h)
 simp only [List.mem_cons, List.not_mem_nil, or_false] at hx
 subst hx
 exact rsagE_ok k
def mid (s : Su) (n a b x y : Int) : Prop := s.k = s.k /\ s.c = s.c /\ (x = x /\ y = y) /\ (x = x /\ y = y) /\ (a = a /\ b = b) /\ same21 s n
def mid2 (s : Su) (n a b x y : Int) : Prop := s.k = s.k /\ s.c = s.c /\ (x = x /\ y = y) /\ (x = x /\ y = y) /\ (a = a /\ b = b) /\ s.c = s.c /\ s.k = s.k /\ s.l = s.l /\ s.m = s.m /\ s.f0 = s.f0 /\ s.f1 = s.f1 /\ s.o = s.o /\ s.th = s.th /\ s.g = s.g /\ s.se = s.se /\ s.ho = s.ho /\ s.dx = s.dx /\ s.dy = s.dy /\ s.ax = s.ax /\ s.ay = s.ay /\ s.az = s.az /\ n = n
def lx (s : Su) (n a b x y p q : Int) : Prop := asp s.a0 s.a1 s.a2 s.a3 = true -> (x = x /\ y = y) /\ (eqS (jh a b x y) /\ same21 s n /\ eqS (jh a b x y) /\ eqS (jd s.c s.k a b x y p q)) /\ True /\ (eqS (jh a b x y) /\ eqS (jd s.c s.k a b x y p q)) /\ eqS (jd s.c s.k a b x y p q) /\ eqS (jd s.c s.k a b x y p q)
theorem lx_t (s : Su) (n a b x y p q : Int) : lx s n a b x y p q := fun _ => ⟨⟨rfl, rfl⟩, ⟨eqS_t _, same21_t s n, eqS_t _, eqS_t _⟩, trivial, ⟨eqS_t _, eqS_t _⟩, eqS_t _, eqS_t _⟩
def pz (s : Su) (n : Int) (ys : List Int) : Prop := okF3 n ys /\ s.g.size < 1000000000
def jUx (s : Su) (a b x y : Int) : Sp := jU s.c s.k s.a0 s.a1 s.a2 s.a3 a b x y a b
def jUy (s : Su) (a b x y : Int) : Sp := jU s.c s.k s.a0 s.a1 s.a2 s.a3 a b x y x y
def rM1 (s : Su) (g n : Int) (ys : List Int) (a b x y : Int) : Prop := pz s n ys /\ ((!t1 g) = true -> s.k = s.k /\ ((ld1 s a b x y /\ lx s n a b x y a b) /\ mid s n a b x y /\ ld1 s a b x y /\ lx s n a b x y x y) /\ ((!badUV (jUx s a b x y) (jUy s a b x y)) = true -> eqS (jUy s a b x y)))
theorem rM1_t {s : Su} {g n : Int} {ys : List Int} {a b x y : Int} (h : pz s n ys) : rM1 s g n ys a b x y := ⟨h, fun _ => ⟨rfl, ⟨⟨ld1_t s a b x y, lx_t s n a b x y a b⟩, ⟨rfl, rfl, ⟨rfl, rfl⟩, ⟨rfl, rfl⟩, ⟨rfl, rfl⟩, same21_t s n⟩, ld1_t s a b x y, lx_t s n a b x y x y⟩, fun _ => eqS_t _⟩⟩
def hqx (s : Su) (a b x y : Int) : Sp := hq9 s.c s.k s.l s.m a b x y a b s.l s.m
def hqy (s : Su) (a b x y : Int) : Sp := hq9 s.c s.k s.l s.m a b x y x y s.c s.k
def ly (s : Su) (a b x y p q n w : Int) : Prop := (eqS (hhr s.c s.k s.l s.m a b x y) /\ eqS (hhr s.c s.k s.l s.m a b x y)) /\ (eqS (hhr s.c s.k s.l s.m a b x y) /\ eqS (hq4 s.c s.k s.l s.m a b x y p q n w) /\ eqS (hhz s.c s.k s.l s.m a b x y)) /\ eqS (hhr s.c s.k s.l s.m a b x y) /\ eqS (hhr s.c s.k s.l s.m a b x y) /\ eqS (hhr s.c s.k s.l s.m a b x y)
theorem ly_t (s : Su) (a b x y p q n w : Int) : ly s a b x y p q n w := ⟨⟨eqS_t _, eqS_t _⟩, ⟨eqS_t _, eqS_t _, eqS_t _⟩, eqS_t _, eqS_t _, eqS_t _⟩
def rM2 (s : Su) (g n : Int) (ys : List Int) (a b x y : Int) : Prop := pz s n ys /\ ((!t1 g) = true -> s.k = s.k /\ ((ld2 s a b x y /\ ly s a b x y a b s.l s.m) /\ mid2 s n a b x y /\ ld2 s a b x y /\ ly s a b x y x y s.c s.k) /\ ((!badUV (hqx s a b x y) (hqy s a b x y)) = true -> eqS (hqy s a b x y)))
theorem rM2_t {s : Su} {g n : Int} {ys : List Int} {a b x y : Int} (h : pz s n ys) : rM2 s g n ys a b x y := ⟨h, fun _ => ⟨rfl, ⟨⟨ld2_t s a b x y, ly_t s a b x y _ _ _ _⟩, by unfold mid2; simp, ld2_t s a b x y, ly_t s a b x y _ _ _ _⟩, fun _ => eqS_t _⟩⟩
theorem rl_1 (s : Su) (n : Int) (ys : List Int) (a b x y : Int) : rw8 cRs 56 (s.cells (.int false .i64 1)) n ys a b x y = some (.p (rM1 s (sagG { s with kd := 1 } ys a b x y).e n ys a b x y), slR (sagG { s with kd := 1 } ys a b x y).e (badUV (jUx s a b x y) (jUy s a b x y)) (jUx s a b x y) (jUy s a b x y)) := by kernel_rfl
theorem rl_2 (s : Su) (n : Int) (ys : List Int) (a b x y : Int) : rw8 cRs 56 (s.cellsZ (.int false .i64 2)) n ys a b x y = some (.p (rM2 s (sagG { s with kd := 2, a0 := 0, a1 := 0, a2 := 0, a3 := 0 } ys a b x y).e n ys a b x y), slR (sagG { s with kd := 2, a0 := 0, a1 := 0, a2 := 0, a3 := 0 } ys a b x y).e (badUV (hqx s a b x y) (hqy s a b x y)) (hqx s a b x y) (hqy s a b x y)) := by kernel_rfl
theorem rl_4 (s : Su) (n : Int) (ys : List Int) (a b x y : Int) : rw8 (cRe 0) 56 (s.cells (.int false .i64 4)) n ys a b x y = some (.p (okF3 n ys /\ s.g.size < 1000000000 /\ sagG { s with kd := 4 } ys a b x y = ⟨0, 0, 0⟩), eV2 0) := by kernel_rfl
theorem rl_e5 (s : Su) (n : Int) (ys : List Int) (a b x y : Int) : rw8 (cRe 5) 56 (s.cells (.int true .i64 s.kd)) n ys a b x y = some (.p (okF3 n ys /\ s.g.size < 1000000000 /\ sagG s ys a b x y = ⟨0, 0, 5⟩), eV2 5) := by kernel_rfl
theorem rl_e20 (s : Su) (n : Int) (ys : List Int) (a b x y : Int) : rw8 (cRe 20) 56 (s.cells (.int true .i64 s.kd)) n ys a b x y = some (.p (okF3 n ys /\ s.g.size < 1000000000 /\ sagG s ys a b x y = ⟨0, 0, 20⟩), eV2 20) := by kernel_rfl
theorem rl_e110 (s : Su) (n : Int) (ys : List Int) (a b x y : Int) : rw8 (cRe 110) 56 (s.cells (.int true .i64 s.kd)) n ys a b x y = some (.p (okF3 n ys /\ s.g.size < 1000000000 /\ sagG s ys a b x y = ⟨0, 0, 110⟩), eV2 110) := by kernel_rfl
theorem su_kz {s : Su} (h : s.kd = 2) (h0 : s.a0 = 0 /\ s.a1 = 0 /\ s.a2 = 0 /\ s.a3 = 0) : ({ s with kd := 2, a0 := 0, a1 := 0, a2 := 0, a3 := 0 } : Su) = s := by
 obtain ⟨h1, h2, h3, h4⟩ := h0
 cases s
 simp_all
theorem rslp_ok : NOk Tryz.prog glob8 hG8 56 (lSpec hG8 [.s suI .i64, .n sS, .n sS] (suV2 slpG)) := by
 refine su8_ok ⟨_, Tryz.func56, rfl⟩ fun s n ys a b x y hg ho => ?_
 cases hr : rightS s ys with
 | false =>
  have e : sagG s ys a b x y = ⟨0, 0, 110⟩ := by unfold sagG; rw [hr]; rfl
  exact ⟨cRe 110, s.cells (.int true .i64 s.kd), _, _, cRe_ok _, rfl, rfl, tell_kd ⟨rfl, rfl⟩, rl_e110 s n ys a b x y, rfl, ⟨ho, hg, e⟩, eV2_tell (by rw [e]) (by decide)⟩
 | true =>
  have bad : okXY a b x y = false -> s.kd ≠ 3 -> sagG s ys a b x y = ⟨0, 0, 20⟩ := fun h h3 => by unfold sagG; rw [hr, h, beq_eq_false_iff_ne.2 h3]; rfl
  have good : okXY a b x y = true -> s.kd ≠ 3 -> sagG s ys a b x y = sagK s a b x y := fun h h3 => by unfold sagG; rw [hr, h, beq_eq_false_iff_ne.2 h3]; rfl
  cases hx : okXY a b x y with
  | false =>
   by_cases h3 : s.kd = 3
   .have e : sagG s ys a b x y = ⟨0, 0, 5⟩ := by unfold sagG; rw [hr, h3]; rfl
    exact ⟨cRe 5, s.cells (.int true .i64 s.kd), _, _, cRe_ok _, rfl, rfl, tell_kd ⟨rfl, rfl⟩, rl_e5 s n ys a b x y, rfl, ⟨ho, hg, e⟩, eV2_tell (by rw [e]) (by decide)⟩
   .exact ⟨cRe 20, s.cells (.int true .i64 s.kd), _, _, cRe_ok _, rfl, rfl, tell_kd ⟨rfl, rfl⟩, rl_e20 s n ys a b x y, rfl, ⟨ho, hg, bad hx h3⟩, eV2_tell (by rw [bad hx h3]) (by decide)⟩
  | true =>
   have hh : okSp a b = true /\ okSp x y = true := by simpa [okXY] using hx
   rcases right_kd hr with hk | hk | hk | hk
   .have v := right_std hr
    have eg : sagG s ys a b x y = sagS s.c s.k s.a0 s.a1 s.a2 s.a3 a b x y := by rw [good hx (by omega)]; unfold sagK; rw [hk]; rfl
    have e : slpG s ys a b x y = sp2V (sagG s ys a b x y).e (slC s.c s.k s.a0 s.a1 s.a2 s.a3 a b x y) (slU s.c s.k s.a0 s.a1 s.a2 s.a3 a b x y) (slV s.c s.k s.a0 s.a1 s.a2 s.a3 a b x y) := by unfold slpG slpC slpU slpZ; rw [hk]; rfl
    refine ⟨cRs, s.cells (.int false .i64 1), _, _, cRs_ok, rfl, rfl, tell_kd ⟨rfl, hk⟩, rl_1 s n ys a b x y, rfl, rM1_t ⟨ho, hg⟩, ?_⟩
    rw [su_kd hk, e]
    exact slR_tell fun g => ref_slpS v.hc v.hk hh.1 hh.2 v.h0 v.h1 v.h2 v.h3 (by rw [<- eg]; exact g)
   .have v := right_bic hr
    have eg : sagG s ys a b x y = sagX s.c s.k s.l s.m a b x y := by rw [good hx (by omega)]; unfold sagK; rw [hk]; rfl
    have e : slpG s ys a b x y = sp2V (sagG s ys a b x y).e (slX s.c s.k s.l s.m a b x y) (b29 s.c s.k s.l s.m a b x y) (b25 s.c s.k s.l s.m a b x y) := by unfold slpG slpC slpU slpZ; rw [hk]; rfl
    refine ⟨cRs, s.cellsZ (.int false .i64 2), _, _, cRs_ok, rfl, rfl, tell_kz hk (right_noA hr hk), rl_2 s n ys a b x y, rfl, rM2_t ⟨ho, hg⟩, ?_⟩
    rw [su_kz hk (right_noA hr hk), e]
    exact slR_tell fun g => ref_slpX v.hc v.hk v.hl v.hm hh.1 hh.2 (by rw [<- eg]; exact g)
   .have e : sagG s ys a b x y = ⟨0, 0, 5⟩ := by unfold sagG; rw [hr, hk]; rfl
    exact ⟨cRe 5, s.cells (.int true .i64 s.kd), _, _, cRe_ok _, rfl, rfl, tell_kd ⟨rfl, rfl⟩, rl_e5 s n ys a b x y, rfl, ⟨ho, hg, e⟩, eV2_tell (by rw [e]) (by decide)⟩
   .have eg : sagG s ys a b x y = ⟨0, 0, 0⟩ := by rw [good hx (by omega)]; unfold sagK; rw [hk]; rfl
    have e : slpG s ys a b x y = sp2V 0 true ⟨0, 0, 0⟩ ⟨0, 0, 0⟩ := by unfold slpG slpC slpU slpZ; rw [eg, hk]; rfl
    refine ⟨cRe 0, s.cells (.int false .i64 4), _, _, cRe_ok _, rfl, rfl, tell_kd ⟨rfl, hk⟩, rl_4 s n ys a b x y, rfl, ⟨ho, hg, by rw [su_kd hk]; exact eg⟩, ?_⟩
    rw [e]
    exact ⟨⟨⟨rfl, rfl⟩, ⟨rfl, rfl⟩, trivial⟩, ⟨⟨rfl, rfl⟩, ⟨rfl, rfl⟩, trivial⟩, ⟨rfl, rfl⟩, trivial⟩
end
end Go.Proofs.YtooloakdmdbnaaaGreatDoor.K
namespace Go.Ar
open Go
def xNegS (a b : Int) : Sp := xTold (xCS a b) (IntKind.i64.wrap (0 - b)) (IntKind.i64.wrap (0 - a))
theorem xNegS_eq (a b : Int) : xNegS a b = negS a b := by
 unfold xNegS negS xTold
 rw [xCS_eq]
 cases h : okSp a b with
 | false => simp [err]
 | true =>
  have := okSp_iff.1 h
  rw [i64w (by omega) (by omega), i64w (by omega) (by omega)]
  have hb : xTb (0 - b) (0 - a) = false := by
   unfold xTb
   rw [decide_eq_false (show ¬ (0 - b < -4503599627370496) by omega), decide_eq_false (show ¬ (0 - a > 4503599627370496) by omega)]
   rfl
  rw [hb]
  simp
def rNegS (a b : Int) : Sp := ⟨bif !rR a b then 0 else IntKind.i64.wrap (0 - b), bif !rR a b then 0 else IntKind.i64.wrap (0 - a), bif !rR a b then 20 else 0⟩
theorem rNegS_eq (a b : Int) : rNegS a b = negS a b := by
 unfold rNegS negS
 rw [rR_eq]
 cases h : okSp a b with
 | false => rfl
 | true =>
  have := okSp_iff.1 h
  rw [i64w (by omega) (by omega), i64w (by omega) (by omega)]
  simp
end Go.Ar
namespace Go.Vc
open Go Go.Eng Go.Ar
structure VF where
 ad : Int -> Int -> Int -> Int -> Sp
 su : Int -> Int -> Int -> Int -> Sp
 mu : Int -> Int -> Int -> Int -> Sp
 di : Int -> Int -> Int -> Int -> Sp
 sc : Int -> Int -> Int -> Int -> Sp
 sq : Int -> Int -> Sp
 rt : Int -> Int -> Sp
 ng : Int -> Int -> Sp
 ck : Int -> Int -> Int
 ok : Int -> Int -> Bool
noncomputable def vf0 : VF := ⟨addS, subS, mulS, divS, scaleS, sqrS, sqrtS, negS, chkS, okSp⟩
structure Ve where
 a : Int
 b : Int
 c : Int
 d : Int
 e : Int
 f : Int
def Ve.cells (v : Ve) : List AV := [.int true .i64 v.a, .int true .i64 v.b, .int true .i64 v.c, .int true .i64 v.d, .int true .i64 v.e, .int true .i64 v.f]
section
variable (F : VF) (v : Ve)
def nA : Sp := F.ad (F.sq v.a v.b).lo (F.sq v.a v.b).hi (F.sq v.c v.d).lo (F.sq v.c v.d).hi
def nB : Sp := F.ad (nA F v).lo (nA F v).hi (F.sq v.e v.f).lo (F.sq v.e v.f).hi
def nR : Sp := F.rt (nB F v).lo (nB F v).hi
def nD1 : Sp := F.di v.a v.b (nR F v).lo (nR F v).hi
def nD2 : Sp := F.di v.c v.d (nR F v).lo (nR F v).hi
def nD3 : Sp := F.di v.e v.f (nR F v).lo (nR F v).hi
def fe (x y : Int) : Int := bif x == 0 then y else x
def uZ : Bool := !(v.a == 0 && (v.b == 0 && (v.c == 0 && (v.d == 0 && (v.e == 0 && (v.f == 0 && true))))))
def vCk : Int := fe (fe (F.ck v.a v.b) (F.ck v.c v.d)) (F.ck v.e v.f)
def vC0 : Int := bif uZ v then vCk F v else 0
def uE : Int := fe (fe (fe (fe (fe (fe (fe (fe (fe (vC0 F v) (F.sq v.a v.b).e) (F.sq v.c v.d).e) (F.sq v.e v.f).e) (nA F v).e) (nB F v).e) (nR F v).e) (nD1 F v).e) (nD2 F v).e) (nD3 F v).e
def uI (x : Int) : Int := bif uE F v != 0 then 0 else x
def uV : Ve := ⟨uI F v (nD1 F v).lo, uI F v (nD1 F v).hi, uI F v (nD2 F v).lo, uI F v (nD2 F v).hi, uI F v (nD3 F v).lo, uI F v (nD3 F v).hi⟩
def uO : Int := bif uE F v != 0 then uE F v else 0
def uNd : Prop := (uZ v = true -> (v.a = v.a /\ v.b = v.b) /\ (v.c = v.c /\ v.d = v.d) /\ v.e = v.e /\ v.f = v.f) /\ ((F.sq v.e v.f).lo = (F.sq v.e v.f).lo /\ (F.sq v.e v.f).hi = (F.sq v.e v.f).hi) /\ (v.a = v.a /\ v.b = v.b /\ v.c = v.c /\ v.d = v.d /\ v.e = v.e /\ v.f = v.f) /\ (v.a = v.a /\ v.b = v.b /\ v.c = v.c /\ v.d = v.d /\ v.e = v.e /\ v.f = v.f) /\ ((uE F v != 0) = true -> uE F v = uE F v)
theorem uNd_t : uNd F v := by unfold uNd; simp only [and_self, implies_true]
def f3 (a b c : Int) : Int := bif a != 0 || !(a != 0) && (b != 0 || !(b != 0) && c != 0) then bif a != 0 then a else bif b != 0 then b else c else 0
def wOk : Bool := !bif F.ok v.a v.b then bif F.ok v.c v.d then F.ok v.e v.f else false else false
def w5 : Int := f3 (F.sq v.a v.b).e (F.sq v.c v.d).e (F.sq v.e v.f).e
def w7 : Int := bif w5 F v != 0 then w5 F v else bif (nA F v).e != 0 then (nA F v).e else (nB F v).e
def wS (x : Int) : Int := bif w5 F v != 0 then 0 else bif (nA F v).e != 0 then 0 else x
def wR : Sp := F.rt (wS F v (nB F v).lo) (wS F v (nB F v).hi)
def w8 : Int := bif wOk F v then 20 else bif w7 F v != 0 then w7 F v else (wR F v).e
def w9 : Int := bif wOk F v then 0 else bif w7 F v != 0 then 0 else (wR F v).lo
def w10 : Int := bif wOk F v then 0 else bif w7 F v != 0 then 0 else (wR F v).hi
def w16 : Int := f3 (F.di v.a v.b (w9 F v) (w10 F v)).e (F.di v.c v.d (w9 F v) (w10 F v)).e (F.di v.e v.f (w9 F v) (w10 F v)).e
def wI (x : Int) : Int := bif w8 F v != 0 then 0 else bif w16 F v != 0 then 0 else x
def wV : Ve := ⟨wI F v (F.di v.a v.b (w9 F v) (w10 F v)).lo, wI F v (F.di v.a v.b (w9 F v) (w10 F v)).hi, wI F v (F.di v.c v.d (w9 F v) (w10 F v)).lo, wI F v (F.di v.c v.d (w9 F v) (w10 F v)).hi, wI F v (F.di v.e v.f (w9 F v) (w10 F v)).lo, wI F v (F.di v.e v.f (w9 F v) (w10 F v)).hi⟩
def wO : Int := bif w8 F v != 0 then w8 F v else bif w16 F v != 0 then w16 F v else 0
end
structure VF.law (F : VF) : Prop where
 ck : ∀ a b, F.ck a b = bif F.ok a b then 0 else 20
 z : F.ok 0 0 = true
theorem vf0_law : vf0.law := ⟨fun _ _ => rfl, by decide⟩
theorem vC0_eq {F : VF} (h : F.law) (v : Ve) : vC0 F v = bif wOk F v then 20 else 0 := by
 unfold vC0 vCk wOk fe
 simp only [h.ck]
 cases hz : uZ v with
 | true => cases F.ok v.a v.b <;> cases F.ok v.c v.d <;> cases F.ok v.e v.f <;> rfl
 | false =>
  unfold uZ at hz
  simp only [Bool.and_true, Bool.not_eq_false', Bool.and_eq_true, beq_iff_eq] at hz
  obtain ⟨h1, h2, h3, h4, h5, h6⟩ := hz
  rw [h1, h2, h3, h4, h5, h6, h.z]
  rfl
theorem f3_eq (a b c : Int) : f3 a b c = fe (fe a b) c := by
 unfold f3 fe
 simp only [bne]
 cases h1 : a == 0 with
 | true =>
  cases h2 : b == 0 with
  | true =>
   have := beq_iff_eq.1 h1
   have := beq_iff_eq.1 h2
   subst this
   cases h3 : c == 0 with
   | true => have := beq_iff_eq.1 h3; subst this; rfl
   | false => simp
  | false => simp [h2]
 | false => simp [h1]
theorem unit_eq {F : VF} (h : F.law) (v : Ve) : uV F v = wV F v /\ uO F v = wO F v := by
 have h0 := vC0_eq h v
 have e3 := f3_eq
 cases hk : wOk F v with
 | true =>
  rw [hk] at h0
  have hE : uE F v = 20 := by unfold uE; rw [h0]; rfl
  have h8 : w8 F v = 20 := by unfold w8; rw [hk]; rfl
  refine ⟨?_, ?_⟩
  .unfold uV wV uI wI; rw [hE, h8]; rfl
  .unfold uO wO; rw [hE, h8]; rfl
 | false =>
  rw [hk] at h0
  have h5 : w5 F v = fe (fe (F.sq v.a v.b).e (F.sq v.c v.d).e) (F.sq v.e v.f).e := e3 _ _ _
  have h5' : fe (fe (fe (vC0 F v) (F.sq v.a v.b).e) (F.sq v.c v.d).e) (F.sq v.e v.f).e = w5 F v := by rw [h5, h0]; rfl
  have hE : uE F v = fe (fe (fe (fe (fe (fe (w5 F v) (nA F v).e) (nB F v).e) (nR F v).e) (nD1 F v).e) (nD2 F v).e) (nD3 F v).e := by rw [<- h5']; rfl
  have stop : ∀ x y : Int, (x == 0) = false -> fe x y = x := fun x y hx => by unfold fe; rw [hx]; rfl
  have go : ∀ x y : Int, (x == 0) = true -> fe x y = y := fun x y hx => by unfold fe; rw [hx]; rfl
  have fin : ∀ t : Int, (t == 0) = false -> uE F v = t -> w8 F v = t -> uV F v = wV F v /\ uO F v = wO F v := fun t ht a b => by
   refine ⟨?_, ?_⟩
   .unfold uV wV uI wI; rw [a, b]; simp only [bne, ht, Bool.not_false, cond_true]
   .unfold uO wO; rw [a, b]; simp only [bne, ht, Bool.not_false, cond_true]
  have h8 : w8 F v = bif w7 F v != 0 then w7 F v else (wR F v).e := by unfold w8; rw [hk]; rfl
  cases a5 : w5 F v == 0 with
  | false =>
   refine fin (w5 F v) a5 (by rw [hE]; simp only [stop _ _ a5]) ?_
   rw [h8]; unfold w7; simp only [bne, a5, Bool.not_false, cond_true]
  | true =>
   cases aA : (nA F v).e == 0 with
   | false =>
    refine fin (nA F v).e aA (by rw [hE]; simp only [go _ _ a5, stop _ _ aA]) ?_
    rw [h8]; unfold w7; simp only [bne, a5, aA, Bool.not_true, Bool.not_false, cond_true, cond_false]
   | true =>
    have hS : ∀ x, wS F v x = x := fun x => by unfold wS; simp only [bne, a5, aA, Bool.not_true, cond_false]
    have hR : wR F v = nR F v := by unfold wR nR; rw [hS, hS]
    have h7 : w7 F v = (nB F v).e := by unfold w7; simp only [bne, a5, aA, Bool.not_true, cond_false]
    cases aB : (nB F v).e == 0 with
    | false =>
     refine fin (nB F v).e aB (by rw [hE]; simp only [go _ _ a5, go _ _ aA, stop _ _ aB]) ?_
     rw [h8, h7]; simp only [bne, aB, Bool.not_false, cond_true]
    | true =>
     have h8' : w8 F v = (nR F v).e := by rw [h8, h7, hR]; simp only [bne, aB, Bool.not_true, cond_false]
     have h9 : w9 F v = (nR F v).lo := by unfold w9; rw [hk, h7, hR]; simp only [bne, aB, Bool.not_true, cond_false]
     have h10 : w10 F v = (nR F v).hi := by unfold w10; rw [hk, h7, hR]; simp only [bne, aB, Bool.not_true, cond_false]
     have h16 : w16 F v = fe (fe (nD1 F v).e (nD2 F v).e) (nD3 F v).e := by unfold w16; rw [e3, h9, h10]; rfl
     cases aR : (nR F v).e == 0 with
     | false => exact fin (nR F v).e aR (by rw [hE]; simp only [go _ _ a5, go _ _ aA, go _ _ aB, stop _ _ aR]) h8'
     | true =>
      have hE' : uE F v = w16 F v := by rw [hE, h16]; simp only [go _ _ a5, go _ _ aA, go _ _ aB, go _ _ aR]
      have hI : ∀ x, wI F v x = uI F v x := fun x => by unfold wI uI; rw [h8', hE']; simp only [bne, aR, Bool.not_true, cond_false]
      refine ⟨?_, ?_⟩
      .unfold uV wV; simp only [hI, h9, h10]; rfl
      .unfold uO wO; rw [h8', hE']; simp only [bne, aR, Bool.not_true, cond_false]
end Go.Vc
namespace Go.Proofs.YtooloakdmdbnaaaGreatDoor.K
open Go Go.Eng Go.Ar Go.Rd Go.Vc
noncomputable section
theorem sneg_run (a b : Int) : oneV ((run c2 300).call 97 [.agg [.int true .i64 a, .int true .i64 b]] ⟨[], 0, 1⟩) = some (.tt, (outS (xNegS a b)).av true) := by kernel_rfl
theorem rneg_run (a b : Int) : oneV ((run c6 300).call 108 [.agg [.int true .i64 a, .int true .i64 b]] ⟨[], 0, 1⟩) = some (.tt, (outS (rNegS a b)).av true) := by kernel_rfl
theorem sneg_ok : PureOk Tryz.prog 97 (sUn negS) := by
 refine num_ok (fun xs hk _ => ?_) ⟨_, Tryz.func97, rfl⟩
 obtain ⟨a, _, rfl, h1⟩ := kn hk; obtain ⟨b, _, rfl, h2⟩ := kn h1; obtain rfl := k0 h2
 exact ⟨c2, 300, _, c2_ok, rfl, fun _ => rfl, rfl, (sneg_run a b).trans (by rw [xNegS_eq]), trivial⟩
theorem rneg_ok : PureOk Tryz.prog 108 (sUn negS) := by
 refine num_ok (fun xs hk _ => ?_) ⟨_, Tryz.func108, rfl⟩
 obtain ⟨a, _, rfl, h1⟩ := kn hk; obtain ⟨b, _, rfl, h2⟩ := kn h1; obtain rfl := k0 h2
 exact ⟨c6, 300, _, c6_ok, rfl, fun _ => rfl, rfl, (rneg_run a b).trans (by rw [rNegS_eq]), trivial⟩
def ckVF (F : VF) : PSpec := numSpec [shS] none fun
 | [.n a, .n b] => .n .i64 (F.ck a b)
 | _ => .u []
def okVF (F : VF) : PSpec := numSpec [shS] none fun
 | [.n a, .n b] => .t (F.ok a b)
 | _ => .u []
def tblVeP (F : VF) : List (FuncId × PSpec) := [(146, sBin F.ad), (119, sBin F.su), (116, sBin F.mu), (71, sBin F.di), (115, sUn F.sq), (68, sUn F.rt), (97, sUn F.ng), (89, ckVF F)]
theorem tblVeP_ok : TblOk Tryz.prog (tblVeP vf0) := by
 intro x hx
 simp only [tblVeP, List.mem_cons, List.not_mem_nil, or_false] at hx
 rcases hx with rfl | rfl | rfl | rfl | rfl | rfl | rfl | rfl
 .exact sadd_ok
 .exact ssub_ok
 .exact smul_ok
 .exact sdiv_ok
 .exact ssqr_ok
 .exact ssqrt_ok
 .exact sneg_ok
 .exact schk_ok
def tblVeR (F : VF) : List (FuncId × PSpec) := [(138, sBin F.ad), (130, sBin F.su), (136, sBin F.mu), (106, sBin F.di), (160, sUn F.sq), (137, sUn F.rt), (108, sUn F.ng), (54, ckVF F), (101, okVF F)]
theorem tblVeR_ok : TblOk Tryz.prog (tblVeR vf0) := by
 intro x hx
 simp only [tblVeR, List.mem_cons, List.not_mem_nil, or_false] at hx
 rcases hx with rfl | rfl | rfl | rfl | rfl | rfl | rfl | rfl | rfl
 .exact radd_ok
 .exact rsub_ok
 .exact rmul_ok
 .exact rdiv_ok
 .exact rsqr_ok
 .exact rsqrt_ok
 .exact rneg_ok
 .exact rchk_ok
 .exact rright_ok
noncomputable def cVeP (F : VF) : Ctx := mkC Tryz.prog (tblVeP F) ext
theorem cVeP_ok : CtxOk (cVeP vf0) := mkC_ok prog_ok tblVeP_ok ext_ok
noncomputable def cVeR (F : VF) : Ctx := mkC Tryz.prog (tblVeR F) ext
theorem cVeR_ok : CtxOk (cVeR vf0) := mkC_ok prog_ok tblVeR_ok ext_ok
def shV : Sh := .a [.i .i64, .i .i64, .i .i64, .i .i64, .i .i64, .i .i64]
def outVe (v : Ve) (e : Int) : Tm := .u [.a [.n .i64 v.a, .n .i64 v.b, .n .i64 v.c, .n .i64 v.d, .n .i64 v.e, .n .i64 v.f], .n .i64 e]
def sUnit (U : Ve -> Ve) (E : Ve -> Int) : PSpec := numSpec [shV] none fun
 | [.n a, .n b, .n c, .n d, .n e, .n f] => outVe (U ⟨a, b, c, d, e, f⟩) (E ⟨a, b, c, d, e, f⟩)
 | _ => .u []
theorem unit_run (F : VF) (v : Ve) : oneV ((run (cVeP F) 3000).call 51 [.agg v.cells] ⟨[], 0, 1⟩) = some (.p (uNd F v), (outVe (uV F v) (uO F v)).av true) := by kernel_rfl
theorem runit_run (F : VF) (v : Ve) : oneV ((run (cVeR F) 3000).call 58 [.agg v.cells] ⟨[], 0, 1⟩) = some (.tt, (outVe (wV F v) (wO F v)).av true) := by kernel_rfl
theorem vunit_ok : PureOk Tryz.prog 51 (sUnit (uV vf0) (uO vf0)) := by
 refine num_ok (fun xs hk _ => ?_) ⟨_, Tryz.func51, rfl⟩
 obtain ⟨a, _, rfl, h1⟩ := kn hk; obtain ⟨b, _, rfl, h2⟩ := kn h1; obtain ⟨c, _, rfl, h3⟩ := kn h2; obtain ⟨d, _, rfl, h4⟩ := kn h3; obtain ⟨e, _, rfl, h5⟩ := kn h4; obtain ⟨f, _, rfl, h6⟩ := kn h5; obtain rfl := k0 h6
 exact ⟨cVeP vf0, 3000, _, cVeP_ok, rfl, fun _ => rfl, rfl, unit_run vf0 ⟨a, b, c, d, e, f⟩, uNd_t _ _⟩
theorem runit_ok : PureOk Tryz.prog 58 (sUnit (uV vf0) (uO vf0)) := by
 refine num_ok (fun xs hk _ => ?_) ⟨_, Tryz.func58, rfl⟩
 obtain ⟨a, _, rfl, h1⟩ := kn hk; obtain ⟨b, _, rfl, h2⟩ := kn h1; obtain ⟨c, _, rfl, h3⟩ := kn h2; obtain ⟨d, _, rfl, h4⟩ := kn h3; obtain ⟨e, _, rfl, h5⟩ := kn h4; obtain ⟨f, _, rfl, h6⟩ := kn h5; obtain rfl := k0 h6
 have r := runit_run vf0 ⟨a, b, c, d, e, f⟩
 obtain ⟨e1, e2⟩ := unit_eq vf0_law ⟨a, b, c, d, e, f⟩
 rw [<- e1, <- e2] at r
 exact ⟨cVeR vf0, 3000, _, cVeR_ok, rfl, fun _ => rfl, rfl, r, trivial⟩
theorem vchk_run (F : VF) (v : Ve) : oneV ((run (cVeP F) 3000).call 15 [.agg v.cells] ⟨[], 0, 1⟩) = some (.p (uZ v = true -> (v.a = v.a /\ v.b = v.b) /\ (v.c = v.c /\ v.d = v.d) /\ v.e = v.e /\ v.f = v.f), (Tm.n .i64 (vC0 F v)).av true) := by kernel_rfl
end
end Go.Proofs.YtooloakdmdbnaaaGreatDoor.K
namespace Go.Vc
open Go Go.Eng Go.Ar
section
variable (F : VF) (v w : Ve) (X Y Z : Sp)
def bCk : Int := bif uZ w then fe (fe (fe (vC0 F v) (F.ck w.a w.b)) (F.ck w.c w.d)) (F.ck w.e w.f) else vC0 F v
def tE (k : Int) : Int := fe (fe (fe k X.e) Y.e) Z.e
def tI (e x : Int) : Int := bif e != 0 then 0 else x
def tV (e : Int) : Ve := ⟨tI e X.lo, tI e X.hi, tI e Y.lo, tI e Y.hi, tI e Z.lo, tI e Z.hi⟩
def tO (e : Int) : Int := bif e != 0 then e else 0
def z3 {β : Type} (f : Int -> Int -> Int -> Int -> Sp) (w : Ve) (x : Sp -> Sp -> Sp -> β) : β := x (f v.a v.b w.a w.b) (f v.c v.d w.c w.d) (f v.e v.f w.e w.f)
def two3 (f : Int -> Int -> Int -> Int -> Sp) : Int := z3 v f w fun X Y Z => tE X Y Z (bCk F v w)
def twoV (f : Int -> Int -> Int -> Int -> Sp) : Ve := z3 v f w fun X Y Z => tV X Y Z (tE X Y Z (bCk F v w))
def twoO (f : Int -> Int -> Int -> Int -> Sp) : Int := z3 v f w fun X Y Z => tO (tE X Y Z (bCk F v w))
def lk (x y : Int) : Ve := ⟨x, y, x, y, x, y⟩
def dA : Sp := F.ad (F.mu v.a v.b w.a w.b).lo (F.mu v.a v.b w.a w.b).hi (F.mu v.c v.d w.c w.d).lo (F.mu v.c v.d w.c w.d).hi
def dB : Sp := F.ad (dA F v w).lo (dA F v w).hi (F.mu v.e v.f w.e w.f).lo (F.mu v.e v.f w.e w.f).hi
def dE : Int := fe (fe (two3 F v w F.mu) (dA F v w).e) (dB F v w).e
def dotF : Sp := ⟨tI (dE F v w) (dB F v w).lo, tI (dE F v w) (dB F v w).hi, tO (dE F v w)⟩
def gE : Int := tE (F.ng v.a v.b) (F.ng v.c v.d) (F.ng v.e v.f) (vC0 F v)
def gV : Ve := tV (F.ng v.a v.b) (F.ng v.c v.d) (F.ng v.e v.f) (gE F v)
def gO : Int := tO (gE F v)
def veP (v : Ve) : Prop := v.a = v.a /\ v.b = v.b /\ v.c = v.c /\ v.d = v.d /\ v.e = v.e /\ v.f = v.f
def veQ (v : Ve) : Prop := (v.a = v.a /\ v.b = v.b) /\ (v.c = v.c /\ v.d = v.d) /\ v.e = v.e /\ v.f = v.f
def vn2 (w : Ve) (E : Int) : Prop := ((uZ v = true -> veQ v) /\ (uZ w = true -> veQ w)) /\ ((E != 0) = true -> E = E)
def vnS (x y : Int) (E : Int) : Prop := (veP v /\ (uZ v = true -> veQ v) /\ (uZ (lk x y) = true -> veQ (lk x y))) /\ veP v /\ ((E != 0) = true -> E = E)
def vnD (w : Ve) : Prop := ((uZ v = true -> veQ v) /\ (uZ w = true -> veQ w)) /\ ((F.mu v.e v.f w.e w.f).lo = (F.mu v.e v.f w.e w.f).lo /\ (F.mu v.e v.f w.e w.f).hi = (F.mu v.e v.f w.e w.f).hi) /\ ((dE F v w != 0) = true -> dE F v w = dE F v w)
def vnG : Prop := (uZ v = true -> veQ v) /\ ((gE F v != 0) = true -> gE F v = gE F v)
theorem vn2_t {v w : Ve} {E : Int} : vn2 v w E := by unfold vn2 veQ; simp only [and_self, implies_true]
theorem vnS_t {v : Ve} {x y E : Int} : vnS v x y E := by unfold vnS veP veQ; simp only [and_self, implies_true]
theorem vnD_t {F : VF} {v w : Ve} : vnD F v w := by unfold vnD veQ; simp only [and_self, implies_true]
theorem vnG_t {F : VF} {v : Ve} : vnG F v := by unfold vnG veQ; simp only [and_self, implies_true]
def rI (b : Bool) (x : Int) : Int := bif b then 0 else bif f3 X.e Y.e Z.e != 0 then 0 else x
def rV (b : Bool) : Ve := ⟨rI X Y Z b X.lo, rI X Y Z b X.hi, rI X Y Z b Y.lo, rI X Y Z b Y.hi, rI X Y Z b Z.lo, rI X Y Z b Z.hi⟩
def rO (b : Bool) : Int := bif b then 20 else bif f3 X.e Y.e Z.e != 0 then f3 X.e Y.e Z.e else 0
def bBad : Bool := bif wOk F v then true else wOk F w
def sBad (x y : Int) : Bool := bif wOk F v then true else !F.ok x y
def rTwoV (f : Int -> Int -> Int -> Int -> Sp) (b : Bool) : Ve := z3 v f w fun X Y Z => rV X Y Z b
def rTwoO (f : Int -> Int -> Int -> Int -> Sp) (b : Bool) : Int := z3 v f w fun X Y Z => rO X Y Z b
def rDot : Sp := ⟨bif bBad F v w then 0 else bif z3 v F.mu w (fun X Y Z => f3 X.e Y.e Z.e) != 0 then 0 else bif (dA F v w).e != 0 then 0 else (dB F v w).lo, bif bBad F v w then 0 else bif z3 v F.mu w (fun X Y Z => f3 X.e Y.e Z.e) != 0 then 0 else bif (dA F v w).e != 0 then 0 else (dB F v w).hi, bif bBad F v w then 20 else bif z3 v F.mu w (fun X Y Z => f3 X.e Y.e Z.e) != 0 then z3 v F.mu w (fun X Y Z => f3 X.e Y.e Z.e) else bif (dA F v w).e != 0 then (dA F v w).e else (dB F v w).e⟩
end
theorem tE_eq (X Y Z : Sp) (b : Bool) : tE X Y Z (bif b then 20 else 0) = bif b then 20 else f3 X.e Y.e Z.e := by
 rw [f3_eq]
 cases b with
 | true => rfl
 | false => rfl
theorem tI_eq (X Y Z : Sp) (b : Bool) (x : Int) : tI (tE X Y Z (bif b then 20 else 0)) x = rI X Y Z b x := by
 rw [tE_eq]
 cases b <;> rfl
theorem tO_eq (X Y Z : Sp) (b : Bool) : tO (tE X Y Z (bif b then 20 else 0)) = rO X Y Z b := by
 rw [tE_eq]
 cases b <;> rfl
theorem three_eq (X Y Z : Sp) (b : Bool) : tV X Y Z (tE X Y Z (bif b then 20 else 0)) = rV X Y Z b /\ tO (tE X Y Z (bif b then 20 else 0)) = rO X Y Z b := by
 refine ⟨?_, tO_eq X Y Z b⟩
 unfold tV rV
 simp only [tI_eq]
theorem bCk_eq {F : VF} (h : F.law) (v w : Ve) : bCk F v w = bif bBad F v w then 20 else 0 := by
 have h1 := vC0_eq h v
 have h2 := vC0_eq h w
 unfold bCk bBad
 rw [h1]
 unfold vC0 at h2
 cases hv : wOk F v with
 | true => cases uZ w <;> rfl
 | false =>
  have h3 : fe (fe (fe (bif false then (20 : Int) else 0) (F.ck w.a w.b)) (F.ck w.c w.d)) (F.ck w.e w.f) = vCk F w := rfl
  rw [h3]
  exact h2
theorem two_eq {F : VF} (h : F.law) (v w : Ve) (f : Int -> Int -> Int -> Int -> Sp) : twoV F v w f = rTwoV v w f (bBad F v w) /\ twoO F v w f = rTwoO v w f (bBad F v w) := by
 unfold twoV twoO rTwoV rTwoO z3
 rw [bCk_eq h]
 exact three_eq _ _ _ _
theorem lk_bad {F : VF} (v : Ve) (x y : Int) : bBad F v (lk x y) = sBad F v x y := by
 unfold bBad sBad wOk lk
 cases F.ok x y <;> rfl
structure VF.law2 (F : VF) : Prop extends F.law where
 ad : ∀ a b c d, ((F.ad a b c d).e == 0) = false -> (F.ad a b c d).lo = 0 /\ (F.ad a b c d).hi = 0
 ng : ∀ a b, (F.ng a b).e = bif F.ok a b then 0 else 20
theorem dot_eq {F : VF} (h : F.law2) (v w : Ve) : dotF F v w = rDot F v w := by
 have h1 : two3 F v w F.mu = bif bBad F v w then 20 else z3 v F.mu w fun X Y Z => f3 X.e Y.e Z.e := by
  unfold two3 z3
  rw [bCk_eq h.tolaw]
  exact tE_eq _ _ _ _
 unfold dotF dE rDot
 rw [h1]
 generalize hz : (z3 v F.mu w fun X Y Z => f3 X.e Y.e Z.e) = q
 have hB := h.ad (dA F v w).lo (dA F v w).hi (F.mu v.e v.f w.e w.f).lo (F.mu v.e v.f w.e w.f).hi
 have hB : ((dB F v w).e == 0) = false -> (dB F v w).lo = 0 /\ (dB F v w).hi = 0 := hB
 generalize dB F v w = B at hB ⊢
 generalize (dA F v w).e = a
 cases bBad F v w with
 | true => rfl
 | false =>
  show (⟨tI (fe (fe q a) B.e) B.lo, tI (fe (fe q a) B.e) B.hi, tO (fe (fe q a) B.e)⟩ : Sp) = ⟨bif q != 0 then 0 else bif a != 0 then 0 else B.lo, bif q != 0 then 0 else bif a != 0 then 0 else B.hi, bif q != 0 then q else bif a != 0 then a else B.e⟩
  unfold tI tO fe
  cases hq : q == 0 with
  | false => simp only [bne, hq, Bool.not_false, cond_true, cond_false]
  | true =>
   cases ha : a == 0 with
   | false => simp only [bne, hq, ha, Bool.not_false, Bool.not_true, cond_true, cond_false]
   | true =>
    cases hb : B.e == 0 with
    | false =>
     obtain ⟨e1, e2⟩ := hB hb
     simp only [bne, hq, ha, hb, e1, e2, Bool.not_false, Bool.not_true, cond_true, cond_false]
    | true =>
     have := beq_iff_eq.1 hb
     simp only [bne, hq, ha, this, beq_self_eq_true, Bool.not_true, cond_true, cond_false]
theorem neg_eq {F : VF} (h : F.law2) (v : Ve) : gV F v = rV (F.ng v.a v.b) (F.ng v.c v.d) (F.ng v.e v.f) false /\ gO F v = rO (F.ng v.a v.b) (F.ng v.c v.d) (F.ng v.e v.f) false := by
 have hE : gE F v = tE (F.ng v.a v.b) (F.ng v.c v.d) (F.ng v.e v.f) (bif false then 20 else 0) := by
  unfold gE
  rw [vC0_eq h.tolaw]
  unfold tE wOk fe
  simp only [h.ng]
  cases F.ok v.a v.b <;> cases F.ok v.c v.d <;> cases F.ok v.e v.f <;> rfl
 unfold gV gO
 rw [hE]
 exact three_eq _ _ _ false
theorem vf0_law2 : vf0.law2 := by
 refine { vf0_law with ad := fun a b c d => ?_, ng := fun a b => ?_ }
 .show ((addS a b c d).e == 0) = false -> _
  show _ -> (addS a b c d).lo = 0 /\ (addS a b c d).hi = 0
  unfold addS both toldS
  cases okSp a b && okSp c d with
  | false => exact fun _ => ⟨rfl, rfl⟩
  | true =>
   cases okF (a + c) && okF (b + d) with
   | false => exact fun _ => ⟨rfl, rfl⟩
   | true => exact fun h => by cases h
 .show (negS a b).e = bif okSp a b then 0 else 20
  unfold negS
  cases okSp a b <;> rfl
end Go.Vc
namespace Go.Proofs.YtooloakdmdbnaaaGreatDoor.K
open Go Go.Eng Go.Ar Go.Rd Go.Vc
noncomputable section
def sVV (U : Ve -> Ve -> Ve) (E : Ve -> Ve -> Int) : PSpec := numSpec [shV, shV] none fun
 | [.n a, .n b, .n c, .n d, .n e, .n f, .n a1, .n b1, .n c1, .n d1, .n e1, .n f1] => outVe (U ⟨a, b, c, d, e, f⟩ ⟨a1, b1, c1, d1, e1, f1⟩) (E ⟨a, b, c, d, e, f⟩ ⟨a1, b1, c1, d1, e1, f1⟩)
 | _ => .u []
def sVD (D : Ve -> Ve -> Sp) : PSpec := numSpec [shV, shV] none fun
 | [.n a, .n b, .n c, .n d, .n e, .n f, .n a1, .n b1, .n c1, .n d1, .n e1, .n f1] => outS (D ⟨a, b, c, d, e, f⟩ ⟨a1, b1, c1, d1, e1, f1⟩)
 | _ => .u []
def sVS (U : Ve -> Int -> Int -> Ve) (E : Ve -> Int -> Int -> Int) : PSpec := numSpec [shV, shS] none fun
 | [.n a, .n b, .n c, .n d, .n e, .n f, .n x, .n y] => outVe (U ⟨a, b, c, d, e, f⟩ x y) (E ⟨a, b, c, d, e, f⟩ x y)
 | _ => .u []
theorem kVV {xs : List Nu} (hk : xs.map Nu.isN = Sh.kindsL [shV, shV]) : ∃ a b c d e f a1 b1 c1 d1 e1 f1, xs = [.n a, .n b, .n c, .n d, .n e, .n f, .n a1, .n b1, .n c1, .n d1, .n e1, .n f1] := by
 obtain ⟨a, _, rfl, h1⟩ := kn hk; obtain ⟨b, _, rfl, h2⟩ := kn h1; obtain ⟨c, _, rfl, h3⟩ := kn h2; obtain ⟨d, _, rfl, h4⟩ := kn h3; obtain ⟨e, _, rfl, h5⟩ := kn h4; obtain ⟨f, _, rfl, h6⟩ := kn h5; obtain ⟨a1, _, rfl, h7⟩ := kn h6; obtain ⟨b1, _, rfl, h8⟩ := kn h7; obtain ⟨c1, _, rfl, h9⟩ := kn h8; obtain ⟨d1, _, rfl, h10⟩ := kn h9; obtain ⟨e1, _, rfl, h11⟩ := kn h10; obtain ⟨f1, _, rfl, h12⟩ := kn h11; obtain rfl := k0 h12
 exact ⟨a, b, c, d, e, f, a1, b1, c1, d1, e1, f1, rfl⟩
abbrev spA2 (x y : Int) : AV := .agg [.int true .i64 x, .int true .i64 y]
theorem vadd_run (F : VF) (v w : Ve) : oneV ((run (cVeP F) 3000).call 69 [.agg v.cells, .agg w.cells] ⟨[], 0, 1⟩) = some (.p (vn2 v w (two3 F v w F.ad)), (outVe (twoV F v w F.ad) (twoO F v w F.ad)).av true) := by kernel_rfl
theorem wadd_run (F : VF) (v w : Ve) : oneV ((run (cVeR F) 3000).call 82 [.agg v.cells, .agg w.cells] ⟨[], 0, 1⟩) = some (.tt, (outVe (rTwoV v w F.ad (bBad F v w)) (rTwoO v w F.ad (bBad F v w))).av true) := by kernel_rfl
theorem vsub_run (F : VF) (v w : Ve) : oneV ((run (cVeP F) 3000).call 64 [.agg v.cells, .agg w.cells] ⟨[], 0, 1⟩) = some (.p (vn2 v w (two3 F v w F.su)), (outVe (twoV F v w F.su) (twoO F v w F.su)).av true) := by kernel_rfl
theorem wsub_run (F : VF) (v w : Ve) : oneV ((run (cVeR F) 3000).call 79 [.agg v.cells, .agg w.cells] ⟨[], 0, 1⟩) = some (.tt, (outVe (rTwoV v w F.su (bBad F v w)) (rTwoO v w F.su (bBad F v w))).av true) := by kernel_rfl
theorem vdot_run (F : VF) (v w : Ve) : oneV ((run (cVeP F) 3000).call 113 [.agg v.cells, .agg w.cells] ⟨[], 0, 1⟩) = some (.p (vnD F v w), (outS (dotF F v w)).av true) := by kernel_rfl
theorem wdot_run (F : VF) (v w : Ve) : oneV ((run (cVeR F) 3000).call 131 [.agg v.cells, .agg w.cells] ⟨[], 0, 1⟩) = some (.tt, (outS (rDot F v w)).av true) := by kernel_rfl
theorem vscale_run (F : VF) (v : Ve) (x y : Int) : oneV ((run (cVeP F) 3000).call 65 [.agg v.cells, spA2 x y] ⟨[], 0, 1⟩) = some (.p (vnS v x y (two3 F v (lk x y) F.mu)), (outVe (twoV F v (lk x y) F.mu) (twoO F v (lk x y) F.mu)).av true) := by kernel_rfl
theorem wscale_run (F : VF) (v : Ve) (x y : Int) : oneV ((run (cVeR F) 3000).call 80 [.agg v.cells, spA2 x y] ⟨[], 0, 1⟩) = some (.tt, (outVe (rTwoV v (lk x y) F.mu (sBad F v x y)) (rTwoO v (lk x y) F.mu (sBad F v x y))).av true) := by kernel_rfl
theorem vneg_run (F : VF) (v : Ve) : oneV ((run (cVeP F) 3000).call 72 [.agg v.cells] ⟨[], 0, 1⟩) = some (.p (vnG F v), (outVe (gV F v) (gO F v)).av true) := by kernel_rfl
theorem wneg_run (F : VF) (v : Ve) : oneV ((run (cVeR F) 3000).call 76 [.agg v.cells] ⟨[], 0, 1⟩) = some (.tt, (outVe (rV (F.ng v.a v.b) (F.ng v.c v.d) (F.ng v.e v.f) false) (rO (F.ng v.a v.b) (F.ng v.c v.d) (F.ng v.e v.f) false)).av true) := by kernel_rfl
theorem vadd_ok : PureOk Tryz.prog 69 (sVV (fun v w => twoV vf0 v w vf0.ad) (fun v w => twoO vf0 v w vf0.ad)) := by
 refine num_ok (fun xs hk _ => ?_) ⟨_, Tryz.func69, rfl⟩
 obtain ⟨a, b, c, d, e, f, a1, b1, c1, d1, e1, f1, rfl⟩ := kVV hk
 exact ⟨cVeP vf0, 3000, _, cVeP_ok, rfl, fun _ => rfl, rfl, vadd_run vf0 ⟨a, b, c, d, e, f⟩ ⟨a1, b1, c1, d1, e1, f1⟩, vn2_t⟩
theorem wadd_ok : PureOk Tryz.prog 82 (sVV (fun v w => twoV vf0 v w vf0.ad) (fun v w => twoO vf0 v w vf0.ad)) := by
 refine num_ok (fun xs hk _ => ?_) ⟨_, Tryz.func82, rfl⟩
 obtain ⟨a, b, c, d, e, f, a1, b1, c1, d1, e1, f1, rfl⟩ := kVV hk
 have r := wadd_run vf0 ⟨a, b, c, d, e, f⟩ ⟨a1, b1, c1, d1, e1, f1⟩
 obtain ⟨q1, q2⟩ := two_eq vf0_law ⟨a, b, c, d, e, f⟩ ⟨a1, b1, c1, d1, e1, f1⟩ vf0.ad
 rw [<- q1, <- q2] at r
 exact ⟨cVeR vf0, 3000, _, cVeR_ok, rfl, fun _ => rfl, rfl, r, trivial⟩
theorem vsub_ok : PureOk Tryz.prog 64 (sVV (fun v w => twoV vf0 v w vf0.su) (fun v w => twoO vf0 v w vf0.su)) := by
 refine num_ok (fun xs hk _ => ?_) ⟨_, Tryz.func64, rfl⟩
 obtain ⟨a, b, c, d, e, f, a1, b1, c1, d1, e1, f1, rfl⟩ := kVV hk
 exact ⟨cVeP vf0, 3000, _, cVeP_ok, rfl, fun _ => rfl, rfl, vsub_run vf0 ⟨a, b, c, d, e, f⟩ ⟨a1, b1, c1, d1, e1, f1⟩, vn2_t⟩
theorem wsub_ok : PureOk Tryz.prog 79 (sVV (fun v w => twoV vf0 v w vf0.su) (fun v w => twoO vf0 v w vf0.su)) := by
 refine num_ok (fun xs hk _ => ?_) ⟨_, Tryz.func79, rfl⟩
 obtain ⟨a, b, c, d, e, f, a1, b1, c1, d1, e1, f1, rfl⟩ := kVV hk
 have r := wsub_run vf0 ⟨a, b, c, d, e, f⟩ ⟨a1, b1, c1, d1, e1, f1⟩
 obtain ⟨q1, q2⟩ := two_eq vf0_law ⟨a, b, c, d, e, f⟩ ⟨a1, b1, c1, d1, e1, f1⟩ vf0.su
 rw [<- q1, <- q2] at r
 exact ⟨cVeR vf0, 3000, _, cVeR_ok, rfl, fun _ => rfl, rfl, r, trivial⟩
theorem vdot_ok : PureOk Tryz.prog 113 (sVD (dotF vf0)) := by
 refine num_ok (fun xs hk _ => ?_) ⟨_, Tryz.func113, rfl⟩
 obtain ⟨a, b, c, d, e, f, a1, b1, c1, d1, e1, f1, rfl⟩ := kVV hk
 exact ⟨cVeP vf0, 3000, _, cVeP_ok, rfl, fun _ => rfl, rfl, vdot_run vf0 ⟨a, b, c, d, e, f⟩ ⟨a1, b1, c1, d1, e1, f1⟩, vnD_t⟩
theorem wdot_ok : PureOk Tryz.prog 131 (sVD (dotF vf0)) := by
 refine num_ok (fun xs hk _ => ?_) ⟨_, Tryz.func131, rfl⟩
 obtain ⟨a, b, c, d, e, f, a1, b1, c1, d1, e1, f1, rfl⟩ := kVV hk
 have r := wdot_run vf0 ⟨a, b, c, d, e, f⟩ ⟨a1, b1, c1, d1, e1, f1⟩
 rw [<- dot_eq vf0_law2] at r
 exact ⟨cVeR vf0, 3000, _, cVeR_ok, rfl, fun _ => rfl, rfl, r, trivial⟩
theorem vscale_ok : PureOk Tryz.prog 65 (sVS (fun v x y => twoV vf0 v (lk x y) vf0.mu) (fun v x y => twoO vf0 v (lk x y) vf0.mu)) := by
 refine num_ok (fun xs hk _ => ?_) ⟨_, Tryz.func65, rfl⟩
 obtain ⟨a, _, rfl, h1⟩ := kn hk; obtain ⟨b, _, rfl, h2⟩ := kn h1; obtain ⟨c, _, rfl, h3⟩ := kn h2; obtain ⟨d, _, rfl, h4⟩ := kn h3; obtain ⟨e, _, rfl, h5⟩ := kn h4; obtain ⟨f, _, rfl, h6⟩ := kn h5; obtain ⟨x, _, rfl, h7⟩ := kn h6; obtain ⟨y, _, rfl, h8⟩ := kn h7; obtain rfl := k0 h8
 exact ⟨cVeP vf0, 3000, _, cVeP_ok, rfl, fun _ => rfl, rfl, vscale_run vf0 ⟨a, b, c, d, e, f⟩ x y, vnS_t⟩
theorem wscale_ok : PureOk Tryz.prog 80 (sVS (fun v x y => twoV vf0 v (lk x y) vf0.mu) (fun v x y => twoO vf0 v (lk x y) vf0.mu)) := by
 refine num_ok (fun xs hk _ => ?_) ⟨_, Tryz.func80, rfl⟩
 obtain ⟨a, _, rfl, h1⟩ := kn hk; obtain ⟨b, _, rfl, h2⟩ := kn h1; obtain ⟨c, _, rfl, h3⟩ := kn h2; obtain ⟨d, _, rfl, h4⟩ := kn h3; obtain ⟨e, _, rfl, h5⟩ := kn h4; obtain ⟨f, _, rfl, h6⟩ := kn h5; obtain ⟨x, _, rfl, h7⟩ := kn h6; obtain ⟨y, _, rfl, h8⟩ := kn h7; obtain rfl := k0 h8
 have r := wscale_run vf0 ⟨a, b, c, d, e, f⟩ x y
 obtain ⟨q1, q2⟩ := two_eq vf0_law ⟨a, b, c, d, e, f⟩ (lk x y) vf0.mu
 rw [<- lk_bad, <- q1, <- q2] at r
 exact ⟨cVeR vf0, 3000, _, cVeR_ok, rfl, fun _ => rfl, rfl, r, trivial⟩
theorem vneg_ok : PureOk Tryz.prog 72 (sUnit (gV vf0) (gO vf0)) := by
 refine num_ok (fun xs hk _ => ?_) ⟨_, Tryz.func72, rfl⟩
 obtain ⟨a, _, rfl, h1⟩ := kn hk; obtain ⟨b, _, rfl, h2⟩ := kn h1; obtain ⟨c, _, rfl, h3⟩ := kn h2; obtain ⟨d, _, rfl, h4⟩ := kn h3; obtain ⟨e, _, rfl, h5⟩ := kn h4; obtain ⟨f, _, rfl, h6⟩ := kn h5; obtain rfl := k0 h6
 exact ⟨cVeP vf0, 3000, _, cVeP_ok, rfl, fun _ => rfl, rfl, vneg_run vf0 ⟨a, b, c, d, e, f⟩, vnG_t⟩
theorem wneg_ok : PureOk Tryz.prog 76 (sUnit (gV vf0) (gO vf0)) := by
 refine num_ok (fun xs hk _ => ?_) ⟨_, Tryz.func76, rfl⟩
 obtain ⟨a, _, rfl, h1⟩ := kn hk; obtain ⟨b, _, rfl, h2⟩ := kn h1; obtain ⟨c, _, rfl, h3⟩ := kn h2; obtain ⟨d, _, rfl, h4⟩ := kn h3; obtain ⟨e, _, rfl, h5⟩ := kn h4; obtain ⟨f, _, rfl, h6⟩ := kn h5; obtain rfl := k0 h6
 have r := wneg_run vf0 ⟨a, b, c, d, e, f⟩
 obtain ⟨q1, q2⟩ := neg_eq vf0_law2 ⟨a, b, c, d, e, f⟩
 rw [<- q1, <- q2] at r
 exact ⟨cVeR vf0, 3000, _, cVeR_ok, rfl, fun _ => rfl, rfl, r, trivial⟩
end
end Go.Proofs.YtooloakdmdbnaaaGreatDoor.K
namespace Go.Vc
open Go Go.Eng Go.Ar Go.Rd
structure NF where
 ck : Su -> List Int -> Int
 rt : Su -> List Int -> Bool
 vc : Ve -> Int
 sl : Su -> List Int -> Int -> Int -> Int -> Int -> Nat -> Int
 uV : Ve -> Ve
 uO : Ve -> Int
 ng : Int -> Int -> Sp
 sk : Int -> Int -> Int
section
variable (F : NF) (s : Su) (n : Int) (ys : List Int) (v : Ve)
def nG (i : Nat) : Int := F.sl s ys v.a v.b v.c v.d i
def nX1 : Sp := F.ng (nG F s ys v 0) (nG F s ys v 1)
def nX2 : Sp := F.ng (nG F s ys v 2) (nG F s ys v 3)
def nW : Ve := ⟨(nX1 F s ys v).lo, (nX1 F s ys v).hi, (nX2 F s ys v).lo, (nX2 F s ys v).hi, 4294967296, 4294967296⟩
def nK : Bool := bif s.kd == 3 then true else s.kd == 4
def nU : Int := F.uO (nW F s ys v)
def pP2 : Bool := !nK s && ((nG F s ys v 4 == 0) && (((nX1 F s ys v).e == 0) && (((nX2 F s ys v).e == 0) && (!nU F s ys v == 0 && !(nU F s ys v == 6)) || !((nX2 F s ys v).e == 0) && !((nX2 F s ys v).e == 6)) || !((nX1 F s ys v).e == 0) && !((nX1 F s ys v).e == 6)) || !(nG F s ys v 4 == 0) && !(nG F s ys v 4 == 6))
def pP5 : Bool := !nK s && ((nG F s ys v 4 == 0) && (((nX1 F s ys v).e == 0) && (((nX2 F s ys v).e == 0) && (!nU F s ys v == 0 && (nU F s ys v == 6)) || !((nX2 F s ys v).e == 0) && ((nX2 F s ys v).e == 6)) || !((nX1 F s ys v).e == 0) && ((nX1 F s ys v).e == 6)) || !(nG F s ys v 4 == 0) && (nG F s ys v 4 == 6))
def pI (k x : Int) : Int := bif F.ck s ys != 0 then 0 else bif F.vc v != 0 then 0 else bif pP2 F s ys v then 0 else bif pP5 F s ys v then 0 else bif nK s then k else x
def pV : Ve := ⟨pI F s ys v 0 (F.uV (nW F s ys v)).a, pI F s ys v 0 (F.uV (nW F s ys v)).b, pI F s ys v 0 (F.uV (nW F s ys v)).c, pI F s ys v 0 (F.uV (nW F s ys v)).d, pI F s ys v 4294967296 (F.uV (nW F s ys v)).e, pI F s ys v 4294967296 (F.uV (nW F s ys v)).f⟩
def pC : Int := bif F.ck s ys != 0 then 0 else bif F.vc v != 0 then 0 else bif pP2 F s ys v then 2 else bif pP5 F s ys v then 5 else 0
def pE : Int := bif F.ck s ys != 0 then F.ck s ys else bif F.vc v != 0 then F.vc v else bif pP2 F s ys v then 9 else bif pP5 F s ys v then 9 else 0
def pNd : Prop := (okF3 n ys /\ s.g.size < 1000000000) /\ ((!(F.ck s ys != 0)) = true -> (!(F.vc v != 0)) = true -> (!nK s) = true -> (okF3 n ys /\ s.g.size < 1000000000) /\ ((nG F s ys v 4 == 0) = true -> ((nX1 F s ys v).e == 0) = true -> nG F s ys v 2 = nG F s ys v 2 /\ nG F s ys v 3 = nG F s ys v 3))
def q2 : Bool := !bif F.sk v.a v.b != 0 || !(F.sk v.a v.b != 0) && (F.sk v.c v.d != 0 || !(F.sk v.c v.d != 0) && F.sk v.e v.f != 0) then false else true
end
theorem pNd_t {F : NF} {s : Su} {n : Int} {ys : List Int} {v : Ve} (h : okF3 n ys /\ s.g.size < 1000000000) : pNd F s n ys v := ⟨h, fun _ _ _ => ⟨h, fun _ _ => ⟨rfl, rfl⟩⟩⟩
structure NF.law (F : NF) : Prop where
 ck : ∀ s ys, F.ck s ys = bif F.rt s ys then 0 else 110
 vc : ∀ v, F.vc v = bif q2 F v then 20 else 0
end Go.Vc
