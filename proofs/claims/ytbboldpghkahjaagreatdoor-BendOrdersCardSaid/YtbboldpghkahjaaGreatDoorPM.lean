/- What is proved: a law of bends returns true, whatever the input (part 13). No conditions beyond those of the row. -/
import Derived.Test.YtbboldpghkahjaaGreatDoorPE
import Derived.Test.YtbboldpghkahjaaGreatDoorPF
import Derived.Test.YtbboldpghkahjaaGreatDoorPG
import Derived.Test.YtbboldpghkahjaaGreatDoorPH
import Derived.Test.YtbboldpghkahjaaGreatDoorPI
import Derived.Test.YtbboldpghkahjaaGreatDoorPJ
import Derived.Test.YtbboldpghkahjaaGreatDoorPK
import Derived.Test.YtbboldpghkahjaaGreatDoorPL
set_option linter.unusedVariables false
set_option linter.unusedSimpArgs false
set_option linter.unusedSectionVars false
namespace Go.Proofs.YtbboldpghkahjaaGreatDoor.K
open Go Go.Eng Go.Ar Go.Rd
noncomputable section
end
end Go.Proofs.YtbboldpghkahjaaGreatDoor.K
namespace Go.Proofs.YtbboldpghkahjaaGreatDoor.K
open Go Go.Eng Go.Ar Go.Rd
noncomputable section
theorem len_fz (n : Nat) (x : Nat -> Int) : (fz n x).length = 3 * n := spinF_len _ _ _
theorem r_long {s : Su} {n : Nat} {x : Nat -> Int} (h : 9 <= n) : (110 : Int) = bif rightS s (fz n x) then 0 else 110 := by rw [right_long (by rw [len_fz]; omega)]; rfl
theorem r_kind {s : Su} {ys : List Int} (h : kindB s ys.isEmpty = false) : (110 : Int) = bif rightS s ys then 0 else 110 := by rw [right_kind h]; rfl
theorem ch1_all (s : Su) (x : Nat -> Int) (hk : s.kd = 1) (hg : s.g.size < 1000000000) : ∀ n, n <= 12 -> ∃ nd v0, rn cNm 30 s (.int false .i64 1) n x = some (nd, v0) /\ v0.num = true /\ nd.val /\ tell v0 (.int true .i64 (bif rightS s (fz n x) then 0 else 110)) := fun n hn => match n, hn with
 | 0, _ => ⟨_, _, ch1_0 s x, rfl, chk1N_t hg, ⟨rfl, chk1_eq hk (by rw [len_fz]; decide)⟩⟩
 | 1, _ => ⟨_, _, ch1_1 s x, rfl, chk1N_t hg, ⟨rfl, chk1_eq hk (by rw [len_fz]; decide)⟩⟩
 | 2, _ => ⟨_, _, ch1_2 s x, rfl, chk1N_t hg, ⟨rfl, chk1_eq hk (by rw [len_fz]; decide)⟩⟩
 | 3, _ => ⟨_, _, ch1_3 s x, rfl, chk1N_t hg, ⟨rfl, chk1_eq hk (by rw [len_fz]; decide)⟩⟩
 | 4, _ => ⟨_, _, ch1_4 s x, rfl, chk1N_t hg, ⟨rfl, chk1_eq hk (by rw [len_fz]; decide)⟩⟩
 | 5, _ => ⟨_, _, ch1_5 s x, rfl, chk1N_t hg, ⟨rfl, chk1_eq hk (by rw [len_fz]; decide)⟩⟩
 | 6, _ => ⟨_, _, ch1_6 s x, rfl, chk1N_t hg, ⟨rfl, chk1_eq hk (by rw [len_fz]; decide)⟩⟩
 | 7, _ => ⟨_, _, ch1_7 s x, rfl, chk1N_t hg, ⟨rfl, chk1_eq hk (by rw [len_fz]; decide)⟩⟩
 | 8, _ => ⟨_, _, ch1_8 s x, rfl, chk1N_t hg, ⟨rfl, chk1_eq hk (by rw [len_fz]; decide)⟩⟩
 | 9, _ => ⟨_, _, ch1_9 s x, rfl, chk1N_t hg, ⟨rfl, r_long (by decide)⟩⟩
 | 10, _ => ⟨_, _, ch1_10 s x, rfl, chk1N_t hg, ⟨rfl, r_long (by decide)⟩⟩
 | 11, _ => ⟨_, _, ch1_11 s x, rfl, chk1N_t hg, ⟨rfl, r_long (by decide)⟩⟩
 | 12, _ => ⟨_, _, ch1_12 s x, rfl, chk1N_t hg, ⟨rfl, r_long (by decide)⟩⟩
theorem ch2_all (s : Su) (x : Nat -> Int) (hk : s.kd = 2) (hg : s.g.size < 1000000000) : ∀ n, n <= 12 -> ∃ nd v0, rn cNm 30 s (.int false .i64 2) n x = some (nd, v0) /\ v0.num = true /\ nd.val /\ tell v0 (.int true .i64 (bif rightS s (fz n x) then 0 else 110)) := fun n hn => match n, hn with
 | 0, _ => ⟨_, _, ch2_0 s x, rfl, chk2N_t hg, ⟨rfl, chk2_eq hk (by rw [len_fz]; decide)⟩⟩
 | 1, _ => ⟨_, _, ch2_1 s x, rfl, chk2N_t hg, ⟨rfl, chk2_eq hk (by rw [len_fz]; decide)⟩⟩
 | 2, _ => ⟨_, _, ch2_2 s x, rfl, chk2N_t hg, ⟨rfl, chk2_eq hk (by rw [len_fz]; decide)⟩⟩
 | 3, _ => ⟨_, _, ch2_3 s x, rfl, chk2N_t hg, ⟨rfl, chk2_eq hk (by rw [len_fz]; decide)⟩⟩
 | 4, _ => ⟨_, _, ch2_4 s x, rfl, chk2N_t hg, ⟨rfl, chk2_eq hk (by rw [len_fz]; decide)⟩⟩
 | 5, _ => ⟨_, _, ch2_5 s x, rfl, chk2N_t hg, ⟨rfl, chk2_eq hk (by rw [len_fz]; decide)⟩⟩
 | 6, _ => ⟨_, _, ch2_6 s x, rfl, chk2N_t hg, ⟨rfl, chk2_eq hk (by rw [len_fz]; decide)⟩⟩
 | 7, _ => ⟨_, _, ch2_7 s x, rfl, chk2N_t hg, ⟨rfl, chk2_eq hk (by rw [len_fz]; decide)⟩⟩
 | 8, _ => ⟨_, _, ch2_8 s x, rfl, chk2N_t hg, ⟨rfl, chk2_eq hk (by rw [len_fz]; decide)⟩⟩
 | 9, _ => ⟨_, _, ch2_9 s x, rfl, chk2N_t hg, ⟨rfl, r_long (by decide)⟩⟩
 | 10, _ => ⟨_, _, ch2_10 s x, rfl, chk2N_t hg, ⟨rfl, r_long (by decide)⟩⟩
 | 11, _ => ⟨_, _, ch2_11 s x, rfl, chk2N_t hg, ⟨rfl, r_long (by decide)⟩⟩
 | 12, _ => ⟨_, _, ch2_12 s x, rfl, chk2N_t hg, ⟨rfl, r_long (by decide)⟩⟩
theorem ch3_all (s : Su) (x : Nat -> Int) (hk : s.kd = 3) (hg : s.g.size < 1000000000) : ∀ n, n <= 12 -> ∃ nd v0, rn cNm 30 s (.int false .i64 3) n x = some (nd, v0) /\ v0.num = true /\ nd.val /\ tell v0 (.int true .i64 (bif rightS s (fz n x) then 0 else 110)) := fun n hn => match n, hn with
 | 0, _ => ⟨_, _, ch3_0 s x, rfl, ⟨w3_t, nmC_t hg⟩, ⟨rfl, chk3_eq hk⟩⟩
 | 1, _ => ⟨_, _, ch3_1 s x, rfl, w3_t, ⟨rfl, r_kind (k34_f (.inl hk))⟩⟩
 | 2, _ => ⟨_, _, ch3_2 s x, rfl, w3_t, ⟨rfl, r_kind (k34_f (.inl hk))⟩⟩
 | 3, _ => ⟨_, _, ch3_3 s x, rfl, w3_t, ⟨rfl, r_kind (k34_f (.inl hk))⟩⟩
 | 4, _ => ⟨_, _, ch3_4 s x, rfl, w3_t, ⟨rfl, r_kind (k34_f (.inl hk))⟩⟩
 | 5, _ => ⟨_, _, ch3_5 s x, rfl, w3_t, ⟨rfl, r_kind (k34_f (.inl hk))⟩⟩
 | 6, _ => ⟨_, _, ch3_6 s x, rfl, w3_t, ⟨rfl, r_kind (k34_f (.inl hk))⟩⟩
 | 7, _ => ⟨_, _, ch3_7 s x, rfl, w3_t, ⟨rfl, r_kind (k34_f (.inl hk))⟩⟩
 | 8, _ => ⟨_, _, ch3_8 s x, rfl, w3_t, ⟨rfl, r_kind (k34_f (.inl hk))⟩⟩
 | 9, _ => ⟨_, _, ch3_9 s x, rfl, w3_t, ⟨rfl, r_kind (k34_f (.inl hk))⟩⟩
 | 10, _ => ⟨_, _, ch3_10 s x, rfl, w3_t, ⟨rfl, r_kind (k34_f (.inl hk))⟩⟩
 | 11, _ => ⟨_, _, ch3_11 s x, rfl, w3_t, ⟨rfl, r_kind (k34_f (.inl hk))⟩⟩
 | 12, _ => ⟨_, _, ch3_12 s x, rfl, w3_t, ⟨rfl, r_kind (k34_f (.inl hk))⟩⟩
theorem ch4_all (s : Su) (x : Nat -> Int) (hk : s.kd = 4) (hg : s.g.size < 1000000000) : ∀ n, n <= 12 -> ∃ nd v0, rn cNm 30 s (.int false .i64 4) n x = some (nd, v0) /\ v0.num = true /\ nd.val /\ tell v0 (.int true .i64 (bif rightS s (fz n x) then 0 else 110)) := fun n hn => match n, hn with
 | 0, _ => ⟨_, _, ch4_0 s x, rfl, ⟨w4_t, nmC_t hg⟩, ⟨rfl, chk4_eq hk⟩⟩
 | 1, _ => ⟨_, _, ch4_1 s x, rfl, w4_t, ⟨rfl, r_kind (k34_f (.inr hk))⟩⟩
 | 2, _ => ⟨_, _, ch4_2 s x, rfl, w4_t, ⟨rfl, r_kind (k34_f (.inr hk))⟩⟩
 | 3, _ => ⟨_, _, ch4_3 s x, rfl, w4_t, ⟨rfl, r_kind (k34_f (.inr hk))⟩⟩
 | 4, _ => ⟨_, _, ch4_4 s x, rfl, w4_t, ⟨rfl, r_kind (k34_f (.inr hk))⟩⟩
 | 5, _ => ⟨_, _, ch4_5 s x, rfl, w4_t, ⟨rfl, r_kind (k34_f (.inr hk))⟩⟩
 | 6, _ => ⟨_, _, ch4_6 s x, rfl, w4_t, ⟨rfl, r_kind (k34_f (.inr hk))⟩⟩
 | 7, _ => ⟨_, _, ch4_7 s x, rfl, w4_t, ⟨rfl, r_kind (k34_f (.inr hk))⟩⟩
 | 8, _ => ⟨_, _, ch4_8 s x, rfl, w4_t, ⟨rfl, r_kind (k34_f (.inr hk))⟩⟩
 | 9, _ => ⟨_, _, ch4_9 s x, rfl, w4_t, ⟨rfl, r_kind (k34_f (.inr hk))⟩⟩
 | 10, _ => ⟨_, _, ch4_10 s x, rfl, w4_t, ⟨rfl, r_kind (k34_f (.inr hk))⟩⟩
 | 11, _ => ⟨_, _, ch4_11 s x, rfl, w4_t, ⟨rfl, r_kind (k34_f (.inr hk))⟩⟩
 | 12, _ => ⟨_, _, ch4_12 s x, rfl, w4_t, ⟨rfl, r_kind (k34_f (.inr hk))⟩⟩
theorem ch0_all (s : Su) (x : Nat -> Int) (hk : inR 1 4 s.kd = false) (hg : s.g.size < 1000000000) : ∀ n, n <= 12 -> ∃ nd v0, rn cNk 30 s (.int true .i64 s.kd) n x = some (nd, v0) /\ v0.num = true /\ nd.val /\ tell v0 (.int true .i64 (bif rightS s (fz n x) then 0 else 110)) := fun n hn => match n, hn with
 | 0, _ => ⟨_, _, ch0_0 s x, rfl, kdO_t hk, ⟨rfl, r_kind (k0_f hk)⟩⟩
 | 1, _ => ⟨_, _, ch0_1 s x, rfl, kdO_t hk, ⟨rfl, r_kind (k0_f hk)⟩⟩
 | 2, _ => ⟨_, _, ch0_2 s x, rfl, kdO_t hk, ⟨rfl, r_kind (k0_f hk)⟩⟩
 | 3, _ => ⟨_, _, ch0_3 s x, rfl, kdO_t hk, ⟨rfl, r_kind (k0_f hk)⟩⟩
 | 4, _ => ⟨_, _, ch0_4 s x, rfl, kdO_t hk, ⟨rfl, r_kind (k0_f hk)⟩⟩
 | 5, _ => ⟨_, _, ch0_5 s x, rfl, kdO_t hk, ⟨rfl, r_kind (k0_f hk)⟩⟩
 | 6, _ => ⟨_, _, ch0_6 s x, rfl, kdO_t hk, ⟨rfl, r_kind (k0_f hk)⟩⟩
 | 7, _ => ⟨_, _, ch0_7 s x, rfl, kdO_t hk, ⟨rfl, r_kind (k0_f hk)⟩⟩
 | 8, _ => ⟨_, _, ch0_8 s x, rfl, kdO_t hk, ⟨rfl, r_kind (k0_f hk)⟩⟩
 | 9, _ => ⟨_, _, ch0_9 s x, rfl, kdO_t hk, ⟨rfl, r_kind (k0_f hk)⟩⟩
 | 10, _ => ⟨_, _, ch0_10 s x, rfl, kdO_t hk, ⟨rfl, r_kind (k0_f hk)⟩⟩
 | 11, _ => ⟨_, _, ch0_11 s x, rfl, kdO_t hk, ⟨rfl, r_kind (k0_f hk)⟩⟩
 | 12, _ => ⟨_, _, ch0_12 s x, rfl, kdO_t hk, ⟨rfl, r_kind (k0_f hk)⟩⟩
def suV (V : Su -> List Int -> AV) : Nat -> List Itm -> Option (Prop × AV × List ABody) := fun _ its => match its with
 | [.s xs n ys] => match suOf xs with
  | some s => some (okF3 n ys /\ s.g.size < 1000000000, V s ys, [])
  | none => none
 | _ => none
theorem tell_su (s : Su) (kd : AV) (k : Nat) (ys : List Int) (h : tell (.int true .i64 s.kd) kd) : tellL (mkA false hG.size [.s suI .i64] [.s s.nus (k : Int) ys]) [suA s kd k] := by
 have e : mkA false hG.size [.s suI .i64] [.s s.nus (k : Int) ys] = [.agg (s.ini ++ [.pslice hG.size (k : Int).toNat false (k : Int)])] := rfl
 rw [e, Int.toNat_natCast]
 refine ⟨⟨h, ?_⟩, trivial⟩
 repeat' first
  | exact trivial
  | refine ⟨⟨rfl, rfl⟩, ?_⟩
  | refine ⟨rfl, ?_⟩
  | exact ⟨⟨rfl, Nat.le_refl _, rfl⟩, trivial⟩
theorem su_ok {f : FuncId} {V : Su -> List Int -> AV} (fn : ∃ fn : Func, Tryz.prog.funcs[f]? = some fn /\ fn.body.isSome = true)
  (h : ∀ (s : Su) (x : Nat -> Int) (n : Nat), s.g.size < 1000000000 -> n <= 12 -> ∃ (C : Ctx) (kd : AV) (nd : Nd) (v0 : AV), CtxOk C /\ C.P = Tryz.prog /\ C.glob = glob /\ tell (.int true .i64 s.kd) kd /\ rn C f s kd n x = some (nd, v0) /\ v0.num = true /\ nd.val /\ tell v0 (V s (fz n x))) :
  NOk Tryz.prog glob hG f (lSpec hG [.s suI .i64] (suV V)) := by
 refine lsp_ok false hG_ok hG_plain glob_lt (fun sz its p v bs e hp => ?_) fn
 unfold suV at e
 split at e
 .rename_i xs n ys
  split at e
  .rename_i s hs
   cases e
   obtain ⟨ho, hg⟩ := hp
   obtain ⟨k, x, hk, rfl, rfl⟩ := okF3_of ho
   obtain rfl := suOf_eq hs
   obtain ⟨C, kd, nd, v0, co, hP, hG', ht, hr, hnum, hnd, hv⟩ := h s x k hg hk
   obtain ⟨q, h1, h2, h3, h4⟩ := oneG_tells hr hnum
   refine ⟨⟨fun h0 => ?_, trivial⟩, rfl, C, 1000, [suA s kd k], nd, v0, q, co, hP, hG', tell_su s kd k _ ht, h1, h2, hnd, h3, h4 sz _ hv⟩
   have := congrArg List.length h0
   rw [spinF_len] at this
   simp only [List.length_nil] at this
   omega
  .cases e
 .cases e
def chkA : Su -> List Int -> AV := fun s ys => .int true .i64 (bif rightS s ys then 0 else 110)
theorem chkA_ok : NOk Tryz.prog glob hG 30 (lSpec hG [.s suI .i64] (suV chkA)) := by
 refine su_ok ⟨_, Tryz.func30, rfl⟩ fun s x n hg hn => ?_
 by_cases c1 : s.kd = 1
 .obtain ⟨nd, v0, a⟩ := ch1_all s x c1 hg n hn
  exact ⟨cNm, .int false .i64 1, nd, v0, cNm_ok, rfl, rfl, ⟨rfl, c1⟩, a⟩
 .by_cases c2 : s.kd = 2
  .obtain ⟨nd, v0, a⟩ := ch2_all s x c2 hg n hn
   exact ⟨cNm, .int false .i64 2, nd, v0, cNm_ok, rfl, rfl, ⟨rfl, c2⟩, a⟩
  .by_cases c3 : s.kd = 3
   .obtain ⟨nd, v0, a⟩ := ch3_all s x c3 hg n hn
    exact ⟨cNm, .int false .i64 3, nd, v0, cNm_ok, rfl, rfl, ⟨rfl, c3⟩, a⟩
   .by_cases c4 : s.kd = 4
    .obtain ⟨nd, v0, a⟩ := ch4_all s x c4 hg n hn
     exact ⟨cNm, .int false .i64 4, nd, v0, cNm_ok, rfl, rfl, ⟨rfl, c4⟩, a⟩
    .obtain ⟨nd, v0, a⟩ := ch0_all s x (inR_no c1 c2 c3 c4) hg n hn
     exact ⟨cNk, .int true .i64 s.kd, nd, v0, cNk_ok, rfl, rfl, ⟨rfl, rfl⟩, a⟩
end
end Go.Proofs.YtbboldpghkahjaaGreatDoor.K
namespace Go.Proofs.YtbboldpghkahjaaGreatDoor.K
open Go Go.Eng Go.Ar Go.Rd
noncomputable section
end
end Go.Proofs.YtbboldpghkahjaaGreatDoor.K
namespace Go.Proofs.YtbboldpghkahjaaGreatDoor.K
open Go Go.Eng Go.Ar Go.Rd
noncomputable section
end
end Go.Proofs.YtbboldpghkahjaaGreatDoor.K
namespace Go.Proofs.YtbboldpghkahjaaGreatDoor.K
open Go Go.Eng Go.Ar Go.Rd
noncomputable section
def tblTe : List (FuncId × TSpec) := (172, tEval) :: tblTw
theorem tblTe_g : ∀ x ∈ tblTe, TOk Tryz.prog glob hG x.1 x.2 := by
 intro x hx
 rcases List.mem_cons.1 hx with rfl | hx
 .exact teval_ok
 .exact tblTw_g x hx
end
end Go.Proofs.YtbboldpghkahjaaGreatDoor.K
namespace Go.Proofs.YtbboldpghkahjaaGreatDoor.K
open Go Go.Eng Go.Ar Go.Rd
noncomputable section
def chkC (b : Bool) (k : Int) : Nat -> List Itm -> Option (Prop × AV × List ABody) := fun _ its => match its with
 | [.s xs n ys] => match suOf xs with
  | some s => some (okF3 n ys /\ s.g.size < 1000000000 /\ rightS s ys = b, .int false .i64 k, [])
  | none => none
 | _ => none
theorem chkC_ok {b : Bool} {k : Int} (h : (bif b then 0 else 110) = k) : NOk Tryz.prog glob hG 30 (lSpec hG [.s suI .i64] (chkC b k)) := by
 refine lSpec_weaken chkA_ok fun sz its p v bs e => ?_
 unfold chkC at e
 split at e
 .rename_i xs n ys
  split at e
  .rename_i s hs
   cases e
   refine ⟨okF3 n ys /\ s.g.size < 1000000000, chkA s ys, by simp only [suV, hs], fun hp => ⟨⟨hp.1, hp.2.1⟩, fun σ U hU => ?_⟩⟩
   have hU : VRel σ (.int true .i64 (bif rightS s ys then 0 else 110)) U := hU
   rw [hp.2.2, h] at hU
   exact hU
  .cases e
 .cases e
def chk0S : NSpec := lSpec hG [.s suI .i64] (chkC true 0)
def chk1S : NSpec := lSpec hG [.s suI .i64] (chkC false 110)
def cA : Ctx := mkN Tryz.prog glob hG [(30, chk0S), (97, hN (gH chkSpec))] tblTe ext
theorem cA_ok : CtxOk cA := by
 refine mkN_ok prog_ok ext_ok (fun x hx => ?_) tblTe_g
 simp only [List.mem_cons, List.not_mem_nil, or_false] at hx
 rcases hx with rfl | rfl
 .exact chkC_ok rfl
 .exact chk0.h.n
def chkBad : PSpec := fun args => match Sh.readL [shS] args with
 | some (_, [.n a, .n b]) => some (.p (okSp a b = false), .int false .i64 20)
 | _ => none
theorem chkBad_ok : GOk Tryz.prog glob hG 97 chkBad := by
 refine (schk_ok.g glob hG).weaken fun args nd v e => ?_
 unfold chkBad at e
 split at e
 .rename_i s a b hr
  cases e
  refine ⟨.tt, ((Tm.n .i64 (chkS a b)).av s), ?_, fun h => ⟨trivial, fun σ V k => ?_⟩⟩
  .show sChk args = _
   unfold sChk numSpec
   rw [hr]
  .rw [show chkS a b = 20 by unfold chkS; rw [show okSp a b = false from h]; rfl] at k
   exact (Go.Eng.mkInt_rel _ _ _ _).1 k
 .cases e
def chkAt (c : Nat) : HSpec := fun args h => match Nat.blt h.clock c with
 | true => gH chkSpec args h
 | false => gH chkBad args h
theorem chkAt_ok (c : Nat) : HOk Tryz.prog glob hG 97 (chkAt c) := by
 refine ⟨fun args nd v h e same => ?_, chk0.h.fn⟩
 unfold chkAt at e
 split at e
 .exact chk0.h.call args nd v h e same
 .exact chkBad_ok.h.call args nd v h e same
def cBd (c : Nat) : Ctx := mkN Tryz.prog glob hG [(30, chk0S), (97, hN (chkAt c))] [] ext
theorem cBd_ok (c : Nat) : CtxOk (cBd c) := by
 refine mkN_ok prog_ok ext_ok (fun x hx => ?_) (fun _ h => by cases h)
 simp only [List.mem_cons, List.not_mem_nil, or_false] at hx
 rcases hx with rfl | rfl
 .exact chkC_ok rfl
 .exact (chkAt_ok c).n
def cNo : Ctx := mkN Tryz.prog glob hG [(30, chk1S)] [] ext
theorem cNo_ok : CtxOk cNo := by
 refine mkN_ok prog_ok ext_ok (fun x hx => ?_) (fun _ h => by cases h)
 simp only [List.mem_cons, List.not_mem_nil, or_false] at hx
 subst hx
 exact chkC_ok rfl
def suB (cs : List AV) (n : Int) (a b x y : Int) : List AV := [.agg (cs ++ [.lslice hG.size n]), .agg [.int true .i64 a, .int true .i64 b], .agg [.int true .i64 x, .int true .i64 y]]
def suHr (ys : List Int) : Hp := viewsH true hG [(.i64, ys)]
def rw2 (C : Ctx) (f : FuncId) (cs : List AV) (n : Int) (ys : List Int) (a b x y : Int) : Option (Nd × AV) := oneG (hG.size + 1) hG.clock ((run C 1000).call f (suB cs n a b x y) (suHr ys))
def pOk (s : Su) (k n : Int) (ys : List Int) (b : Bool) : Prop := okF3 n ys /\ s.g.size < 1000000000 /\ rightS { s with kd := k } ys = b
def suV2 (V : Su -> List Int -> Int -> Int -> Int -> Int -> AV) : Nat -> List Itm -> Option (Prop × AV × List ABody) := fun _ its => match its with
 | [.s xs n ys, .n [.n a, .n b], .n [.n x, .n y]] => match suOf xs with
  | some s => some (okF3 n ys /\ s.g.size < 1000000000, V s ys a b x y, [])
  | none => none
 | _ => none
theorem tell_suB (s : Su) (cs : List AV) (n : Int) (ys : List Int) (a b x y : Int) (h : tellL s.ini cs) : tellL (mkA true hG.size [.s suI .i64, .n sS, .n sS] [.s s.nus n ys, .n [.n a, .n b], .n [.n x, .n y]]) (suB cs n a b x y) := by
 have e : mkA true hG.size [.s suI .i64, .n sS, .n sS] [.s s.nus n ys, .n [.n a, .n b], .n [.n x, .n y]] = [.agg (s.ini ++ [.lslice hG.size n]), .agg [.int true .i64 a, .int true .i64 b], .agg [.int true .i64 x, .int true .i64 y]] := rfl
 rw [e]
 exact ⟨tellL_app h ⟨rfl, trivial⟩, ⟨⟨rfl, rfl⟩, ⟨rfl, rfl⟩, trivial⟩, ⟨⟨rfl, rfl⟩, ⟨rfl, rfl⟩, trivial⟩, trivial⟩
theorem tell_kd {s : Su} {kd : AV} (h : tell (.int true .i64 s.kd) kd) : tellL s.ini (s.cells kd) := by
 refine ⟨h, ?_⟩
 repeat' first
  | exact trivial
  | refine ⟨⟨rfl, rfl⟩, ?_⟩
  | refine ⟨rfl, ?_⟩
theorem tell_kz {s : Su} (h : s.kd = 2) (h0 : s.a0 = 0 /\ s.a1 = 0 /\ s.a2 = 0 /\ s.a3 = 0) : tellL s.ini (s.cellsZ (.int false .i64 2)) := by
 refine ⟨⟨rfl, h⟩, ⟨rfl, rfl⟩, ⟨rfl, rfl⟩, ⟨rfl, rfl⟩, ⟨rfl, rfl⟩, ⟨rfl, h0.1⟩, ⟨rfl, h0.2.1⟩, ⟨rfl, h0.2.2.1⟩, ⟨rfl, h0.2.2.2⟩, ?_⟩
 repeat' first
  | exact trivial
  | refine ⟨⟨rfl, rfl⟩, ?_⟩
  | refine ⟨rfl, ?_⟩
theorem su2_ok {f : FuncId} {V : Su -> List Int -> Int -> Int -> Int -> Int -> AV} (fn : ∃ fn : Func, Tryz.prog.funcs[f]? = some fn /\ fn.body.isSome = true)
  (h : ∀ (s : Su) (n : Int) (ys : List Int) (a b x y : Int), s.g.size < 1000000000 -> okF3 n ys -> ∃ (C : Ctx) (cs : List AV) (nd : Nd) (v0 : AV), CtxOk C /\ C.P = Tryz.prog /\ C.glob = glob /\ tellL s.ini cs /\ rw2 C f cs n ys a b x y = some (nd, v0) /\ v0.num = true /\ nd.val /\ tell v0 (V s ys a b x y)) :
  NOk Tryz.prog glob hG f (lSpec hG [.s suI .i64, .n sS, .n sS] (suV2 V)) := by
 refine lsp_ok true hG_ok hG_plain glob_lt (fun sz its p v bs e hp => ?_) fn
 unfold suV2 at e
 split at e
 .rename_i xs n ys a b x y
  split at e
  .rename_i s hs
   cases e
   obtain ⟨ho, hg⟩ := hp
   obtain rfl := suOf_eq hs
   obtain ⟨C, cs, nd, v0, co, hP, hG', ht, hr, hnum, hnd, hv⟩ := h s n ys a b x y hg ho
   obtain ⟨q, h1, h2, h3, h4⟩ := oneG_tells hr hnum
   refine ⟨⟨fun h0 => ?_, trivial⟩, rfl, C, 1000, suB cs n a b x y, nd, v0, q, co, hP, hG', tell_suB s cs n ys a b x y ht, h1, h2, hnd, h3, h4 sz _ hv⟩
   obtain ⟨k1, k2, k3⟩ := ho
   rw [h0] at k3
   simp only [List.length_nil] at k3
   omega
  .cases e
 .cases e
theorem rkz {s : Su} {ys : List Int} {n : Int} {b : Bool} (hk : s.kd = 2) (h0 : s.a0 = 0 /\ s.a1 = 0 /\ s.a2 = 0 /\ s.a3 = 0) (ho : okF3 n ys) (hg : s.g.size < 1000000000) (h : rightS s ys = b) : pOk { s with a0 := 0, a1 := 0, a2 := 0, a3 := 0 } 2 n ys b := by
 have e : ({ s with a0 := 0, a1 := 0, a2 := 0, a3 := 0 } : Su) = s := by
  obtain ⟨h1, h2, h3, h4⟩ := h0
  cases s
  simp_all
 rw [e]
 exact ⟨ho, hg, by rw [su_kd hk]; exact h⟩
theorem rk {s : Su} {ys : List Int} {n : Int} {b : Bool} {k : Int} (hk : s.kd = k) (ho : okF3 n ys) (hg : s.g.size < 1000000000) (h : rightS s ys = b) : pOk s k n ys b := ⟨ho, hg, by rw [su_kd hk]; exact h⟩
end
end Go.Proofs.YtbboldpghkahjaaGreatDoor.K
namespace Go.Proofs.YtbboldpghkahjaaGreatDoor.K
open Go Go.Eng Go.Ar Go.Rd
noncomputable section
end
end Go.Proofs.YtbboldpghkahjaaGreatDoor.K
namespace Go.Rd
open Go Go.Eng Go.Ar
def vs (s : Sp) : Sp := ⟨s.lo, s.hi, 0⟩
def badS : Sp := ⟨1, 0, 0⟩
structure Reg (r : Sp) (c : Bool) (s : Sp) : Prop where
 eq : r = bif c then vs s else badS
 ri : c = true -> Ri s
theorem Reg.t {r s : Sp} {c : Bool} (h : Reg r c s) (hc : c = true) : r.lo = s.lo /\ r.hi = s.hi /\ Ri s := by
 have e := h.eq
 rw [hc] at e
 subst e
 exact ⟨rfl, rfl, h.ri hc⟩
theorem Reg.f {r s : Sp} {c : Bool} (h : Reg r c s) (hc : c = false) : r = badS := by
 have e := h.eq
 rw [hc] at e
 exact e
theorem Reg.cases {r s : Sp} {c : Bool} (h : Reg r c s) : (c = true /\ r.lo = s.lo /\ r.hi = s.hi /\ Ri s) ∨ (c = false /\ r = badS) := by
 cases c with
 | true => exact .inl ⟨rfl, h.t rfl⟩
 | false => exact .inr ⟨rfl, h.f rfl⟩
theorem kB_of (s : Sp) (hr : z0 s = true -> Ri s) : Reg (kB s) (z0 s) s := by
 refine ⟨?_, hr⟩
 unfold kB z0 vs badS
 cases h : s.e == 0 with
 | true => simp [bne, h]
 | false => simp [bne, h]
theorem bad_not : okSp badS.lo badS.hi = false := by decide
theorem Reg.sc {r s : Sp} {c : Bool} {n d : Int} (h : Reg r c s) (k : okSc n d) : Reg (kB (scaleS r.lo r.hi n d)) (c && z0 (xScaleS s.lo s.hi n d)) (xScaleS s.lo s.hi n d) := by
 rcases h.cases with ⟨rfl, h1, h2, h3⟩ | ⟨rfl, rfl⟩
 .rw [h1, h2, <- sc_eq k]; exact kB_of _ fun z => r_sc h3 k (z0e z)
 .exact ⟨by unfold scaleS; rw [bad_not]; rfl, fun h => by cases h⟩
end Go.Rd
namespace Go.Rd
open Go Go.Eng Go.Ar
section
variable (c k a0 a1 a2 a3 a b x y : Int)
end
section
variable {c k a0 a1 a2 a3 a b x y : Int} (hc : inL c) (hk : inK k) (hx : okSp a b = true) (hy : okSp x y = true)
variable (i0 : inL a0) (i1 : inL a1) (i2 : inL a2) (i3 : inL a3)
end
section
variable (c k l m a b x y : Int)
end
section
variable {c k l m a b x y : Int} (hc : inL c) (hk : inK k) (hl : inL l) (hm : inK m) (hx : okSp a b = true) (hy : okSp x y = true)
end
end Go.Rd
namespace Go.Proofs.YtbboldpghkahjaaGreatDoor.K
open Go Go.Eng Go.Ar Go.Rd
noncomputable section
def eV (k : Int) : AV := .tuple [.agg [.int false .i64 0, .int false .i64 0], .int false .i64 k]
theorem us_1 (s : Su) (n : Int) (ys : List Int) (a b x y : Int) : rw2 cA 121 (s.cells (.int false .i64 1)) n ys a b x y = some (.p (taF (pOk s 1 n ys true) ⟨s.c, s.k, s.a0, s.a1, s.a2, s.a3, a, b, x, y⟩), spV (sagS s.c s.k s.a0 s.a1 s.a2 s.a3 a b x y)) := by kernel_rfl
theorem us_2 (s : Su) (n : Int) (ys : List Int) (a b x y : Int) : rw2 cA 121 (s.cellsZ (.int false .i64 2)) n ys a b x y = some (.p (tbF (pOk { s with a0 := 0, a1 := 0, a2 := 0, a3 := 0 } 2 n ys true) ⟨s.c, s.k, s.l, s.m, a, b, x, y⟩), spV (sagX s.c s.k s.l s.m a b x y)) := by kernel_rfl
theorem us_3 (s : Su) (n : Int) (ys : List Int) (a b x y : Int) : rw2 cA 121 (s.cells (.int false .i64 3)) n ys a b x y = some (.p (pOk s 3 n ys true), eV 5) := by kernel_rfl
theorem us_4 (s : Su) (n : Int) (ys : List Int) (a b x y : Int) : rw2 cA 121 (s.cells (.int false .i64 4)) n ys a b x y = some (.p (pOk s 4 n ys true /\ okSp a b = true /\ okSp x y = true), eV 0) := by kernel_rfl
theorem us_1b (s : Su) (n : Int) (ys : List Int) (a b x y : Int) : rw2 (cBd 0) 121 (s.cells (.int false .i64 1)) n ys a b x y = some (.p (pOk s 1 n ys true /\ okSp a b = false), eV 20) := by kernel_rfl
theorem us_1c (s : Su) (n : Int) (ys : List Int) (a b x y : Int) : rw2 (cBd 40) 121 (s.cells (.int false .i64 1)) n ys a b x y = some (.p (pOk s 1 n ys true /\ okSp a b = true /\ okSp x y = false), eV 20) := by kernel_rfl
theorem us_2b (s : Su) (n : Int) (ys : List Int) (a b x y : Int) : rw2 (cBd 0) 121 (s.cellsZ (.int false .i64 2)) n ys a b x y = some (.p (pOk { s with a0 := 0, a1 := 0, a2 := 0, a3 := 0 } 2 n ys true /\ okSp a b = false), eV 20) := by kernel_rfl
theorem us_2c (s : Su) (n : Int) (ys : List Int) (a b x y : Int) : rw2 (cBd 40) 121 (s.cellsZ (.int false .i64 2)) n ys a b x y = some (.p (pOk { s with a0 := 0, a1 := 0, a2 := 0, a3 := 0 } 2 n ys true /\ okSp a b = true /\ okSp x y = false), eV 20) := by kernel_rfl
theorem us_4b (s : Su) (n : Int) (ys : List Int) (a b x y : Int) : rw2 (cBd 0) 121 (s.cells (.int false .i64 4)) n ys a b x y = some (.p (pOk s 4 n ys true /\ okSp a b = false), eV 20) := by kernel_rfl
theorem us_4c (s : Su) (n : Int) (ys : List Int) (a b x y : Int) : rw2 (cBd 40) 121 (s.cells (.int false .i64 4)) n ys a b x y = some (.p (pOk s 4 n ys true /\ okSp a b = true /\ okSp x y = false), eV 20) := by kernel_rfl
theorem us_0 (s : Su) (n : Int) (ys : List Int) (a b x y : Int) : rw2 cNo 121 (s.cells (.int true .i64 s.kd)) n ys a b x y = some (.p (pOk s s.kd n ys false), eV 110) := by kernel_rfl
theorem two_bad {a b x y : Int} (h : okXY a b x y = false) : okSp a b = false ∨ (okSp a b = true /\ okSp x y = false) := by
 unfold okXY at h
 cases h1 : okSp a b with
 | false => exact .inl rfl
 | true => rw [h1] at h; exact .inr ⟨rfl, h⟩
theorem eV_tell {k : Int} {S : Sp} (h : (⟨0, 0, k⟩ : Sp) = S) : tell (eV k) (spV S) := by
 subst h
 exact ⟨⟨⟨rfl, rfl⟩, ⟨rfl, rfl⟩, trivial⟩, ⟨rfl, rfl⟩, trivial⟩
theorem spV_tell {S T : Sp} (h : S = T) : tell (spV S) (spV T) := by
 subst h
 exact ⟨⟨⟨rfl, rfl⟩, ⟨rfl, rfl⟩, trivial⟩, ⟨rfl, rfl⟩, trivial⟩
def sagA' : Su -> List Int -> Int -> Int -> Int -> Int -> AV := fun s ys a b x y => spV (sagG s ys a b x y)
theorem sagG_ok : NOk Tryz.prog glob hG 121 (lSpec hG [.s suI .i64, .n sS, .n sS] (suV2 sagA')) := by
 refine su2_ok ⟨_, Tryz.func121, rfl⟩ fun s n ys a b x y hg ho => ?_
 cases hr : rightS s ys with
 | false => exact ⟨cNo, s.cells (.int true .i64 s.kd), _, _, cNo_ok, rfl, rfl, tell_kd ⟨rfl, rfl⟩, us_0 s n ys a b x y, rfl, rk rfl ho hg hr, eV_tell (by unfold sagG; rw [hr]; rfl)⟩
 | true =>
  have bad : okXY a b x y = false -> s.kd ≠ 3 -> (⟨0, 0, 20⟩ : Sp) = sagG s ys a b x y := fun h h3 => by unfold sagG; rw [hr, h, beq_eq_false_iff_ne.2 h3]; rfl
  have good : okXY a b x y = true -> s.kd ≠ 3 -> sagK s a b x y = sagG s ys a b x y := fun h h3 => by unfold sagG; rw [hr, h, beq_eq_false_iff_ne.2 h3]; rfl
  rcases right_kd hr with hk | hk | hk | hk
  .cases hx : okXY a b x y with
   | true =>
    have hh : okSp a b = true /\ okSp x y = true := by simpa [okXY] using hx
    exact ⟨cA, s.cells (.int false .i64 1), _, _, cA_ok, rfl, rfl, tell_kd ⟨rfl, hk⟩, us_1 s n ys a b x y, rfl, taF_ok (rk hk ho hg hr) (right_std hr) hh.1 hh.2, spV_tell (by rw [<- good hx (by omega)]; unfold sagK; rw [hk]; rfl)⟩
   | false =>
    rcases two_bad hx with h1 | h1
    .exact ⟨cBd 0, s.cells (.int false .i64 1), _, _, cBd_ok _, rfl, rfl, tell_kd ⟨rfl, hk⟩, us_1b s n ys a b x y, rfl, ⟨rk hk ho hg hr, h1⟩, eV_tell (bad hx (by omega))⟩
    .exact ⟨cBd 40, s.cells (.int false .i64 1), _, _, cBd_ok _, rfl, rfl, tell_kd ⟨rfl, hk⟩, us_1c s n ys a b x y, rfl, ⟨rk hk ho hg hr, h1⟩, eV_tell (bad hx (by omega))⟩
  .cases hx : okXY a b x y with
   | true =>
    have hh : okSp a b = true /\ okSp x y = true := by simpa [okXY] using hx
    exact ⟨cA, s.cellsZ (.int false .i64 2), _, _, cA_ok, rfl, rfl, tell_kz hk (right_noA hr hk), us_2 s n ys a b x y, rfl, tbF_ok (rkz hk (right_noA hr hk) ho hg hr) (right_bic hr) hh.1 hh.2, spV_tell (by rw [<- good hx (by omega)]; unfold sagK; rw [hk]; rfl)⟩
   | false =>
    rcases two_bad hx with h1 | h1
    .exact ⟨cBd 0, s.cellsZ (.int false .i64 2), _, _, cBd_ok _, rfl, rfl, tell_kz hk (right_noA hr hk), us_2b s n ys a b x y, rfl, ⟨rkz hk (right_noA hr hk) ho hg hr, h1⟩, eV_tell (bad hx (by omega))⟩
    .exact ⟨cBd 40, s.cellsZ (.int false .i64 2), _, _, cBd_ok _, rfl, rfl, tell_kz hk (right_noA hr hk), us_2c s n ys a b x y, rfl, ⟨rkz hk (right_noA hr hk) ho hg hr, h1⟩, eV_tell (bad hx (by omega))⟩
  .exact ⟨cA, s.cells (.int false .i64 3), _, _, cA_ok, rfl, rfl, tell_kd ⟨rfl, hk⟩, us_3 s n ys a b x y, rfl, rk hk ho hg hr, eV_tell (by unfold sagG; rw [hr, hk]; rfl)⟩
  .cases hx : okXY a b x y with
   | true =>
    have hh : okSp a b = true /\ okSp x y = true := by simpa [okXY] using hx
    exact ⟨cA, s.cells (.int false .i64 4), _, _, cA_ok, rfl, rfl, tell_kd ⟨rfl, hk⟩, us_4 s n ys a b x y, rfl, ⟨rk hk ho hg hr, hh.1, hh.2⟩, eV_tell (by rw [<- good hx (by omega)]; unfold sagK; rw [hk]; rfl)⟩
   | false =>
    rcases two_bad hx with h1 | h1
    .exact ⟨cBd 0, s.cells (.int false .i64 4), _, _, cBd_ok _, rfl, rfl, tell_kd ⟨rfl, hk⟩, us_4b s n ys a b x y, rfl, ⟨rk hk ho hg hr, h1⟩, eV_tell (bad hx (by omega))⟩
    .exact ⟨cBd 40, s.cells (.int false .i64 4), _, _, cBd_ok _, rfl, rfl, tell_kd ⟨rfl, hk⟩, us_4c s n ys a b x y, rfl, ⟨rk hk ho hg hr, h1⟩, eV_tell (bad hx (by omega))⟩
end
end Go.Proofs.YtbboldpghkahjaaGreatDoor.K
namespace Go.Proofs.YtbboldpghkahjaaGreatDoor.K
open Go Go.Eng Go.Ar Go.Rd
noncomputable section
end
end Go.Proofs.YtbboldpghkahjaaGreatDoor.K
namespace Go.Proofs.YtbboldpghkahjaaGreatDoor.K
open Go Go.Eng Go.Ar Go.Rd
noncomputable section
end
end Go.Proofs.YtbboldpghkahjaaGreatDoor.K
namespace Go.Rd
open Go Go.Eng Go.Ar
section
variable (c k a0 a1 a2 a3 a b x y : Int)
end
section
variable {c k a0 a1 a2 a3 a b x y : Int} (hc : inL c) (hk : inK k) (hx : okSp a b = true) (hy : okSp x y = true) (i0 : inL a0) (i1 : inL a1) (i2 : inL a2) (i3 : inL a3) (f : BaseF c k a b x y)
variable (u : z0 (u0 c k a b x y) = true)
end
section
variable {c k a0 a1 a2 a3 a b x y : Int} (hc : inL c) (hk : inK k) (hx : okSp a b = true) (hy : okSp x y = true) (i0 : inL a0) (i1 : inL a1) (i2 : inL a2) (i3 : inL a3)
end
section
variable (c k l m a b x y : Int)
end
section
variable {c k l m a b x y : Int} (hc : inL c) (hk : inK k) (hl : inL l) (hm : inK m) (hx : okSp a b = true) (hy : okSp x y = true) (f : BaseX c k l m a b x y)
end
section
variable {c k l m a b x y : Int} (hc : inL c) (hk : inK k) (hl : inL l) (hm : inK m) (hx : okSp a b = true) (hy : okSp x y = true)
end
end Go.Rd
namespace Go.Proofs.YtbboldpghkahjaaGreatDoor.K
open Go Go.Eng Go.Ar Go.Rd
noncomputable section
def pK (s : Su) (n : Int) (ys : List Int) (k : Int) : Prop := okF3 n ys /\ s.g.size < 1000000000 /\ rightS s ys = true /\ s.kd = k
def sagV (k : Int) (F : Su -> Int -> Int -> Int -> Int -> Sp) : Nat -> List Itm -> Option (Prop × AV × List ABody) := fun _ its => match its with
 | [.s xs n ys, .n [.n a, .n b], .n [.n x, .n y]] => match suOf xs with
  | some s => some (pK s n ys k /\ okSp a b = true /\ okSp x y = true, spV (F s a b x y), [])
  | none => none
 | _ => none
theorem sagV_ok {k : Int} {F : Su -> Int -> Int -> Int -> Int -> Sp} (h : ∀ s a b x y, s.kd = k -> k ≠ 3 /\ sagK s a b x y = F s a b x y) : NOk Tryz.prog glob hG 121 (lSpec hG [.s suI .i64, .n sS, .n sS] (sagV k F)) := by
 refine lSpec_weaken sagG_ok fun sz its p v bs e => ?_
 unfold sagV at e
 split at e
 .rename_i xs n ys a b x y
  split at e
  .rename_i s hs
   cases e
   refine ⟨okF3 n ys /\ s.g.size < 1000000000, sagA' s ys a b x y, by simp only [suV2, hs], fun hp => ⟨⟨hp.1.1, hp.1.2.1⟩, fun σ U hU => ?_⟩⟩
   obtain ⟨h3, hF⟩ := h s a b x y hp.1.2.2.2
   have e : sagG s ys a b x y = F s a b x y := by
    unfold sagG okXY
    rw [hp.1.2.2.1, hp.2.1, hp.2.2, hp.1.2.2.2, beq_eq_false_iff_ne.2 h3]
    exact hF
   unfold sagA' at hU
   rw [e] at hU
   exact hU
  .cases e
 .cases e
def sag1F : Su -> Int -> Int -> Int -> Int -> Sp := fun s a b x y => sagS s.c s.k s.a0 s.a1 s.a2 s.a3 a b x y
def sag2F : Su -> Int -> Int -> Int -> Int -> Sp := fun s a b x y => sagX s.c s.k s.l s.m a b x y
theorem sag1_ok : NOk Tryz.prog glob hG 121 (lSpec hG [.s suI .i64, .n sS, .n sS] (sagV 1 sag1F)) := sagV_ok fun s a b x y h => ⟨by decide, by unfold sagK sag1F; rw [h]; rfl⟩
theorem sag2_ok : NOk Tryz.prog glob hG 121 (lSpec hG [.s suI .i64, .n sS, .n sS] (sagV 2 sag2F)) := sagV_ok fun s a b x y h => ⟨by decide, by unfold sagK sag2F; rw [h]; rfl⟩
def sagE' (k : Int) : Nat -> List Itm -> Option (Prop × AV × List ABody) := fun _ its => match its with
 | [.s xs n ys, .n [.n a, .n b], .n [.n x, .n y]] => match suOf xs with
  | some s => some (okF3 n ys /\ s.g.size < 1000000000 /\ sagG s ys a b x y = ⟨0, 0, k⟩, eV k, [])
  | none => none
 | _ => none
theorem sagE_ok (k : Int) : NOk Tryz.prog glob hG 121 (lSpec hG [.s suI .i64, .n sS, .n sS] (sagE' k)) := by
 refine lSpec_weaken sagG_ok fun sz its p v bs e => ?_
 unfold sagE' at e
 split at e
 .rename_i xs n ys a b x y
  split at e
  .rename_i s hs
   cases e
   refine ⟨okF3 n ys /\ s.g.size < 1000000000, sagA' s ys a b x y, by simp only [suV2, hs], fun hp => ⟨⟨hp.1, hp.2.1⟩, fun σ U hU => ?_⟩⟩
   unfold sagA' at hU
   rw [hp.2.2] at hU
   exact hU
  .cases e
 .cases e
def tblV : List (FuncId × NSpec) := [(97, hN (gH chkSpec)), (100, hN (gH (good2 [shS] sqrS))), (107, hN (gH (good4 [shS, shS] subS))), (69, hN (gH (good2 [shS] sqrtS))), (113, hN (gH (good4 [shS, .i .i64, .i .i64] xScaleS)))]
theorem tblV_g : ∀ x ∈ tblV, NOk Tryz.prog glob hG x.1 x.2 := by
 intro x hx
 simp only [tblV, List.mem_cons, List.not_mem_nil, or_false] at hx
 rcases hx with rfl | rfl | rfl | rfl | rfl
 .exact chk0.h.n
 .exact (good_un ssqr_ok).h.n
 .exact (good_bin ssub_ok).h.n
 .exact (good_un ssqrt_ok).h.n
 .exact (good_sc sscale_ok).h.n
def hDom (q : Bool) (_ d : Nat) : Option AV := match Nat.beq d 102 with
 | true => some (.bool false false)
 | false => match Nat.beq d 62 with
  | true => (match q with | true => some (.bool false true) | false => some (.bool false false))
  | false => none
def cV (S : NSpec) (q : Bool) : Ctx := hinting (mkN Tryz.prog glob hG ((121, S) :: tblV) tblTe ext) (hDom q)
theorem cV_ok {S : NSpec} (h : NOk Tryz.prog glob hG 121 S) (q : Bool) : CtxOk (cV S q) := hinting_ok (mkN_ok prog_ok ext_ok (fun x hx => by
 rcases List.mem_cons.1 hx with rfl | hx
 .exact h
 .exact tblV_g x hx) tblTe_g) (hDom q)
def cV1 (q : Bool) : Ctx := cV (lSpec hG [.s suI .i64, .n sS, .n sS] (sagV 1 sag1F)) q
def cV2 : Ctx := cV (lSpec hG [.s suI .i64, .n sS, .n sS] (sagV 2 sag2F)) false
def cVe (k : Int) : Ctx := mkN Tryz.prog glob hG [(121, lSpec hG [.s suI .i64, .n sS, .n sS] (sagE' k))] [] ext
theorem cVe_ok (k : Int) : CtxOk (cVe k) := by
 refine mkN_ok prog_ok ext_ok (fun x hx => ?_) (fun _ h => by cases h)
 simp only [List.mem_cons, List.not_mem_nil, or_false] at hx
 subst hx
 exact sagE_ok k
def eV2 (k : Int) : AV := .tuple [.agg [.int false .i64 0, .int false .i64 0], .agg [.int false .i64 0, .int false .i64 0], .int false .i64 k]
theorem ul_1t (s : Su) (n : Int) (ys : List Int) (a b x y : Int) : rw2 (cV1 true) 77 (s.cells (.int false .i64 1)) n ys a b x y = some (.p (tcF (pK { s with kd := 1 } n ys 1) ⟨s.c, s.k, s.a0, s.a1, s.a2, s.a3, a, b, x, y⟩), sp2V (sagS s.c s.k s.a0 s.a1 s.a2 s.a3 a b x y).e (slA s.c s.k s.a0 s.a1 s.a2 s.a3 a b x y) (q4 s.c s.k s.a0 s.a1 s.a2 s.a3 a b x y) (q6 s.c s.k s.a0 s.a1 s.a2 s.a3 a b x y)) := by kernel_rfl
theorem ul_1f (s : Su) (n : Int) (ys : List Int) (a b x y : Int) : rw2 (cV1 false) 77 (s.cells (.int false .i64 1)) n ys a b x y = some (.p (teF (pK { s with kd := 1 } n ys 1) ⟨s.c, s.k, s.a0, s.a1, s.a2, s.a3, a, b, x, y⟩), sp2V (sagS s.c s.k s.a0 s.a1 s.a2 s.a3 a b x y).e (slP s.c s.k a b x y) (s14 s.c s.k a b x y) (s12 s.c s.k a b x y)) := by kernel_rfl
theorem ul_2 (s : Su) (n : Int) (ys : List Int) (a b x y : Int) : rw2 cV2 77 (s.cellsZ (.int false .i64 2)) n ys a b x y = some (.p (tdF (pK { s with kd := 2, a0 := 0, a1 := 0, a2 := 0, a3 := 0 } n ys 2) ⟨s.c, s.k, s.l, s.m, a, b, x, y⟩), slpX s.c s.k s.l s.m a b x y) := by kernel_rfl
theorem ul_4 (s : Su) (n : Int) (ys : List Int) (a b x y : Int) : rw2 (cVe 0) 77 (s.cells (.int false .i64 4)) n ys a b x y = some (.p (okF3 n ys /\ s.g.size < 1000000000 /\ sagG { s with kd := 4 } ys a b x y = ⟨0, 0, 0⟩), eV2 0) := by kernel_rfl
theorem ul_e5 (s : Su) (n : Int) (ys : List Int) (a b x y : Int) : rw2 (cVe 5) 77 (s.cells (.int true .i64 s.kd)) n ys a b x y = some (.p (okF3 n ys /\ s.g.size < 1000000000 /\ sagG s ys a b x y = ⟨0, 0, 5⟩), eV2 5) := by kernel_rfl
theorem ul_e20 (s : Su) (n : Int) (ys : List Int) (a b x y : Int) : rw2 (cVe 20) 77 (s.cells (.int true .i64 s.kd)) n ys a b x y = some (.p (okF3 n ys /\ s.g.size < 1000000000 /\ sagG s ys a b x y = ⟨0, 0, 20⟩), eV2 20) := by kernel_rfl
theorem ul_e110 (s : Su) (n : Int) (ys : List Int) (a b x y : Int) : rw2 (cVe 110) 77 (s.cells (.int true .i64 s.kd)) n ys a b x y = some (.p (okF3 n ys /\ s.g.size < 1000000000 /\ sagG s ys a b x y = ⟨0, 0, 110⟩), eV2 110) := by kernel_rfl
theorem eV2_tell {k : Int} {g : Int} {p : Bool} {u v : Sp} (h : g = k) (h0 : k ≠ 0) : tell (eV2 k) (sp2V g p u v) := by
 subst h
 have e : t1 g = true := by unfold t1; rw [bne0 h0]; rfl
 have e1 : ∀ z, tw1 g p z = 0 := fun z => by unfold tw1; rw [e]; rfl
 have e2 : twE g p = g := by unfold twE; rw [e]; rfl
 exact ⟨⟨⟨rfl, (e1 _).symm⟩, ⟨rfl, (e1 _).symm⟩, trivial⟩, ⟨⟨rfl, (e1 _).symm⟩, ⟨rfl, (e1 _).symm⟩, trivial⟩, ⟨rfl, e2.symm⟩, trivial⟩
theorem sp2V_tell {g : Int} {p : Bool} {u v : Sp} {S : AV} (h : sp2V g p u v = S) : tell (sp2V g p u v) S := by
 subst h
 exact ⟨⟨⟨rfl, rfl⟩, ⟨rfl, rfl⟩, trivial⟩, ⟨⟨rfl, rfl⟩, ⟨rfl, rfl⟩, trivial⟩, ⟨rfl, rfl⟩, trivial⟩
theorem pkz {s : Su} {ys : List Int} {n : Int} (hk : s.kd = 2) (h0 : s.a0 = 0 /\ s.a1 = 0 /\ s.a2 = 0 /\ s.a3 = 0) (ho : okF3 n ys) (hg : s.g.size < 1000000000) (h : rightS s ys = true) : pK { s with kd := 2, a0 := 0, a1 := 0, a2 := 0, a3 := 0 } n ys 2 := by
 have e : ({ s with kd := 2, a0 := 0, a1 := 0, a2 := 0, a3 := 0 } : Su) = s := by
  obtain ⟨h1, h2, h3, h4⟩ := h0
  cases s
  simp_all
 rw [e]
 exact ⟨ho, hg, h, hk⟩
theorem pk1 {s : Su} {ys : List Int} {n : Int} (hk : s.kd = 1) (ho : okF3 n ys) (hg : s.g.size < 1000000000) (h : rightS s ys = true) : pK { s with kd := 1 } n ys 1 := by rw [su_kd hk]; exact ⟨ho, hg, h, hk⟩
theorem slpG_ok : NOk Tryz.prog glob hG 77 (lSpec hG [.s suI .i64, .n sS, .n sS] (suV2 slpG)) := by
 refine su2_ok ⟨_, Tryz.func77, rfl⟩ fun s n ys a b x y hg ho => ?_
 cases hr : rightS s ys with
 | false =>
  have e : sagG s ys a b x y = ⟨0, 0, 110⟩ := by unfold sagG; rw [hr]; rfl
  exact ⟨cVe 110, s.cells (.int true .i64 s.kd), _, _, cVe_ok _, rfl, rfl, tell_kd ⟨rfl, rfl⟩, ul_e110 s n ys a b x y, rfl, ⟨ho, hg, e⟩, eV2_tell (by rw [e]) (by decide)⟩
 | true =>
  have bad : okXY a b x y = false -> s.kd ≠ 3 -> sagG s ys a b x y = ⟨0, 0, 20⟩ := fun h h3 => by unfold sagG; rw [hr, h, beq_eq_false_iff_ne.2 h3]; rfl
  have good : okXY a b x y = true -> s.kd ≠ 3 -> sagG s ys a b x y = sagK s a b x y := fun h h3 => by unfold sagG; rw [hr, h, beq_eq_false_iff_ne.2 h3]; rfl
  cases hx : okXY a b x y with
  | false =>
   by_cases h3 : s.kd = 3
   .have e : sagG s ys a b x y = ⟨0, 0, 5⟩ := by unfold sagG; rw [hr, h3]; rfl
    exact ⟨cVe 5, s.cells (.int true .i64 s.kd), _, _, cVe_ok _, rfl, rfl, tell_kd ⟨rfl, rfl⟩, ul_e5 s n ys a b x y, rfl, ⟨ho, hg, e⟩, eV2_tell (by rw [e]) (by decide)⟩
   .exact ⟨cVe 20, s.cells (.int true .i64 s.kd), _, _, cVe_ok _, rfl, rfl, tell_kd ⟨rfl, rfl⟩, ul_e20 s n ys a b x y, rfl, ⟨ho, hg, bad hx h3⟩, eV2_tell (by rw [bad hx h3]) (by decide)⟩
  | true =>
   have hh : okSp a b = true /\ okSp x y = true := by simpa [okXY] using hx
   rcases right_kd hr with hk | hk | hk | hk
   .have eg : sagG s ys a b x y = sagS s.c s.k s.a0 s.a1 s.a2 s.a3 a b x y := by rw [good hx (by omega)]; unfold sagK; rw [hk]; rfl
    have e : slpV s.c s.k s.a0 s.a1 s.a2 s.a3 a b x y = slpG s ys a b x y := by unfold slpG slpC slpU slpZ; rw [eg, hk]; rfl
    cases has : asp s.a0 s.a1 s.a2 s.a3 with
    | true => exact ⟨cV1 true, s.cells (.int false .i64 1), _, _, cV_ok sag1_ok _, rfl, rfl, tell_kd ⟨rfl, hk⟩, ul_1t s n ys a b x y, rfl, tcF_ok (pk1 hk ho hg hr) (right_std hr) hh.1 hh.2 has, sp2V_tell ((slpV_t (h := has) ..).trans e)⟩
    | false => exact ⟨cV1 false, s.cells (.int false .i64 1), _, _, cV_ok sag1_ok _, rfl, rfl, tell_kd ⟨rfl, hk⟩, ul_1f s n ys a b x y, rfl, teF_ok (pk1 hk ho hg hr) (right_std hr) hh.1 hh.2 has, sp2V_tell ((slpV_f (h := has) ..).trans e)⟩
   .have eg : sagG s ys a b x y = sagX s.c s.k s.l s.m a b x y := by rw [good hx (by omega)]; unfold sagK; rw [hk]; rfl
    have e : slpX s.c s.k s.l s.m a b x y = slpG s ys a b x y := by unfold slpG slpC slpU slpZ slpX; rw [eg, hk]; rfl
    exact ⟨cV2, s.cellsZ (.int false .i64 2), _, _, cV_ok sag2_ok _, rfl, rfl, tell_kz hk (right_noA hr hk), ul_2 s n ys a b x y, rfl, tdF_ok (pkz hk (right_noA hr hk) ho hg hr) (right_bic hr) hh.1 hh.2, sp2V_tell e⟩
   .have e : sagG s ys a b x y = ⟨0, 0, 5⟩ := by unfold sagG; rw [hr, hk]; rfl
    exact ⟨cVe 5, s.cells (.int true .i64 s.kd), _, _, cVe_ok _, rfl, rfl, tell_kd ⟨rfl, rfl⟩, ul_e5 s n ys a b x y, rfl, ⟨ho, hg, e⟩, eV2_tell (by rw [e]) (by decide)⟩
   .have eg : sagG s ys a b x y = ⟨0, 0, 0⟩ := by rw [good hx (by omega)]; unfold sagK; rw [hk]; rfl
    have e : slpG s ys a b x y = sp2V 0 true ⟨0, 0, 0⟩ ⟨0, 0, 0⟩ := by unfold slpG slpC slpU slpZ; rw [eg, hk]; rfl
    refine ⟨cVe 0, s.cells (.int false .i64 4), _, _, cVe_ok _, rfl, rfl, tell_kd ⟨rfl, hk⟩, ul_4 s n ys a b x y, rfl, ⟨ho, hg, by rw [su_kd hk]; exact eg⟩, ?_⟩
    rw [e]
    exact ⟨⟨⟨rfl, rfl⟩, ⟨rfl, rfl⟩, trivial⟩, ⟨⟨rfl, rfl⟩, ⟨rfl, rfl⟩, trivial⟩, ⟨rfl, rfl⟩, trivial⟩
end
end Go.Proofs.YtbboldpghkahjaaGreatDoor.K
namespace Go.Proofs.YtbboldpghkahjaaGreatDoor.K
open Go Go.Eng Go.Ar Go.Rd
noncomputable section
end
end Go.Proofs.YtbboldpghkahjaaGreatDoor.K
namespace Go.Ar
open Go
def xNegS (a b : Int) : Sp := xTold (xCS a b) (IntKind.i64.wrap (0 - b)) (IntKind.i64.wrap (0 - a))
theorem xNegS_eq (a b : Int) : xNegS a b = negS a b := by
 unfold xNegS negS xTold
 rw [xCS_eq]
 cases h : okSp a b with
 | false => simp [err]
 | true =>
  have := okSp_iff.1 h
  rw [i64w (by omega) (by omega), i64w (by omega) (by omega)]
  have hb : xTb (0 - b) (0 - a) = false := by
   unfold xTb
   rw [decide_eq_false (show ¬ (0 - b < -4503599627370496) by omega), decide_eq_false (show ¬ (0 - a > 4503599627370496) by omega)]
   rfl
  rw [hb]
  simp
def rNegS (a b : Int) : Sp := ⟨bif !rR a b then 0 else IntKind.i64.wrap (0 - b), bif !rR a b then 0 else IntKind.i64.wrap (0 - a), bif !rR a b then 20 else 0⟩
theorem rNegS_eq (a b : Int) : rNegS a b = negS a b := by
 unfold rNegS negS
 rw [rR_eq]
 cases h : okSp a b with
 | false => rfl
 | true =>
  have := okSp_iff.1 h
  rw [i64w (by omega) (by omega), i64w (by omega) (by omega)]
  simp
end Go.Ar
namespace Go.Vc
open Go Go.Eng Go.Ar
structure VF where
 ad : Int -> Int -> Int -> Int -> Sp
 su : Int -> Int -> Int -> Int -> Sp
 mu : Int -> Int -> Int -> Int -> Sp
 di : Int -> Int -> Int -> Int -> Sp
 sc : Int -> Int -> Int -> Int -> Sp
 sq : Int -> Int -> Sp
 rt : Int -> Int -> Sp
 ng : Int -> Int -> Sp
 ck : Int -> Int -> Int
 ok : Int -> Int -> Bool
noncomputable def vf0 : VF := ⟨addS, subS, mulS, divS, scaleS, sqrS, sqrtS, negS, chkS, okSp⟩
structure Ve where
 a : Int
 b : Int
 c : Int
 d : Int
 e : Int
 f : Int
def Ve.cells (v : Ve) : List AV := [.int true .i64 v.a, .int true .i64 v.b, .int true .i64 v.c, .int true .i64 v.d, .int true .i64 v.e, .int true .i64 v.f]
section
variable (F : VF) (v : Ve)
def nA : Sp := F.ad (F.sq v.a v.b).lo (F.sq v.a v.b).hi (F.sq v.c v.d).lo (F.sq v.c v.d).hi
def nB : Sp := F.ad (nA F v).lo (nA F v).hi (F.sq v.e v.f).lo (F.sq v.e v.f).hi
def nR : Sp := F.rt (nB F v).lo (nB F v).hi
def nD1 : Sp := F.di v.a v.b (nR F v).lo (nR F v).hi
def nD2 : Sp := F.di v.c v.d (nR F v).lo (nR F v).hi
def nD3 : Sp := F.di v.e v.f (nR F v).lo (nR F v).hi
def fe (x y : Int) : Int := bif x == 0 then y else x
def uZ : Bool := !(v.a == 0 && (v.b == 0 && (v.c == 0 && (v.d == 0 && (v.e == 0 && (v.f == 0 && true))))))
def vCk : Int := fe (fe (F.ck v.a v.b) (F.ck v.c v.d)) (F.ck v.e v.f)
def vC0 : Int := bif uZ v then vCk F v else 0
def uE : Int := fe (fe (fe (fe (fe (fe (fe (fe (fe (vC0 F v) (F.sq v.a v.b).e) (F.sq v.c v.d).e) (F.sq v.e v.f).e) (nA F v).e) (nB F v).e) (nR F v).e) (nD1 F v).e) (nD2 F v).e) (nD3 F v).e
def uI (x : Int) : Int := bif uE F v != 0 then 0 else x
def uV : Ve := ⟨uI F v (nD1 F v).lo, uI F v (nD1 F v).hi, uI F v (nD2 F v).lo, uI F v (nD2 F v).hi, uI F v (nD3 F v).lo, uI F v (nD3 F v).hi⟩
def uO : Int := bif uE F v != 0 then uE F v else 0
def uNd : Prop := (uZ v = true -> (v.a = v.a /\ v.b = v.b) /\ (v.c = v.c /\ v.d = v.d) /\ v.e = v.e /\ v.f = v.f) /\ ((F.sq v.e v.f).lo = (F.sq v.e v.f).lo /\ (F.sq v.e v.f).hi = (F.sq v.e v.f).hi) /\ (v.a = v.a /\ v.b = v.b /\ v.c = v.c /\ v.d = v.d /\ v.e = v.e /\ v.f = v.f) /\ (v.a = v.a /\ v.b = v.b /\ v.c = v.c /\ v.d = v.d /\ v.e = v.e /\ v.f = v.f) /\ ((uE F v != 0) = true -> uE F v = uE F v)
theorem uNd_t : uNd F v := by unfold uNd; simp only [and_self, implies_true]
def f3 (a b c : Int) : Int := bif a != 0 || !(a != 0) && (b != 0 || !(b != 0) && c != 0) then bif a != 0 then a else bif b != 0 then b else c else 0
def wOk : Bool := !bif F.ok v.a v.b then bif F.ok v.c v.d then F.ok v.e v.f else false else false
def w5 : Int := f3 (F.sq v.a v.b).e (F.sq v.c v.d).e (F.sq v.e v.f).e
def w7 : Int := bif w5 F v != 0 then w5 F v else bif (nA F v).e != 0 then (nA F v).e else (nB F v).e
def wS (x : Int) : Int := bif w5 F v != 0 then 0 else bif (nA F v).e != 0 then 0 else x
def wR : Sp := F.rt (wS F v (nB F v).lo) (wS F v (nB F v).hi)
def w8 : Int := bif wOk F v then 20 else bif w7 F v != 0 then w7 F v else (wR F v).e
def w9 : Int := bif wOk F v then 0 else bif w7 F v != 0 then 0 else (wR F v).lo
def w10 : Int := bif wOk F v then 0 else bif w7 F v != 0 then 0 else (wR F v).hi
def w16 : Int := f3 (F.di v.a v.b (w9 F v) (w10 F v)).e (F.di v.c v.d (w9 F v) (w10 F v)).e (F.di v.e v.f (w9 F v) (w10 F v)).e
def wI (x : Int) : Int := bif w8 F v != 0 then 0 else bif w16 F v != 0 then 0 else x
def wV : Ve := ⟨wI F v (F.di v.a v.b (w9 F v) (w10 F v)).lo, wI F v (F.di v.a v.b (w9 F v) (w10 F v)).hi, wI F v (F.di v.c v.d (w9 F v) (w10 F v)).lo, wI F v (F.di v.c v.d (w9 F v) (w10 F v)).hi, wI F v (F.di v.e v.f (w9 F v) (w10 F v)).lo, wI F v (F.di v.e v.f (w9 F v) (w10 F v)).hi⟩
def wO : Int := bif w8 F v != 0 then w8 F v else bif w16 F v != 0 then w16 F v else 0
end
structure VF.law (F : VF) : Prop where
 ck : ∀ a b, F.ck a b = bif F.ok a b then 0 else 20
 z : F.ok 0 0 = true
theorem vf0_law : vf0.law := ⟨fun _ _ => rfl, by decide⟩
theorem vC0_eq {F : VF} (h : F.law) (v : Ve) : vC0 F v = bif wOk F v then 20 else 0 := by
 unfold vC0 vCk wOk fe
 simp only [h.ck]
 cases hz : uZ v with
 | true => cases F.ok v.a v.b <;> cases F.ok v.c v.d <;> cases F.ok v.e v.f <;> rfl
 | false =>
  unfold uZ at hz
  simp only [Bool.and_true, Bool.not_eq_false', Bool.and_eq_true, beq_iff_eq] at hz
  obtain ⟨h1, h2, h3, h4, h5, h6⟩ := hz
  rw [h1, h2, h3, h4, h5, h6, h.z]
  rfl
theorem f3_eq (a b c : Int) : f3 a b c = fe (fe a b) c := by
 unfold f3 fe
 simp only [bne]
 cases h1 : a == 0 with
 | true =>
  cases h2 : b == 0 with
  | true =>
   have := beq_iff_eq.1 h1
   have := beq_iff_eq.1 h2
   subst this
   cases h3 : c == 0 with
   | true => have := beq_iff_eq.1 h3; subst this; rfl
   | false => simp
  | false => simp [h2]
 | false => simp [h1]
theorem unit_eq {F : VF} (h : F.law) (v : Ve) : uV F v = wV F v /\ uO F v = wO F v := by
 have h0 := vC0_eq h v
 have e3 := f3_eq
 cases hk : wOk F v with
 | true =>
  rw [hk] at h0
  have hE : uE F v = 20 := by unfold uE; rw [h0]; rfl
  have h8 : w8 F v = 20 := by unfold w8; rw [hk]; rfl
  refine ⟨?_, ?_⟩
  .unfold uV wV uI wI; rw [hE, h8]; rfl
  .unfold uO wO; rw [hE, h8]; rfl
 | false =>
  rw [hk] at h0
  have h5 : w5 F v = fe (fe (F.sq v.a v.b).e (F.sq v.c v.d).e) (F.sq v.e v.f).e := e3 _ _ _
  have h5' : fe (fe (fe (vC0 F v) (F.sq v.a v.b).e) (F.sq v.c v.d).e) (F.sq v.e v.f).e = w5 F v := by rw [h5, h0]; rfl
  have hE : uE F v = fe (fe (fe (fe (fe (fe (w5 F v) (nA F v).e) (nB F v).e) (nR F v).e) (nD1 F v).e) (nD2 F v).e) (nD3 F v).e := by rw [<- h5']; rfl
  have stop : ∀ x y : Int, (x == 0) = false -> fe x y = x := fun x y hx => by unfold fe; rw [hx]; rfl
  have go : ∀ x y : Int, (x == 0) = true -> fe x y = y := fun x y hx => by unfold fe; rw [hx]; rfl
  have fin : ∀ t : Int, (t == 0) = false -> uE F v = t -> w8 F v = t -> uV F v = wV F v /\ uO F v = wO F v := fun t ht a b => by
   refine ⟨?_, ?_⟩
   .unfold uV wV uI wI; rw [a, b]; simp only [bne, ht, Bool.not_false, cond_true]
   .unfold uO wO; rw [a, b]; simp only [bne, ht, Bool.not_false, cond_true]
  have h8 : w8 F v = bif w7 F v != 0 then w7 F v else (wR F v).e := by unfold w8; rw [hk]; rfl
  cases a5 : w5 F v == 0 with
  | false =>
   refine fin (w5 F v) a5 (by rw [hE]; simp only [stop _ _ a5]) ?_
   rw [h8]; unfold w7; simp only [bne, a5, Bool.not_false, cond_true]
  | true =>
   cases aA : (nA F v).e == 0 with
   | false =>
    refine fin (nA F v).e aA (by rw [hE]; simp only [go _ _ a5, stop _ _ aA]) ?_
    rw [h8]; unfold w7; simp only [bne, a5, aA, Bool.not_true, Bool.not_false, cond_true, cond_false]
   | true =>
    have hS : ∀ x, wS F v x = x := fun x => by unfold wS; simp only [bne, a5, aA, Bool.not_true, cond_false]
    have hR : wR F v = nR F v := by unfold wR nR; rw [hS, hS]
    have h7 : w7 F v = (nB F v).e := by unfold w7; simp only [bne, a5, aA, Bool.not_true, cond_false]
    cases aB : (nB F v).e == 0 with
    | false =>
     refine fin (nB F v).e aB (by rw [hE]; simp only [go _ _ a5, go _ _ aA, stop _ _ aB]) ?_
     rw [h8, h7]; simp only [bne, aB, Bool.not_false, cond_true]
    | true =>
     have h8' : w8 F v = (nR F v).e := by rw [h8, h7, hR]; simp only [bne, aB, Bool.not_true, cond_false]
     have h9 : w9 F v = (nR F v).lo := by unfold w9; rw [hk, h7, hR]; simp only [bne, aB, Bool.not_true, cond_false]
     have h10 : w10 F v = (nR F v).hi := by unfold w10; rw [hk, h7, hR]; simp only [bne, aB, Bool.not_true, cond_false]
     have h16 : w16 F v = fe (fe (nD1 F v).e (nD2 F v).e) (nD3 F v).e := by unfold w16; rw [e3, h9, h10]; rfl
     cases aR : (nR F v).e == 0 with
     | false => exact fin (nR F v).e aR (by rw [hE]; simp only [go _ _ a5, go _ _ aA, go _ _ aB, stop _ _ aR]) h8'
     | true =>
      have hE' : uE F v = w16 F v := by rw [hE, h16]; simp only [go _ _ a5, go _ _ aA, go _ _ aB, go _ _ aR]
      have hI : ∀ x, wI F v x = uI F v x := fun x => by unfold wI uI; rw [h8', hE']; simp only [bne, aR, Bool.not_true, cond_false]
      refine ⟨?_, ?_⟩
      .unfold uV wV; simp only [hI, h9, h10]; rfl
      .unfold uO wO; rw [h8', hE']; simp only [bne, aR, Bool.not_true, cond_false]
end Go.Vc
namespace Go.Proofs.YtbboldpghkahjaaGreatDoor.K
open Go Go.Eng Go.Ar Go.Rd Go.Vc
noncomputable section
theorem sneg_run (a b : Int) : oneV ((run c2 300).call 111 [.agg [.int true .i64 a, .int true .i64 b]] ⟨[], 0, 1⟩) = some (.tt, (outS (xNegS a b)).av true) := by kernel_rfl
theorem rneg_run (a b : Int) : oneV ((run c6 300).call 43 [.agg [.int true .i64 a, .int true .i64 b]] ⟨[], 0, 1⟩) = some (.tt, (outS (rNegS a b)).av true) := by kernel_rfl
theorem sneg_ok : PureOk Tryz.prog 111 (sUn negS) := by
 refine num_ok (fun xs hk _ => ?_) ⟨_, Tryz.func111, rfl⟩
 obtain ⟨a, _, rfl, h1⟩ := kn hk; obtain ⟨b, _, rfl, h2⟩ := kn h1; obtain rfl := k0 h2
 exact ⟨c2, 300, _, c2_ok, rfl, fun _ => rfl, rfl, (sneg_run a b).trans (by rw [xNegS_eq]), trivial⟩
theorem rneg_ok : PureOk Tryz.prog 43 (sUn negS) := by
 refine num_ok (fun xs hk _ => ?_) ⟨_, Tryz.func43, rfl⟩
 obtain ⟨a, _, rfl, h1⟩ := kn hk; obtain ⟨b, _, rfl, h2⟩ := kn h1; obtain rfl := k0 h2
 exact ⟨c6, 300, _, c6_ok, rfl, fun _ => rfl, rfl, (rneg_run a b).trans (by rw [rNegS_eq]), trivial⟩
def ckVF (F : VF) : PSpec := numSpec [shS] none fun
 | [.n a, .n b] => .n .i64 (F.ck a b)
 | _ => .u []
def okVF (F : VF) : PSpec := numSpec [shS] none fun
 | [.n a, .n b] => .t (F.ok a b)
 | _ => .u []
def tblVeP (F : VF) : List (FuncId × PSpec) := [(134, sBin F.ad), (107, sBin F.su), (101, sBin F.mu), (73, sBin F.di), (100, sUn F.sq), (69, sUn F.rt), (111, sUn F.ng), (97, ckVF F)]
theorem tblVeP_ok : TblOk Tryz.prog (tblVeP vf0) := by
 intro x hx
 simp only [tblVeP, List.mem_cons, List.not_mem_nil, or_false] at hx
 rcases hx with rfl | rfl | rfl | rfl | rfl | rfl | rfl | rfl
 .exact sadd_ok
 .exact ssub_ok
 .exact smul_ok
 .exact sdiv_ok
 .exact ssqr_ok
 .exact ssqrt_ok
 .exact sneg_ok
 .exact schk_ok
def tblVeR (F : VF) : List (FuncId × PSpec) := [(44, sBin F.ad), (83, sBin F.su), (79, sBin F.mu), (46, sBin F.di), (87, sUn F.sq), (88, sUn F.rt), (43, sUn F.ng), (81, okVF F)]
theorem tblVeR_ok : TblOk Tryz.prog (tblVeR vf0) := by
 intro x hx
 simp only [tblVeR, List.mem_cons, List.not_mem_nil, or_false] at hx
 rcases hx with rfl | rfl | rfl | rfl | rfl | rfl | rfl | rfl
 .exact radd_ok
 .exact rsub_ok
 .exact rmul_ok
 .exact rdiv_ok
 .exact rsqr_ok
 .exact rsqrt_ok
 .exact rneg_ok
 .exact rright_ok
noncomputable def cVeP (F : VF) : Ctx := mkC Tryz.prog (tblVeP F) ext
theorem cVeP_ok : CtxOk (cVeP vf0) := mkC_ok prog_ok tblVeP_ok ext_ok
noncomputable def cVeR (F : VF) : Ctx := mkC Tryz.prog (tblVeR F) ext
theorem cVeR_ok : CtxOk (cVeR vf0) := mkC_ok prog_ok tblVeR_ok ext_ok
def shV : Sh := .a [.i .i64, .i .i64, .i .i64, .i .i64, .i .i64, .i .i64]
def outVe (v : Ve) (e : Int) : Tm := .u [.a [.n .i64 v.a, .n .i64 v.b, .n .i64 v.c, .n .i64 v.d, .n .i64 v.e, .n .i64 v.f], .n .i64 e]
def sUnit (U : Ve -> Ve) (E : Ve -> Int) : PSpec := numSpec [shV] none fun
 | [.n a, .n b, .n c, .n d, .n e, .n f] => outVe (U ⟨a, b, c, d, e, f⟩) (E ⟨a, b, c, d, e, f⟩)
 | _ => .u []
theorem unit_run (F : VF) (v : Ve) : oneV ((run (cVeP F) 3000).call 74 [.agg v.cells] ⟨[], 0, 1⟩) = some (.p (uNd F v), (outVe (uV F v) (uO F v)).av true) := by kernel_rfl
theorem runit_run (F : VF) (v : Ve) : oneV ((run (cVeR F) 3000).call 29 [.agg v.cells] ⟨[], 0, 1⟩) = some (.tt, (outVe (wV F v) (wO F v)).av true) := by kernel_rfl
theorem vunit_ok : PureOk Tryz.prog 74 (sUnit (uV vf0) (uO vf0)) := by
 refine num_ok (fun xs hk _ => ?_) ⟨_, Tryz.func74, rfl⟩
 obtain ⟨a, _, rfl, h1⟩ := kn hk; obtain ⟨b, _, rfl, h2⟩ := kn h1; obtain ⟨c, _, rfl, h3⟩ := kn h2; obtain ⟨d, _, rfl, h4⟩ := kn h3; obtain ⟨e, _, rfl, h5⟩ := kn h4; obtain ⟨f, _, rfl, h6⟩ := kn h5; obtain rfl := k0 h6
 exact ⟨cVeP vf0, 3000, _, cVeP_ok, rfl, fun _ => rfl, rfl, unit_run vf0 ⟨a, b, c, d, e, f⟩, uNd_t _ _⟩
theorem runit_ok : PureOk Tryz.prog 29 (sUnit (uV vf0) (uO vf0)) := by
 refine num_ok (fun xs hk _ => ?_) ⟨_, Tryz.func29, rfl⟩
 obtain ⟨a, _, rfl, h1⟩ := kn hk; obtain ⟨b, _, rfl, h2⟩ := kn h1; obtain ⟨c, _, rfl, h3⟩ := kn h2; obtain ⟨d, _, rfl, h4⟩ := kn h3; obtain ⟨e, _, rfl, h5⟩ := kn h4; obtain ⟨f, _, rfl, h6⟩ := kn h5; obtain rfl := k0 h6
 have r := runit_run vf0 ⟨a, b, c, d, e, f⟩
 obtain ⟨e1, e2⟩ := unit_eq vf0_law ⟨a, b, c, d, e, f⟩
 rw [<- e1, <- e2] at r
 exact ⟨cVeR vf0, 3000, _, cVeR_ok, rfl, fun _ => rfl, rfl, r, trivial⟩
theorem vchk_run (F : VF) (v : Ve) : oneV ((run (cVeP F) 3000).call 31 [.agg v.cells] ⟨[], 0, 1⟩) = some (.p (uZ v = true -> (v.a = v.a /\ v.b = v.b) /\ (v.c = v.c /\ v.d = v.d) /\ v.e = v.e /\ v.f = v.f), (Tm.n .i64 (vC0 F v)).av true) := by kernel_rfl
end
end Go.Proofs.YtbboldpghkahjaaGreatDoor.K
namespace Go.Vc
open Go Go.Eng Go.Ar
section
variable (F : VF) (v w : Ve) (X Y Z : Sp)
def bCk : Int := bif uZ w then fe (fe (fe (vC0 F v) (F.ck w.a w.b)) (F.ck w.c w.d)) (F.ck w.e w.f) else vC0 F v
def tE (k : Int) : Int := fe (fe (fe k X.e) Y.e) Z.e
def tI (e x : Int) : Int := bif e != 0 then 0 else x
def tV (e : Int) : Ve := ⟨tI e X.lo, tI e X.hi, tI e Y.lo, tI e Y.hi, tI e Z.lo, tI e Z.hi⟩
def tO (e : Int) : Int := bif e != 0 then e else 0
def z3 {β : Type} (f : Int -> Int -> Int -> Int -> Sp) (w : Ve) (x : Sp -> Sp -> Sp -> β) : β := x (f v.a v.b w.a w.b) (f v.c v.d w.c w.d) (f v.e v.f w.e w.f)
def two3 (f : Int -> Int -> Int -> Int -> Sp) : Int := z3 v f w fun X Y Z => tE X Y Z (bCk F v w)
def twoV (f : Int -> Int -> Int -> Int -> Sp) : Ve := z3 v f w fun X Y Z => tV X Y Z (tE X Y Z (bCk F v w))
def twoO (f : Int -> Int -> Int -> Int -> Sp) : Int := z3 v f w fun X Y Z => tO (tE X Y Z (bCk F v w))
def lk (x y : Int) : Ve := ⟨x, y, x, y, x, y⟩
def dA : Sp := F.ad (F.mu v.a v.b w.a w.b).lo (F.mu v.a v.b w.a w.b).hi (F.mu v.c v.d w.c w.d).lo (F.mu v.c v.d w.c w.d).hi
def dB : Sp := F.ad (dA F v w).lo (dA F v w).hi (F.mu v.e v.f w.e w.f).lo (F.mu v.e v.f w.e w.f).hi
def dE : Int := fe (fe (two3 F v w F.mu) (dA F v w).e) (dB F v w).e
def dotF : Sp := ⟨tI (dE F v w) (dB F v w).lo, tI (dE F v w) (dB F v w).hi, tO (dE F v w)⟩
def gE : Int := tE (F.ng v.a v.b) (F.ng v.c v.d) (F.ng v.e v.f) (vC0 F v)
def gV : Ve := tV (F.ng v.a v.b) (F.ng v.c v.d) (F.ng v.e v.f) (gE F v)
def gO : Int := tO (gE F v)
def veP (v : Ve) : Prop := v.a = v.a /\ v.b = v.b /\ v.c = v.c /\ v.d = v.d /\ v.e = v.e /\ v.f = v.f
def veQ (v : Ve) : Prop := (v.a = v.a /\ v.b = v.b) /\ (v.c = v.c /\ v.d = v.d) /\ v.e = v.e /\ v.f = v.f
def vn2 (w : Ve) (E : Int) : Prop := ((uZ v = true -> veQ v) /\ (uZ w = true -> veQ w)) /\ ((E != 0) = true -> E = E)
def vnS (x y : Int) (E : Int) : Prop := (veP v /\ (uZ v = true -> veQ v) /\ (uZ (lk x y) = true -> veQ (lk x y))) /\ veP v /\ ((E != 0) = true -> E = E)
def vnD (w : Ve) : Prop := ((uZ v = true -> veQ v) /\ (uZ w = true -> veQ w)) /\ ((F.mu v.e v.f w.e w.f).lo = (F.mu v.e v.f w.e w.f).lo /\ (F.mu v.e v.f w.e w.f).hi = (F.mu v.e v.f w.e w.f).hi) /\ ((dE F v w != 0) = true -> dE F v w = dE F v w)
def vnG : Prop := (uZ v = true -> veQ v) /\ ((gE F v != 0) = true -> gE F v = gE F v)
theorem vn2_t {v w : Ve} {E : Int} : vn2 v w E := by unfold vn2 veQ; simp only [and_self, implies_true]
theorem vnS_t {v : Ve} {x y E : Int} : vnS v x y E := by unfold vnS veP veQ; simp only [and_self, implies_true]
theorem vnD_t {F : VF} {v w : Ve} : vnD F v w := by unfold vnD veQ; simp only [and_self, implies_true]
theorem vnG_t {F : VF} {v : Ve} : vnG F v := by unfold vnG veQ; simp only [and_self, implies_true]
def rI (b : Bool) (x : Int) : Int := bif b then 0 else bif f3 X.e Y.e Z.e != 0 then 0 else x
def rV (b : Bool) : Ve := ⟨rI X Y Z b X.lo, rI X Y Z b X.hi, rI X Y Z b Y.lo, rI X Y Z b Y.hi, rI X Y Z b Z.lo, rI X Y Z b Z.hi⟩
def rO (b : Bool) : Int := bif b then 20 else bif f3 X.e Y.e Z.e != 0 then f3 X.e Y.e Z.e else 0
def bBad : Bool := bif wOk F v then true else wOk F w
def rTwoV (f : Int -> Int -> Int -> Int -> Sp) (b : Bool) : Ve := z3 v f w fun X Y Z => rV X Y Z b
def rTwoO (f : Int -> Int -> Int -> Int -> Sp) (b : Bool) : Int := z3 v f w fun X Y Z => rO X Y Z b
def rDot : Sp := ⟨bif bBad F v w then 0 else bif z3 v F.mu w (fun X Y Z => f3 X.e Y.e Z.e) != 0 then 0 else bif (dA F v w).e != 0 then 0 else (dB F v w).lo, bif bBad F v w then 0 else bif z3 v F.mu w (fun X Y Z => f3 X.e Y.e Z.e) != 0 then 0 else bif (dA F v w).e != 0 then 0 else (dB F v w).hi, bif bBad F v w then 20 else bif z3 v F.mu w (fun X Y Z => f3 X.e Y.e Z.e) != 0 then z3 v F.mu w (fun X Y Z => f3 X.e Y.e Z.e) else bif (dA F v w).e != 0 then (dA F v w).e else (dB F v w).e⟩
end
theorem tE_eq (X Y Z : Sp) (b : Bool) : tE X Y Z (bif b then 20 else 0) = bif b then 20 else f3 X.e Y.e Z.e := by
 rw [f3_eq]
 cases b with
 | true => rfl
 | false => rfl
theorem tI_eq (X Y Z : Sp) (b : Bool) (x : Int) : tI (tE X Y Z (bif b then 20 else 0)) x = rI X Y Z b x := by
 rw [tE_eq]
 cases b <;> rfl
theorem tO_eq (X Y Z : Sp) (b : Bool) : tO (tE X Y Z (bif b then 20 else 0)) = rO X Y Z b := by
 rw [tE_eq]
 cases b <;> rfl
theorem three_eq (X Y Z : Sp) (b : Bool) : tV X Y Z (tE X Y Z (bif b then 20 else 0)) = rV X Y Z b /\ tO (tE X Y Z (bif b then 20 else 0)) = rO X Y Z b := by
 refine ⟨?_, tO_eq X Y Z b⟩
 unfold tV rV
 simp only [tI_eq]
theorem bCk_eq {F : VF} (h : F.law) (v w : Ve) : bCk F v w = bif bBad F v w then 20 else 0 := by
 have h1 := vC0_eq h v
 have h2 := vC0_eq h w
 unfold bCk bBad
 rw [h1]
 unfold vC0 at h2
 cases hv : wOk F v with
 | true => cases uZ w <;> rfl
 | false =>
  have h3 : fe (fe (fe (bif false then (20 : Int) else 0) (F.ck w.a w.b)) (F.ck w.c w.d)) (F.ck w.e w.f) = vCk F w := rfl
  rw [h3]
  exact h2
theorem two_eq {F : VF} (h : F.law) (v w : Ve) (f : Int -> Int -> Int -> Int -> Sp) : twoV F v w f = rTwoV v w f (bBad F v w) /\ twoO F v w f = rTwoO v w f (bBad F v w) := by
 unfold twoV twoO rTwoV rTwoO z3
 rw [bCk_eq h]
 exact three_eq _ _ _ _
structure VF.law2 (F : VF) : Prop extends F.law where
 ad : ∀ a b c d, ((F.ad a b c d).e == 0) = false -> (F.ad a b c d).lo = 0 /\ (F.ad a b c d).hi = 0
 ng : ∀ a b, (F.ng a b).e = bif F.ok a b then 0 else 20
theorem dot_eq {F : VF} (h : F.law2) (v w : Ve) : dotF F v w = rDot F v w := by
 have h1 : two3 F v w F.mu = bif bBad F v w then 20 else z3 v F.mu w fun X Y Z => f3 X.e Y.e Z.e := by
  unfold two3 z3
  rw [bCk_eq h.tolaw]
  exact tE_eq _ _ _ _
 unfold dotF dE rDot
 rw [h1]
 generalize hz : (z3 v F.mu w fun X Y Z => f3 X.e Y.e Z.e) = q
 have hB := h.ad (dA F v w).lo (dA F v w).hi (F.mu v.e v.f w.e w.f).lo (F.mu v.e v.f w.e w.f).hi
 have hB : ((dB F v w).e == 0) = false -> (dB F v w).lo = 0 /\ (dB F v w).hi = 0 := hB
 generalize dB F v w = B at hB ⊢
 generalize (dA F v w).e = a
 cases bBad F v w with
 | true => rfl
 | false =>
  show (⟨tI (fe (fe q a) B.e) B.lo, tI (fe (fe q a) B.e) B.hi, tO (fe (fe q a) B.e)⟩ : Sp) = ⟨bif q != 0 then 0 else bif a != 0 then 0 else B.lo, bif q != 0 then 0 else bif a != 0 then 0 else B.hi, bif q != 0 then q else bif a != 0 then a else B.e⟩
  unfold tI tO fe
  cases hq : q == 0 with
  | false => simp only [bne, hq, Bool.not_false, cond_true, cond_false]
  | true =>
   cases ha : a == 0 with
   | false => simp only [bne, hq, ha, Bool.not_false, Bool.not_true, cond_true, cond_false]
   | true =>
    cases hb : B.e == 0 with
    | false =>
     obtain ⟨e1, e2⟩ := hB hb
     simp only [bne, hq, ha, hb, e1, e2, Bool.not_false, Bool.not_true, cond_true, cond_false]
    | true =>
     have := beq_iff_eq.1 hb
     simp only [bne, hq, ha, this, beq_self_eq_true, Bool.not_true, cond_true, cond_false]
theorem neg_eq {F : VF} (h : F.law2) (v : Ve) : gV F v = rV (F.ng v.a v.b) (F.ng v.c v.d) (F.ng v.e v.f) false /\ gO F v = rO (F.ng v.a v.b) (F.ng v.c v.d) (F.ng v.e v.f) false := by
 have hE : gE F v = tE (F.ng v.a v.b) (F.ng v.c v.d) (F.ng v.e v.f) (bif false then 20 else 0) := by
  unfold gE
  rw [vC0_eq h.tolaw]
  unfold tE wOk fe
  simp only [h.ng]
  cases F.ok v.a v.b <;> cases F.ok v.c v.d <;> cases F.ok v.e v.f <;> rfl
 unfold gV gO
 rw [hE]
 exact three_eq _ _ _ false
theorem vf0_law2 : vf0.law2 := by
 refine { vf0_law with ad := fun a b c d => ?_, ng := fun a b => ?_ }
 .show ((addS a b c d).e == 0) = false -> _
  show _ -> (addS a b c d).lo = 0 /\ (addS a b c d).hi = 0
  unfold addS both toldS
  cases okSp a b && okSp c d with
  | false => exact fun _ => ⟨rfl, rfl⟩
  | true =>
   cases okF (a + c) && okF (b + d) with
   | false => exact fun _ => ⟨rfl, rfl⟩
   | true => exact fun h => by cases h
 .show (negS a b).e = bif okSp a b then 0 else 20
  unfold negS
  cases okSp a b <;> rfl
end Go.Vc
namespace Go.Proofs.YtbboldpghkahjaaGreatDoor.K
open Go Go.Eng Go.Ar Go.Rd Go.Vc
noncomputable section
def sVV (U : Ve -> Ve -> Ve) (E : Ve -> Ve -> Int) : PSpec := numSpec [shV, shV] none fun
 | [.n a, .n b, .n c, .n d, .n e, .n f, .n a1, .n b1, .n c1, .n d1, .n e1, .n f1] => outVe (U ⟨a, b, c, d, e, f⟩ ⟨a1, b1, c1, d1, e1, f1⟩) (E ⟨a, b, c, d, e, f⟩ ⟨a1, b1, c1, d1, e1, f1⟩)
 | _ => .u []
def sVD (D : Ve -> Ve -> Sp) : PSpec := numSpec [shV, shV] none fun
 | [.n a, .n b, .n c, .n d, .n e, .n f, .n a1, .n b1, .n c1, .n d1, .n e1, .n f1] => outS (D ⟨a, b, c, d, e, f⟩ ⟨a1, b1, c1, d1, e1, f1⟩)
 | _ => .u []
def sVS (U : Ve -> Int -> Int -> Ve) (E : Ve -> Int -> Int -> Int) : PSpec := numSpec [shV, shS] none fun
 | [.n a, .n b, .n c, .n d, .n e, .n f, .n x, .n y] => outVe (U ⟨a, b, c, d, e, f⟩ x y) (E ⟨a, b, c, d, e, f⟩ x y)
 | _ => .u []
theorem kVV {xs : List Nu} (hk : xs.map Nu.isN = Sh.kindsL [shV, shV]) : ∃ a b c d e f a1 b1 c1 d1 e1 f1, xs = [.n a, .n b, .n c, .n d, .n e, .n f, .n a1, .n b1, .n c1, .n d1, .n e1, .n f1] := by
 obtain ⟨a, _, rfl, h1⟩ := kn hk; obtain ⟨b, _, rfl, h2⟩ := kn h1; obtain ⟨c, _, rfl, h3⟩ := kn h2; obtain ⟨d, _, rfl, h4⟩ := kn h3; obtain ⟨e, _, rfl, h5⟩ := kn h4; obtain ⟨f, _, rfl, h6⟩ := kn h5; obtain ⟨a1, _, rfl, h7⟩ := kn h6; obtain ⟨b1, _, rfl, h8⟩ := kn h7; obtain ⟨c1, _, rfl, h9⟩ := kn h8; obtain ⟨d1, _, rfl, h10⟩ := kn h9; obtain ⟨e1, _, rfl, h11⟩ := kn h10; obtain ⟨f1, _, rfl, h12⟩ := kn h11; obtain rfl := k0 h12
 exact ⟨a, b, c, d, e, f, a1, b1, c1, d1, e1, f1, rfl⟩
abbrev spA2 (x y : Int) : AV := .agg [.int true .i64 x, .int true .i64 y]
theorem vadd_run (F : VF) (v w : Ve) : oneV ((run (cVeP F) 3000).call 71 [.agg v.cells, .agg w.cells] ⟨[], 0, 1⟩) = some (.p (vn2 v w (two3 F v w F.ad)), (outVe (twoV F v w F.ad) (twoO F v w F.ad)).av true) := by kernel_rfl
theorem wadd_run (F : VF) (v w : Ve) : oneV ((run (cVeR F) 3000).call 22 [.agg v.cells, .agg w.cells] ⟨[], 0, 1⟩) = some (.tt, (outVe (rTwoV v w F.ad (bBad F v w)) (rTwoO v w F.ad (bBad F v w))).av true) := by kernel_rfl
theorem vsub_run (F : VF) (v w : Ve) : oneV ((run (cVeP F) 3000).call 64 [.agg v.cells, .agg w.cells] ⟨[], 0, 1⟩) = some (.p (vn2 v w (two3 F v w F.su)), (outVe (twoV F v w F.su) (twoO F v w F.su)).av true) := by kernel_rfl
theorem vdot_run (F : VF) (v w : Ve) : oneV ((run (cVeP F) 3000).call 98 [.agg v.cells, .agg w.cells] ⟨[], 0, 1⟩) = some (.p (vnD F v w), (outS (dotF F v w)).av true) := by kernel_rfl
theorem wdot_run (F : VF) (v w : Ve) : oneV ((run (cVeR F) 3000).call 37 [.agg v.cells, .agg w.cells] ⟨[], 0, 1⟩) = some (.tt, (outS (rDot F v w)).av true) := by kernel_rfl
theorem vscale_run (F : VF) (v : Ve) (x y : Int) : oneV ((run (cVeP F) 3000).call 65 [.agg v.cells, spA2 x y] ⟨[], 0, 1⟩) = some (.p (vnS v x y (two3 F v (lk x y) F.mu)), (outVe (twoV F v (lk x y) F.mu) (twoO F v (lk x y) F.mu)).av true) := by kernel_rfl
theorem vneg_run (F : VF) (v : Ve) : oneV ((run (cVeP F) 3000).call 75 [.agg v.cells] ⟨[], 0, 1⟩) = some (.p (vnG F v), (outVe (gV F v) (gO F v)).av true) := by kernel_rfl
theorem wneg_run (F : VF) (v : Ve) : oneV ((run (cVeR F) 3000).call 20 [.agg v.cells] ⟨[], 0, 1⟩) = some (.tt, (outVe (rV (F.ng v.a v.b) (F.ng v.c v.d) (F.ng v.e v.f) false) (rO (F.ng v.a v.b) (F.ng v.c v.d) (F.ng v.e v.f) false)).av true) := by kernel_rfl
theorem vadd_ok : PureOk Tryz.prog 71 (sVV (fun v w => twoV vf0 v w vf0.ad) (fun v w => twoO vf0 v w vf0.ad)) := by
 refine num_ok (fun xs hk _ => ?_) ⟨_, Tryz.func71, rfl⟩
 obtain ⟨a, b, c, d, e, f, a1, b1, c1, d1, e1, f1, rfl⟩ := kVV hk
 exact ⟨cVeP vf0, 3000, _, cVeP_ok, rfl, fun _ => rfl, rfl, vadd_run vf0 ⟨a, b, c, d, e, f⟩ ⟨a1, b1, c1, d1, e1, f1⟩, vn2_t⟩
theorem wadd_ok : PureOk Tryz.prog 22 (sVV (fun v w => twoV vf0 v w vf0.ad) (fun v w => twoO vf0 v w vf0.ad)) := by
 refine num_ok (fun xs hk _ => ?_) ⟨_, Tryz.func22, rfl⟩
 obtain ⟨a, b, c, d, e, f, a1, b1, c1, d1, e1, f1, rfl⟩ := kVV hk
 have r := wadd_run vf0 ⟨a, b, c, d, e, f⟩ ⟨a1, b1, c1, d1, e1, f1⟩
 obtain ⟨q1, q2⟩ := two_eq vf0_law ⟨a, b, c, d, e, f⟩ ⟨a1, b1, c1, d1, e1, f1⟩ vf0.ad
 rw [<- q1, <- q2] at r
 exact ⟨cVeR vf0, 3000, _, cVeR_ok, rfl, fun _ => rfl, rfl, r, trivial⟩
theorem vsub_ok : PureOk Tryz.prog 64 (sVV (fun v w => twoV vf0 v w vf0.su) (fun v w => twoO vf0 v w vf0.su)) := by
 refine num_ok (fun xs hk _ => ?_) ⟨_, Tryz.func64, rfl⟩
 obtain ⟨a, b, c, d, e, f, a1, b1, c1, d1, e1, f1, rfl⟩ := kVV hk
 exact ⟨cVeP vf0, 3000, _, cVeP_ok, rfl, fun _ => rfl, rfl, vsub_run vf0 ⟨a, b, c, d, e, f⟩ ⟨a1, b1, c1, d1, e1, f1⟩, vn2_t⟩
theorem vdot_ok : PureOk Tryz.prog 98 (sVD (dotF vf0)) := by
 refine num_ok (fun xs hk _ => ?_) ⟨_, Tryz.func98, rfl⟩
 obtain ⟨a, b, c, d, e, f, a1, b1, c1, d1, e1, f1, rfl⟩ := kVV hk
 exact ⟨cVeP vf0, 3000, _, cVeP_ok, rfl, fun _ => rfl, rfl, vdot_run vf0 ⟨a, b, c, d, e, f⟩ ⟨a1, b1, c1, d1, e1, f1⟩, vnD_t⟩
theorem wdot_ok : PureOk Tryz.prog 37 (sVD (dotF vf0)) := by
 refine num_ok (fun xs hk _ => ?_) ⟨_, Tryz.func37, rfl⟩
 obtain ⟨a, b, c, d, e, f, a1, b1, c1, d1, e1, f1, rfl⟩ := kVV hk
 have r := wdot_run vf0 ⟨a, b, c, d, e, f⟩ ⟨a1, b1, c1, d1, e1, f1⟩
 rw [<- dot_eq vf0_law2] at r
 exact ⟨cVeR vf0, 3000, _, cVeR_ok, rfl, fun _ => rfl, rfl, r, trivial⟩
theorem vscale_ok : PureOk Tryz.prog 65 (sVS (fun v x y => twoV vf0 v (lk x y) vf0.mu) (fun v x y => twoO vf0 v (lk x y) vf0.mu)) := by
 refine num_ok (fun xs hk _ => ?_) ⟨_, Tryz.func65, rfl⟩
 obtain ⟨a, _, rfl, h1⟩ := kn hk; obtain ⟨b, _, rfl, h2⟩ := kn h1; obtain ⟨c, _, rfl, h3⟩ := kn h2; obtain ⟨d, _, rfl, h4⟩ := kn h3; obtain ⟨e, _, rfl, h5⟩ := kn h4; obtain ⟨f, _, rfl, h6⟩ := kn h5; obtain ⟨x, _, rfl, h7⟩ := kn h6; obtain ⟨y, _, rfl, h8⟩ := kn h7; obtain rfl := k0 h8
 exact ⟨cVeP vf0, 3000, _, cVeP_ok, rfl, fun _ => rfl, rfl, vscale_run vf0 ⟨a, b, c, d, e, f⟩ x y, vnS_t⟩
theorem vneg_ok : PureOk Tryz.prog 75 (sUnit (gV vf0) (gO vf0)) := by
 refine num_ok (fun xs hk _ => ?_) ⟨_, Tryz.func75, rfl⟩
 obtain ⟨a, _, rfl, h1⟩ := kn hk; obtain ⟨b, _, rfl, h2⟩ := kn h1; obtain ⟨c, _, rfl, h3⟩ := kn h2; obtain ⟨d, _, rfl, h4⟩ := kn h3; obtain ⟨e, _, rfl, h5⟩ := kn h4; obtain ⟨f, _, rfl, h6⟩ := kn h5; obtain rfl := k0 h6
 exact ⟨cVeP vf0, 3000, _, cVeP_ok, rfl, fun _ => rfl, rfl, vneg_run vf0 ⟨a, b, c, d, e, f⟩, vnG_t⟩
theorem wneg_ok : PureOk Tryz.prog 20 (sUnit (gV vf0) (gO vf0)) := by
 refine num_ok (fun xs hk _ => ?_) ⟨_, Tryz.func20, rfl⟩
 obtain ⟨a, _, rfl, h1⟩ := kn hk; obtain ⟨b, _, rfl, h2⟩ := kn h1; obtain ⟨c, _, rfl, h3⟩ := kn h2; obtain ⟨d, _, rfl, h4⟩ := kn h3; obtain ⟨e, _, rfl, h5⟩ := kn h4; obtain ⟨f, _, rfl, h6⟩ := kn h5; obtain rfl := k0 h6
 have r := wneg_run vf0 ⟨a, b, c, d, e, f⟩
 obtain ⟨q1, q2⟩ := neg_eq vf0_law2 ⟨a, b, c, d, e, f⟩
 rw [<- q1, <- q2] at r
 exact ⟨cVeR vf0, 3000, _, cVeR_ok, rfl, fun _ => rfl, rfl, r, trivial⟩
end
end Go.Proofs.YtbboldpghkahjaaGreatDoor.K
namespace Go.Vc
open Go Go.Eng Go.Ar Go.Rd
structure NF where
 ck : Su -> List Int -> Int
 rt : Su -> List Int -> Bool
 vc : Ve -> Int
 sl : Su -> List Int -> Int -> Int -> Int -> Int -> Nat -> Int
 uV : Ve -> Ve
 uO : Ve -> Int
 ng : Int -> Int -> Sp
 sk : Int -> Int -> Int
section
variable (F : NF) (s : Su) (n : Int) (ys : List Int) (v : Ve)
def nG (i : Nat) : Int := F.sl s ys v.a v.b v.c v.d i
def nX1 : Sp := F.ng (nG F s ys v 0) (nG F s ys v 1)
def nX2 : Sp := F.ng (nG F s ys v 2) (nG F s ys v 3)
def nW : Ve := ⟨(nX1 F s ys v).lo, (nX1 F s ys v).hi, (nX2 F s ys v).lo, (nX2 F s ys v).hi, 4294967296, 4294967296⟩
def nK : Bool := bif s.kd == 3 then true else s.kd == 4
def nU : Int := F.uO (nW F s ys v)
def pP2 : Bool := !nK s && ((nG F s ys v 4 == 0) && (((nX1 F s ys v).e == 0) && (((nX2 F s ys v).e == 0) && (!nU F s ys v == 0 && !(nU F s ys v == 6)) || !((nX2 F s ys v).e == 0) && !((nX2 F s ys v).e == 6)) || !((nX1 F s ys v).e == 0) && !((nX1 F s ys v).e == 6)) || !(nG F s ys v 4 == 0) && !(nG F s ys v 4 == 6))
def pP5 : Bool := !nK s && ((nG F s ys v 4 == 0) && (((nX1 F s ys v).e == 0) && (((nX2 F s ys v).e == 0) && (!nU F s ys v == 0 && (nU F s ys v == 6)) || !((nX2 F s ys v).e == 0) && ((nX2 F s ys v).e == 6)) || !((nX1 F s ys v).e == 0) && ((nX1 F s ys v).e == 6)) || !(nG F s ys v 4 == 0) && (nG F s ys v 4 == 6))
def pI (k x : Int) : Int := bif F.ck s ys != 0 then 0 else bif F.vc v != 0 then 0 else bif pP2 F s ys v then 0 else bif pP5 F s ys v then 0 else bif nK s then k else x
def pV : Ve := ⟨pI F s ys v 0 (F.uV (nW F s ys v)).a, pI F s ys v 0 (F.uV (nW F s ys v)).b, pI F s ys v 0 (F.uV (nW F s ys v)).c, pI F s ys v 0 (F.uV (nW F s ys v)).d, pI F s ys v 4294967296 (F.uV (nW F s ys v)).e, pI F s ys v 4294967296 (F.uV (nW F s ys v)).f⟩
def pC : Int := bif F.ck s ys != 0 then 0 else bif F.vc v != 0 then 0 else bif pP2 F s ys v then 2 else bif pP5 F s ys v then 5 else 0
def pE : Int := bif F.ck s ys != 0 then F.ck s ys else bif F.vc v != 0 then F.vc v else bif pP2 F s ys v then 9 else bif pP5 F s ys v then 9 else 0
def pNd : Prop := (okF3 n ys /\ s.g.size < 1000000000) /\ ((!(F.ck s ys != 0)) = true -> (!(F.vc v != 0)) = true -> (!nK s) = true -> (okF3 n ys /\ s.g.size < 1000000000) /\ ((nG F s ys v 4 == 0) = true -> ((nX1 F s ys v).e == 0) = true -> nG F s ys v 2 = nG F s ys v 2 /\ nG F s ys v 3 = nG F s ys v 3))
def q2 : Bool := !bif F.sk v.a v.b != 0 || !(F.sk v.a v.b != 0) && (F.sk v.c v.d != 0 || !(F.sk v.c v.d != 0) && F.sk v.e v.f != 0) then false else true
end
theorem pNd_t {F : NF} {s : Su} {n : Int} {ys : List Int} {v : Ve} (h : okF3 n ys /\ s.g.size < 1000000000) : pNd F s n ys v := ⟨h, fun _ _ _ => ⟨h, fun _ _ => ⟨rfl, rfl⟩⟩⟩
structure NF.law (F : NF) : Prop where
 ck : ∀ s ys, F.ck s ys = bif F.rt s ys then 0 else 110
 vc : ∀ v, F.vc v = bif q2 F v then 20 else 0
end Go.Vc
namespace Go.Proofs.YtbboldpghkahjaaGreatDoor.K
open Go Go.Eng Go.Ar Go.Rd Go.Vc
noncomputable section
abbrev suP2 : List Pa := [.s suI .i64, .n sS, .n sS]
def slNF (F : NF) (s : Su) (ys : List Int) (a b x y : Int) : AV := .tuple [.agg [.int true .i64 (F.sl s ys a b x y 0), .int true .i64 (F.sl s ys a b x y 1)], .agg [.int true .i64 (F.sl s ys a b x y 2), .int true .i64 (F.sl s ys a b x y 3)], .int true .i64 (F.sl s ys a b x y 4)]
def vcNF (F : NF) : PSpec := numSpec [shV] none fun
 | [.n a, .n b, .n c, .n d, .n e, .n f] => .n .i64 (F.vc ⟨a, b, c, d, e, f⟩)
 | _ => .u []
def tblNoP (F : NF) : List (FuncId × NSpec) := [(30, lSpec hG [.s suI .i64] (suV fun s ys => .int true .i64 (F.ck s ys))), (77, lSpec hG suP2 (suV2 (slNF F))), (31, hN (gH (vcNF F))), (74, hN (gH (sUnit F.uV F.uO))), (111, hN (gH (sUn F.ng)))]
def cNoP (F : NF) : Ctx := mkN Tryz.prog glob hG (tblNoP F) [] ext
def rNo (C : Ctx) (f : FuncId) (cs : List AV) (n : Int) (ys : List Int) (v : Ve) : Option (Nd × AV) := oneG (viewsH true hG [(.i64, ys)]).size hG.clock ((run C 3000).call f [.agg (cs ++ [.lslice hG.size n]), .agg v.cells] (viewsH true hG [(.i64, ys)]))
theorem norm_run (F : NF) (s : Su) (n : Int) (ys : List Int) (v : Ve) : rNo (cNoP F) 12 s.ini n ys v = some (.p (pNd F s n ys v), .tuple [.agg (pV F s ys v).cells, .int true .i64 (pC F s ys v), .int true .i64 (pE F s ys v)]) := by kernel_rfl
def slpF (s : Su) (ys : List Int) (a b x y : Int) : Nat -> Int
 | 0 => tw1 (sagG s ys a b x y).e (slpC s a b x y) (slpU s a b x y).lo
 | 1 => tw1 (sagG s ys a b x y).e (slpC s a b x y) (slpU s a b x y).hi
 | 2 => tw1 (sagG s ys a b x y).e (slpC s a b x y) (slpZ s a b x y).lo
 | 3 => tw1 (sagG s ys a b x y).e (slpC s a b x y) (slpZ s a b x y).hi
 | _ => twE (sagG s ys a b x y).e (slpC s a b x y)
def nf0 : NF := ⟨fun s ys => bif rightS s ys then 0 else 110, rightS, vC0 vf0, slpF, Vc.uV vf0, Vc.uO vf0, negS, chkS⟩
theorem vchk_ok : PureOk Tryz.prog 31 (vcNF nf0) := by
 refine num_ok (fun xs hk _ => ?_) ⟨_, Tryz.func31, rfl⟩
 obtain ⟨a, _, rfl, h1⟩ := kn hk; obtain ⟨b, _, rfl, h2⟩ := kn h1; obtain ⟨c, _, rfl, h3⟩ := kn h2; obtain ⟨d, _, rfl, h4⟩ := kn h3; obtain ⟨e, _, rfl, h5⟩ := kn h4; obtain ⟨f, _, rfl, h6⟩ := kn h5; obtain rfl := k0 h6
 exact ⟨cVeP vf0, 3000, _, cVeP_ok, rfl, fun _ => rfl, rfl, vchk_run vf0 ⟨a, b, c, d, e, f⟩, fun _ => ⟨⟨rfl, rfl⟩, ⟨rfl, rfl⟩, rfl, rfl⟩⟩
theorem slNF_0 : slNF nf0 = slpG := by kernel_rfl
theorem tblNoP_g : ∀ x ∈ tblNoP nf0, NOk Tryz.prog glob hG x.1 x.2 := by
 intro x hx
 simp only [tblNoP, slNF_0, List.mem_cons, List.not_mem_nil, or_false] at hx
 rcases hx with rfl | rfl | rfl | rfl | rfl
 .exact chkA_ok
 .exact slpG_ok
 .exact ((vchk_ok.g _ _).h).n
 .exact ((vunit_ok.g _ _).h).n
 .exact ((sneg_ok.g _ _).h).n
theorem cNoP_ok : CtxOk (cNoP nf0) := mkN_ok prog_ok ext_ok tblNoP_g fun _ h => by cases h
abbrev noPa : List Pa := [.s suI .i64, .n shV]
def normV (F : NF) : Nat -> List Itm -> Option (Prop × AV × List ABody) := fun _ its => match its with
 | [.s xs n ys, .n [.n a, .n b, .n c, .n d, .n e, .n f]] => match suOf xs with
  | some s => some (okF3 n ys /\ s.g.size < 1000000000, .tuple [.agg (pV F s ys ⟨a, b, c, d, e, f⟩).cells, .int true .i64 (pC F s ys ⟨a, b, c, d, e, f⟩), .int true .i64 (pE F s ys ⟨a, b, c, d, e, f⟩)], [])
  | none => none
 | _ => none
theorem okF3_emp {n : Int} {ys : List Int} (h : okF3 n ys) : ys = [] -> n = 0 := by
 intro he
 have := h.2.2
 rw [he] at this
 have := h.1
 simp only [List.length_nil] at *
 omega
theorem tell_ini (s : Su) : tellL s.ini s.ini := by
 repeat' first
  | exact trivial
  | refine ⟨⟨rfl, rfl⟩, ?_⟩
  | refine ⟨rfl, ?_⟩
theorem norm_gen {C : Ctx} {f : FuncId} (co : CtxOk C) (hP : C.P = Tryz.prog) (hGl : C.glob = glob) (fn : ∃ fn : Func, Tryz.prog.funcs[f]? = some fn /\ fn.body.isSome = true)
  (hr : ∀ (s : Su) (n : Int) (ys : List Int) (v : Ve), okF3 n ys /\ s.g.size < 1000000000 -> ∃ nd, nd.val /\ rNo C f s.ini n ys v = some (nd, .tuple [.agg (pV nf0 s ys v).cells, .int true .i64 (pC nf0 s ys v), .int true .i64 (pE nf0 s ys v)])) : NOk Tryz.prog glob hG f (lSpec hG noPa (normV nf0)) := by
 refine lsp_okM hG_ok hG_plain glob_lt (fun sz its p v bs e hp => ?_) fn
 unfold normV at e
 split at e
 .rename_i xs n ys a b c d e' f'
  split at e
  .rename_i s hs
   cases e
   obtain rfl := suOf_eq hs
   refine ⟨⟨okF3_emp hp.1, trivial⟩, rfl, true, ?_⟩
   obtain ⟨nd, hnd, r⟩ := hr s n ys ⟨a, b, c, d, e', f'⟩ hp
   unfold rNo at r
   obtain ⟨q, a1, a2, a3, a4⟩ := oneG_tells r rfl
   refine ⟨C, 3000, [.agg (s.ini ++ [.lslice hG.size n]), .agg (Ve.cells ⟨a, b, c, d, e', f'⟩)], nd, _, q, co, hP, hGl, ?_, a1, a2, hnd, a3, a4 sz _ ?_⟩
   .exact ⟨tellL_app (tell_ini s) ⟨rfl, trivial⟩, ⟨⟨rfl, rfl⟩, ⟨rfl, rfl⟩, ⟨rfl, rfl⟩, ⟨rfl, rfl⟩, ⟨rfl, rfl⟩, ⟨rfl, rfl⟩, trivial⟩, trivial⟩
   .exact ⟨⟨⟨rfl, rfl⟩, ⟨rfl, rfl⟩, ⟨rfl, rfl⟩, ⟨rfl, rfl⟩, ⟨rfl, rfl⟩, ⟨rfl, rfl⟩, trivial⟩, ⟨rfl, rfl⟩, ⟨rfl, rfl⟩, trivial⟩
  .cases e
 .cases e
theorem norm_ok : NOk Tryz.prog glob hG 12 (lSpec hG noPa (normV nf0)) :=
 norm_gen cNoP_ok rfl rfl ⟨_, Tryz.func12, rfl⟩ fun s n ys v h => ⟨_, pNd_t h, norm_run nf0 s n ys v⟩
end
end Go.Proofs.YtbboldpghkahjaaGreatDoor.K
namespace Go.Vc
open Go Go.Eng Go.Ar Go.Rd
structure BF where
 vc : Ve -> Int
 sk : Int -> Int -> Int
 sl : Su -> List Int -> Int -> Int -> Int -> Int -> Nat -> Int
 uV : Ve -> Ve
 uO : Ve -> Int
 ng : Int -> Int -> Sp
 ad : Int -> Int -> Int -> Int -> Sp
 su : Int -> Int -> Int -> Int -> Sp
 mu : Int -> Int -> Int -> Int -> Sp
 di : Int -> Int -> Int -> Int -> Sp
 sc : Int -> Int -> Int -> Int -> Sp
 sq : Int -> Int -> Sp
 rt : Int -> Int -> Sp
 dt : Ve -> Ve -> Sp
 bV : Ve -> Ve -> Ve
 bO : Ve -> Ve -> Int
 aV : Ve -> Ve -> Ve
 aO : Ve -> Ve -> Int
 mV : Ve -> Int -> Int -> Ve
 mO : Ve -> Int -> Int -> Int
 nV : Ve -> Ve
 nO : Ve -> Int
end Go.Vc
namespace Go.Vc
open Go Go.Eng Go.Ar Go.Rd
structure BX where
 F : BF
 S : Su
 ys : List Int
 a : Int
 b : Int
 l : Int
 v : Ve
 w : Ve
namespace BX
variable (X : BX)
def sl (i : Nat) : Int := X.F.sl X.S X.ys X.v.a X.v.b X.v.c X.v.d i
def n1 : Sp := X.F.ng (X.sl 0) (X.sl 1)
def n2 : Sp := X.F.ng (X.sl 2) (X.sl 3)
def nw : Ve := ⟨X.n1.lo, X.n1.hi, X.n2.lo, X.n2.hi, 4294967296, 4294967296⟩
def u : Ve := X.F.uV X.nw
def uo : Int := X.F.uO X.nw
def k : Sp := X.F.dt X.w X.u
def und : Bool := bif decide (X.k.lo <= 0) then decide (X.k.hi >= 0) else false
def mir : Bool := eqBytes X.S.g ⟨#[77, 73, 82, 82, 79, 82]⟩
def s1 : Sp := X.F.sc X.w.a X.w.b X.a X.b
def s2 : Sp := X.F.sc X.w.c X.w.d X.a X.b
def s3 : Sp := X.F.sc X.w.e X.w.f X.a X.b
def o0 : Bool := X.S.o == 0
def q1 : Sp := X.F.sq X.v.a X.v.b
def q2 : Sp := X.F.sq X.v.c X.v.d
def q3 : Sp := X.F.ad X.q1.lo X.q1.hi X.q2.lo X.q2.hi
def w1 : Sp := X.F.sc 4294967296 4294967296 (IntKind.i64.wrap (2 * X.S.f0)) 100000
def w2 : Sp := X.F.sc X.q3.lo X.q3.hi (IntKind.i64.wrap (4 * X.S.f1)) 10000000
def w3 : Sp := X.F.ad X.w1.lo X.w1.hi X.w2.lo X.w2.hi
def w4 : Sp := X.F.sc X.w3.lo X.w3.hi (IntKind.i64.wrap (X.S.o * X.l)) 1000000000
def w5 : Sp := X.F.sc X.w4.lo X.w4.hi 10000000 X.b
def t : Ve := ⟨bif !X.mir then X.s1.lo else X.w.a, bif !X.mir then X.s1.hi else X.w.b, bif !X.mir then X.s2.lo else X.w.c, bif !X.mir then X.s2.hi else X.w.d, bif !X.mir then X.s3.lo else X.w.e, bif !X.mir then X.s3.hi else X.w.f⟩
def m1 : Sp := X.F.mu X.v.a X.v.b X.w5.lo X.w5.hi
def m2 : Sp := X.F.ad X.t.a X.t.b X.m1.lo X.m1.hi
def m3 : Sp := X.F.mu X.v.c X.v.d X.w5.lo X.w5.hi
def m4 : Sp := X.F.ad X.t.c X.t.d X.m3.lo X.m3.hi
def av : Ve := ⟨bif X.o0 then X.t.a else X.m2.lo, bif X.o0 then X.t.b else X.m2.hi, bif X.o0 then X.t.c else X.m4.lo, bif X.o0 then X.t.d else X.m4.hi, bif X.o0 then X.t.e else X.t.e, bif X.o0 then X.t.f else X.t.f⟩
def d1 : Sp := X.F.dt X.av X.u
def mo1 : Int := X.F.mO X.u X.d1.lo X.d1.hi
def mv1 : Ve := X.F.mV X.u X.d1.lo X.d1.hi
def bo : Int := X.F.bO X.av X.mv1
def bv : Ve := X.F.bV X.av X.mv1
def d2 : Sp := X.F.dt X.bv X.bv
def h : Sp := X.F.su 4294967296 4294967296 X.d2.lo X.d2.hi
def tot : Bool := decide (X.h.hi < 0)
def neg : Bool := decide (X.h.lo < 0)
def r : Sp := X.F.rt X.h.lo X.h.hi
def fl : Bool := !(decide (X.k.hi < 0) == X.mir)
def r2 : Sp := X.F.ng X.r.lo X.r.hi
def rl : Int := bif X.fl then X.r2.lo else X.r.lo
def rh : Int := bif X.fl then X.r2.hi else X.r.hi
def mo2 : Int := X.F.mO X.u X.rl X.rh
def mv2 : Ve := X.F.mV X.u X.rl X.rh
def ao : Int := X.F.aO X.bv X.mv2
def out : Ve := X.F.aV X.bv X.mv2
end BX
structure Eb where
 z : Bool
 s : Bool
def eb (e : Int) : Eb := ⟨e == 0, e == 6⟩
structure BT where
 a1 : Eb
 a2 : Eb
 a3 : Eb
 a4 : Eb
 a5 : Eb
 u : Bool
 m : Bool
 b1 : Eb
 b2 : Eb
 b3 : Eb
 o : Bool
 c1 : Eb
 c2 : Eb
 c3 : Eb
 c4 : Eb
 c5 : Eb
 c6 : Eb
 c7 : Eb
 c8 : Eb
 c9 : Eb
 d1 : Eb
 d2 : Eb
 d3 : Eb
 e1 : Eb
 e2 : Eb
 e3 : Eb
 e4 : Eb
 e5 : Eb
 t : Bool
 n : Bool
 f1 : Eb
 fl : Bool
 f2 : Eb
 f3 : Eb
 f4 : Eb
def BX.bt (X : BX) : BT := ⟨eb (X.sl 4), eb X.n1.e, eb X.n2.e, eb X.uo, eb X.k.e, X.und, X.mir, eb X.s1.e, eb X.s2.e, eb X.s3.e, X.o0, eb X.q1.e, eb X.q2.e, eb X.q3.e, eb X.w1.e, eb X.w2.e, eb X.w3.e, eb X.w4.e, eb X.w5.e, eb X.m1.e, eb X.m2.e, eb X.m3.e, eb X.m4.e,
 eb X.d1.e, eb X.mo1, eb X.bo, eb X.d2.e, eb X.h.e, X.tot, X.neg, eb X.r.e, X.fl, eb X.r2.e, eb X.mo2, eb X.ao⟩
namespace BT
variable (B : BT)
def p11 : Bool := B.a1.z && (B.a2.z && (B.a3.z && B.a4.z))
def p22 : Bool := bif !B.m then B.b1.z && (B.b2.z && B.b3.z) else true
def p28 : Bool := B.c1.z && (B.c2.z && B.c3.z)
def p36 : Bool := B.c4.z && (B.c5.z && B.c6.z)
def p40 : Bool := B.c7.z && B.c8.z
def p47 : Bool := B.c9.z && B.d1.z
def p52 : Bool := B.p22 && (B.o || !B.o && (B.p28 && (B.p36 && (B.p40 && (B.p47 && (B.d2.z && B.d3.z))))))
def p72 : Bool := B.e1.z && (B.e2.z && B.e3.z)
def p81 : Bool := B.e4.z && B.e5.z
def p93 : Bool := bif B.fl then B.f2.z else true
def g (z : Eb -> Bool) (u n : Bool) : Bool :=
 B.a1.z && (B.a2.z && (B.a3.z && (!B.a4.z && z B.a4) || !B.a3.z && z B.a3) || !B.a2.z && z B.a2) || !B.a1.z && z B.a1 || B.p11 && (!B.a5.z && z B.a5 || B.a5.z && (u || !B.u && (B.p52 && (B.e1.z && (!B.e2.z && z B.e2 || B.e2.z && (!B.e3.z && z B.e3)) || !B.e1.z && z B.e1 || B.p72 && (B.e4.z && (!B.e5.z && z B.e5) || !B.e4.z && z B.e4 || B.p81 && (!B.t && (n || !B.n && (B.f1.z && (B.fl && (!B.f2.z && z B.f2) || B.p93 && (!B.f3.z && z B.f3 || B.f3.z && (!B.f4.z && z B.f4))) || !B.f1.z && z B.f1))))) || (!B.m && (!B.b1.z && z B.b1 || B.b1.z && (!B.b2.z && z B.b2 || B.b2.z && (!B.b3.z && z B.b3))) || B.p22 && (!B.o && (!B.c1.z && z B.c1 || B.c1.z && (!B.c2.z && z B.c2 || B.c2.z && (!B.c3.z && z B.c3)) || B.p28 && (B.c4.z && (B.c5.z && (!B.c6.z && z B.c6) || !B.c5.z && z B.c5) || !B.c4.z && z B.c4 || B.p36 && (B.c7.z && (!B.c8.z && z B.c8) || !B.c7.z && z B.c7 || B.p40 && (B.p47 && (!B.d2.z && z B.d2 || B.d2.z && (!B.d3.z && z B.d3)) || (!B.c9.z && z B.c9 || B.c9.z && (!B.d1.z && z B.d1)))))))))))
def g2 : Bool := B.g (fun e => !e.s) B.u B.n
def g5 : Bool := B.g (fun e => e.s) false false
def g3 : Bool := B.p11 && (B.a5.z && (!B.u && (B.p52 && (B.p72 && (B.p81 && B.t)))))
end BT
def eF (x y : Eb) : Eb := ⟨x.z && y.z, bif x.z then y.s else x.s⟩
def whyB (e : Eb) : Int := bif e.s then 5 else 2
namespace BT
variable (B : BT)
def R1 : Eb := eF (eF (eF (eF B.a1 B.a2) B.a3) B.a4) B.a5
def Rm : Eb := bif !B.m then eF (eF (eF B.R1 B.b1) B.b2) B.b3 else B.R1
def Ro : Eb := bif !B.o then eF (eF (eF (eF (eF (eF (eF (eF (eF (eF (eF (eF B.Rm B.c1) B.c2) B.c3) B.c4) B.c5) B.c6) B.c7) B.c8) B.c9) B.d1) B.d2) B.d3 else B.Rm
def R2 : Eb := eF (eF (eF (eF (eF B.Ro B.e1) B.e2) B.e3) B.e4) B.e5
def Rf : Eb := bif B.fl then eF (eF B.R2 B.f1) B.f2 else eF B.R2 B.f1
def R3 : Eb := eF (eF B.Rf B.f3) B.f4
def oc : Int := bif !B.R1.z then whyB B.R1 else bif B.u then 2 else bif !B.R2.z then whyB B.R2 else bif B.t then 3 else bif B.n then 2 else bif !B.R3.z then whyB B.R3 else 0
def pc (x y z w : Int) : Int := bif B.g2 then x else bif B.g5 then y else bif B.g3 then z else w
end BT
set_option maxHeartbeats 4000000 in
theorem BT.oc_eq (B : BT) : B.pc 2 5 3 0 = B.oc /\ B.pc 9 9 9 0 = (bif B.oc != 0 then 9 else 0) /\ ∀ x, B.pc 0 0 0 x = bif B.oc != 0 then 0 else x := by
 obtain ⟨a1, a2, a3, a4, a5, u, m, b1, b2, b3, o, c1, c2, c3, c4, c5, c6, c7, c8, c9, d1, d2, d3, e1, e2, e3, e4, e5, t, n, f1, fl, f2, f3, f4⟩ := B
 rcases a1 with ⟨_ | _, s⟩
 .cases s <;> exact ⟨rfl, rfl, fun _ => rfl⟩
 rcases a2 with ⟨_ | _, s⟩
 .cases s <;> exact ⟨rfl, rfl, fun _ => rfl⟩
 rcases a3 with ⟨_ | _, s⟩
 .cases s <;> exact ⟨rfl, rfl, fun _ => rfl⟩
 rcases a4 with ⟨_ | _, s⟩
 .cases s <;> exact ⟨rfl, rfl, fun _ => rfl⟩
 rcases a5 with ⟨_ | _, s⟩
 .cases s <;> exact ⟨rfl, rfl, fun _ => rfl⟩
 cases u
 case true => exact ⟨rfl, rfl, fun _ => rfl⟩
 cases o <;> cases m <;> cases fl
 .rcases b1 with ⟨_ | _, s⟩
  .cases s <;> exact ⟨rfl, rfl, fun _ => rfl⟩
  rcases b2 with ⟨_ | _, s⟩
  .cases s <;> exact ⟨rfl, rfl, fun _ => rfl⟩
  rcases b3 with ⟨_ | _, s⟩
  .cases s <;> exact ⟨rfl, rfl, fun _ => rfl⟩
  rcases c1 with ⟨_ | _, s⟩
  .cases s <;> exact ⟨rfl, rfl, fun _ => rfl⟩
  rcases c2 with ⟨_ | _, s⟩
  .cases s <;> exact ⟨rfl, rfl, fun _ => rfl⟩
  rcases c3 with ⟨_ | _, s⟩
  .cases s <;> exact ⟨rfl, rfl, fun _ => rfl⟩
  rcases c4 with ⟨_ | _, s⟩
  .cases s <;> exact ⟨rfl, rfl, fun _ => rfl⟩
  rcases c5 with ⟨_ | _, s⟩
  .cases s <;> exact ⟨rfl, rfl, fun _ => rfl⟩
  rcases c6 with ⟨_ | _, s⟩
  .cases s <;> exact ⟨rfl, rfl, fun _ => rfl⟩
  rcases c7 with ⟨_ | _, s⟩
  .cases s <;> exact ⟨rfl, rfl, fun _ => rfl⟩
  rcases c8 with ⟨_ | _, s⟩
  .cases s <;> exact ⟨rfl, rfl, fun _ => rfl⟩
  rcases c9 with ⟨_ | _, s⟩
  .cases s <;> exact ⟨rfl, rfl, fun _ => rfl⟩
  rcases d1 with ⟨_ | _, s⟩
  .cases s <;> exact ⟨rfl, rfl, fun _ => rfl⟩
  rcases d2 with ⟨_ | _, s⟩
  .cases s <;> exact ⟨rfl, rfl, fun _ => rfl⟩
  rcases d3 with ⟨_ | _, s⟩
  .cases s <;> exact ⟨rfl, rfl, fun _ => rfl⟩
  rcases e1 with ⟨_ | _, s⟩
  .cases s <;> exact ⟨rfl, rfl, fun _ => rfl⟩
  rcases e2 with ⟨_ | _, s⟩
  .cases s <;> exact ⟨rfl, rfl, fun _ => rfl⟩
  rcases e3 with ⟨_ | _, s⟩
  .cases s <;> exact ⟨rfl, rfl, fun _ => rfl⟩
  rcases e4 with ⟨_ | _, s⟩
  .cases s <;> exact ⟨rfl, rfl, fun _ => rfl⟩
  rcases e5 with ⟨_ | _, s⟩
  .cases s <;> exact ⟨rfl, rfl, fun _ => rfl⟩
  cases t
  case true => exact ⟨rfl, rfl, fun _ => rfl⟩
  cases n
  case true => exact ⟨rfl, rfl, fun _ => rfl⟩
  rcases f1 with ⟨_ | _, s⟩
  .cases s <;> exact ⟨rfl, rfl, fun _ => rfl⟩
  rcases f3 with ⟨_ | _, s⟩
  .cases s <;> exact ⟨rfl, rfl, fun _ => rfl⟩
  rcases f4 with ⟨_ | _, s⟩
  .cases s <;> exact ⟨rfl, rfl, fun _ => rfl⟩
  exact ⟨rfl, rfl, fun _ => rfl⟩
 .rcases b1 with ⟨_ | _, s⟩
  .cases s <;> exact ⟨rfl, rfl, fun _ => rfl⟩
  rcases b2 with ⟨_ | _, s⟩
  .cases s <;> exact ⟨rfl, rfl, fun _ => rfl⟩
  rcases b3 with ⟨_ | _, s⟩
  .cases s <;> exact ⟨rfl, rfl, fun _ => rfl⟩
  rcases c1 with ⟨_ | _, s⟩
  .cases s <;> exact ⟨rfl, rfl, fun _ => rfl⟩
  rcases c2 with ⟨_ | _, s⟩
  .cases s <;> exact ⟨rfl, rfl, fun _ => rfl⟩
  rcases c3 with ⟨_ | _, s⟩
  .cases s <;> exact ⟨rfl, rfl, fun _ => rfl⟩
  rcases c4 with ⟨_ | _, s⟩
  .cases s <;> exact ⟨rfl, rfl, fun _ => rfl⟩
  rcases c5 with ⟨_ | _, s⟩
  .cases s <;> exact ⟨rfl, rfl, fun _ => rfl⟩
  rcases c6 with ⟨_ | _, s⟩
  .cases s <;> exact ⟨rfl, rfl, fun _ => rfl⟩
  rcases c7 with ⟨_ | _, s⟩
  .cases s <;> exact ⟨rfl, rfl, fun _ => rfl⟩
  rcases c8 with ⟨_ | _, s⟩
  .cases s <;> exact ⟨rfl, rfl, fun _ => rfl⟩
  rcases c9 with ⟨_ | _, s⟩
  .cases s <;> exact ⟨rfl, rfl, fun _ => rfl⟩
  rcases d1 with ⟨_ | _, s⟩
  .cases s <;> exact ⟨rfl, rfl, fun _ => rfl⟩
  rcases d2 with ⟨_ | _, s⟩
  .cases s <;> exact ⟨rfl, rfl, fun _ => rfl⟩
  rcases d3 with ⟨_ | _, s⟩
  .cases s <;> exact ⟨rfl, rfl, fun _ => rfl⟩
  rcases e1 with ⟨_ | _, s⟩
  .cases s <;> exact ⟨rfl, rfl, fun _ => rfl⟩
  rcases e2 with ⟨_ | _, s⟩
  .cases s <;> exact ⟨rfl, rfl, fun _ => rfl⟩
  rcases e3 with ⟨_ | _, s⟩
  .cases s <;> exact ⟨rfl, rfl, fun _ => rfl⟩
  rcases e4 with ⟨_ | _, s⟩
  .cases s <;> exact ⟨rfl, rfl, fun _ => rfl⟩
  rcases e5 with ⟨_ | _, s⟩
  .cases s <;> exact ⟨rfl, rfl, fun _ => rfl⟩
  cases t
  case true => exact ⟨rfl, rfl, fun _ => rfl⟩
  cases n
  case true => exact ⟨rfl, rfl, fun _ => rfl⟩
  rcases f1 with ⟨_ | _, s⟩
  .cases s <;> exact ⟨rfl, rfl, fun _ => rfl⟩
  rcases f2 with ⟨_ | _, s⟩
  .cases s <;> exact ⟨rfl, rfl, fun _ => rfl⟩
  rcases f3 with ⟨_ | _, s⟩
  .cases s <;> exact ⟨rfl, rfl, fun _ => rfl⟩
  rcases f4 with ⟨_ | _, s⟩
  .cases s <;> exact ⟨rfl, rfl, fun _ => rfl⟩
  exact ⟨rfl, rfl, fun _ => rfl⟩
 .rcases c1 with ⟨_ | _, s⟩
  .cases s <;> exact ⟨rfl, rfl, fun _ => rfl⟩
  rcases c2 with ⟨_ | _, s⟩
  .cases s <;> exact ⟨rfl, rfl, fun _ => rfl⟩
  rcases c3 with ⟨_ | _, s⟩
  .cases s <;> exact ⟨rfl, rfl, fun _ => rfl⟩
  rcases c4 with ⟨_ | _, s⟩
  .cases s <;> exact ⟨rfl, rfl, fun _ => rfl⟩
  rcases c5 with ⟨_ | _, s⟩
  .cases s <;> exact ⟨rfl, rfl, fun _ => rfl⟩
  rcases c6 with ⟨_ | _, s⟩
  .cases s <;> exact ⟨rfl, rfl, fun _ => rfl⟩
  rcases c7 with ⟨_ | _, s⟩
  .cases s <;> exact ⟨rfl, rfl, fun _ => rfl⟩
  rcases c8 with ⟨_ | _, s⟩
  .cases s <;> exact ⟨rfl, rfl, fun _ => rfl⟩
  rcases c9 with ⟨_ | _, s⟩
  .cases s <;> exact ⟨rfl, rfl, fun _ => rfl⟩
  rcases d1 with ⟨_ | _, s⟩
  .cases s <;> exact ⟨rfl, rfl, fun _ => rfl⟩
  rcases d2 with ⟨_ | _, s⟩
  .cases s <;> exact ⟨rfl, rfl, fun _ => rfl⟩
  rcases d3 with ⟨_ | _, s⟩
  .cases s <;> exact ⟨rfl, rfl, fun _ => rfl⟩
  rcases e1 with ⟨_ | _, s⟩
  .cases s <;> exact ⟨rfl, rfl, fun _ => rfl⟩
  rcases e2 with ⟨_ | _, s⟩
  .cases s <;> exact ⟨rfl, rfl, fun _ => rfl⟩
  rcases e3 with ⟨_ | _, s⟩
  .cases s <;> exact ⟨rfl, rfl, fun _ => rfl⟩
  rcases e4 with ⟨_ | _, s⟩
  .cases s <;> exact ⟨rfl, rfl, fun _ => rfl⟩
  rcases e5 with ⟨_ | _, s⟩
  .cases s <;> exact ⟨rfl, rfl, fun _ => rfl⟩
  cases t
  case true => exact ⟨rfl, rfl, fun _ => rfl⟩
  cases n
  case true => exact ⟨rfl, rfl, fun _ => rfl⟩
  rcases f1 with ⟨_ | _, s⟩
  .cases s <;> exact ⟨rfl, rfl, fun _ => rfl⟩
  rcases f3 with ⟨_ | _, s⟩
  .cases s <;> exact ⟨rfl, rfl, fun _ => rfl⟩
  rcases f4 with ⟨_ | _, s⟩
  .cases s <;> exact ⟨rfl, rfl, fun _ => rfl⟩
  exact ⟨rfl, rfl, fun _ => rfl⟩
 .rcases c1 with ⟨_ | _, s⟩
  .cases s <;> exact ⟨rfl, rfl, fun _ => rfl⟩
  rcases c2 with ⟨_ | _, s⟩
  .cases s <;> exact ⟨rfl, rfl, fun _ => rfl⟩
  rcases c3 with ⟨_ | _, s⟩
  .cases s <;> exact ⟨rfl, rfl, fun _ => rfl⟩
  rcases c4 with ⟨_ | _, s⟩
  .cases s <;> exact ⟨rfl, rfl, fun _ => rfl⟩
  rcases c5 with ⟨_ | _, s⟩
  .cases s <;> exact ⟨rfl, rfl, fun _ => rfl⟩
  rcases c6 with ⟨_ | _, s⟩
  .cases s <;> exact ⟨rfl, rfl, fun _ => rfl⟩
  rcases c7 with ⟨_ | _, s⟩
  .cases s <;> exact ⟨rfl, rfl, fun _ => rfl⟩
  rcases c8 with ⟨_ | _, s⟩
  .cases s <;> exact ⟨rfl, rfl, fun _ => rfl⟩
  rcases c9 with ⟨_ | _, s⟩
  .cases s <;> exact ⟨rfl, rfl, fun _ => rfl⟩
  rcases d1 with ⟨_ | _, s⟩
  .cases s <;> exact ⟨rfl, rfl, fun _ => rfl⟩
  rcases d2 with ⟨_ | _, s⟩
  .cases s <;> exact ⟨rfl, rfl, fun _ => rfl⟩
  rcases d3 with ⟨_ | _, s⟩
  .cases s <;> exact ⟨rfl, rfl, fun _ => rfl⟩
  rcases e1 with ⟨_ | _, s⟩
  .cases s <;> exact ⟨rfl, rfl, fun _ => rfl⟩
  rcases e2 with ⟨_ | _, s⟩
  .cases s <;> exact ⟨rfl, rfl, fun _ => rfl⟩
  rcases e3 with ⟨_ | _, s⟩
  .cases s <;> exact ⟨rfl, rfl, fun _ => rfl⟩
  rcases e4 with ⟨_ | _, s⟩
  .cases s <;> exact ⟨rfl, rfl, fun _ => rfl⟩
  rcases e5 with ⟨_ | _, s⟩
  .cases s <;> exact ⟨rfl, rfl, fun _ => rfl⟩
  cases t
  case true => exact ⟨rfl, rfl, fun _ => rfl⟩
  cases n
  case true => exact ⟨rfl, rfl, fun _ => rfl⟩
  rcases f1 with ⟨_ | _, s⟩
  .cases s <;> exact ⟨rfl, rfl, fun _ => rfl⟩
  rcases f2 with ⟨_ | _, s⟩
  .cases s <;> exact ⟨rfl, rfl, fun _ => rfl⟩
  rcases f3 with ⟨_ | _, s⟩
  .cases s <;> exact ⟨rfl, rfl, fun _ => rfl⟩
  rcases f4 with ⟨_ | _, s⟩
  .cases s <;> exact ⟨rfl, rfl, fun _ => rfl⟩
  exact ⟨rfl, rfl, fun _ => rfl⟩
 .rcases b1 with ⟨_ | _, s⟩
  .cases s <;> exact ⟨rfl, rfl, fun _ => rfl⟩
  rcases b2 with ⟨_ | _, s⟩
  .cases s <;> exact ⟨rfl, rfl, fun _ => rfl⟩
  rcases b3 with ⟨_ | _, s⟩
  .cases s <;> exact ⟨rfl, rfl, fun _ => rfl⟩
  rcases e1 with ⟨_ | _, s⟩
  .cases s <;> exact ⟨rfl, rfl, fun _ => rfl⟩
  rcases e2 with ⟨_ | _, s⟩
  .cases s <;> exact ⟨rfl, rfl, fun _ => rfl⟩
  rcases e3 with ⟨_ | _, s⟩
  .cases s <;> exact ⟨rfl, rfl, fun _ => rfl⟩
  rcases e4 with ⟨_ | _, s⟩
  .cases s <;> exact ⟨rfl, rfl, fun _ => rfl⟩
  rcases e5 with ⟨_ | _, s⟩
  .cases s <;> exact ⟨rfl, rfl, fun _ => rfl⟩
  cases t
  case true => exact ⟨rfl, rfl, fun _ => rfl⟩
  cases n
  case true => exact ⟨rfl, rfl, fun _ => rfl⟩
  rcases f1 with ⟨_ | _, s⟩
  .cases s <;> exact ⟨rfl, rfl, fun _ => rfl⟩
  rcases f3 with ⟨_ | _, s⟩
  .cases s <;> exact ⟨rfl, rfl, fun _ => rfl⟩
  rcases f4 with ⟨_ | _, s⟩
  .cases s <;> exact ⟨rfl, rfl, fun _ => rfl⟩
  exact ⟨rfl, rfl, fun _ => rfl⟩
 .rcases b1 with ⟨_ | _, s⟩
  .cases s <;> exact ⟨rfl, rfl, fun _ => rfl⟩
  rcases b2 with ⟨_ | _, s⟩
  .cases s <;> exact ⟨rfl, rfl, fun _ => rfl⟩
  rcases b3 with ⟨_ | _, s⟩
  .cases s <;> exact ⟨rfl, rfl, fun _ => rfl⟩
  rcases e1 with ⟨_ | _, s⟩
  .cases s <;> exact ⟨rfl, rfl, fun _ => rfl⟩
  rcases e2 with ⟨_ | _, s⟩
  .cases s <;> exact ⟨rfl, rfl, fun _ => rfl⟩
  rcases e3 with ⟨_ | _, s⟩
  .cases s <;> exact ⟨rfl, rfl, fun _ => rfl⟩
  rcases e4 with ⟨_ | _, s⟩
  .cases s <;> exact ⟨rfl, rfl, fun _ => rfl⟩
  rcases e5 with ⟨_ | _, s⟩
  .cases s <;> exact ⟨rfl, rfl, fun _ => rfl⟩
  cases t
  case true => exact ⟨rfl, rfl, fun _ => rfl⟩
  cases n
  case true => exact ⟨rfl, rfl, fun _ => rfl⟩
  rcases f1 with ⟨_ | _, s⟩
  .cases s <;> exact ⟨rfl, rfl, fun _ => rfl⟩
  rcases f2 with ⟨_ | _, s⟩
  .cases s <;> exact ⟨rfl, rfl, fun _ => rfl⟩
  rcases f3 with ⟨_ | _, s⟩
  .cases s <;> exact ⟨rfl, rfl, fun _ => rfl⟩
  rcases f4 with ⟨_ | _, s⟩
  .cases s <;> exact ⟨rfl, rfl, fun _ => rfl⟩
  exact ⟨rfl, rfl, fun _ => rfl⟩
 .rcases e1 with ⟨_ | _, s⟩
  .cases s <;> exact ⟨rfl, rfl, fun _ => rfl⟩
  rcases e2 with ⟨_ | _, s⟩
  .cases s <;> exact ⟨rfl, rfl, fun _ => rfl⟩
  rcases e3 with ⟨_ | _, s⟩
  .cases s <;> exact ⟨rfl, rfl, fun _ => rfl⟩
  rcases e4 with ⟨_ | _, s⟩
  .cases s <;> exact ⟨rfl, rfl, fun _ => rfl⟩
  rcases e5 with ⟨_ | _, s⟩
  .cases s <;> exact ⟨rfl, rfl, fun _ => rfl⟩
  cases t
  case true => exact ⟨rfl, rfl, fun _ => rfl⟩
  cases n
  case true => exact ⟨rfl, rfl, fun _ => rfl⟩
  rcases f1 with ⟨_ | _, s⟩
  .cases s <;> exact ⟨rfl, rfl, fun _ => rfl⟩
  rcases f3 with ⟨_ | _, s⟩
  .cases s <;> exact ⟨rfl, rfl, fun _ => rfl⟩
  rcases f4 with ⟨_ | _, s⟩
  .cases s <;> exact ⟨rfl, rfl, fun _ => rfl⟩
  exact ⟨rfl, rfl, fun _ => rfl⟩
 .rcases e1 with ⟨_ | _, s⟩
  .cases s <;> exact ⟨rfl, rfl, fun _ => rfl⟩
  rcases e2 with ⟨_ | _, s⟩
  .cases s <;> exact ⟨rfl, rfl, fun _ => rfl⟩
  rcases e3 with ⟨_ | _, s⟩
  .cases s <;> exact ⟨rfl, rfl, fun _ => rfl⟩
  rcases e4 with ⟨_ | _, s⟩
  .cases s <;> exact ⟨rfl, rfl, fun _ => rfl⟩
  rcases e5 with ⟨_ | _, s⟩
  .cases s <;> exact ⟨rfl, rfl, fun _ => rfl⟩
  cases t
  case true => exact ⟨rfl, rfl, fun _ => rfl⟩
  cases n
  case true => exact ⟨rfl, rfl, fun _ => rfl⟩
  rcases f1 with ⟨_ | _, s⟩
  .cases s <;> exact ⟨rfl, rfl, fun _ => rfl⟩
  rcases f2 with ⟨_ | _, s⟩
  .cases s <;> exact ⟨rfl, rfl, fun _ => rfl⟩
  rcases f3 with ⟨_ | _, s⟩
  .cases s <;> exact ⟨rfl, rfl, fun _ => rfl⟩
  rcases f4 with ⟨_ | _, s⟩
  .cases s <;> exact ⟨rfl, rfl, fun _ => rfl⟩
  exact ⟨rfl, rfl, fun _ => rfl⟩
end Go.Vc
namespace Go.Vc
open Go Go.Eng Go.Ar Go.Rd
def kE (E e : Int) : Int := bif E != 0 then E else bif e != 0 then e else E
def kI (E e x : Int) : Int := bif E != 0 then 0 else bif e != 0 then 0 else x
def kV (E e : Int) (v : Ve) : Ve := ⟨kI E e v.a, kI E e v.b, kI E e v.c, kI E e v.d, kI E e v.e, kI E e v.f⟩
theorem kE_fe (E e : Int) : kE E e = fe E e := by
 unfold kE fe
 simp only [bne]
 cases hE : E == 0 with
 | false => rfl
 | true =>
  cases he : e == 0 with
  | false => rfl
  | true => have := beq_iff_eq.1 hE; have := beq_iff_eq.1 he; subst_vars; rfl
theorem fe_z {x y : Int} : fe x y = 0 ↔ x = 0 /\ y = 0 := by
 unfold fe
 cases h : x == 0 with
 | true => have := beq_iff_eq.1 h; simp [this]
 | false =>
  have : x ≠ 0 := by simpa using h
  simp [this]
theorem kE_c {E e e' : Int} (h : E = 0 -> e = e') : kE E e = fe E e' := by
 rw [kE_fe]
 unfold fe
 cases hE : E == 0 with
 | false => rfl
 | true => exact h (beq_iff_eq.1 hE)
theorem kI_z {E e x : Int} (h : fe E e = 0) : kI E e x = x := by
 obtain ⟨rfl, rfl⟩ := fe_z.1 h
 rfl
theorem kV_z {E e : Int} {v : Ve} (h : fe E e = 0) : kV E e v = v := by
 unfold kV
 simp only [kI_z h]
namespace BX
variable (X : BX)
def E1 : Int := kE (X.sl 4) X.n1.e
def E2 : Int := kE X.E1 X.n2.e
def nw' : Ve := ⟨kI (X.sl 4) X.n1.e X.n1.lo, kI (X.sl 4) X.n1.e X.n1.hi, kI X.E1 X.n2.e X.n2.lo, kI X.E1 X.n2.e X.n2.hi, 4294967296, 4294967296⟩
def E3 : Int := kE X.E2 (X.F.uO X.nw')
def u' : Ve := kV X.E2 (X.F.uO X.nw') (X.F.uV X.nw')
def k' : Sp := X.F.dt X.w X.u'
def E4 : Int := kE X.E3 X.k'.e
def kl : Int := kI X.E3 X.k'.e X.k'.lo
def kh : Int := kI X.E3 X.k'.e X.k'.hi
def E5 : Int := kE X.E4 X.s1.e
def E6 : Int := kE X.E5 X.s2.e
def t' : Ve := ⟨bif !X.mir then kI X.E4 X.s1.e X.s1.lo else X.w.a, bif !X.mir then kI X.E4 X.s1.e X.s1.hi else X.w.b, bif !X.mir then kI X.E5 X.s2.e X.s2.lo else X.w.c, bif !X.mir then kI X.E5 X.s2.e X.s2.hi else X.w.d, bif !X.mir then kI X.E6 X.s3.e X.s3.lo else X.w.e, bif !X.mir then kI X.E6 X.s3.e X.s3.hi else X.w.f⟩
def E7 : Int := bif !X.mir then kE X.E6 X.s3.e else X.E4
def E8 : Int := kE X.E7 X.w1.e
def E9 : Int := kE X.E8 X.q1.e
def E10 : Int := kE X.E9 X.q2.e
def q3' : Sp := X.F.ad (kI X.E8 X.q1.e X.q1.lo) (kI X.E8 X.q1.e X.q1.hi) (kI X.E9 X.q2.e X.q2.lo) (kI X.E9 X.q2.e X.q2.hi)
def E11 : Int := kE X.E10 X.q3'.e
def w2' : Sp := X.F.sc (kI X.E10 X.q3'.e X.q3'.lo) (kI X.E10 X.q3'.e X.q3'.hi) (IntKind.i64.wrap (4 * X.S.f1)) 10000000
def E12 : Int := kE X.E11 X.w2'.e
def w3' : Sp := X.F.ad (kI X.E7 X.w1.e X.w1.lo) (kI X.E7 X.w1.e X.w1.hi) (kI X.E11 X.w2'.e X.w2'.lo) (kI X.E11 X.w2'.e X.w2'.hi)
def E13 : Int := kE X.E12 X.w3'.e
def w4' : Sp := X.F.sc (kI X.E12 X.w3'.e X.w3'.lo) (kI X.E12 X.w3'.e X.w3'.hi) (IntKind.i64.wrap (X.S.o * X.l)) 1000000000
def E14 : Int := kE X.E13 X.w4'.e
def w5' : Sp := X.F.sc (kI X.E13 X.w4'.e X.w4'.lo) (kI X.E13 X.w4'.e X.w4'.hi) 10000000 X.b
def E15 : Int := kE X.E14 X.w5'.e
def wl : Int := kI X.E14 X.w5'.e X.w5'.lo
def wh : Int := kI X.E14 X.w5'.e X.w5'.hi
def m1' : Sp := X.F.mu X.v.a X.v.b X.wl X.wh
def E16 : Int := kE X.E15 X.m1'.e
def m2' : Sp := X.F.ad X.t'.a X.t'.b (kI X.E15 X.m1'.e X.m1'.lo) (kI X.E15 X.m1'.e X.m1'.hi)
def E17 : Int := kE X.E16 X.m2'.e
def m3' : Sp := X.F.mu X.v.c X.v.d X.wl X.wh
def E18 : Int := kE X.E17 X.m3'.e
def m4' : Sp := X.F.ad X.t'.c X.t'.d (kI X.E17 X.m3'.e X.m3'.lo) (kI X.E17 X.m3'.e X.m3'.hi)
def E19 : Int := bif X.S.o != 0 then kE X.E18 X.m4'.e else X.E7
def av' : Ve := ⟨bif X.S.o != 0 then kI X.E16 X.m2'.e X.m2'.lo else X.t'.a, bif X.S.o != 0 then kI X.E16 X.m2'.e X.m2'.hi else X.t'.b, bif X.S.o != 0 then kI X.E18 X.m4'.e X.m4'.lo else X.t'.c, bif X.S.o != 0 then kI X.E18 X.m4'.e X.m4'.hi else X.t'.d, bif X.S.o != 0 then X.t'.e else X.t'.e, bif X.S.o != 0 then X.t'.f else X.t'.f⟩
def d1' : Sp := X.F.dt X.av' X.u'
def E20 : Int := kE X.E19 X.d1'.e
def dl : Int := kI X.E19 X.d1'.e X.d1'.lo
def dh : Int := kI X.E19 X.d1'.e X.d1'.hi
def E21 : Int := kE X.E20 (X.F.mO X.u' X.dl X.dh)
def mv1' : Ve := kV X.E20 (X.F.mO X.u' X.dl X.dh) (X.F.mV X.u' X.dl X.dh)
def E22 : Int := kE X.E21 (X.F.bO X.av' X.mv1')
def bv' : Ve := kV X.E21 (X.F.bO X.av' X.mv1') (X.F.bV X.av' X.mv1')
def d2' : Sp := X.F.dt X.bv' X.bv'
def E23 : Int := kE X.E22 X.d2'.e
def h' : Sp := X.F.su 4294967296 4294967296 (kI X.E22 X.d2'.e X.d2'.lo) (kI X.E22 X.d2'.e X.d2'.hi)
def E24 : Int := kE X.E23 X.h'.e
def hl : Int := kI X.E23 X.h'.e X.h'.lo
def hh : Int := kI X.E23 X.h'.e X.h'.hi
def r' : Sp := X.F.rt X.hl X.hh
def E25 : Int := kE X.E24 X.r'.e
def fl' : Bool := !(decide (X.kh < 0) == X.mir)
def rl1 : Int := kI X.E24 X.r'.e X.r'.lo
def rh1 : Int := kI X.E24 X.r'.e X.r'.hi
def r2' : Sp := X.F.ng X.rl1 X.rh1
def E26 : Int := bif X.fl' then kE X.E25 X.r2'.e else X.E25
def rl' : Int := bif X.fl' then kI X.E25 X.r2'.e X.r2'.lo else X.rl1
def rh' : Int := bif X.fl' then kI X.E25 X.r2'.e X.r2'.hi else X.rh1
def E27 : Int := kE X.E26 (X.F.mO X.u' X.rl' X.rh')
def mv2' : Ve := kV X.E26 (X.F.mO X.u' X.rl' X.rh') (X.F.mV X.u' X.rl' X.rh')
def E28 : Int := kE X.E27 (X.F.aO X.bv' X.mv2')
def F1 : Int := fe (fe (fe (fe (X.sl 4) X.n1.e) X.n2.e) X.uo) X.k.e
def Fm : Int := bif !X.mir then fe (fe (fe X.F1 X.s1.e) X.s2.e) X.s3.e else X.F1
def Fc : Int := fe (fe (fe (fe X.Fm X.q1.e) X.q2.e) X.q3.e) X.w1.e
def Fo : Int := bif !X.o0 then fe (fe (fe (fe (fe (fe (fe (fe X.Fc X.w2.e) X.w3.e) X.w4.e) X.w5.e) X.m1.e) X.m2.e) X.m3.e) X.m4.e else X.Fm
def F2 : Int := fe (fe (fe (fe (fe X.Fo X.d1.e) X.mo1) X.bo) X.d2.e) X.h.e
def Ff : Int := bif X.fl then fe (fe X.F2 X.r.e) X.r2.e else fe X.F2 X.r.e
def F3 : Int := fe (fe X.Ff X.mo2) X.ao
end BX
structure BX.law (X : BX) : Prop where
 q1 : X.q1.e = 0 ∨ X.q1.e = 6
 q2 : X.q2.e = 0 ∨ X.q2.e = 6
 q3 : X.q1.e = 0 -> X.q2.e = 0 -> X.q3.e = 0 ∨ X.q3.e = 6
 w1 : X.w1.e = 0 ∨ X.w1.e = 6
namespace BX
variable {X : BX}
theorem e1 : X.E1 = fe (X.sl 4) X.n1.e := kE_fe _ _
theorem e2 : X.E2 = fe X.E1 X.n2.e := kE_fe _ _
theorem z_nw (h : X.E2 = 0) : X.nw' = X.nw := by
 have h1 := e1 (X := X); have h2 := e2 (X := X)
 rw [h2] at h
 obtain ⟨a, b⟩ := fe_z.1 h
 have c := h1 ▸ a
 unfold nw' nw
 simp only [kI_z c, kI_z h]
theorem e3 : X.E3 = fe X.E2 X.uo := kE_c fun h => by rw [z_nw h]; rfl
theorem z3 (h : X.E3 = 0) : X.u' = X.u := by
 rw [e3] at h
 have a := z_nw (fe_z.1 h).1
 have c : X.F.uO X.nw' = X.uo := by rw [a]; rfl
 unfold u'
 rw [c, a, kV_z h]
 rfl
theorem z_k (h : X.E3 = 0) : X.k' = X.k := by unfold k' k; rw [z3 h]
theorem e4 : X.E4 = fe X.E3 X.k.e := kE_c fun h => by rw [z_k h]
theorem z4 (h : X.E4 = 0) : X.kl = X.k.lo /\ X.kh = X.k.hi := by
 rw [e4] at h
 have a := z_k (fe_z.1 h).1
 unfold kl kh
 rw [a, kI_z h, kI_z h]
 exact ⟨rfl, rfl⟩
theorem f1 : X.E4 = X.F1 := by rw [e4, e3, e2, e1]; rfl
theorem e5 : X.E5 = fe X.E4 X.s1.e := kE_fe _ _
theorem e6 : X.E6 = fe X.E5 X.s2.e := kE_fe _ _
theorem e7 : X.E7 = bif !X.mir then fe X.E6 X.s3.e else X.E4 := by unfold E7; rw [kE_fe]
theorem fm : X.E7 = X.Fm := by rw [e7, e6, e5, f1]; rfl
theorem z7 (h : X.E7 = 0) : X.t' = X.t := by
 rw [e7] at h
 unfold t' t
 cases hm : X.mir with
 | true => rfl
 | false =>
  rw [hm] at h
  have h : fe X.E6 X.s3.e = 0 := h
  have a := (fe_z.1 h).1
  rw [e6] at a
  have b := (fe_z.1 a).1
  rw [e5] at b
  simp only [kI_z h, kI_z a, kI_z b]
theorem z74 (h : X.E7 = 0) : X.E4 = 0 := by
 rw [e7] at h
 cases hm : X.mir with
 | true => rw [hm] at h; exact h
 | false =>
  rw [hm] at h
  have h : fe X.E6 X.s3.e = 0 := h
  have a := (fe_z.1 h).1
  rw [e6] at a
  have b := (fe_z.1 a).1
  rw [e5] at b
  exact (fe_z.1 b).1
theorem e8 : X.E8 = fe X.E7 X.w1.e := kE_fe _ _
theorem e9 : X.E9 = fe X.E8 X.q1.e := kE_fe _ _
theorem e10 : X.E10 = fe X.E9 X.q2.e := kE_fe _ _
theorem z_q3 (h : X.E10 = 0) : X.q3' = X.q3 := by
 rw [e10] at h
 have a := (fe_z.1 h).1
 rw [e9] at a
 unfold q3' q3
 simp only [kI_z h, kI_z a]
theorem e11 : X.E11 = fe X.E10 X.q3.e := kE_c fun h => by rw [z_q3 h]
theorem z_w2 (h : X.E11 = 0) : X.w2' = X.w2 := by
 rw [e11] at h
 unfold w2' w2
 rw [z_q3 (fe_z.1 h).1]
 simp only [kI_z h]
theorem e12 : X.E12 = fe X.E11 X.w2.e := kE_c fun h => by rw [z_w2 h]
theorem z11 (h : X.E11 = 0) : X.E8 = 0 := by
 rw [e11] at h
 have a := (fe_z.1 h).1
 rw [e10] at a
 have b := (fe_z.1 a).1
 rw [e9] at b
 exact (fe_z.1 b).1
theorem z_w3 (h : X.E12 = 0) : X.w3' = X.w3 := by
 rw [e12] at h
 have a := (fe_z.1 h).1
 have b := z11 a
 rw [e8] at b
 unfold w3' w3
 rw [z_w2 a]
 simp only [kI_z h, kI_z b]
theorem e13 : X.E13 = fe X.E12 X.w3.e := kE_c fun h => by rw [z_w3 h]
theorem z_w4 (h : X.E13 = 0) : X.w4' = X.w4 := by
 rw [e13] at h
 unfold w4' w4
 rw [z_w3 (fe_z.1 h).1]
 simp only [kI_z h]
theorem e14 : X.E14 = fe X.E13 X.w4.e := kE_c fun h => by rw [z_w4 h]
theorem z_w5 (h : X.E14 = 0) : X.w5' = X.w5 := by
 rw [e14] at h
 unfold w5' w5
 rw [z_w4 (fe_z.1 h).1]
 simp only [kI_z h]
theorem e15 : X.E15 = fe X.E14 X.w5.e := kE_c fun h => by rw [z_w5 h]
theorem z15 (h : X.E15 = 0) : X.wl = X.w5.lo /\ X.wh = X.w5.hi := by
 rw [e15] at h
 unfold wl wh
 rw [z_w5 (fe_z.1 h).1]
 exact ⟨kI_z h, kI_z h⟩
theorem z_m1 (h : X.E15 = 0) : X.m1' = X.m1 := by
 unfold m1' m1
 rw [(z15 h).1, (z15 h).2]
theorem e16 : X.E16 = fe X.E15 X.m1.e := kE_c fun h => by rw [z_m1 h]
theorem z15_7 (h : X.E15 = 0) : X.E7 = 0 := by
 rw [e15] at h
 have a := (fe_z.1 h).1
 rw [e14] at a
 have b := (fe_z.1 a).1
 rw [e13] at b
 have c := (fe_z.1 b).1
 rw [e12] at c
 have d := z11 (fe_z.1 c).1
 rw [e8] at d
 exact (fe_z.1 d).1
theorem z_m2 (h : X.E16 = 0) : X.m2' = X.m2 := by
 rw [e16] at h
 have a := (fe_z.1 h).1
 unfold m2' m2
 rw [z_m1 a, z7 (z15_7 a)]
 simp only [kI_z h]
theorem e17 : X.E17 = fe X.E16 X.m2.e := kE_c fun h => by rw [z_m2 h]
theorem z17_15 (h : X.E17 = 0) : X.E16 = 0 /\ X.E15 = 0 := by
 rw [e17] at h
 have a := (fe_z.1 h).1
 refine ⟨a, ?_⟩
 rw [e16] at a
 exact (fe_z.1 a).1
theorem z_m3 (h : X.E17 = 0) : X.m3' = X.m3 := by
 have a := z15 (z17_15 h).2
 unfold m3' m3
 rw [a.1, a.2]
theorem e18 : X.E18 = fe X.E17 X.m3.e := kE_c fun h => by rw [z_m3 h]
theorem z_m4 (h : X.E18 = 0) : X.m4' = X.m4 := by
 rw [e18] at h
 have a := (fe_z.1 h).1
 unfold m4' m4
 rw [z_m3 a, z7 (z15_7 (z17_15 a).2)]
 simp only [kI_z h]
theorem o_ne : (X.S.o != 0) = !X.o0 := rfl
theorem e19 : X.E19 = bif !X.o0 then fe X.E18 X.m4.e else X.E7 := by
 unfold E19
 rw [o_ne, kE_c (e' := X.m4.e) fun h => by rw [z_m4 h]]
theorem fc (L : X.law) : fe X.E10 X.q3.e = X.Fc := by
 unfold Fc
 rw [e10, e9, e8, fm]
 obtain ⟨l1, l2, l3, l4⟩ := L
 have go : ∀ x : Int, fe 0 x = x := fun _ => rfl
 have stop : ∀ x y : Int, x ≠ 0 -> fe x y = x := fun x y h => by
  unfold fe
  rw [show (x == 0) = false by simpa using h]; rfl
 by_cases hm : X.Fm = 0
 .rw [hm]
  simp only [go]
  have six : ∀ y : Int, fe 6 y = 6 := fun _ => rfl
  rcases l4 with w | w <;> rw [w] <;> rcases l1 with a | a <;> rw [a] <;> simp only [go, six] <;> rcases l2 with b | b <;> rw [b] <;> simp only [go, six] <;> (rcases l3 a b with c | c <;> rw [c]) <;> simp only [go, six]
 .simp only [stop _ _ hm]
theorem fo (L : X.law) : X.E19 = X.Fo := by
 rw [e19, e18, e17, e16, e15, e14, e13, e12, e11, fc L, fm]
 rfl
theorem z19 (h : X.E19 = 0) : X.av' = X.av /\ X.E7 = 0 := by
 rw [e19] at h
 unfold av' av
 simp only [o_ne]
 cases ho : X.o0 with
 | true =>
  rw [ho] at h
  have h : X.E7 = 0 := h
  rw [z7 h]
  exact ⟨rfl, h⟩
 | false =>
  rw [ho] at h
  have h : fe X.E18 X.m4.e = 0 := h
  have a := (fe_z.1 h).1
  have a' := a
  rw [e18] at a
  have b := (fe_z.1 a).1
  have c := z17_15 b
  have d := z15_7 c.2
  have b' := b
  rw [e17] at b
  rw [z_m4 a', z_m2 c.1, z7 d]
  simp only [kI_z h, kI_z b, Bool.not_false, cond_true, cond_false]
  exact ⟨trivial, d⟩
theorem z_d1 (h : X.E19 = 0) : X.d1' = X.d1 := by
 have a := z19 h
 have b := z74 a.2
 rw [e4] at b
 unfold d1' d1
 rw [a.1, z3 (fe_z.1 b).1]
theorem e20 : X.E20 = fe X.E19 X.d1.e := kE_c fun h => by rw [z_d1 h]
theorem z_u (h : X.E19 = 0) : X.u' = X.u := by
 have b := z74 (z19 h).2
 rw [e4] at b
 exact z3 (fe_z.1 b).1
theorem z20 (h : X.E20 = 0) : X.E19 = 0 /\ X.dl = X.d1.lo /\ X.dh = X.d1.hi := by
 rw [e20] at h
 have a := (fe_z.1 h).1
 unfold dl dh
 rw [z_d1 a]
 exact ⟨a, kI_z h, kI_z h⟩
theorem z_mo1 (h : X.E20 = 0) : X.F.mO X.u' X.dl X.dh = X.mo1 := by
 obtain ⟨a, b, c⟩ := z20 h
 rw [z_u a, b, c]
 rfl
theorem e21 : X.E21 = fe X.E20 X.mo1 := kE_c z_mo1
theorem z21 (h : X.E21 = 0) : X.E19 = 0 /\ X.mv1' = X.mv1 := by
 rw [e21] at h
 have a := (fe_z.1 h).1
 obtain ⟨b, c, d⟩ := z20 a
 unfold mv1'
 rw [z_mo1 a, kV_z h, z_u b, c, d]
 exact ⟨b, rfl⟩
theorem z_bo (h : X.E21 = 0) : X.F.bO X.av' X.mv1' = X.bo := by
 obtain ⟨a, b⟩ := z21 h
 rw [b, (z19 a).1]
 rfl
theorem e22 : X.E22 = fe X.E21 X.bo := kE_c z_bo
theorem z22 (h : X.E22 = 0) : X.E19 = 0 /\ X.bv' = X.bv := by
 rw [e22] at h
 have a := (fe_z.1 h).1
 obtain ⟨b, c⟩ := z21 a
 unfold bv'
 rw [z_bo a, kV_z h, c, (z19 b).1]
 exact ⟨b, rfl⟩
theorem z_d2 (h : X.E22 = 0) : X.d2' = X.d2 := by
 unfold d2' d2
 rw [(z22 h).2]
theorem e23 : X.E23 = fe X.E22 X.d2.e := kE_c fun h => by rw [z_d2 h]
theorem z_h (h : X.E23 = 0) : X.h' = X.h := by
 rw [e23] at h
 have a := (fe_z.1 h).1
 unfold h'
 rw [z_d2 a, kI_z h, kI_z h]
 rfl
theorem e24 : X.E24 = fe X.E23 X.h.e := kE_c fun h => by rw [z_h h]
theorem f2 (L : X.law) : X.E24 = X.F2 := by rw [e24, e23, e22, e21, e20, fo L]; rfl
theorem z24 (h : X.E24 = 0) : X.E22 = 0 /\ X.hl = X.h.lo /\ X.hh = X.h.hi := by
 rw [e24] at h
 have a := (fe_z.1 h).1
 unfold hl hh
 rw [z_h a]
 rw [e23] at a
 exact ⟨(fe_z.1 a).1, kI_z h, kI_z h⟩
theorem z_r (h : X.E24 = 0) : X.r' = X.r := by
 obtain ⟨_, b, c⟩ := z24 h
 unfold r'
 rw [b, c]
 rfl
theorem e25 : X.E25 = fe X.E24 X.r.e := kE_c fun h => by rw [z_r h]
theorem z25 (h : X.E25 = 0) : X.E24 = 0 /\ X.rl1 = X.r.lo /\ X.rh1 = X.r.hi := by
 rw [e25] at h
 have a := (fe_z.1 h).1
 unfold rl1 rh1
 rw [z_r a]
 exact ⟨a, kI_z h, kI_z h⟩
theorem z_r2 (h : X.E25 = 0) : X.r2' = X.r2 := by
 obtain ⟨_, b, c⟩ := z25 h
 unfold r2'
 rw [b, c]
 rfl
theorem z_fl (h : X.E4 = 0) : X.fl' = X.fl := by
 unfold fl' fl
 rw [(z4 h).2]
theorem e26 (h : X.E4 = 0) : X.E26 = bif X.fl then fe X.E25 X.r2.e else X.E25 := by
 unfold E26
 rw [z_fl h, kE_c (e' := X.r2.e) fun h => by rw [z_r2 h]]
theorem z26 (h0 : X.E4 = 0) (h : X.E26 = 0) : X.E24 = 0 /\ X.rl' = X.rl /\ X.rh' = X.rh := by
 rw [e26 h0] at h
 unfold rl' rh' rl rh
 rw [z_fl h0]
 cases hf : X.fl with
 | true =>
  rw [hf] at h
  have h : fe X.E25 X.r2.e = 0 := h
  have a := (fe_z.1 h).1
  have b := z25 a
  rw [z_r2 a]
  simp only [kI_z h, cond_true]
  exact ⟨b.1, trivial, trivial⟩
 | false =>
  rw [hf] at h
  exact z25 h
theorem z_mo2 (h0 : X.E4 = 0) (h : X.E26 = 0) : X.F.mO X.u' X.rl' X.rh' = X.mo2 := by
 obtain ⟨a, b, c⟩ := z26 h0 h
 rw [b, c, z_u (z22 (z24 a).1).1]
 rfl
theorem e27 (h0 : X.E4 = 0) : X.E27 = fe X.E26 X.mo2 := kE_c (z_mo2 h0)
theorem z27 (h0 : X.E4 = 0) (h : X.E27 = 0) : X.E22 = 0 /\ X.mv2' = X.mv2 := by
 rw [e27 h0] at h
 have a := (fe_z.1 h).1
 obtain ⟨b, c, d⟩ := z26 h0 a
 have e := (z24 b).1
 unfold mv2'
 rw [z_mo2 h0 a, kV_z h, c, d, z_u (z22 e).1]
 exact ⟨e, rfl⟩
theorem z_ao (h0 : X.E4 = 0) (h : X.E27 = 0) : X.F.aO X.bv' X.mv2' = X.ao := by
 obtain ⟨a, b⟩ := z27 h0 h
 rw [b, (z22 a).2]
 rfl
theorem e28 (h0 : X.E4 = 0) : X.E28 = fe X.E27 X.ao := kE_c (z_ao h0)
theorem f3 (L : X.law) (h0 : X.E4 = 0) : X.E28 = X.F3 := by
 rw [e28 h0, e27 h0, e26 h0, e25, f2 L]; rfl
theorem eb_fe (x y : Int) : eb (fe x y) = eF (eb x) (eb y) := by
 unfold eb fe eF
 cases h : x == 0 with
 | true => simp only [cond_true, Bool.true_and]
 | false => simp only [cond_false, Bool.false_and, h]
theorem eb_if (c : Bool) (x y : Int) : eb (bif c then x else y) = bif c then eb x else eb y := by cases c <;> rfl
theorem eb1 : eb X.F1 = X.bt.R1 := by unfold F1; simp only [eb_fe]; rfl
theorem ebm : eb X.Fm = X.bt.Rm := by unfold Fm; simp only [eb_if, eb_fe, eb1]; rfl
theorem ebo : eb X.Fo = X.bt.Ro := by unfold Fo Fc; simp only [eb_if, eb_fe, ebm]; rfl
theorem eb2 : eb X.F2 = X.bt.R2 := by unfold F2; simp only [eb_fe, ebo]; rfl
theorem ebf : eb X.Ff = X.bt.Rf := by unfold Ff; simp only [eb_if, eb_fe, eb2]; rfl
theorem eb3 : eb X.F3 = X.bt.R3 := by unfold F3; simp only [eb_fe, ebf]; rfl
end BX
end Go.Vc
namespace Go.Vc
open Go Go.Eng Go.Ar Go.Rd
def okSq (a b n d : Int) : Prop := okSp a b = true -> okR n d = true -> abH a b * sg n n < 18446744073709551615 * d
theorem sg_nn (n : Int) : 0 <= sg n n := by
 unfold sg
 cases h : decide (n < 0) with
 | true => have := of_decide_eq_true h; show 0 <= -n; omega
 | false => have := of_decide_eq_false h; show 0 <= n; omega
theorem okSq_of {a b n d : Int} (k : okSc n d) : okSq a b n d := fun h1 h2 => by
 have := k h2
 have p := abH_le h1
 have := Int.mul_le_mul_of_nonneg_right p.2 (sg_nn n)
 omega
structure BO where
 v : Ve
 c : Int
 e : Int
def cz (f : Int -> Int) (v : Ve) : Ve := ⟨f v.a, f v.b, f v.c, f v.d, f v.e, f v.f⟩
namespace BX
variable (X : BX)
def bi : Bool := bif decide ((if X.b < X.a then X.b else X.a) < 10000000) then true else bif decide ((if X.b > X.a then X.b else X.a) > 40000000) then true else bif decide (X.l < 300000) then true else decide (X.l > 2500000)
def vz : Bool := !(X.F.vc X.v != 0) && !(X.F.vc X.w != 0)
def fr (x y z : Int) : Int := bif X.bi then x else bif X.vz then z else y
def er : Int := bif X.F.vc X.v != 0 then X.F.vc X.v else X.F.vc X.w
def ri : Bool := bif decide (X.a < 10000000) then true else bif decide (X.a > 40000000) then true else bif decide (X.b < 10000000) then true else bif decide (X.b > 40000000) then true else bif decide (X.l < 300000) then true else decide (X.l > 2500000)
def sk3 (v : Ve) : Bool := !bif X.F.sk v.a v.b != 0 || !(X.F.sk v.a v.b != 0) && (X.F.sk v.c v.d != 0 || !(X.F.sk v.c v.d != 0) && X.F.sk v.e v.f != 0) then false else true
def i1 : Sp := X.F.sc X.v.a X.v.b X.S.c 1000000000
def i2 : Sp := X.F.sc X.i1.lo X.i1.hi 10000000 X.b
def i3 : Sp := X.F.sc X.v.c X.v.d X.S.c 1000000000
def i4 : Sp := X.F.sc X.i3.lo X.i3.hi 10000000 X.b
def bk : Bool := decide (X.w.f < 0)
def i5 : Sp := X.F.ng X.i2.lo X.i2.hi
def i6 : Sp := X.F.ng X.i4.lo X.i4.hi
def xl : Int := bif X.bk then X.i5.lo else X.i2.lo
def xh : Int := bif X.bk then X.i5.hi else X.i2.hi
def yl : Int := bif X.bk then X.i6.lo else X.i4.lo
def yh : Int := bif X.bk then X.i6.hi else X.i4.hi
def i7 : Sp := X.F.di X.w.a X.w.b X.w.e X.w.f
def i8 : Sp := X.F.su X.i7.lo X.i7.hi X.xl X.xh
def i9 : Sp := X.F.di X.w.c X.w.d X.w.e X.w.f
def i10 : Sp := X.F.su X.i9.lo X.i9.hi X.yl X.yh
def iw : Ve := ⟨X.i8.lo, X.i8.hi, X.i10.lo, X.i10.hi, 4294967296, 4294967296⟩
def io : Int := X.F.uO X.iw
def iu : Ve := X.F.uV X.iw
def jo : Int := X.F.nO X.iu
def jv : Ve := X.F.nV X.iu
end BX
structure IT where
 a1 : Eb
 a2 : Eb
 a3 : Eb
 a4 : Eb
 k : Bool
 b1 : Eb
 b2 : Eb
 c1 : Eb
 c2 : Eb
 c3 : Eb
 c4 : Eb
 c5 : Eb
 c6 : Eb
namespace IT
variable (B : IT)
def p47 : Bool := B.a1.z && B.a2.z
def p410 : Bool := B.p47 && (B.a3.z && B.a4.z)
def p418 : Bool := bif B.k then B.b1.z && B.b2.z else true
def p423 : Bool := B.c1.z && B.c2.z
def ok : Bool := B.p410 && (B.p418 && (B.p423 && (B.c3.z && B.c4.z) && (B.c5.z && bif B.k then B.c6.z else true)))
def g5 : Bool := B.p410 && (B.p418 && (B.p423 && (B.c3.z && B.c4.z) && (B.c5.z && (B.k && (!B.c6.z && B.c6.s)) || !B.c5.z && B.c5.s) || (B.p423 && (!B.c3.z && B.c3.s || B.c3.z && (!B.c4.z && B.c4.s)) || (!B.c1.z && B.c1.s || B.c1.z && (!B.c2.z && B.c2.s)))) || B.k && (!B.b1.z && B.b1.s || B.b1.z && (!B.b2.z && B.b2.s))) || (B.a1.z && (!B.a2.z && B.a2.s) || !B.a1.z && B.a1.s || B.p47 && (B.a3.z && (!B.a4.z && B.a4.s) || !B.a3.z && B.a3.s))
end IT
namespace BX
variable (X : BX)
def it : IT := ⟨eb X.i1.e, eb X.i2.e, eb X.i3.e, eb X.i4.e, X.bk, eb X.i5.e, eb X.i6.e, eb X.i7.e, eb X.i8.e, eb X.i9.e, eb X.i10.e, eb X.io, eb X.jo⟩
def iv : Ve := ⟨bif X.bk then X.jv.a else X.iu.a, bif X.bk then X.jv.b else X.iu.b, bif X.bk then X.jv.c else X.iu.c, bif X.bk then X.jv.d else X.iu.d, bif X.bk then X.jv.e else X.iu.e, bif X.bk then X.jv.f else X.iu.f⟩
def an1 : BO := ⟨cz (fun z => X.fr 0 0 (X.bt.pc 0 0 0 z)) X.out, X.fr 0 0 (X.bt.pc 2 5 3 0), X.fr 2 X.er (X.bt.pc 9 9 9 0)⟩
def an3 : BO := ⟨cz (fun z => X.fr 0 0 z) X.w, 0, X.fr 2 X.er 0⟩
def an4 : BO := ⟨cz (fun z => X.fr 0 0 (bif X.it.ok then z else 0)) X.iv, X.fr 0 0 (bif X.it.ok then 0 else bif X.it.g5 then 5 else 2), X.fr 2 X.er (bif X.it.ok then 0 else 9)⟩
def ans (r : Bool) : BO := bif !r then ⟨⟨0, 0, 0, 0, 0, 0⟩, 0, 110⟩ else bif X.S.kd == 3 then X.an3 else bif X.S.kd == 4 then X.an4 else X.an1
def k1 : Int := bif X.i1.e != 0 then X.i1.e else 0
def i2' : Sp := X.F.sc (bif X.i1.e != 0 then 0 else X.i1.lo) (bif X.i1.e != 0 then 0 else X.i1.hi) 10000000 X.b
def k2 : Int := kE X.k1 X.i2'.e
def k3 : Int := kE X.k2 X.i3.e
def i4' : Sp := X.F.sc (kI X.k2 X.i3.e X.i3.lo) (kI X.k2 X.i3.e X.i3.hi) 10000000 X.b
def k4 : Int := kE X.k3 X.i4'.e
def al : Int := kI X.k1 X.i2'.e X.i2'.lo
def ah : Int := kI X.k1 X.i2'.e X.i2'.hi
def cl : Int := kI X.k3 X.i4'.e X.i4'.lo
def ch : Int := kI X.k3 X.i4'.e X.i4'.hi
def i5' : Sp := X.F.ng X.al X.ah
def k5 : Int := kE X.k4 X.i5'.e
def i6' : Sp := X.F.ng X.cl X.ch
def kb : Int := bif X.bk then kE X.k5 X.i6'.e else X.k4
def xl' : Int := bif X.bk then kI X.k4 X.i5'.e X.i5'.lo else X.al
def xh' : Int := bif X.bk then kI X.k4 X.i5'.e X.i5'.hi else X.ah
def yl' : Int := bif X.bk then kI X.k5 X.i6'.e X.i6'.lo else X.cl
def yh' : Int := bif X.bk then kI X.k5 X.i6'.e X.i6'.hi else X.ch
def k7 : Int := kE X.kb X.i7.e
def i8' : Sp := X.F.su (kI X.kb X.i7.e X.i7.lo) (kI X.kb X.i7.e X.i7.hi) X.xl' X.xh'
def k8 : Int := kE X.k7 X.i8'.e
def k9 : Int := kE X.k8 X.i9.e
def i10' : Sp := X.F.su (kI X.k8 X.i9.e X.i9.lo) (kI X.k8 X.i9.e X.i9.hi) X.yl' X.yh'
def k10 : Int := kE X.k9 X.i10'.e
def iw' : Ve := ⟨kI X.k7 X.i8'.e X.i8'.lo, kI X.k7 X.i8'.e X.i8'.hi, kI X.k9 X.i10'.e X.i10'.lo, kI X.k9 X.i10'.e X.i10'.hi, 4294967296, 4294967296⟩
def k11 : Int := kE X.k10 (X.F.uO X.iw')
def iu' : Ve := kV X.k10 (X.F.uO X.iw') (X.F.uV X.iw')
def k12 : Int := bif X.bk then kE X.k11 (X.F.nO X.iu') else X.k11
variable {X}
theorem bt_or (p q : Bool) : (bif p then true else q) = (p || q) := by cases p <;> rfl
theorem bi_ri : X.bi = X.ri := by
 unfold bi ri
 simp only [bt_or]
 rw [Bool.eq_iff_iff]
 simp only [Bool.or_eq_true, decide_eq_true_eq]
 split <;> split <;> omega
structure vlaw (X : BX) : Prop where
 vc : ∀ v, X.F.vc v = bif X.sk3 v then 20 else 0
end BX
end Go.Vc
namespace Go.Vc
open Go Go.Eng Go.Ar Go.Rd
namespace BX
variable (X : BX) (n : Int)
def nS : Prop := okF3 n X.ys /\ X.S.g.size < 1000000000
def n0 : Prop := okF3 n X.ys /\ X.S.g.size < 1000000000 /\ rightS X.S X.ys = true
def p2f : Int := IntKind.i64.wrap (2 * X.S.f0)
def p4f : Int := IntKind.i64.wrap (4 * X.S.f1)
def pol : Int := IntKind.i64.wrap (X.S.o * X.l)
def nP1 : Prop := X.n0 n /\ ((!X.bi) = true -> X.vz = true -> (X.nS n /\ ((X.sl 4 == 0) = true -> (X.n1.e == 0) = true -> X.sl 2 = X.sl 2 /\ X.sl 3 = X.sl 3)) /\ (X.bt.p11 = true -> (X.k.e == 0) = true -> (!X.und) = true ->
 (((!X.mir) = true -> okSq X.w.a X.w.b X.a X.b /\ ((X.s1.e == 0) = true -> okSq X.w.c X.w.d X.a X.b /\ ((X.s2.e == 0) = true -> okSq X.w.e X.w.f X.a X.b))) /\
  (X.bt.p22 = true -> (!X.o0) = true -> ((X.v.c = X.v.c /\ X.v.d = X.v.d) /\ ((X.q1.e == 0) = true -> X.v.c = X.v.c /\ X.v.d = X.v.d)) /\ (X.bt.p28 = true -> ((X.S.f1 = X.S.f1 /\ (X.q3.lo = X.q3.lo /\ X.q3.hi = X.q3.hi) /\ X.S.f0 = X.S.f0) /\ okSq 4294967296 4294967296 X.p2f 100000 /\ ((X.w1.e == 0) = true -> (X.S.f1 = X.S.f1 /\ X.q3.lo = X.q3.lo /\ X.q3.hi = X.q3.hi) /\ okSq X.q3.lo X.q3.hi X.p4f 10000000)) /\ (X.bt.p36 = true -> (okSq X.w3.lo X.w3.hi X.pol 1000000000 /\ ((X.w4.e == 0) = true -> X.b = X.b /\ okSq X.w4.lo X.w4.hi 10000000 X.b)) /\ (X.bt.p40 = true -> ((X.t.a = X.t.a /\ X.t.b = X.t.b) /\ ((X.m1.e == 0) = true -> X.t.a = X.t.a /\ X.t.b = X.t.b)) /\ (X.bt.p47 = true -> (X.t.c = X.t.c /\ X.t.d = X.t.d) /\ ((X.m3.e == 0) = true -> X.t.c = X.t.c /\ X.t.d = X.t.d))))))) /\
 (X.bt.p52 = true -> ((X.d1.e == 0) = true -> (veP X.u /\ veP X.av) /\ veP X.av /\ ((X.mo1 == 0) = true -> veP X.av)) /\ (X.bt.p72 = true -> (veP X.bv /\ veP X.bv) /\ (X.bt.p81 = true -> (!X.tot) = true -> (!X.neg) = true -> (X.r.e == 0) = true -> X.bt.p93 = true -> veP X.bv /\ ((X.mo2 == 0) = true -> veP X.bv))))))
def nP4 : Prop := X.n0 n /\ ((!X.bi) = true -> X.vz = true -> ((okSq X.v.a X.v.b X.S.c 1000000000 /\ ((X.i1.e == 0) = true -> X.b = X.b /\ okSq X.i1.lo X.i1.hi 10000000 X.b)) /\ (X.it.p47 = true -> okSq X.v.c X.v.d X.S.c 1000000000 /\ ((X.i3.e == 0) = true -> X.b = X.b /\ okSq X.i3.lo X.i3.hi 10000000 X.b))) /\
 (X.it.p410 = true -> X.it.p418 = true -> ((X.xl = X.xl /\ X.xh = X.xh) /\ ((X.i7.e == 0) = true -> X.xl = X.xl /\ X.xh = X.xh)) /\ (X.it.p423 = true -> (X.yl = X.yl /\ X.yh = X.yh) /\ ((X.i9.e == 0) = true -> X.yl = X.yl /\ X.yh = X.yh))))
variable {X n}
theorem veP_t (v : Ve) : veP v := ⟨rfl, rfl, rfl, rfl, rfl, rfl⟩
theorem ri_ab (h : X.bi = false) : 10000000 <= X.a /\ X.a <= 40000000 /\ 10000000 <= X.b /\ X.b <= 40000000 /\ 300000 <= X.l /\ X.l <= 2500000 := by
 rw [bi_ri] at h
 unfold ri at h
 simp only [bt_or, Bool.or_eq_false_iff, decide_eq_false_iff_not] at h
 omega
theorem numsX {s : Su} {ys : List Int} (h : rightS s ys = true) : (-1000000000 <= s.c /\ s.c <= 1000000000) /\ (-1000000000 <= s.f0 /\ s.f0 <= 1000000000) /\ (-1000000000 <= s.f1 /\ s.f1 <= 1000000000) /\ -3 <= s.o /\ s.o <= 3 := by
 have h := right_nums h
 unfold numsB at h
 simp only [Bool.and_eq_true, inR_iff] at h
 obtain ⟨⟨⟨⟨⟨⟨⟨⟨⟨⟨hc, _⟩, _⟩, _⟩, _⟩, _⟩, ⟨f0, f1⟩⟩, _⟩, ⟨o, _⟩⟩, _⟩, _⟩ := h
 exact ⟨hc, f0, f1, o⟩
theorem wr {x : Int} (h : -9000000000000000000 <= x /\ x <= 9000000000000000000) : IntKind.i64.wrap x = x := i64w (by omega) (by omega)
theorem q_ab (h : X.bi = false) (x y : Int) : okSq x y X.a X.b := okSq_of fun _ => by
 obtain ⟨h1, h2, h3, h4, _⟩ := ri_ab h
 have : sg X.a X.a = X.a := by unfold sg; rw [decide_eq_false (by omega)]; rfl
 rw [this]; omega
theorem q_7b (h : X.bi = false) (x y : Int) : okSq x y 10000000 X.b := okSq_of fun _ => by
 obtain ⟨_, _, h3, _, _⟩ := ri_ab h
 have : sg 10000000 10000000 = 10000000 := by decide
 rw [this]; omega
theorem q_c (h : X.n0 n) (x y : Int) : okSq x y X.S.c 1000000000 := okSq_of (okSc_of (numsX h.2.2).1 (by decide))
theorem q_2f (h : X.n0 n) : okSq 4294967296 4294967296 X.p2f 100000 := fun _ _ => by
 have hf := (numsX h.2.2).2.1
 have e : X.p2f = 2 * X.S.f0 := wr (by omega)
 have : sg X.p2f X.p2f <= 2000000000 := by
  rw [e]; unfold sg
  cases decide (2 * X.S.f0 < 0)
  .show 2 * X.S.f0 <= _; omega
  .show -(2 * X.S.f0) <= _; omega
 have k : abH 4294967296 4294967296 = 4294967296 := by decide
 rw [k]; omega
theorem q_4f (h : X.n0 n) (x y : Int) : okSq x y X.p4f 10000000 := okSq_of (okSc_of (M := 4000000000) (by
 have hf := (numsX h.2.2).2.2.1
 have e : X.p4f = 4 * X.S.f1 := wr (by omega)
 rw [e]; omega) (by decide))
theorem q_ol (h : X.n0 n) (hb : X.bi = false) (x y : Int) : okSq x y X.pol 1000000000 := okSq_of (okSc_of (M := 7500000) (by
 have ho := (numsX h.2.2).2.2.2
 have hl := (ri_ab hb).2.2.2.2
 have b : -7500000 <= X.S.o * X.l /\ X.S.o * X.l <= 7500000 := by
  have : X.S.o = -3 ∨ X.S.o = -2 ∨ X.S.o = -1 ∨ X.S.o = 0 ∨ X.S.o = 1 ∨ X.S.o = 2 ∨ X.S.o = 3 := by omega
  rcases this with e | e | e | e | e | e | e <;> rw [e] <;> omega
 have e : X.pol = X.S.o * X.l := wr (by omega)
 rw [e]; exact b) (by decide))
theorem nP1_t (h : X.n0 n) : X.nP1 n := by
 refine ⟨h, fun hb _ => ?_⟩
 have hb : X.bi = false := by simpa using hb
 have h1 : X.nS n := ⟨h.1, h.2.1⟩
 simp only [h1, veP_t, q_ab hb, q_7b hb, q_2f h, q_4f h, q_ol h hb, implies_true, and_self]
theorem nP4_t (h : X.n0 n) : X.nP4 n := by
 refine ⟨h, fun hb _ => ?_⟩
 have hb : X.bi = false := by simpa using hb
 simp only [q_c h, q_7b hb, implies_true, and_self]
end BX
def slpB (s : Su) (ys : List Int) (a b x y : Int) : Nat -> Int
 | 0 => tw1 (sagG s ys a b x y).e (slpC s a b x y) (slpU s a b x y).lo
 | 1 => tw1 (sagG s ys a b x y).e (slpC s a b x y) (slpU s a b x y).hi
 | 2 => tw1 (sagG s ys a b x y).e (slpC s a b x y) (slpZ s a b x y).lo
 | 3 => tw1 (sagG s ys a b x y).e (slpC s a b x y) (slpZ s a b x y).hi
 | _ => twE (sagG s ys a b x y).e (slpC s a b x y)
noncomputable def bf0 : BF := ⟨vC0 vf0, chkS, slpB, uV vf0, uO vf0, negS, addS, subS, mulS, divS, scaleS, sqrS, sqrtS, dotF vf0, fun v w => twoV vf0 v w vf0.su, fun v w => twoO vf0 v w vf0.su, fun v w => twoV vf0 v w vf0.ad, fun v w => twoO vf0 v w vf0.ad, fun v x y => twoV vf0 v (lk x y) vf0.mu, fun v x y => twoO vf0 v (lk x y) vf0.mu, gV vf0, gO vf0⟩
end Go.Vc
namespace Go.Proofs.YtbboldpghkahjaaGreatDoor.K
open Go Go.Eng Go.Ar Go.Rd Go.Vc
noncomputable section
def slBF (F : BF) (s : Su) (ys : List Int) (a b x y : Int) : AV := .tuple [.agg [.int true .i64 (F.sl s ys a b x y 0), .int true .i64 (F.sl s ys a b x y 1)], .agg [.int true .i64 (F.sl s ys a b x y 2), .int true .i64 (F.sl s ys a b x y 3)], .int true .i64 (F.sl s ys a b x y 4)]
def vcBF (F : BF) : PSpec := numSpec [shV] none fun
 | [.n a, .n b, .n c, .n d, .n e, .n f] => .n .i64 (F.vc ⟨a, b, c, d, e, f⟩)
 | _ => .u []
def sScP (F : Int -> Int -> Int -> Int -> Sp) : PSpec := fun args => match Sh.readL [shS, .i .i64, .i .i64] args with
 | some (s, [.n a, .n b, .n n, .n d]) => some (.p (okSq a b n d), (outS (F a b n d)).av s)
 | _ => none
def hp (s : PSpec) : NSpec := hN (gH s)
def tblBdO (F : BF) : List (FuncId × NSpec) := [(74, hp (sUnit F.uV F.uO)), (111, hp (sUn F.ng)), (134, hp (sBin F.ad)), (107, hp (sBin F.su)), (101, hp (sBin F.mu)), (73, hp (sBin F.di)), (113, hp (sScP F.sc)), (100, hp (sUn F.sq)), (69, hp (sUn F.rt)), (98, hp (sVD F.dt)), (64, hp (sVV F.bV F.bO)), (71, hp (sVV F.aV F.aO)), (65, hp (sVS F.mV F.mO)), (75, hp (sUnit F.nV F.nO))]
def tblBdP (F : BF) (b : Bool) : List (FuncId × NSpec) := (30, bif b then chk0S else chk1S) :: (77, lSpec hG suP2 (suV2 (slBF F))) :: (31, hp (vcBF F)) :: tblBdO F
def cBdP (F : BF) (b : Bool) : Ctx := mkN Tryz.prog glob hG (tblBdP F b) [] ext
def rBd (C : Ctx) (f : FuncId) (kd : AV) (s : Su) (n : Int) (ys : List Int) (a b l : Int) (v w : Ve) : Option (Nd × AV) := oneG (viewsH true hG [(.i64, ys)]).size hG.clock ((run C 6000).call f [.agg (s.cells kd ++ [.lslice hG.size n]), .int true .i64 a, .int true .i64 b, .int true .i64 l, .agg v.cells, .agg w.cells] (viewsH true hG [(.i64, ys)]))
end
end Go.Proofs.YtbboldpghkahjaaGreatDoor.K
