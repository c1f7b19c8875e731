/- What is proved: a part of the proof that SurfaceKnown returns true. No conditions beyond those of the row. -/
import Derived.Test.YtiigkjnhmipnfaaGreatDoorEngD
import Derived.Test.YtiigkjnhmipnfaaGreatDoorProg
import Derived.Laws.Externs
import Derived.KernelRfl
set_option linter.unusedVariables false
set_option linter.unusedSimpArgs false
namespace Go.Proofs.YtiigkjnhmipnfaaGreatDoor
open Go Go.Eng

theorem all_names : (Tryz.prog.funcs.toList.all fun fn => !(fn.name == "runtime.NumGoroutine")) = true := by kernel_rfl

theorem prog_ok : ProgOk Tryz.prog := by
  refine ⟨fun f fn h _ => ?_, by kernel_rfl⟩
  have h1 : fn ∈ Tryz.prog.funcs.toList := by
    rw [Array.mem_toList_iff]
    exact Array.mem_of_getElem? h
  have := List.all_eq_true.1 all_names fn h1
  simpa using this

/-- math/bits.Add64, at plain numbers. -/
def ext (f : FuncId) (args : List AV) : Option (Nd × AV) :=
  match Nat.beq f 214 with
  | true => match args with
    | [.int false .u64 x, .int false .u64 y, .int false .u64 c] => match decide (0 ≤ x ∧ 0 ≤ y ∧ 0 ≤ c ∧ c ≤ 1) with
      | true => some (.tt, .tuple [mkInt false .u64 ((x + y + c) % 18446744073709551616), mkInt false .u64 ((x + y + c) / 18446744073709551616)])
      | false => none
    | _ => none
  | false => none

theorem mkInt_rel {σ : Sg} {s : Bool} {k : IntKind} {n : Int} : VRel σ (mkInt s k n) (.int k n) := by
  cases s with
  | true => rfl
  | false =>
    unfold mkInt forceInt
    cases n with
    | ofNat m => cases m <;> rfl
    | negSucc m => cases m <;> rfl

theorem add64_run (x y c : Int) (hx : 0 ≤ x) (hy : 0 ≤ y) (hc0 : 0 ≤ c) (hc : c ≤ 1) (w : World) :
    (callFunc 214 #[.int .u64 x, .int .u64 y, .int .u64 c]).run Tryz.prog w = .ok (.value (.tuple #[.int .u64 ((x + y + c) % 18446744073709551616), .int .u64 ((x + y + c) / 18446744073709551616)])) w := by
  rw [run_callFunc_extern Tryz.func214 (by kernel_rfl) (by kernel_rfl) (by kernel_rfl) (e := add64Entry) (by kernel_rfl), run_add64 x y c hx hy hc0 hc]
  rfl

theorem ext_ok : ExtOk Tryz.prog ext := by
  intro f args nd v e hn σ A W ha
  unfold ext at e
  split at e
  · rename_i hf
    have := Nat.eq_of_beq_eq_true hf
    subst this
    split at e
    · rename_i x y c
      split at e
      · rename_i hd
        have hd := of_decide_eq_true hd
        cases e
        obtain ⟨V, L, hL, rfl, V2, L2, hL2, rfl, V3, L3, hL3, rfl, hL4⟩ := ha
        rw [hL2, hL3, show L3 = [] from hL4] at hL
        have hA : A = #[.int .u64 x, .int .u64 y, .int .u64 c] := by
          apply Array.toList_inj.1; simpa using hL
        subst hA
        exact ⟨_, ⟨_, rfl, _, _, rfl, mkInt_rel, _, _, rfl, mkInt_rel, rfl⟩, add64_run x y c hd.1 hd.2.1 hd.2.2.1 hd.2.2.2 W⟩
      · cases e
    · cases e
  · cases e

/-! ### The package-level variables: one, places -/

def glob (g : Nat) : Option Nat :=
  match Nat.beq g 2 with
  | true => some 0
  | false => match Nat.beq g 0 with
    | true => some 1
    | false => none

def hG : Hp := ⟨[⟨0, .view [.int false .i64 1, .int false .i64 10]⟩, ⟨0, .view [.int false .i64 11, .int false .i64 12, .int false .i64 13, .int false .i64 14, .int false .i64 15]⟩, ⟨0, .view [.int false .i64 1, .int false .i64 2, .int false .i64 3, .int false .i64 4, .int false .i64 10]⟩,
  ⟨0, .view [.int false .i64 1, .int false .i64 2, .int false .i64 5, .int false .i64 6, .int false .i64 7, .int false .i64 8, .int false .i64 10]⟩,
  ⟨0, .map [(.int false .i64 1, .vslice 3 7), (.int false .i64 2, .vslice 4 5), (.int false .i64 3, .vslice 5 5), (.int false .i64 4, .vslice 6 2)]⟩, ⟨0, .cells [.map 2]⟩, ⟨0, .cells [.int false .i64 4294967296, .int false .i64 4294967296]⟩], 7, 1⟩

theorem glob_lt : ∀ g i, glob g = some i → i < hG.size := by
  intro g i h
  unfold glob at h
  split at h
  · cases h; decide
  · split at h
    · cases h; decide
    · cases h

theorem known {tbl : List (FuncId × List AV × AV)} (ht : ∀ x ∈ tbl, MemoOk Tryz.prog glob hG x) {f : FuncId} {args : List AV} {v : AV} (ha : AV.underL 7 args = true) (hv : v.under 7 = true)
    (e : memoV 7 1 ((run (mkM Tryz.prog glob hG tbl ext) 3000).call f args hG) = some v) : MemoOk Tryz.prog glob hG (f, args, v) :=
  memo_ok prog_ok ext_ok ht rfl (by kernel_rfl) glob_lt ha hv e

theorem none_known : ∀ x ∈ ([] : List (FuncId × List AV × AV)), MemoOk Tryz.prog glob hG x := fun _ h => by cases h

theorem more {x : FuncId × List AV × AV} {l : List (FuncId × List AV × AV)} (h : MemoOk Tryz.prog glob hG x) (k : ∀ y ∈ l, MemoOk Tryz.prog glob hG y) : ∀ y ∈ x :: l, MemoOk Tryz.prog glob hG y := fun y hy => by
  rcases List.mem_cons.1 hy with rfl | hy
  · exact h
  · exact k y hy

end Go.Proofs.YtiigkjnhmipnfaaGreatDoor
