/- What is proved: HitKnown returns true (part 5 of 26). No conditions beyond those of the row. -/
import Derived.Test.YtdljkgcdgidldaaGreatDoorPD
import Derived.Test.YtdljkgcdgidldaaGreatDoorProg
import Derived.Test.YtdljkgcdgidldaaGreatDoorRows
import Derived.Laws.Externs
import Derived.KernelRfl
set_option linter.unusedVariables false
set_option linter.unusedSimpArgs false
set_option linter.unusedSectionVars false
/- What is proved: of HitKnown: the package-level variables and the functions without a body. No conditions. -/
namespace Go.Proofs.YtdljkgcdgidldaaGreatDoor
open Go Go.Eng

theorem all_names : (Tryz.prog.funcs.toList.all fun fn => !(fn.name == "runtime.NumGoroutine")) = true := by kernel_rfl

theorem prog_ok : ProgOk Tryz.prog := by
  refine ⟨fun f fn h _ => ?_, by kernel_rfl⟩
  have h1 : fn ∈ Tryz.prog.funcs.toList := by
    rw [Array.mem_toList_iff]
    exact Array.mem_of_getElem? h
  have := List.all_eq_true.1 all_names fn h1
  simpa using this

/-- math/bits.Add64, at plain numbers. -/
def ext (f : FuncId) (args : List AV) : Option (Nd × AV) :=
  match Nat.beq f 216 with
  | true => match args with
    | [.int false .u64 x, .int false .u64 y, .int false .u64 c] => match decide (0 ≤ x ∧ 0 ≤ y ∧ 0 ≤ c ∧ c ≤ 1) with
      | true => some (.tt, .tuple [mkInt false .u64 ((x + y + c) % 18446744073709551616), mkInt false .u64 ((x + y + c) / 18446744073709551616)])
      | false => none
    | _ => none
  | false => none

theorem add64_run (x y c : Int) (hx : 0 ≤ x) (hy : 0 ≤ y) (hc0 : 0 ≤ c) (hc : c ≤ 1) (w : World) :
    (callFunc 216 #[.int .u64 x, .int .u64 y, .int .u64 c]).run Tryz.prog w = .ok (.value (.tuple #[.int .u64 ((x + y + c) % 18446744073709551616), .int .u64 ((x + y + c) / 18446744073709551616)])) w := by
  rw [run_callFunc_extern Tryz.func216 (by kernel_rfl) (by kernel_rfl) (by kernel_rfl) (e := add64Entry) (by kernel_rfl), run_add64 x y c hx hy hc0 hc]
  rfl

theorem ext_ok : ExtOk Tryz.prog ext := by
  intro f args nd v e hn σ A W ha
  unfold ext at e
  split at e
  · rename_i hf
    have := Nat.eq_of_beq_eq_true hf
    subst this
    split at e
    · rename_i x y c
      split at e
      · rename_i hd
        have hd := of_decide_eq_true hd
        cases e
        obtain ⟨V, L, hL, rfl, V2, L2, hL2, rfl, V3, L3, hL3, rfl, hL4⟩ := ha
        rw [hL2, hL3, show L3 = [] from hL4] at hL
        have hA : A = #[.int .u64 x, .int .u64 y, .int .u64 c] := by
          apply Array.toList_inj.1; simpa using hL
        subst hA
        exact ⟨_, ⟨_, rfl, _, _, rfl, (mkInt_rel _ _ _ _).2 rfl, _, _, rfl, (mkInt_rel _ _ _ _).2 rfl, rfl⟩, add64_run x y c hd.1 hd.2.1 hd.2.2.1 hd.2.2.2 W⟩
      · cases e
    · cases e
  · cases e

def gl : List (Nat × IntKind × List Int) := [(1, .i64, [1048576, 67108864, 2147483648, 34359738368]), (2, .i64, [4294967296, 4294967296])]
def glob (g : Nat) : Option Nat :=
  match Nat.beq g 2 with
  | true => some 0
  | false => match Nat.beq g 1 with
    | true => some 1
    | false => none
def hG : Hp := ⟨[⟨0, .cells [.int false .i64 1048576, .int false .i64 67108864, .int false .i64 2147483648, .int false .i64 34359738368]⟩, ⟨0, .cells [.int false .i64 4294967296, .int false .i64 4294967296]⟩], 2, 1⟩
theorem hG_eq : hG = ⟨intBlks gl, gl.length, 1⟩ := rfl
theorem glob_lt : ∀ g i, glob g = some i → i < hG.size := by
  intro g i h
  unfold glob at h
  repeat' (split at h; · cases h; decide)
  cases h

theorem known {tbl : List (FuncId × List AV × AV)} (ht : ∀ x ∈ tbl, MemoOk Tryz.prog glob hG x) {f : FuncId} {args : List AV} {v : AV} (ha : AV.underL 2 args = true) (hv : v.under 2 = true)
    (e : memoV 2 1 ((run (mkM Tryz.prog glob hG tbl ext) 3000).call f args hG) = some v) : MemoOk Tryz.prog glob hG (f, args, v) :=
  memo_ok prog_ok ext_ok ht rfl (by kernel_rfl) glob_lt ha hv e

theorem none_known : ∀ x ∈ ([] : List (FuncId × List AV × AV)), MemoOk Tryz.prog glob hG x := fun _ h => by cases h

theorem more {x : FuncId × List AV × AV} {l : List (FuncId × List AV × AV)} (h : MemoOk Tryz.prog glob hG x) (k : ∀ y ∈ l, MemoOk Tryz.prog glob hG y) : ∀ y ∈ x :: l, MemoOk Tryz.prog glob hG y := fun y hy => by
  rcases List.mem_cons.1 hy with rfl | hy
  · exact h
  · exact k y hy

def laidL : List (String × DataW Unit) := [("monocle/surface.one", Rows.laid_monocle_surface_one), ("monocle/hit.widths", Rows.laid_monocle_hit_widths)]

theorem of_laid {W : World} (h : laidMetH Tryz.prog laidL W) : ∃ σ : Sg, (∀ gl i, glob gl = some i → ∃ N, σ i = some (gl, N)) ∧ HRel σ hG W := by
  have hl : (laidL.all fun x => x.2.handleName?.isNone) = true := by kernel_rfl
  obtain ⟨cs0, e0, n0, p0, h0, d0⟩ := laid_cells h hl (n := "monocle/surface.one") (.head _) (g := 2) (t := 34) (by kernel_rfl) (by kernel_rfl) (of_decide_eq_true (by kernel_rfl)) (trod_len_struct Tryz.underlying34)
  have q0 := two_ints (k := .i64) Tryz.underlying34 rfl rfl rfl rfl Tryz.underlying3 (by kernel_rfl) (by kernel_rfl) d0
  obtain ⟨cs1, e1, n1, p1, h1, d1⟩ := laid_cells h hl (n := "monocle/hit.widths") (.tail _ (.head _)) (g := 1) (t := 28) (by kernel_rfl) (by kernel_rfl) (of_decide_eq_true (by kernel_rfl)) (trod_len_arr Tryz.underlying28)
  have q1 := arr_ints (k := .i64) (ns := [1048576, 67108864, 2147483648, 34359738368]) Tryz.underlying28 Tryz.underlying3 (by kernel_rfl) (by kernel_rfl) rfl d1
  refine ⟨intSg gl, fun g i hg => ?_, hG_eq ▸ int_rel (by decide) fun x hx => ?_⟩
  · unfold glob at hg
    split at hg
    · rename_i hb; cases hg; rw [Nat.eq_of_beq_eq_true hb]; exact ⟨_, rfl⟩
    · split at hg
      · rename_i hb; cases hg; rw [Nat.eq_of_beq_eq_true hb]; exact ⟨_, rfl⟩
      · cases hg
  · simp only [gl, List.mem_cons, List.not_mem_nil, or_false] at hx
    rcases hx with rfl | rfl
    · exact ⟨cs1, e1, h1, q1⟩
    · exact ⟨cs0, e0, h0, q0⟩

end Go.Proofs.YtdljkgcdgidldaaGreatDoor
