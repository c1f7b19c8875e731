/- What is proved: FrameKnown returns true (part 4 of 14). No conditions beyond those of the row. -/
import Derived.Test.YtlbabiemgageaaaGreatDoorPC
import Derived.Test.YtlbabiemgageaaaGreatDoorProg
import Derived.Test.YtlbabiemgageaaaGreatDoorRows
import Derived.Laws.Externs
import Derived.KernelRfl
set_option linter.unusedVariables false
set_option linter.unusedSimpArgs false
set_option linter.unusedSectionVars false
/- What is proved: of FrameKnown: the package-level variables and the functions without a body. No conditions. -/
namespace Go.Proofs.YtlbabiemgageaaaGreatDoor
open Go Go.Eng

theorem all_names : (Tryz.prog.funcs.toList.all fun fn => !(fn.name == "runtime.NumGoroutine")) = true := by kernel_rfl

theorem prog_ok : ProgOk Tryz.prog := by
  refine ⟨fun f fn h _ => ?_, by kernel_rfl⟩
  have h1 : fn ∈ Tryz.prog.funcs.toList := by
    rw [Array.mem_toList_iff]
    exact Array.mem_of_getElem? h
  have := List.all_eq_true.1 all_names fn h1
  simpa using this

def ext (_ : FuncId) (_ : List AV) : Option (Nd × AV) := none
theorem ext_ok : ExtOk Tryz.prog ext := fun _ _ _ _ e => by cases e

def gl : List (Nat × IntKind × List Int) := [(1, .u64, [1, 10, 100, 1000, 10000, 100000, 1000000, 10000000, 100000000, 1000000000, 10000000000, 100000000000, 1000000000000]), (0, .i64, [4294967296, 4294967296, 0, 0, 0, 0, 0, 0, 4294967296, 4294967296, 0, 0, 0, 0, 0, 0, 4294967296, 4294967296])]
def glob (g : Nat) : Option Nat :=
  match Nat.beq g 0 with
  | true => some 0
  | false => match Nat.beq g 1 with
    | true => some 1
    | false => none
def hG : Hp := ⟨[⟨0, .cells [.int false .u64 1, .int false .u64 10, .int false .u64 100, .int false .u64 1000, .int false .u64 10000, .int false .u64 100000, .int false .u64 1000000, .int false .u64 10000000, .int false .u64 100000000, .int false .u64 1000000000, .int false .u64 10000000000, .int false .u64 100000000000, .int false .u64 1000000000000]⟩, ⟨0, .cells [.int false .i64 4294967296, .int false .i64 4294967296, .int false .i64 0, .int false .i64 0, .int false .i64 0, .int false .i64 0, .int false .i64 0, .int false .i64 0, .int false .i64 4294967296, .int false .i64 4294967296, .int false .i64 0, .int false .i64 0, .int false .i64 0, .int false .i64 0, .int false .i64 0, .int false .i64 0, .int false .i64 4294967296, .int false .i64 4294967296]⟩], 2, 1⟩
theorem hG_eq : hG = ⟨intBlks gl, gl.length, 1⟩ := rfl
theorem glob_lt : ∀ g i, glob g = some i → i < hG.size := by
  intro g i h
  unfold glob at h
  repeat' (split at h; · cases h; decide)
  cases h

theorem known {tbl : List (FuncId × List AV × AV)} (ht : ∀ x ∈ tbl, MemoOk Tryz.prog glob hG x) {f : FuncId} {args : List AV} {v : AV} (ha : AV.underL 2 args = true) (hv : v.under 2 = true)
    (e : memoV 2 1 ((run (mkM Tryz.prog glob hG tbl ext) 3000).call f args hG) = some v) : MemoOk Tryz.prog glob hG (f, args, v) :=
  memo_ok prog_ok ext_ok ht rfl (by kernel_rfl) glob_lt ha hv e

theorem none_known : ∀ x ∈ ([] : List (FuncId × List AV × AV)), MemoOk Tryz.prog glob hG x := fun _ h => by cases h

theorem more {x : FuncId × List AV × AV} {l : List (FuncId × List AV × AV)} (h : MemoOk Tryz.prog glob hG x) (k : ∀ y ∈ l, MemoOk Tryz.prog glob hG y) : ∀ y ∈ x :: l, MemoOk Tryz.prog glob hG y := fun y hy => by
  rcases List.mem_cons.1 hy with rfl | hy
  · exact h
  · exact k y hy

def laidL : List (String × DataW Unit) := [("monocle/fix.powers", Rows.laid_monocle_fix_powers), ("monocle/surface.places", Rows.laid_monocle_surface_places), ("monocle/frame.identity", Rows.laid_monocle_frame_identity)]

theorem of_laid {W : World} (h : laidMetH Tryz.prog laidL W) : ∃ σ : Sg, (∀ gl i, glob gl = some i → ∃ N, σ i = some (gl, N)) ∧ HRel σ hG W := by
  have hl : (laidL.all fun x => x.2.handleName?.isNone) = true := by kernel_rfl
  obtain ⟨cs0, e0, n0, p0, h0, d0⟩ := laid_cells h hl (n := "monocle/frame.identity") (.tail _ (.tail _ (.head _))) (g := 0) (t := 38) (by kernel_rfl) (by kernel_rfl) (of_decide_eq_true (by kernel_rfl)) (trod_len_arr Tryz.underlying38)
  have q0 := arr_deep (k := .i64) [(.agg [.agg [.lit (.int .i64 4294967296), .lit (.int .i64 4294967296)], .agg [.lit (.int .i64 0), .lit (.int .i64 0)], .agg [.lit (.int .i64 0), .lit (.int .i64 0)]], [4294967296, 4294967296, 0, 0, 0, 0]), (.agg [.agg [.lit (.int .i64 0), .lit (.int .i64 0)], .agg [.lit (.int .i64 4294967296), .lit (.int .i64 4294967296)], .agg [.lit (.int .i64 0), .lit (.int .i64 0)]], [0, 0, 4294967296, 4294967296, 0, 0]), (.agg [.agg [.lit (.int .i64 0), .lit (.int .i64 0)], .agg [.lit (.int .i64 0), .lit (.int .i64 0)], .agg [.lit (.int .i64 4294967296), .lit (.int .i64 4294967296)]], [0, 0, 0, 0, 4294967296, 4294967296])] Tryz.underlying38 (m := 6) (by kernel_rfl) (by kernel_rfl) rfl (fun x hx => by
      simp only [List.mem_cons, List.not_mem_nil, or_false] at hx
      rcases hx with rfl | rfl | rfl
      · exact fun _ _ _ z => arr_deep (k := .i64) [(.agg [.lit (.int .i64 4294967296), .lit (.int .i64 4294967296)], [4294967296, 4294967296]), (.agg [.lit (.int .i64 0), .lit (.int .i64 0)], [0, 0]), (.agg [.lit (.int .i64 0), .lit (.int .i64 0)], [0, 0])] Tryz.underlying35 (m := 2) (by kernel_rfl) (by kernel_rfl) rfl (fun x hx => by
            simp only [List.mem_cons, List.not_mem_nil, or_false] at hx
            rcases hx with rfl | rfl | rfl
            · exact fun _ _ _ z => two_ints (k := .i64) Tryz.underlying34 rfl rfl rfl rfl Tryz.underlying3 (by kernel_rfl) (by kernel_rfl) z
            · exact fun _ _ _ z => two_ints (k := .i64) Tryz.underlying34 rfl rfl rfl rfl Tryz.underlying3 (by kernel_rfl) (by kernel_rfl) z
            · exact fun _ _ _ z => two_ints (k := .i64) Tryz.underlying34 rfl rfl rfl rfl Tryz.underlying3 (by kernel_rfl) (by kernel_rfl) z
            ) z
      · exact fun _ _ _ z => arr_deep (k := .i64) [(.agg [.lit (.int .i64 0), .lit (.int .i64 0)], [0, 0]), (.agg [.lit (.int .i64 4294967296), .lit (.int .i64 4294967296)], [4294967296, 4294967296]), (.agg [.lit (.int .i64 0), .lit (.int .i64 0)], [0, 0])] Tryz.underlying35 (m := 2) (by kernel_rfl) (by kernel_rfl) rfl (fun x hx => by
            simp only [List.mem_cons, List.not_mem_nil, or_false] at hx
            rcases hx with rfl | rfl | rfl
            · exact fun _ _ _ z => two_ints (k := .i64) Tryz.underlying34 rfl rfl rfl rfl Tryz.underlying3 (by kernel_rfl) (by kernel_rfl) z
            · exact fun _ _ _ z => two_ints (k := .i64) Tryz.underlying34 rfl rfl rfl rfl Tryz.underlying3 (by kernel_rfl) (by kernel_rfl) z
            · exact fun _ _ _ z => two_ints (k := .i64) Tryz.underlying34 rfl rfl rfl rfl Tryz.underlying3 (by kernel_rfl) (by kernel_rfl) z
            ) z
      · exact fun _ _ _ z => arr_deep (k := .i64) [(.agg [.lit (.int .i64 0), .lit (.int .i64 0)], [0, 0]), (.agg [.lit (.int .i64 0), .lit (.int .i64 0)], [0, 0]), (.agg [.lit (.int .i64 4294967296), .lit (.int .i64 4294967296)], [4294967296, 4294967296])] Tryz.underlying35 (m := 2) (by kernel_rfl) (by kernel_rfl) rfl (fun x hx => by
            simp only [List.mem_cons, List.not_mem_nil, or_false] at hx
            rcases hx with rfl | rfl | rfl
            · exact fun _ _ _ z => two_ints (k := .i64) Tryz.underlying34 rfl rfl rfl rfl Tryz.underlying3 (by kernel_rfl) (by kernel_rfl) z
            · exact fun _ _ _ z => two_ints (k := .i64) Tryz.underlying34 rfl rfl rfl rfl Tryz.underlying3 (by kernel_rfl) (by kernel_rfl) z
            · exact fun _ _ _ z => two_ints (k := .i64) Tryz.underlying34 rfl rfl rfl rfl Tryz.underlying3 (by kernel_rfl) (by kernel_rfl) z
            ) z
      ) d0
  obtain ⟨cs1, e1, n1, p1, h1, d1⟩ := laid_cells h hl (n := "monocle/fix.powers") (.head _) (g := 1) (t := 279) (by kernel_rfl) (by kernel_rfl) (of_decide_eq_true (by kernel_rfl)) (trod_len_arr Tryz.underlying279)
  have q1 := arr_ints (k := .u64) (ns := [1, 10, 100, 1000, 10000, 100000, 1000000, 10000000, 100000000, 1000000000, 10000000000, 100000000000, 1000000000000]) Tryz.underlying279 Tryz.underlying223 (by kernel_rfl) (by kernel_rfl) rfl d1
  refine ⟨intSg gl, fun g i hg => ?_, hG_eq ▸ int_rel (by decide) fun x hx => ?_⟩
  · unfold glob at hg
    split at hg
    · rename_i hb; cases hg; rw [Nat.eq_of_beq_eq_true hb]; exact ⟨_, rfl⟩
    · split at hg
      · rename_i hb; cases hg; rw [Nat.eq_of_beq_eq_true hb]; exact ⟨_, rfl⟩
      · cases hg
  · simp only [gl, List.mem_cons, List.not_mem_nil, or_false] at hx
    rcases hx with rfl | rfl
    · exact ⟨cs1, e1, h1, q1⟩
    · exact ⟨cs0, e0, h0, q0⟩

end Go.Proofs.YtlbabiemgageaaaGreatDoor
