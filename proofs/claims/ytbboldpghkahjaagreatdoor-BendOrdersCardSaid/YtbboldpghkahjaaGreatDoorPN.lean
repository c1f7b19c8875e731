/- What is proved: a law of bends returns true, whatever the input (part 14). No conditions beyond those of the row. -/
import Derived.Test.YtbboldpghkahjaaGreatDoorPM
set_option linter.unusedVariables false
set_option linter.unusedSimpArgs false
set_option linter.unusedSectionVars false
namespace Go.Proofs.YtbboldpghkahjaaGreatDoor.K
open Go Go.Eng Go.Ar Go.Rd Go.Vc
noncomputable section
def bC (r : BO) : AV := .tuple [.agg r.v.cells, .int true .i64 r.c, .int true .i64 r.e]
def bC3 (r : BO) : AV := .tuple [.agg r.v.cells, .int false .i64 0, .int true .i64 r.e]
def bC0 : AV := .tuple [.agg [.int false .i64 0, .int false .i64 0, .int false .i64 0, .int false .i64 0, .int false .i64 0, .int false .i64 0], .int false .i64 0, .int false .i64 110]
abbrev bX (F : BF) (s : Su) (k : Int) (ys : List Int) (a b l : Int) (v w : Ve) : BX := ⟨F, { s with kd := k }, ys, a, b, l, v, w⟩
theorem bd_0 (F : BF) (s : Su) (n : Int) (ys : List Int) (a b l : Int) (v w : Ve) : rBd (cBdP F false) 11 (.int true .i64 s.kd) s n ys a b l v w = some (.p (okF3 n ys /\ s.g.size < 1000000000 /\ rightS s ys = false), bC0) := by kernel_rfl
theorem bd_1 (F : BF) (s : Su) (n : Int) (ys : List Int) (a b l : Int) (v w : Ve) : rBd (cBdP F true) 11 (.int false .i64 1) s n ys a b l v w = some (.p ((bX F s 1 ys a b l v w).nP1 n), bC (bX F s 1 ys a b l v w).an1) := by kernel_rfl
theorem bd_2 (F : BF) (s : Su) (n : Int) (ys : List Int) (a b l : Int) (v w : Ve) : rBd (cBdP F true) 11 (.int false .i64 2) s n ys a b l v w = some (.p ((bX F s 2 ys a b l v w).nP1 n), bC (bX F s 2 ys a b l v w).an1) := by kernel_rfl
theorem bd_3 (F : BF) (s : Su) (n : Int) (ys : List Int) (a b l : Int) (v w : Ve) : rBd (cBdP F true) 11 (.int false .i64 3) s n ys a b l v w = some (.p ((bX F s 3 ys a b l v w).n0 n), bC3 (bX F s 3 ys a b l v w).an3) := by kernel_rfl
theorem bd_4 (F : BF) (s : Su) (n : Int) (ys : List Int) (a b l : Int) (v w : Ve) : rBd (cBdP F true) 11 (.int false .i64 4) s n ys a b l v w = some (.p ((bX F s 4 ys a b l v w).nP4 n), bC (bX F s 4 ys a b l v w).an4) := by kernel_rfl
end
end Go.Proofs.YtbboldpghkahjaaGreatDoor.K
