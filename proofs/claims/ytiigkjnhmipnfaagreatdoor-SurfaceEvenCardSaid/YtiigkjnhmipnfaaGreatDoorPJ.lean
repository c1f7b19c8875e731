/- What is proved: SurfaceEven returns true, whatever the input (part 10 of 24). No conditions beyond those of the row. -/
import Derived.Test.YtiigkjnhmipnfaaGreatDoorPI
set_option linter.unusedVariables false
set_option linter.unusedSimpArgs false
set_option linter.unusedSectionVars false
namespace Go.Proofs.YtiigkjnhmipnfaaGreatDoor.K
open Go Go.Eng Go.Ar Go.Rd
noncomputable section
theorem st1_run (c k a0 a1 a2 a3 f0 f1 o th : Int) (s : ByteArray) (se ho i0 j0 q0 : Int) : oneG (hG.size + 1) hG.clock ((run cN 1000).call 18 (.agg ((Sh.mkL stI [.n c, .n k, .n a0, .n a1, .n a2, .n a3, .n f0, .n f1, .n o, .n th, .s s, .n se, .n ho]).1 ++ [stN 1]) :: (Sh.mkL [] []).1) (coatH hG (Sh.mkL (filmSh 1) [.n i0, .n j0, .n q0]).1)) = some (.p (cxN c k a0 a1 a2 a3 f0 f1 o th s se ho i0 j0 q0), .int true .i64 (cxV c k a0 a1 a2 a3 f0 f1 o th s se ho i0 j0 q0)) := by kernel_rfl
def vSt1 : List Nu → List Nu → List Nu → Option (Prop × AV)
  | [.n c, .n k, .n a0, .n a1, .n a2, .n a3, .n f0, .n f1, .n o, .n th, .s s, .n se, .n ho], [.n i0, .n j0, .n q0], [] => zeroV (vStd c k a0 a1 a2 a3 f0 f1 o th s se ho ∧ inF i0 j0 q0)
  | _, _, _ => none
theorem st1_ok : HOk Tryz.prog glob hG 18 (coatSpec hG 1 stI [] vSt1) := by
  refine coat_rel hG_ok hG_plain glob_lt (fun xs ys zs q v e h => ?_) ⟨_, Tryz.func18, rfl⟩
  unfold vSt1 at e
  split at e
  · rename_i c k a0 a1 a2 a3 f0 f1 o th s se ho i0 j0 q0
    cases e
    obtain ⟨h, t0⟩ := h
    exact ⟨cN, 1000, _, _, cN_ok, rfl, rfl, rfl, rfl, rfl, rfl, st1_run c k a0 a1 a2 a3 f0 f1 o th s se ho i0 j0 q0, std1_n h.hs, int_zero (std1_0 h t0)⟩
  · cases e
theorem st2_run (c k a0 a1 a2 a3 f0 f1 o th : Int) (s : ByteArray) (se ho i0 j0 q0 i1 j1 q1 : Int) : oneG (hG.size + 1) hG.clock ((run cN 1000).call 18 (.agg ((Sh.mkL stI [.n c, .n k, .n a0, .n a1, .n a2, .n a3, .n f0, .n f1, .n o, .n th, .s s, .n se, .n ho]).1 ++ [stN 2]) :: (Sh.mkL [] []).1) (coatH hG (Sh.mkL (filmSh 2) [.n i0, .n j0, .n q0, .n i1, .n j1, .n q1]).1)) = some (.p (cyN c k a0 a1 a2 a3 f0 f1 o th s se ho i0 j0 q0 i1 j1 q1), .int true .i64 (cyV c k a0 a1 a2 a3 f0 f1 o th s se ho i0 j0 q0 i1 j1 q1)) := by kernel_rfl
def vSt2 : List Nu → List Nu → List Nu → Option (Prop × AV)
  | [.n c, .n k, .n a0, .n a1, .n a2, .n a3, .n f0, .n f1, .n o, .n th, .s s, .n se, .n ho], [.n i0, .n j0, .n q0, .n i1, .n j1, .n q1], [] => zeroV (vStd c k a0 a1 a2 a3 f0 f1 o th s se ho ∧ inF i0 j0 q0 ∧ inF i1 j1 q1)
  | _, _, _ => none
theorem st2_ok : HOk Tryz.prog glob hG 18 (coatSpec hG 2 stI [] vSt2) := by
  refine coat_rel hG_ok hG_plain glob_lt (fun xs ys zs q v e h => ?_) ⟨_, Tryz.func18, rfl⟩
  unfold vSt2 at e
  split at e
  · rename_i c k a0 a1 a2 a3 f0 f1 o th s se ho i0 j0 q0 i1 j1 q1
    cases e
    obtain ⟨h, t0, t1⟩ := h
    exact ⟨cN, 1000, _, _, cN_ok, rfl, rfl, rfl, rfl, rfl, rfl, st2_run c k a0 a1 a2 a3 f0 f1 o th s se ho i0 j0 q0 i1 j1 q1, std2_n h.hs, int_zero (std2_0 h t0 t1)⟩
  · cases e
theorem st3_run (c k a0 a1 a2 a3 f0 f1 o th : Int) (s : ByteArray) (se ho i0 j0 q0 i1 j1 q1 i2 j2 q2 : Int) : oneG (hG.size + 1) hG.clock ((run cN 1000).call 18 (.agg ((Sh.mkL stI [.n c, .n k, .n a0, .n a1, .n a2, .n a3, .n f0, .n f1, .n o, .n th, .s s, .n se, .n ho]).1 ++ [stN 3]) :: (Sh.mkL [] []).1) (coatH hG (Sh.mkL (filmSh 3) [.n i0, .n j0, .n q0, .n i1, .n j1, .n q1, .n i2, .n j2, .n q2]).1)) = some (.p (czN c k a0 a1 a2 a3 f0 f1 o th s se ho i0 j0 q0 i1 j1 q1 i2 j2 q2), .int true .i64 (czV c k a0 a1 a2 a3 f0 f1 o th s se ho i0 j0 q0 i1 j1 q1 i2 j2 q2)) := by kernel_rfl
def vSt3 : List Nu → List Nu → List Nu → Option (Prop × AV)
  | [.n c, .n k, .n a0, .n a1, .n a2, .n a3, .n f0, .n f1, .n o, .n th, .s s, .n se, .n ho], [.n i0, .n j0, .n q0, .n i1, .n j1, .n q1, .n i2, .n j2, .n q2], [] => zeroV (vStd c k a0 a1 a2 a3 f0 f1 o th s se ho ∧ inF i0 j0 q0 ∧ inF i1 j1 q1 ∧ inF i2 j2 q2)
  | _, _, _ => none
theorem st3_ok : HOk Tryz.prog glob hG 18 (coatSpec hG 3 stI [] vSt3) := by
  refine coat_rel hG_ok hG_plain glob_lt (fun xs ys zs q v e h => ?_) ⟨_, Tryz.func18, rfl⟩
  unfold vSt3 at e
  split at e
  · rename_i c k a0 a1 a2 a3 f0 f1 o th s se ho i0 j0 q0 i1 j1 q1 i2 j2 q2
    cases e
    obtain ⟨h, t0, t1, t2⟩ := h
    exact ⟨cN, 1000, _, _, cN_ok, rfl, rfl, rfl, rfl, rfl, rfl, st3_run c k a0 a1 a2 a3 f0 f1 o th s se ho i0 j0 q0 i1 j1 q1 i2 j2 q2, std3_n h.hs, int_zero (std3_0 h t0 t1 t2)⟩
  · cases e
def chkH : HSpec := orH (gH (orG (gSpec [.a (stI ++ [noC])] vSt) (orG (gSpec [.a (biI ++ [noC])] vBi) (orG (gSpec [.a (brI ++ [noC])] vBr) (gSpec [.a (idI ++ [noC])] vId))))) (orH (coatSpec hG 1 stI [] vSt1) (orH (coatSpec hG 2 stI [] vSt2) (coatSpec hG 3 stI [] vSt3)))
theorem chkH_ok : HOk Tryz.prog glob hG 18 chkH := orH_ok (GOk.h (orG_ok st_ok (orG_ok bi_ok (orG_ok br_ok id_ok)))) (orH_ok st1_ok (orH_ok st2_ok st3_ok))
end
end Go.Proofs.YtiigkjnhmipnfaaGreatDoor.K
