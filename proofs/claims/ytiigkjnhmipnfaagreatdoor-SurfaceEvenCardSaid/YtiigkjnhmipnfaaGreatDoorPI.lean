/- What is proved: SurfaceEven returns true, whatever the input (part 9 of 24). No conditions beyond those of the row. -/
import Derived.Test.YtiigkjnhmipnfaaGreatDoorPH
set_option linter.unusedVariables false
set_option linter.unusedSimpArgs false
set_option linter.unusedSectionVars false
namespace Go.Proofs.YtiigkjnhmipnfaaGreatDoor.K
open Go Go.Eng Go.Ar Go.Rd
noncomputable section
theorem std_run (c k a0 a1 a2 a3 f0 f1 o th : Int) (s : ByteArray) (se ho : Int) : oneG hG.size hG.clock ((run cN 1000).call 18 (Sh.mkL [.a (stI ++ [noC])] [.n c, .n k, .n a0, .n a1, .n a2, .n a3, .n f0, .n f1, .n o, .n th, .s s, .n se, .n ho]).1 hG) = some (.p (csN c k a0 a1 a2 a3 f0 f1 o th s se ho), .int true .i64 (csV c k a0 a1 a2 a3 f0 f1 o th s se ho)) := by kernel_rfl
theorem bic_run (c k l m th : Int) (s : ByteArray) (se ho : Int) : oneG hG.size hG.clock ((run cN 1000).call 18 (Sh.mkL [.a (biI ++ [noC])] [.n c, .n k, .n l, .n m, .n th, .s s, .n se, .n ho]).1 hG) = some (.p (cbN c k l m th s se ho), .int true .i64 (cbV c k l m th s se ho)) := by kernel_rfl
theorem brk_run (th dx dy ax ay az : Int) : oneG hG.size hG.clock ((run cN 1000).call 18 (Sh.mkL [.a (brI ++ [noC])] [.n th, .n dx, .n dy, .n ax, .n ay, .n az]).1 hG) = some (.p (crN th dx dy ax ay az), .int true .i64 (crV th dx dy ax ay az)) := by kernel_rfl
theorem idl_run (c th se ho : Int) : oneG hG.size hG.clock ((run cN 1000).call 18 (Sh.mkL [.a (idI ++ [noC])] [.n c, .n th, .n se, .n ho]).1 hG) = some (.p (ciN c th se ho), .int true .i64 (ciV c th se ho)) := by kernel_rfl
theorem int_zero {e : Int} (h : e = 0) : ∀ σ V, VRel σ (.int true .i64 e) V → VRel σ (.int false .i64 0) V := fun σ V k => by subst h; exact k
def zeroV (p : Prop) : Option (Prop × AV) := some (p, .int false .i64 0)
def vSt : List Nu → Option (Prop × AV)
  | [.n c, .n k, .n a0, .n a1, .n a2, .n a3, .n f0, .n f1, .n o, .n th, .s s, .n se, .n ho] => zeroV (vStd c k a0 a1 a2 a3 f0 f1 o th s se ho)
  | _ => none
def vBi : List Nu → Option (Prop × AV)
  | [.n c, .n k, .n l, .n m, .n th, .s s, .n se, .n ho] => zeroV (vBic c k l m th s se ho)
  | _ => none
def vBr : List Nu → Option (Prop × AV)
  | [.n th, .n dx, .n dy, .n ax, .n ay, .n az] => zeroV (vBrk th dx dy ax ay az)
  | _ => none
def vId : List Nu → Option (Prop × AV)
  | [.n c, .n th, .n se, .n ho] => zeroV (vIdl c th se ho)
  | _ => none
theorem st_ok : GOk Tryz.prog glob hG 18 (gSpec [.a (stI ++ [noC])] vSt) := by
  refine gsp_rel hG_ok hG_plain glob_lt (fun xs q v e h => ?_) ⟨_, Tryz.func18, rfl⟩
  unfold vSt at e
  split at e
  · rename_i c k a0 a1 a2 a3 f0 f1 o th s se ho
    cases e
    exact ⟨cN, 1000, _, _, cN_ok, rfl, rfl, rfl, rfl, std_run c k a0 a1 a2 a3 f0 f1 o th s se ho, std_n h.hs, int_zero (std_0 h)⟩
  · cases e
theorem bi_ok : GOk Tryz.prog glob hG 18 (gSpec [.a (biI ++ [noC])] vBi) := by
  refine gsp_rel hG_ok hG_plain glob_lt (fun xs q v e h => ?_) ⟨_, Tryz.func18, rfl⟩
  unfold vBi at e
  split at e
  · rename_i c k l m th s se ho
    cases e
    exact ⟨cN, 1000, _, _, cN_ok, rfl, rfl, rfl, rfl, bic_run c k l m th s se ho, bic_n h.hs, int_zero (bic_0 h)⟩
  · cases e
theorem br_ok : GOk Tryz.prog glob hG 18 (gSpec [.a (brI ++ [noC])] vBr) := by
  refine gsp_rel hG_ok hG_plain glob_lt (fun xs q v e h => ?_) ⟨_, Tryz.func18, rfl⟩
  unfold vBr at e
  split at e
  · rename_i th dx dy ax ay az
    cases e
    exact ⟨cN, 1000, _, _, cN_ok, rfl, rfl, rfl, rfl, brk_run th dx dy ax ay az, brk_n, int_zero (brk_0 h)⟩
  · cases e
theorem id_ok : GOk Tryz.prog glob hG 18 (gSpec [.a (idI ++ [noC])] vId) := by
  refine gsp_rel hG_ok hG_plain glob_lt (fun xs q v e h => ?_) ⟨_, Tryz.func18, rfl⟩
  unfold vId at e
  split at e
  · rename_i c th se ho
    cases e
    exact ⟨cN, 1000, _, _, cN_ok, rfl, rfl, rfl, rfl, idl_run c th se ho, idl_n, int_zero (idl_0 h)⟩
  · cases e
def stN (n : Nat) : AV := .gslice hG.size 0 n 3
end
end Go.Proofs.YtiigkjnhmipnfaaGreatDoor.K
