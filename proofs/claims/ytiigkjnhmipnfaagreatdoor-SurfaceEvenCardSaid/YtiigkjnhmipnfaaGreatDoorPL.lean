/- What is proved: SurfaceEven returns true, whatever the input (part 12 of 24). No conditions beyond those of the row. -/
import Derived.Test.YtiigkjnhmipnfaaGreatDoorPK
set_option linter.unusedVariables false
set_option linter.unusedSimpArgs false
set_option linter.unusedSectionVars false
namespace Go.Proofs.YtiigkjnhmipnfaaGreatDoor.K
open Go Go.Eng Go.Ar Go.Rd
noncomputable section
theorem sa_st_run (c : Int) (k : Int) (a0 : Int) (a1 : Int) (a2 : Int) (a3 : Int) (f0 : Int) (f1 : Int) (o : Int) (th : Int) (s : ByteArray) (se : Int) (ho : Int) (a : Int) (b : Int) (x : Int) (y : Int) : oneG hG.size hG.clock ((run cT 1000).call 29 (Sh.mkL [.a (stI ++ [noC]), sS, sS] [.n c, .n k, .n a0, .n a1, .n a2, .n a3, .n f0, .n f1, .n o, .n th, .s s, .n se, .n ho, .n a, .n b, .n x, .n y]).1 hG) = some (.p (taF (vStd c k a0 a1 a2 a3 f0 f1 o th s se ho) ⟨c, k, a0, a1, a2, a3, a, b, x, y⟩), spV (sagS c k a0 a1 a2 a3 a b x y)) := by kernel_rfl
def sa_st_V : List Nu → Option (Prop × AV)
  | [.n c, .n k, .n a0, .n a1, .n a2, .n a3, .n f0, .n f1, .n o, .n th, .s s, .n se, .n ho, .n a, .n b, .n x, .n y] => some (vStd c k a0 a1 a2 a3 f0 f1 o th s se ho ∧ okSp a b = true ∧ okSp x y = true, spV (sagS c k a0 a1 a2 a3 a b x y))
  | _ => none
theorem sa_st_ok : GOk Tryz.prog glob hG 29 (gSpec [.a (stI ++ [noC]), sS, sS] sa_st_V) := by
  refine gsp_rel hG_ok hG_plain glob_lt (fun xs q v e h => ?_) ⟨_, Tryz.func29, rfl⟩
  unfold sa_st_V at e
  split at e
  · rename_i c k a0 a1 a2 a3 f0 f1 o th s se ho a b x y
    cases e
    exact ⟨cT, 1000, _, _, cT_ok, rfl, rfl, rfl, rfl, sa_st_run c k a0 a1 a2 a3 f0 f1 o th s se ho a b x y, taF_ok h.1 h.1 h.2.1 h.2.2, fun _ _ k => k⟩
  · cases e
theorem sa_bi_run (c : Int) (k : Int) (l : Int) (m : Int) (th : Int) (s : ByteArray) (se : Int) (ho : Int) (a : Int) (b : Int) (x : Int) (y : Int) : oneG hG.size hG.clock ((run cT 1000).call 29 (Sh.mkL [.a (biI ++ [noC]), sS, sS] [.n c, .n k, .n l, .n m, .n th, .s s, .n se, .n ho, .n a, .n b, .n x, .n y]).1 hG) = some (.p (tbF (vBic c k l m th s se ho) ⟨c, k, l, m, a, b, x, y⟩), spV (sagX c k l m a b x y)) := by kernel_rfl
def sa_bi_V : List Nu → Option (Prop × AV)
  | [.n c, .n k, .n l, .n m, .n th, .s s, .n se, .n ho, .n a, .n b, .n x, .n y] => some (vBic c k l m th s se ho ∧ okSp a b = true ∧ okSp x y = true, spV (sagX c k l m a b x y))
  | _ => none
theorem sa_bi_ok : GOk Tryz.prog glob hG 29 (gSpec [.a (biI ++ [noC]), sS, sS] sa_bi_V) := by
  refine gsp_rel hG_ok hG_plain glob_lt (fun xs q v e h => ?_) ⟨_, Tryz.func29, rfl⟩
  unfold sa_bi_V at e
  split at e
  · rename_i c k l m th s se ho a b x y
    cases e
    exact ⟨cT, 1000, _, _, cT_ok, rfl, rfl, rfl, rfl, sa_bi_run c k l m th s se ho a b x y, tbF_ok h.1 h.1 h.2.1 h.2.2, fun _ _ k => k⟩
  · cases e
theorem sa_br_run (th : Int) (dx : Int) (dy : Int) (ax : Int) (ay : Int) (az : Int) (a : Int) (b : Int) (x : Int) (y : Int) : oneG hG.size hG.clock ((run cT 1000).call 29 (Sh.mkL [.a (brI ++ [noC]), sS, sS] [.n th, .n dx, .n dy, .n ax, .n ay, .n az, .n a, .n b, .n x, .n y]).1 hG) = some (.p (vBrk th dx dy ax ay az), .tuple [.agg [.int false .i64 0, .int false .i64 0], .int false .i64 5]) := by kernel_rfl
def sa_br_V : List Nu → Option (Prop × AV)
  | [.n th, .n dx, .n dy, .n ax, .n ay, .n az, .n a, .n b, .n x, .n y] => some (vBrk th dx dy ax ay az ∧ okSp a b = true ∧ okSp x y = true, .tuple [.agg [.int false .i64 0, .int false .i64 0], .int false .i64 5])
  | _ => none
theorem sa_br_ok : GOk Tryz.prog glob hG 29 (gSpec [.a (brI ++ [noC]), sS, sS] sa_br_V) := by
  refine gsp_rel hG_ok hG_plain glob_lt (fun xs q v e h => ?_) ⟨_, Tryz.func29, rfl⟩
  unfold sa_br_V at e
  split at e
  · rename_i th dx dy ax ay az a b x y
    cases e
    exact ⟨cT, 1000, _, _, cT_ok, rfl, rfl, rfl, rfl, sa_br_run th dx dy ax ay az a b x y, h.1, fun _ _ k => k⟩
  · cases e
theorem sa_id_run (c : Int) (th : Int) (se : Int) (ho : Int) (a : Int) (b : Int) (x : Int) (y : Int) : oneG hG.size hG.clock ((run cT 1000).call 29 (Sh.mkL [.a (idI ++ [noC]), sS, sS] [.n c, .n th, .n se, .n ho, .n a, .n b, .n x, .n y]).1 hG) = some (.p (vIdl c th se ho ∧ okSp a b = true ∧ okSp x y = true), .tuple [.agg [.int false .i64 0, .int false .i64 0], .int false .i64 0]) := by kernel_rfl
def sa_id_V : List Nu → Option (Prop × AV)
  | [.n c, .n th, .n se, .n ho, .n a, .n b, .n x, .n y] => some (vIdl c th se ho ∧ okSp a b = true ∧ okSp x y = true, .tuple [.agg [.int false .i64 0, .int false .i64 0], .int false .i64 0])
  | _ => none
theorem sa_id_ok : GOk Tryz.prog glob hG 29 (gSpec [.a (idI ++ [noC]), sS, sS] sa_id_V) := by
  refine gsp_rel hG_ok hG_plain glob_lt (fun xs q v e h => ?_) ⟨_, Tryz.func29, rfl⟩
  unfold sa_id_V at e
  split at e
  · rename_i c th se ho a b x y
    cases e
    exact ⟨cT, 1000, _, _, cT_ok, rfl, rfl, rfl, rfl, sa_id_run c th se ho a b x y, h, fun _ _ k => k⟩
  · cases e
theorem sa_s1_run (c : Int) (k : Int) (a0 : Int) (a1 : Int) (a2 : Int) (a3 : Int) (f0 : Int) (f1 : Int) (o : Int) (th : Int) (s : ByteArray) (se : Int) (ho : Int) (i0 : Int) (j0 : Int) (q0 : Int) (a : Int) (b : Int) (x : Int) (y : Int) : oneG (hG.size + 1) hG.clock ((run cT 1000).call 29 (.agg ((Sh.mkL stI [.n c, .n k, .n a0, .n a1, .n a2, .n a3, .n f0, .n f1, .n o, .n th, .s s, .n se, .n ho]).1 ++ [stN 1]) :: (Sh.mkL [sS, sS] [.n a, .n b, .n x, .n y]).1) (coatH hG (Sh.mkL (filmSh 1) [.n i0, .n j0, .n q0]).1)) = some (.p (taF (vStd c k a0 a1 a2 a3 f0 f1 o th s se ho ∧ inF i0 j0 q0) ⟨c, k, a0, a1, a2, a3, a, b, x, y⟩), spV (sagS c k a0 a1 a2 a3 a b x y)) := by kernel_rfl
def sa_s1_V : List Nu → List Nu → List Nu → Option (Prop × AV)
  | [.n c, .n k, .n a0, .n a1, .n a2, .n a3, .n f0, .n f1, .n o, .n th, .s s, .n se, .n ho], [.n i0, .n j0, .n q0], [.n a, .n b, .n x, .n y] => some ((vStd c k a0 a1 a2 a3 f0 f1 o th s se ho ∧ inF i0 j0 q0) ∧ okSp a b = true ∧ okSp x y = true, spV (sagS c k a0 a1 a2 a3 a b x y))
  | _, _, _ => none
theorem sa_s1_ok : HOk Tryz.prog glob hG 29 (coatSpec hG 1 stI [sS, sS] sa_s1_V) := by
  refine coat_rel hG_ok hG_plain glob_lt (fun xs ys zs q v e h => ?_) ⟨_, Tryz.func29, rfl⟩
  unfold sa_s1_V at e
  split at e
  · rename_i c k a0 a1 a2 a3 f0 f1 o th s se ho i0 j0 q0 a b x y
    cases e
    exact ⟨cT, 1000, _, _, cT_ok, rfl, rfl, rfl, rfl, rfl, rfl, sa_s1_run c k a0 a1 a2 a3 f0 f1 o th s se ho i0 j0 q0 a b x y, taF_ok h.1 h.1.1 h.2.1 h.2.2, fun _ _ k => k⟩
  · cases e
theorem sa_s2_run (c : Int) (k : Int) (a0 : Int) (a1 : Int) (a2 : Int) (a3 : Int) (f0 : Int) (f1 : Int) (o : Int) (th : Int) (s : ByteArray) (se : Int) (ho : Int) (i0 : Int) (j0 : Int) (q0 : Int) (i1 : Int) (j1 : Int) (q1 : Int) (a : Int) (b : Int) (x : Int) (y : Int) : oneG (hG.size + 1) hG.clock ((run cT 1000).call 29 (.agg ((Sh.mkL stI [.n c, .n k, .n a0, .n a1, .n a2, .n a3, .n f0, .n f1, .n o, .n th, .s s, .n se, .n ho]).1 ++ [stN 2]) :: (Sh.mkL [sS, sS] [.n a, .n b, .n x, .n y]).1) (coatH hG (Sh.mkL (filmSh 2) [.n i0, .n j0, .n q0, .n i1, .n j1, .n q1]).1)) = some (.p (taF (vStd c k a0 a1 a2 a3 f0 f1 o th s se ho ∧ inF i0 j0 q0 ∧ inF i1 j1 q1) ⟨c, k, a0, a1, a2, a3, a, b, x, y⟩), spV (sagS c k a0 a1 a2 a3 a b x y)) := by kernel_rfl
def sa_s2_V : List Nu → List Nu → List Nu → Option (Prop × AV)
  | [.n c, .n k, .n a0, .n a1, .n a2, .n a3, .n f0, .n f1, .n o, .n th, .s s, .n se, .n ho], [.n i0, .n j0, .n q0, .n i1, .n j1, .n q1], [.n a, .n b, .n x, .n y] => some ((vStd c k a0 a1 a2 a3 f0 f1 o th s se ho ∧ inF i0 j0 q0 ∧ inF i1 j1 q1) ∧ okSp a b = true ∧ okSp x y = true, spV (sagS c k a0 a1 a2 a3 a b x y))
  | _, _, _ => none
theorem sa_s2_ok : HOk Tryz.prog glob hG 29 (coatSpec hG 2 stI [sS, sS] sa_s2_V) := by
  refine coat_rel hG_ok hG_plain glob_lt (fun xs ys zs q v e h => ?_) ⟨_, Tryz.func29, rfl⟩
  unfold sa_s2_V at e
  split at e
  · rename_i c k a0 a1 a2 a3 f0 f1 o th s se ho i0 j0 q0 i1 j1 q1 a b x y
    cases e
    exact ⟨cT, 1000, _, _, cT_ok, rfl, rfl, rfl, rfl, rfl, rfl, sa_s2_run c k a0 a1 a2 a3 f0 f1 o th s se ho i0 j0 q0 i1 j1 q1 a b x y, taF_ok h.1 h.1.1 h.2.1 h.2.2, fun _ _ k => k⟩
  · cases e
theorem sa_s3_run (c : Int) (k : Int) (a0 : Int) (a1 : Int) (a2 : Int) (a3 : Int) (f0 : Int) (f1 : Int) (o : Int) (th : Int) (s : ByteArray) (se : Int) (ho : Int) (i0 : Int) (j0 : Int) (q0 : Int) (i1 : Int) (j1 : Int) (q1 : Int) (i2 : Int) (j2 : Int) (q2 : Int) (a : Int) (b : Int) (x : Int) (y : Int) : oneG (hG.size + 1) hG.clock ((run cT 1000).call 29 (.agg ((Sh.mkL stI [.n c, .n k, .n a0, .n a1, .n a2, .n a3, .n f0, .n f1, .n o, .n th, .s s, .n se, .n ho]).1 ++ [stN 3]) :: (Sh.mkL [sS, sS] [.n a, .n b, .n x, .n y]).1) (coatH hG (Sh.mkL (filmSh 3) [.n i0, .n j0, .n q0, .n i1, .n j1, .n q1, .n i2, .n j2, .n q2]).1)) = some (.p (taF (vStd c k a0 a1 a2 a3 f0 f1 o th s se ho ∧ inF i0 j0 q0 ∧ inF i1 j1 q1 ∧ inF i2 j2 q2) ⟨c, k, a0, a1, a2, a3, a, b, x, y⟩), spV (sagS c k a0 a1 a2 a3 a b x y)) := by kernel_rfl
def sa_s3_V : List Nu → List Nu → List Nu → Option (Prop × AV)
  | [.n c, .n k, .n a0, .n a1, .n a2, .n a3, .n f0, .n f1, .n o, .n th, .s s, .n se, .n ho], [.n i0, .n j0, .n q0, .n i1, .n j1, .n q1, .n i2, .n j2, .n q2], [.n a, .n b, .n x, .n y] => some ((vStd c k a0 a1 a2 a3 f0 f1 o th s se ho ∧ inF i0 j0 q0 ∧ inF i1 j1 q1 ∧ inF i2 j2 q2) ∧ okSp a b = true ∧ okSp x y = true, spV (sagS c k a0 a1 a2 a3 a b x y))
  | _, _, _ => none
theorem sa_s3_ok : HOk Tryz.prog glob hG 29 (coatSpec hG 3 stI [sS, sS] sa_s3_V) := by
  refine coat_rel hG_ok hG_plain glob_lt (fun xs ys zs q v e h => ?_) ⟨_, Tryz.func29, rfl⟩
  unfold sa_s3_V at e
  split at e
  · rename_i c k a0 a1 a2 a3 f0 f1 o th s se ho i0 j0 q0 i1 j1 q1 i2 j2 q2 a b x y
    cases e
    exact ⟨cT, 1000, _, _, cT_ok, rfl, rfl, rfl, rfl, rfl, rfl, sa_s3_run c k a0 a1 a2 a3 f0 f1 o th s se ho i0 j0 q0 i1 j1 q1 i2 j2 q2 a b x y, taF_ok h.1 h.1.1 h.2.1 h.2.2, fun _ _ k => k⟩
  · cases e
def sagH : HSpec := orH (gH (orG (gSpec [.a (stI ++ [noC]), sS, sS] sa_st_V) (orG (gSpec [.a (biI ++ [noC]), sS, sS] sa_bi_V) (orG (gSpec [.a (brI ++ [noC]), sS, sS] sa_br_V) (gSpec [.a (idI ++ [noC]), sS, sS] sa_id_V))))) (orH (coatSpec hG 1 stI [sS, sS] sa_s1_V) (orH (coatSpec hG 2 stI [sS, sS] sa_s2_V) (coatSpec hG 3 stI [sS, sS] sa_s3_V)))
theorem sagH_ok : HOk Tryz.prog glob hG 29 sagH := orH_ok (GOk.h (orG_ok sa_st_ok (orG_ok sa_bi_ok (orG_ok sa_br_ok sa_id_ok)))) (orH_ok sa_s1_ok (orH_ok sa_s2_ok sa_s3_ok))
end
end Go.Proofs.YtiigkjnhmipnfaaGreatDoor.K
