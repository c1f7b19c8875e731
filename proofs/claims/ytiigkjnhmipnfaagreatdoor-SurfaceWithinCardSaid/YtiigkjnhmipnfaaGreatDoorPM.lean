/- What is proved: SurfaceWithin returns true, whatever the input (part 13 of 22). No conditions beyond those of the row. -/
import Derived.Test.YtiigkjnhmipnfaaGreatDoorPL
set_option linter.unusedVariables false
set_option linter.unusedSimpArgs false
set_option linter.unusedSectionVars false
/- Printed by gslope.py. What is proved: what surface.Slope answers of valid surfaces of all kinds, at this seat. No conditions. -/
namespace Go.Proofs.YtiigkjnhmipnfaaGreatDoor.K
open Go Go.Eng Go.Ar Go.Rd
noncomputable section
theorem v_rel {v v' : AV} (h : v = v') : ∀ σ V, VRel σ v V → VRel σ v' V := fun σ V k => by subst h; exact k
theorem sl_st_t (c : Int) (k : Int) (a0 : Int) (a1 : Int) (a2 : Int) (a3 : Int) (f0 : Int) (f1 : Int) (o : Int) (th : Int) (s : ByteArray) (se : Int) (ho : Int) (a : Int) (b : Int) (x : Int) (y : Int) : oneG hG.size hG.clock ((run (cU true) 1000).call 31 (Sh.mkL [.a (stI ++ [noC]), sS, sS] [.n c, .n k, .n a0, .n a1, .n a2, .n a3, .n f0, .n f1, .n o, .n th, .s s, .n se, .n ho, .n a, .n b, .n x, .n y]).1 hG) = some (.p (tcF (vStd c k a0 a1 a2 a3 f0 f1 o th s se ho) ⟨c, k, a0, a1, a2, a3, a, b, x, y⟩), sp2V (sagS c k a0 a1 a2 a3 a b x y).e (slA c k a0 a1 a2 a3 a b x y) (q4 c k a0 a1 a2 a3 a b x y) (q6 c k a0 a1 a2 a3 a b x y)) := by kernel_rfl
theorem sl_st_f (c : Int) (k : Int) (a0 : Int) (a1 : Int) (a2 : Int) (a3 : Int) (f0 : Int) (f1 : Int) (o : Int) (th : Int) (s : ByteArray) (se : Int) (ho : Int) (a : Int) (b : Int) (x : Int) (y : Int) : oneG hG.size hG.clock ((run (cU false) 1000).call 31 (Sh.mkL [.a (stI ++ [noC]), sS, sS] [.n c, .n k, .n a0, .n a1, .n a2, .n a3, .n f0, .n f1, .n o, .n th, .s s, .n se, .n ho, .n a, .n b, .n x, .n y]).1 hG) = some (.p (teF (vStd c k a0 a1 a2 a3 f0 f1 o th s se ho) ⟨c, k, a0, a1, a2, a3, a, b, x, y⟩), sp2V (sagS c k a0 a1 a2 a3 a b x y).e (slP c k a b x y) (s14 c k a b x y) (s12 c k a b x y)) := by kernel_rfl
def sl_st_V : List Nu → Option (Prop × AV)
  | [.n c, .n k, .n a0, .n a1, .n a2, .n a3, .n f0, .n f1, .n o, .n th, .s s, .n se, .n ho, .n a, .n b, .n x, .n y] => some (vStd c k a0 a1 a2 a3 f0 f1 o th s se ho ∧ okSp a b = true ∧ okSp x y = true, slpV c k a0 a1 a2 a3 a b x y)
  | _ => none
theorem sl_st_ok : GOk Tryz.prog glob hG 31 (gSpec [.a (stI ++ [noC]), sS, sS] sl_st_V) := by
  refine gsp_rel hG_ok hG_plain glob_lt (fun xs q v e h => ?_) ⟨_, Tryz.func31, rfl⟩
  unfold sl_st_V at e
  split at e
  · rename_i c k a0 a1 a2 a3 f0 f1 o th s se ho a b x y
    cases e
    cases has : asp a0 a1 a2 a3 with
    | true => exact ⟨cU true, 1000, _, _, cU_ok _, rfl, rfl, rfl, rfl, sl_st_t c k a0 a1 a2 a3 f0 f1 o th s se ho a b x y, tcF_ok h.1 h.1 h.2.1 h.2.2 has, v_rel (slpV_t (h := has) ..)⟩
    | false => exact ⟨cU false, 1000, _, _, cU_ok _, rfl, rfl, rfl, rfl, sl_st_f c k a0 a1 a2 a3 f0 f1 o th s se ho a b x y, teF_ok h.1 h.1 h.2.1 h.2.2 has, v_rel (slpV_f (h := has) ..)⟩
  · cases e
theorem sl_bi_r (c : Int) (k : Int) (l : Int) (m : Int) (th : Int) (s : ByteArray) (se : Int) (ho : Int) (a : Int) (b : Int) (x : Int) (y : Int) : oneG hG.size hG.clock ((run (cU false) 1000).call 31 (Sh.mkL [.a (biI ++ [noC]), sS, sS] [.n c, .n k, .n l, .n m, .n th, .s s, .n se, .n ho, .n a, .n b, .n x, .n y]).1 hG) = some (.p (tdF (vBic c k l m th s se ho) ⟨c, k, l, m, a, b, x, y⟩), slpX c k l m a b x y) := by kernel_rfl
def sl_bi_V : List Nu → Option (Prop × AV)
  | [.n c, .n k, .n l, .n m, .n th, .s s, .n se, .n ho, .n a, .n b, .n x, .n y] => some (vBic c k l m th s se ho ∧ okSp a b = true ∧ okSp x y = true, slpX c k l m a b x y)
  | _ => none
theorem sl_bi_ok : GOk Tryz.prog glob hG 31 (gSpec [.a (biI ++ [noC]), sS, sS] sl_bi_V) := by
  refine gsp_rel hG_ok hG_plain glob_lt (fun xs q v e h => ?_) ⟨_, Tryz.func31, rfl⟩
  unfold sl_bi_V at e
  split at e
  · rename_i c k l m th s se ho a b x y
    cases e
    exact ⟨cU false, 1000, _, _, cU_ok _, rfl, rfl, rfl, rfl, sl_bi_r c k l m th s se ho a b x y, tdF_ok h.1 h.1 h.2.1 h.2.2, fun _ _ k => k⟩
  · cases e
theorem sl_br_r (th : Int) (dx : Int) (dy : Int) (ax : Int) (ay : Int) (az : Int) (a : Int) (b : Int) (x : Int) (y : Int) : oneG hG.size hG.clock ((run (cU false) 1000).call 31 (Sh.mkL [.a (brI ++ [noC]), sS, sS] [.n th, .n dx, .n dy, .n ax, .n ay, .n az, .n a, .n b, .n x, .n y]).1 hG) = some (.p (vBrk th dx dy ax ay az ∧ okSp a b = true ∧ okSp x y = true), .tuple [.agg [.int false .i64 0, .int false .i64 0], .agg [.int false .i64 0, .int false .i64 0], .int false .i64 5]) := by kernel_rfl
def sl_br_V : List Nu → Option (Prop × AV)
  | [.n th, .n dx, .n dy, .n ax, .n ay, .n az, .n a, .n b, .n x, .n y] => some (vBrk th dx dy ax ay az ∧ okSp a b = true ∧ okSp x y = true, .tuple [.agg [.int false .i64 0, .int false .i64 0], .agg [.int false .i64 0, .int false .i64 0], .int false .i64 5])
  | _ => none
theorem sl_br_ok : GOk Tryz.prog glob hG 31 (gSpec [.a (brI ++ [noC]), sS, sS] sl_br_V) := by
  refine gsp_rel hG_ok hG_plain glob_lt (fun xs q v e h => ?_) ⟨_, Tryz.func31, rfl⟩
  unfold sl_br_V at e
  split at e
  · rename_i th dx dy ax ay az a b x y
    cases e
    exact ⟨cU false, 1000, _, _, cU_ok _, rfl, rfl, rfl, rfl, sl_br_r th dx dy ax ay az a b x y, h, fun _ _ k => k⟩
  · cases e
theorem sl_id_r (c : Int) (th : Int) (se : Int) (ho : Int) (a : Int) (b : Int) (x : Int) (y : Int) : oneG hG.size hG.clock ((run (cU false) 1000).call 31 (Sh.mkL [.a (idI ++ [noC]), sS, sS] [.n c, .n th, .n se, .n ho, .n a, .n b, .n x, .n y]).1 hG) = some (.p (vIdl c th se ho ∧ okSp a b = true ∧ okSp x y = true), .tuple [.agg [.int false .i64 0, .int false .i64 0], .agg [.int false .i64 0, .int false .i64 0], .int false .i64 0]) := by kernel_rfl
def sl_id_V : List Nu → Option (Prop × AV)
  | [.n c, .n th, .n se, .n ho, .n a, .n b, .n x, .n y] => some (vIdl c th se ho ∧ okSp a b = true ∧ okSp x y = true, .tuple [.agg [.int false .i64 0, .int false .i64 0], .agg [.int false .i64 0, .int false .i64 0], .int false .i64 0])
  | _ => none
theorem sl_id_ok : GOk Tryz.prog glob hG 31 (gSpec [.a (idI ++ [noC]), sS, sS] sl_id_V) := by
  refine gsp_rel hG_ok hG_plain glob_lt (fun xs q v e h => ?_) ⟨_, Tryz.func31, rfl⟩
  unfold sl_id_V at e
  split at e
  · rename_i c th se ho a b x y
    cases e
    exact ⟨cU false, 1000, _, _, cU_ok _, rfl, rfl, rfl, rfl, sl_id_r c th se ho a b x y, h, fun _ _ k => k⟩
  · cases e
theorem sl_s1_t (c : Int) (k : Int) (a0 : Int) (a1 : Int) (a2 : Int) (a3 : Int) (f0 : Int) (f1 : Int) (o : Int) (th : Int) (s : ByteArray) (se : Int) (ho : Int) (i0 : Int) (j0 : Int) (q0 : Int) (a : Int) (b : Int) (x : Int) (y : Int) : oneG (hG.size + 1) hG.clock ((run (cU true) 1000).call 31 (.agg ((Sh.mkL stI [.n c, .n k, .n a0, .n a1, .n a2, .n a3, .n f0, .n f1, .n o, .n th, .s s, .n se, .n ho]).1 ++ [stN 1]) :: (Sh.mkL [sS, sS] [.n a, .n b, .n x, .n y]).1) (coatH hG (Sh.mkL (filmSh 1) [.n i0, .n j0, .n q0]).1)) = some (.p (tcF (vStd c k a0 a1 a2 a3 f0 f1 o th s se ho ∧ inF i0 j0 q0) ⟨c, k, a0, a1, a2, a3, a, b, x, y⟩), sp2V (sagS c k a0 a1 a2 a3 a b x y).e (slA c k a0 a1 a2 a3 a b x y) (q4 c k a0 a1 a2 a3 a b x y) (q6 c k a0 a1 a2 a3 a b x y)) := by kernel_rfl
theorem sl_s1_f (c : Int) (k : Int) (a0 : Int) (a1 : Int) (a2 : Int) (a3 : Int) (f0 : Int) (f1 : Int) (o : Int) (th : Int) (s : ByteArray) (se : Int) (ho : Int) (i0 : Int) (j0 : Int) (q0 : Int) (a : Int) (b : Int) (x : Int) (y : Int) : oneG (hG.size + 1) hG.clock ((run (cU false) 1000).call 31 (.agg ((Sh.mkL stI [.n c, .n k, .n a0, .n a1, .n a2, .n a3, .n f0, .n f1, .n o, .n th, .s s, .n se, .n ho]).1 ++ [stN 1]) :: (Sh.mkL [sS, sS] [.n a, .n b, .n x, .n y]).1) (coatH hG (Sh.mkL (filmSh 1) [.n i0, .n j0, .n q0]).1)) = some (.p (teF (vStd c k a0 a1 a2 a3 f0 f1 o th s se ho ∧ inF i0 j0 q0) ⟨c, k, a0, a1, a2, a3, a, b, x, y⟩), sp2V (sagS c k a0 a1 a2 a3 a b x y).e (slP c k a b x y) (s14 c k a b x y) (s12 c k a b x y)) := by kernel_rfl
def sl_s1_V : List Nu → List Nu → List Nu → Option (Prop × AV)
  | [.n c, .n k, .n a0, .n a1, .n a2, .n a3, .n f0, .n f1, .n o, .n th, .s s, .n se, .n ho], [.n i0, .n j0, .n q0], [.n a, .n b, .n x, .n y] => some ((vStd c k a0 a1 a2 a3 f0 f1 o th s se ho ∧ inF i0 j0 q0) ∧ okSp a b = true ∧ okSp x y = true, slpV c k a0 a1 a2 a3 a b x y)
  | _, _, _ => none
theorem sl_s1_ok : HOk Tryz.prog glob hG 31 (coatSpec hG 1 stI [sS, sS] sl_s1_V) := by
  refine coat_rel hG_ok hG_plain glob_lt (fun xs ys zs q v e h => ?_) ⟨_, Tryz.func31, rfl⟩
  unfold sl_s1_V at e
  split at e
  · rename_i c k a0 a1 a2 a3 f0 f1 o th s se ho i0 j0 q0 a b x y
    cases e
    cases has : asp a0 a1 a2 a3 with
    | true => exact ⟨cU true, 1000, _, _, cU_ok _, rfl, rfl, rfl, rfl, rfl, rfl, sl_s1_t c k a0 a1 a2 a3 f0 f1 o th s se ho i0 j0 q0 a b x y, tcF_ok h.1 h.1.1 h.2.1 h.2.2 has, v_rel (slpV_t (h := has) ..)⟩
    | false => exact ⟨cU false, 1000, _, _, cU_ok _, rfl, rfl, rfl, rfl, rfl, rfl, sl_s1_f c k a0 a1 a2 a3 f0 f1 o th s se ho i0 j0 q0 a b x y, teF_ok h.1 h.1.1 h.2.1 h.2.2 has, v_rel (slpV_f (h := has) ..)⟩
  · cases e
theorem sl_s2_t (c : Int) (k : Int) (a0 : Int) (a1 : Int) (a2 : Int) (a3 : Int) (f0 : Int) (f1 : Int) (o : Int) (th : Int) (s : ByteArray) (se : Int) (ho : Int) (i0 : Int) (j0 : Int) (q0 : Int) (i1 : Int) (j1 : Int) (q1 : Int) (a : Int) (b : Int) (x : Int) (y : Int) : oneG (hG.size + 1) hG.clock ((run (cU true) 1000).call 31 (.agg ((Sh.mkL stI [.n c, .n k, .n a0, .n a1, .n a2, .n a3, .n f0, .n f1, .n o, .n th, .s s, .n se, .n ho]).1 ++ [stN 2]) :: (Sh.mkL [sS, sS] [.n a, .n b, .n x, .n y]).1) (coatH hG (Sh.mkL (filmSh 2) [.n i0, .n j0, .n q0, .n i1, .n j1, .n q1]).1)) = some (.p (tcF (vStd c k a0 a1 a2 a3 f0 f1 o th s se ho ∧ inF i0 j0 q0 ∧ inF i1 j1 q1) ⟨c, k, a0, a1, a2, a3, a, b, x, y⟩), sp2V (sagS c k a0 a1 a2 a3 a b x y).e (slA c k a0 a1 a2 a3 a b x y) (q4 c k a0 a1 a2 a3 a b x y) (q6 c k a0 a1 a2 a3 a b x y)) := by kernel_rfl
theorem sl_s2_f (c : Int) (k : Int) (a0 : Int) (a1 : Int) (a2 : Int) (a3 : Int) (f0 : Int) (f1 : Int) (o : Int) (th : Int) (s : ByteArray) (se : Int) (ho : Int) (i0 : Int) (j0 : Int) (q0 : Int) (i1 : Int) (j1 : Int) (q1 : Int) (a : Int) (b : Int) (x : Int) (y : Int) : oneG (hG.size + 1) hG.clock ((run (cU false) 1000).call 31 (.agg ((Sh.mkL stI [.n c, .n k, .n a0, .n a1, .n a2, .n a3, .n f0, .n f1, .n o, .n th, .s s, .n se, .n ho]).1 ++ [stN 2]) :: (Sh.mkL [sS, sS] [.n a, .n b, .n x, .n y]).1) (coatH hG (Sh.mkL (filmSh 2) [.n i0, .n j0, .n q0, .n i1, .n j1, .n q1]).1)) = some (.p (teF (vStd c k a0 a1 a2 a3 f0 f1 o th s se ho ∧ inF i0 j0 q0 ∧ inF i1 j1 q1) ⟨c, k, a0, a1, a2, a3, a, b, x, y⟩), sp2V (sagS c k a0 a1 a2 a3 a b x y).e (slP c k a b x y) (s14 c k a b x y) (s12 c k a b x y)) := by kernel_rfl
def sl_s2_V : List Nu → List Nu → List Nu → Option (Prop × AV)
  | [.n c, .n k, .n a0, .n a1, .n a2, .n a3, .n f0, .n f1, .n o, .n th, .s s, .n se, .n ho], [.n i0, .n j0, .n q0, .n i1, .n j1, .n q1], [.n a, .n b, .n x, .n y] => some ((vStd c k a0 a1 a2 a3 f0 f1 o th s se ho ∧ inF i0 j0 q0 ∧ inF i1 j1 q1) ∧ okSp a b = true ∧ okSp x y = true, slpV c k a0 a1 a2 a3 a b x y)
  | _, _, _ => none
theorem sl_s2_ok : HOk Tryz.prog glob hG 31 (coatSpec hG 2 stI [sS, sS] sl_s2_V) := by
  refine coat_rel hG_ok hG_plain glob_lt (fun xs ys zs q v e h => ?_) ⟨_, Tryz.func31, rfl⟩
  unfold sl_s2_V at e
  split at e
  · rename_i c k a0 a1 a2 a3 f0 f1 o th s se ho i0 j0 q0 i1 j1 q1 a b x y
    cases e
    cases has : asp a0 a1 a2 a3 with
    | true => exact ⟨cU true, 1000, _, _, cU_ok _, rfl, rfl, rfl, rfl, rfl, rfl, sl_s2_t c k a0 a1 a2 a3 f0 f1 o th s se ho i0 j0 q0 i1 j1 q1 a b x y, tcF_ok h.1 h.1.1 h.2.1 h.2.2 has, v_rel (slpV_t (h := has) ..)⟩
    | false => exact ⟨cU false, 1000, _, _, cU_ok _, rfl, rfl, rfl, rfl, rfl, rfl, sl_s2_f c k a0 a1 a2 a3 f0 f1 o th s se ho i0 j0 q0 i1 j1 q1 a b x y, teF_ok h.1 h.1.1 h.2.1 h.2.2 has, v_rel (slpV_f (h := has) ..)⟩
  · cases e
theorem sl_s3_t (c : Int) (k : Int) (a0 : Int) (a1 : Int) (a2 : Int) (a3 : Int) (f0 : Int) (f1 : Int) (o : Int) (th : Int) (s : ByteArray) (se : Int) (ho : Int) (i0 : Int) (j0 : Int) (q0 : Int) (i1 : Int) (j1 : Int) (q1 : Int) (i2 : Int) (j2 : Int) (q2 : Int) (a : Int) (b : Int) (x : Int) (y : Int) : oneG (hG.size + 1) hG.clock ((run (cU true) 1000).call 31 (.agg ((Sh.mkL stI [.n c, .n k, .n a0, .n a1, .n a2, .n a3, .n f0, .n f1, .n o, .n th, .s s, .n se, .n ho]).1 ++ [stN 3]) :: (Sh.mkL [sS, sS] [.n a, .n b, .n x, .n y]).1) (coatH hG (Sh.mkL (filmSh 3) [.n i0, .n j0, .n q0, .n i1, .n j1, .n q1, .n i2, .n j2, .n q2]).1)) = some (.p (tcF (vStd c k a0 a1 a2 a3 f0 f1 o th s se ho ∧ inF i0 j0 q0 ∧ inF i1 j1 q1 ∧ inF i2 j2 q2) ⟨c, k, a0, a1, a2, a3, a, b, x, y⟩), sp2V (sagS c k a0 a1 a2 a3 a b x y).e (slA c k a0 a1 a2 a3 a b x y) (q4 c k a0 a1 a2 a3 a b x y) (q6 c k a0 a1 a2 a3 a b x y)) := by kernel_rfl
theorem sl_s3_f (c : Int) (k : Int) (a0 : Int) (a1 : Int) (a2 : Int) (a3 : Int) (f0 : Int) (f1 : Int) (o : Int) (th : Int) (s : ByteArray) (se : Int) (ho : Int) (i0 : Int) (j0 : Int) (q0 : Int) (i1 : Int) (j1 : Int) (q1 : Int) (i2 : Int) (j2 : Int) (q2 : Int) (a : Int) (b : Int) (x : Int) (y : Int) : oneG (hG.size + 1) hG.clock ((run (cU false) 1000).call 31 (.agg ((Sh.mkL stI [.n c, .n k, .n a0, .n a1, .n a2, .n a3, .n f0, .n f1, .n o, .n th, .s s, .n se, .n ho]).1 ++ [stN 3]) :: (Sh.mkL [sS, sS] [.n a, .n b, .n x, .n y]).1) (coatH hG (Sh.mkL (filmSh 3) [.n i0, .n j0, .n q0, .n i1, .n j1, .n q1, .n i2, .n j2, .n q2]).1)) = some (.p (teF (vStd c k a0 a1 a2 a3 f0 f1 o th s se ho ∧ inF i0 j0 q0 ∧ inF i1 j1 q1 ∧ inF i2 j2 q2) ⟨c, k, a0, a1, a2, a3, a, b, x, y⟩), sp2V (sagS c k a0 a1 a2 a3 a b x y).e (slP c k a b x y) (s14 c k a b x y) (s12 c k a b x y)) := by kernel_rfl
def sl_s3_V : List Nu → List Nu → List Nu → Option (Prop × AV)
  | [.n c, .n k, .n a0, .n a1, .n a2, .n a3, .n f0, .n f1, .n o, .n th, .s s, .n se, .n ho], [.n i0, .n j0, .n q0, .n i1, .n j1, .n q1, .n i2, .n j2, .n q2], [.n a, .n b, .n x, .n y] => some ((vStd c k a0 a1 a2 a3 f0 f1 o th s se ho ∧ inF i0 j0 q0 ∧ inF i1 j1 q1 ∧ inF i2 j2 q2) ∧ okSp a b = true ∧ okSp x y = true, slpV c k a0 a1 a2 a3 a b x y)
  | _, _, _ => none
theorem sl_s3_ok : HOk Tryz.prog glob hG 31 (coatSpec hG 3 stI [sS, sS] sl_s3_V) := by
  refine coat_rel hG_ok hG_plain glob_lt (fun xs ys zs q v e h => ?_) ⟨_, Tryz.func31, rfl⟩
  unfold sl_s3_V at e
  split at e
  · rename_i c k a0 a1 a2 a3 f0 f1 o th s se ho i0 j0 q0 i1 j1 q1 i2 j2 q2 a b x y
    cases e
    cases has : asp a0 a1 a2 a3 with
    | true => exact ⟨cU true, 1000, _, _, cU_ok _, rfl, rfl, rfl, rfl, rfl, rfl, sl_s3_t c k a0 a1 a2 a3 f0 f1 o th s se ho i0 j0 q0 i1 j1 q1 i2 j2 q2 a b x y, tcF_ok h.1 h.1.1 h.2.1 h.2.2 has, v_rel (slpV_t (h := has) ..)⟩
    | false => exact ⟨cU false, 1000, _, _, cU_ok _, rfl, rfl, rfl, rfl, rfl, rfl, sl_s3_f c k a0 a1 a2 a3 f0 f1 o th s se ho i0 j0 q0 i1 j1 q1 i2 j2 q2 a b x y, teF_ok h.1 h.1.1 h.2.1 h.2.2 has, v_rel (slpV_f (h := has) ..)⟩
  · cases e
/-- surface.Slope of valid surfaces of all kinds. -/
def slopeH : HSpec := orH (gH (orG (gSpec [.a (stI ++ [noC]), sS, sS] sl_st_V) (orG (gSpec [.a (biI ++ [noC]), sS, sS] sl_bi_V) (orG (gSpec [.a (brI ++ [noC]), sS, sS] sl_br_V) (gSpec [.a (idI ++ [noC]), sS, sS] sl_id_V))))) (orH (coatSpec hG 1 stI [sS, sS] sl_s1_V) (orH (coatSpec hG 2 stI [sS, sS] sl_s2_V) (coatSpec hG 3 stI [sS, sS] sl_s3_V)))
theorem slopeH_ok : HOk Tryz.prog glob hG 31 slopeH := orH_ok (GOk.h (orG_ok sl_st_ok (orG_ok sl_bi_ok (orG_ok sl_br_ok sl_id_ok)))) (orH_ok sl_s1_ok (orH_ok sl_s2_ok sl_s3_ok))
end
end Go.Proofs.YtiigkjnhmipnfaaGreatDoor.K
