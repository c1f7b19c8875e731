/- What is proved: AperOpen returns true, whatever the input (part 13 of 22). No conditions beyond those of the row. -/
import Derived.Test.YtkeognjggnmgmaaGreatDoorPL
set_option linter.unusedVariables false
set_option linter.unusedSimpArgs false
set_option linter.unusedSectionVars false
/- What is proved: what aper.Inside answers of valid surfaces of all kinds, at this seat. No conditions. -/
namespace Go.Proofs.YtkeognjggnmgmaaGreatDoor.K
open Go Go.Eng Go.Ar Go.Rd
noncomputable section
def insT (v : Int) : AV := .tuple [.int true .i64 v, .int false .i64 0]
theorem ins_rel {e e' : Int} (h : e = e') : ∀ σ V, VRel σ (insT e) V → VRel σ (insT e') V := fun σ V k => by subst h; exact k
theorem brk_in {a b x y : Int} (h : insOk 0 0 a b x y) : (okSp a b = true ∧ okSp x y = true) ∧ (sqrS a b).e = 0 ∧ (sqrS x y).e = 0 ∧ (addS (sqrS a b).lo (sqrS a b).hi (sqrS x y).lo (sqrS x y).hi).e = 0 := by
  have k := (ins_all h).1
  exact ⟨k.1, k.2.1⟩
theorem in_st_run (c : Int) (k : Int) (a0 : Int) (a1 : Int) (a2 : Int) (a3 : Int) (f0 : Int) (f1 : Int) (o : Int) (th : Int) (s : ByteArray) (se : Int) (ho : Int) (a : Int) (b : Int) (x : Int) (y : Int) : oneG hG.size hG.clock ((run cI 1000).call 13 (Sh.mkL [.a (stI ++ [noC]), sS, sS] [.n c, .n k, .n a0, .n a1, .n a2, .n a3, .n f0, .n f1, .n o, .n th, .s s, .n se, .n ho, .n a, .n b, .n x, .n y]).1 hG) = some (.p (vStd c k a0 a1 a2 a3 f0 f1 o th s se ho ∧ ijN se ho a b x y), insT (ijV se ho a b x y)) := by kernel_rfl
def in_st_V : List Nu → Option (Prop × AV)
  | [.n c, .n k, .n a0, .n a1, .n a2, .n a3, .n f0, .n f1, .n o, .n th, .s s, .n se, .n ho, .n a, .n b, .n x, .n y] => some (vStd c k a0 a1 a2 a3 f0 f1 o th s se ho ∧ insOk se ho a b x y, insT (insV se ho (qL a b x y) (qH a b x y)))
  | _ => none
theorem in_st_ok : GOk Tryz.prog glob hG 13 (gSpec [.a (stI ++ [noC]), sS, sS] in_st_V) := by
  refine gsp_rel hG_ok hG_plain glob_lt (fun xs q v e h => ?_) ⟨_, Tryz.func13, rfl⟩
  unfold in_st_V at e
  split at e
  · rename_i c k a0 a1 a2 a3 f0 f1 o th s se ho a b x y
    cases e
    obtain ⟨h0, h1⟩ := h
    exact ⟨cI, 1000, _, _, cI_ok, rfl, rfl, rfl, rfl, in_st_run c k a0 a1 a2 a3 f0 f1 o th s se ho a b x y, ⟨h0, (ins_all h1).1⟩, ins_rel (ins_all h1).2⟩
  · cases e
theorem in_bi_run (c : Int) (k : Int) (l : Int) (m : Int) (th : Int) (s : ByteArray) (se : Int) (ho : Int) (a : Int) (b : Int) (x : Int) (y : Int) : oneG hG.size hG.clock ((run cI 1000).call 13 (Sh.mkL [.a (biI ++ [noC]), sS, sS] [.n c, .n k, .n l, .n m, .n th, .s s, .n se, .n ho, .n a, .n b, .n x, .n y]).1 hG) = some (.p (vBic c k l m th s se ho ∧ ijN se ho a b x y), insT (ijV se ho a b x y)) := by kernel_rfl
def in_bi_V : List Nu → Option (Prop × AV)
  | [.n c, .n k, .n l, .n m, .n th, .s s, .n se, .n ho, .n a, .n b, .n x, .n y] => some (vBic c k l m th s se ho ∧ insOk se ho a b x y, insT (insV se ho (qL a b x y) (qH a b x y)))
  | _ => none
theorem in_bi_ok : GOk Tryz.prog glob hG 13 (gSpec [.a (biI ++ [noC]), sS, sS] in_bi_V) := by
  refine gsp_rel hG_ok hG_plain glob_lt (fun xs q v e h => ?_) ⟨_, Tryz.func13, rfl⟩
  unfold in_bi_V at e
  split at e
  · rename_i c k l m th s se ho a b x y
    cases e
    obtain ⟨h0, h1⟩ := h
    exact ⟨cI, 1000, _, _, cI_ok, rfl, rfl, rfl, rfl, in_bi_run c k l m th s se ho a b x y, ⟨h0, (ins_all h1).1⟩, ins_rel (ins_all h1).2⟩
  · cases e
theorem in_br_run (th : Int) (dx : Int) (dy : Int) (ax : Int) (ay : Int) (az : Int) (a : Int) (b : Int) (x : Int) (y : Int) : oneG hG.size hG.clock ((run cI 1000).call 13 (Sh.mkL [.a (brI ++ [noC]), sS, sS] [.n th, .n dx, .n dy, .n ax, .n ay, .n az, .n a, .n b, .n x, .n y]).1 hG) = some (.p (vBrk th dx dy ax ay az ∧ (okSp a b = true ∧ okSp x y = true) ∧ (sqrS a b).e = 0 ∧ (sqrS x y).e = 0 ∧ (addS (sqrS a b).lo (sqrS a b).hi (sqrS x y).lo (sqrS x y).hi).e = 0), .tuple [.int false .i64 1, .int false .i64 0]) := by kernel_rfl
def in_br_V : List Nu → Option (Prop × AV)
  | [.n th, .n dx, .n dy, .n ax, .n ay, .n az, .n a, .n b, .n x, .n y] => some (vBrk th dx dy ax ay az ∧ insOk 0 0 a b x y, .tuple [.int false .i64 1, .int false .i64 0])
  | _ => none
theorem in_br_ok : GOk Tryz.prog glob hG 13 (gSpec [.a (brI ++ [noC]), sS, sS] in_br_V) := by
  refine gsp_rel hG_ok hG_plain glob_lt (fun xs q v e h => ?_) ⟨_, Tryz.func13, rfl⟩
  unfold in_br_V at e
  split at e
  · rename_i th dx dy ax ay az a b x y
    cases e
    obtain ⟨h0, h1⟩ := h
    exact ⟨cI, 1000, _, _, cI_ok, rfl, rfl, rfl, rfl, in_br_run th dx dy ax ay az a b x y, ⟨h0, brk_in h1⟩, fun _ _ k => k⟩
  · cases e
theorem in_id_run (c : Int) (th : Int) (se : Int) (ho : Int) (a : Int) (b : Int) (x : Int) (y : Int) : oneG hG.size hG.clock ((run cI 1000).call 13 (Sh.mkL [.a (idI ++ [noC]), sS, sS] [.n c, .n th, .n se, .n ho, .n a, .n b, .n x, .n y]).1 hG) = some (.p (vIdl c th se ho ∧ ijN se ho a b x y), insT (ijV se ho a b x y)) := by kernel_rfl
def in_id_V : List Nu → Option (Prop × AV)
  | [.n c, .n th, .n se, .n ho, .n a, .n b, .n x, .n y] => some (vIdl c th se ho ∧ insOk se ho a b x y, insT (insV se ho (qL a b x y) (qH a b x y)))
  | _ => none
theorem in_id_ok : GOk Tryz.prog glob hG 13 (gSpec [.a (idI ++ [noC]), sS, sS] in_id_V) := by
  refine gsp_rel hG_ok hG_plain glob_lt (fun xs q v e h => ?_) ⟨_, Tryz.func13, rfl⟩
  unfold in_id_V at e
  split at e
  · rename_i c th se ho a b x y
    cases e
    obtain ⟨h0, h1⟩ := h
    exact ⟨cI, 1000, _, _, cI_ok, rfl, rfl, rfl, rfl, in_id_run c th se ho a b x y, ⟨h0, (ins_all h1).1⟩, ins_rel (ins_all h1).2⟩
  · cases e
theorem in_s1_run (c : Int) (k : Int) (a0 : Int) (a1 : Int) (a2 : Int) (a3 : Int) (f0 : Int) (f1 : Int) (o : Int) (th : Int) (s : ByteArray) (se : Int) (ho : Int) (i0 : Int) (j0 : Int) (q0 : Int) (a : Int) (b : Int) (x : Int) (y : Int) : oneG (hG.size + 1) hG.clock ((run cI 1000).call 13 (.agg ((Sh.mkL stI [.n c, .n k, .n a0, .n a1, .n a2, .n a3, .n f0, .n f1, .n o, .n th, .s s, .n se, .n ho]).1 ++ [stN 1]) :: (Sh.mkL [sS, sS] [.n a, .n b, .n x, .n y]).1) (coatH hG (Sh.mkL (filmSh 1) [.n i0, .n j0, .n q0]).1)) = some (.p ((vStd c k a0 a1 a2 a3 f0 f1 o th s se ho ∧ inF i0 j0 q0) ∧ ijN se ho a b x y), insT (ijV se ho a b x y)) := by kernel_rfl
def in_s1_V : List Nu → List Nu → List Nu → Option (Prop × AV)
  | [.n c, .n k, .n a0, .n a1, .n a2, .n a3, .n f0, .n f1, .n o, .n th, .s s, .n se, .n ho], [.n i0, .n j0, .n q0], [.n a, .n b, .n x, .n y] => some ((vStd c k a0 a1 a2 a3 f0 f1 o th s se ho ∧ inF i0 j0 q0) ∧ insOk se ho a b x y, insT (insV se ho (qL a b x y) (qH a b x y)))
  | _, _, _ => none
theorem in_s1_ok : HOk Tryz.prog glob hG 13 (coatSpec hG 1 stI [sS, sS] in_s1_V) := by
  refine coat_rel hG_ok hG_plain glob_lt (fun xs ys zs q v e h => ?_) ⟨_, Tryz.func13, rfl⟩
  unfold in_s1_V at e
  split at e
  · rename_i c k a0 a1 a2 a3 f0 f1 o th s se ho i0 j0 q0 a b x y
    cases e
    obtain ⟨h0, h1⟩ := h
    exact ⟨cI, 1000, _, _, cI_ok, rfl, rfl, rfl, rfl, rfl, rfl, in_s1_run c k a0 a1 a2 a3 f0 f1 o th s se ho i0 j0 q0 a b x y, ⟨h0, (ins_all h1).1⟩, ins_rel (ins_all h1).2⟩
  · cases e
theorem in_s2_run (c : Int) (k : Int) (a0 : Int) (a1 : Int) (a2 : Int) (a3 : Int) (f0 : Int) (f1 : Int) (o : Int) (th : Int) (s : ByteArray) (se : Int) (ho : Int) (i0 : Int) (j0 : Int) (q0 : Int) (i1 : Int) (j1 : Int) (q1 : Int) (a : Int) (b : Int) (x : Int) (y : Int) : oneG (hG.size + 1) hG.clock ((run cI 1000).call 13 (.agg ((Sh.mkL stI [.n c, .n k, .n a0, .n a1, .n a2, .n a3, .n f0, .n f1, .n o, .n th, .s s, .n se, .n ho]).1 ++ [stN 2]) :: (Sh.mkL [sS, sS] [.n a, .n b, .n x, .n y]).1) (coatH hG (Sh.mkL (filmSh 2) [.n i0, .n j0, .n q0, .n i1, .n j1, .n q1]).1)) = some (.p ((vStd c k a0 a1 a2 a3 f0 f1 o th s se ho ∧ inF i0 j0 q0 ∧ inF i1 j1 q1) ∧ ijN se ho a b x y), insT (ijV se ho a b x y)) := by kernel_rfl
def in_s2_V : List Nu → List Nu → List Nu → Option (Prop × AV)
  | [.n c, .n k, .n a0, .n a1, .n a2, .n a3, .n f0, .n f1, .n o, .n th, .s s, .n se, .n ho], [.n i0, .n j0, .n q0, .n i1, .n j1, .n q1], [.n a, .n b, .n x, .n y] => some ((vStd c k a0 a1 a2 a3 f0 f1 o th s se ho ∧ inF i0 j0 q0 ∧ inF i1 j1 q1) ∧ insOk se ho a b x y, insT (insV se ho (qL a b x y) (qH a b x y)))
  | _, _, _ => none
theorem in_s2_ok : HOk Tryz.prog glob hG 13 (coatSpec hG 2 stI [sS, sS] in_s2_V) := by
  refine coat_rel hG_ok hG_plain glob_lt (fun xs ys zs q v e h => ?_) ⟨_, Tryz.func13, rfl⟩
  unfold in_s2_V at e
  split at e
  · rename_i c k a0 a1 a2 a3 f0 f1 o th s se ho i0 j0 q0 i1 j1 q1 a b x y
    cases e
    obtain ⟨h0, h1⟩ := h
    exact ⟨cI, 1000, _, _, cI_ok, rfl, rfl, rfl, rfl, rfl, rfl, in_s2_run c k a0 a1 a2 a3 f0 f1 o th s se ho i0 j0 q0 i1 j1 q1 a b x y, ⟨h0, (ins_all h1).1⟩, ins_rel (ins_all h1).2⟩
  · cases e
theorem in_s3_run (c : Int) (k : Int) (a0 : Int) (a1 : Int) (a2 : Int) (a3 : Int) (f0 : Int) (f1 : Int) (o : Int) (th : Int) (s : ByteArray) (se : Int) (ho : Int) (i0 : Int) (j0 : Int) (q0 : Int) (i1 : Int) (j1 : Int) (q1 : Int) (i2 : Int) (j2 : Int) (q2 : Int) (a : Int) (b : Int) (x : Int) (y : Int) : oneG (hG.size + 1) hG.clock ((run cI 1000).call 13 (.agg ((Sh.mkL stI [.n c, .n k, .n a0, .n a1, .n a2, .n a3, .n f0, .n f1, .n o, .n th, .s s, .n se, .n ho]).1 ++ [stN 3]) :: (Sh.mkL [sS, sS] [.n a, .n b, .n x, .n y]).1) (coatH hG (Sh.mkL (filmSh 3) [.n i0, .n j0, .n q0, .n i1, .n j1, .n q1, .n i2, .n j2, .n q2]).1)) = some (.p ((vStd c k a0 a1 a2 a3 f0 f1 o th s se ho ∧ inF i0 j0 q0 ∧ inF i1 j1 q1 ∧ inF i2 j2 q2) ∧ ijN se ho a b x y), insT (ijV se ho a b x y)) := by kernel_rfl
def in_s3_V : List Nu → List Nu → List Nu → Option (Prop × AV)
  | [.n c, .n k, .n a0, .n a1, .n a2, .n a3, .n f0, .n f1, .n o, .n th, .s s, .n se, .n ho], [.n i0, .n j0, .n q0, .n i1, .n j1, .n q1, .n i2, .n j2, .n q2], [.n a, .n b, .n x, .n y] => some ((vStd c k a0 a1 a2 a3 f0 f1 o th s se ho ∧ inF i0 j0 q0 ∧ inF i1 j1 q1 ∧ inF i2 j2 q2) ∧ insOk se ho a b x y, insT (insV se ho (qL a b x y) (qH a b x y)))
  | _, _, _ => none
theorem in_s3_ok : HOk Tryz.prog glob hG 13 (coatSpec hG 3 stI [sS, sS] in_s3_V) := by
  refine coat_rel hG_ok hG_plain glob_lt (fun xs ys zs q v e h => ?_) ⟨_, Tryz.func13, rfl⟩
  unfold in_s3_V at e
  split at e
  · rename_i c k a0 a1 a2 a3 f0 f1 o th s se ho i0 j0 q0 i1 j1 q1 i2 j2 q2 a b x y
    cases e
    obtain ⟨h0, h1⟩ := h
    exact ⟨cI, 1000, _, _, cI_ok, rfl, rfl, rfl, rfl, rfl, rfl, in_s3_run c k a0 a1 a2 a3 f0 f1 o th s se ho i0 j0 q0 i1 j1 q1 i2 j2 q2 a b x y, ⟨h0, (ins_all h1).1⟩, ins_rel (ins_all h1).2⟩
  · cases e
/-- aper.Inside of valid surfaces of all kinds. -/
def insH : HSpec := orH (gH (orG (gSpec [.a (stI ++ [noC]), sS, sS] in_st_V) (orG (gSpec [.a (biI ++ [noC]), sS, sS] in_bi_V) (orG (gSpec [.a (brI ++ [noC]), sS, sS] in_br_V) (gSpec [.a (idI ++ [noC]), sS, sS] in_id_V))))) (orH (coatSpec hG 1 stI [sS, sS] in_s1_V) (orH (coatSpec hG 2 stI [sS, sS] in_s2_V) (coatSpec hG 3 stI [sS, sS] in_s3_V)))
theorem insH_ok : HOk Tryz.prog glob hG 13 insH := orH_ok (GOk.h (orG_ok in_st_ok (orG_ok in_bi_ok (orG_ok in_br_ok in_id_ok)))) (orH_ok in_s1_ok (orH_ok in_s2_ok in_s3_ok))
end
end Go.Proofs.YtkeognjggnmgmaaGreatDoor.K
