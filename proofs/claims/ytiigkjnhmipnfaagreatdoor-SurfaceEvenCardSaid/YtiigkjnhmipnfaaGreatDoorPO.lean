/- What is proved: SurfaceEven returns true, whatever the input (part 15 of 24). No conditions beyond those of the row. -/
import Derived.Test.YtiigkjnhmipnfaaGreatDoorPN
set_option linter.unusedVariables false
set_option linter.unusedSimpArgs false
set_option linter.unusedSectionVars false
namespace Go.Proofs.YtiigkjnhmipnfaaGreatDoor.K
open Go Go.Eng Go.Ar Go.Rd
noncomputable section
def chkBad : PSpec := fun args => match Sh.readL [shS] args with
  | some (_, [.n a, .n b]) => some (.p (okSp a b = false), .int false .i64 20)
  | _ => none
theorem chkBad_ok : GOk Tryz.prog glob hG 88 chkBad := by
  refine (schk_ok.g glob hG).weaken fun args nd v e => ?_
  unfold chkBad at e
  split at e
  · rename_i s a b hr
    cases e
    refine ⟨.tt, ((Tm.n .i64 (chkS a b)).av s), ?_, fun h => ⟨trivial, fun σ V k => ?_⟩⟩
    · show sChk args = _
      unfold sChk numSpec
      rw [hr]
    · rw [show chkS a b = 20 by unfold chkS; rw [show okSp a b = false from h]; rfl] at k
      exact (Go.Eng.mkInt_rel _ _ _ _).1 k
  · cases e
def chkAt (c : Nat) : HSpec := fun args h => match Nat.blt h.clock c with
  | true => gH chkSpec args h
  | false => gH chkBad args h
theorem chkAt_ok (c : Nat) : HOk Tryz.prog glob hG 88 (chkAt c) := by
  refine ⟨fun args nd v h e same => ?_, chk0.h.fn⟩
  unfold chkAt at e
  split at e
  · exact chk0.h.call args nd v h e same
  · exact chkBad_ok.h.call args nd v h e same
def tblB (c : Nat) : List (FuncId × HSpec) := [(18, chkH), (88, chkAt c)]
theorem tblB_g (c : Nat) : ∀ x ∈ tblB c, HOk Tryz.prog glob hG x.1 x.2 := by
  intro x hx
  simp only [tblB, List.mem_cons, List.not_mem_nil, or_false] at hx
  rcases hx with rfl | rfl
  · exact chkH_ok
  · exact chkAt_ok c
def cB (c : Nat) : Ctx := mkH Tryz.prog glob hG (tblB c) ext
theorem cB_ok (c : Nat) : CtxOk (cB c) := mkH_ok prog_ok ext_ok (tblB_g c)
theorem two_bad {a b x y : Int} (h : (okSp a b && okSp x y) = false) : okSp a b = false ∨ (okSp a b = true ∧ okSp x y = false) := by
  cases h1 : okSp a b with
  | false => exact .inl rfl
  | true => rw [h1] at h; exact .inr ⟨rfl, h⟩
theorem sb_st_1 (c : Int) (k : Int) (a0 : Int) (a1 : Int) (a2 : Int) (a3 : Int) (f0 : Int) (f1 : Int) (o : Int) (th : Int) (s : ByteArray) (se : Int) (ho : Int) (a : Int) (b : Int) (x : Int) (y : Int) : oneG hG.size hG.clock ((run (cB 0) 1000).call 29 (Sh.mkL [.a (stI ++ [noC]), sS, sS] [.n c, .n k, .n a0, .n a1, .n a2, .n a3, .n f0, .n f1, .n o, .n th, .s s, .n se, .n ho, .n a, .n b, .n x, .n y]).1 hG) = some (.p (vStd c k a0 a1 a2 a3 f0 f1 o th s se ho ∧ okSp a b = false), .tuple [.agg [.int false .i64 0, .int false .i64 0], .int false .i64 20]) := by kernel_rfl
theorem sb_st_2 (c : Int) (k : Int) (a0 : Int) (a1 : Int) (a2 : Int) (a3 : Int) (f0 : Int) (f1 : Int) (o : Int) (th : Int) (s : ByteArray) (se : Int) (ho : Int) (a : Int) (b : Int) (x : Int) (y : Int) : oneG hG.size hG.clock ((run (cB 40) 1000).call 29 (Sh.mkL [.a (stI ++ [noC]), sS, sS] [.n c, .n k, .n a0, .n a1, .n a2, .n a3, .n f0, .n f1, .n o, .n th, .s s, .n se, .n ho, .n a, .n b, .n x, .n y]).1 hG) = some (.p (vStd c k a0 a1 a2 a3 f0 f1 o th s se ho ∧ okSp a b = true ∧ okSp x y = false), .tuple [.agg [.int false .i64 0, .int false .i64 0], .int false .i64 20]) := by kernel_rfl
def sg_st_V : List Nu → Option (Prop × AV)
  | [.n c, .n k, .n a0, .n a1, .n a2, .n a3, .n f0, .n f1, .n o, .n th, .s s, .n se, .n ho, .n a, .n b, .n x, .n y] => some (vStd c k a0 a1 a2 a3 f0 f1 o th s se ho, spV (sagT a b x y (sagS c k a0 a1 a2 a3 a b x y)))
  | _ => none
theorem sg_st_ok : GOk Tryz.prog glob hG 29 (gSpec [.a (stI ++ [noC]), sS, sS] sg_st_V) := by
  refine gsp_rel hG_ok hG_plain glob_lt (fun xs q v e h => ?_) ⟨_, Tryz.func29, rfl⟩
  unfold sg_st_V at e
  split at e
  · rename_i c k a0 a1 a2 a3 f0 f1 o th s se ho a b x y
    cases e
    cases hok : okSp a b && okSp x y with
    | true =>
      have hh : okSp a b = true ∧ okSp x y = true := by simpa using hok
      exact ⟨cT, 1000, _, _, cT_ok, rfl, rfl, rfl, rfl, sa_st_run c k a0 a1 a2 a3 f0 f1 o th s se ho a b x y, taF_ok h h hh.1 hh.2, by unfold sagT; rw [hok]; exact fun _ _ k => k⟩
    | false =>
      rcases two_bad hok with h1 | ⟨h1, h2⟩
      · exact ⟨cB 0, 1000, _, _, cB_ok _, rfl, rfl, rfl, rfl, sb_st_1 c k a0 a1 a2 a3 f0 f1 o th s se ho a b x y, ⟨h, h1⟩, by unfold sagT; rw [hok]; exact fun _ _ k => k⟩
      · exact ⟨cB 40, 1000, _, _, cB_ok _, rfl, rfl, rfl, rfl, sb_st_2 c k a0 a1 a2 a3 f0 f1 o th s se ho a b x y, ⟨h, h1, h2⟩, by unfold sagT; rw [hok]; exact fun _ _ k => k⟩
  · cases e
theorem sb_bi_1 (c : Int) (k : Int) (l : Int) (m : Int) (th : Int) (s : ByteArray) (se : Int) (ho : Int) (a : Int) (b : Int) (x : Int) (y : Int) : oneG hG.size hG.clock ((run (cB 0) 1000).call 29 (Sh.mkL [.a (biI ++ [noC]), sS, sS] [.n c, .n k, .n l, .n m, .n th, .s s, .n se, .n ho, .n a, .n b, .n x, .n y]).1 hG) = some (.p (vBic c k l m th s se ho ∧ okSp a b = false), .tuple [.agg [.int false .i64 0, .int false .i64 0], .int false .i64 20]) := by kernel_rfl
theorem sb_bi_2 (c : Int) (k : Int) (l : Int) (m : Int) (th : Int) (s : ByteArray) (se : Int) (ho : Int) (a : Int) (b : Int) (x : Int) (y : Int) : oneG hG.size hG.clock ((run (cB 40) 1000).call 29 (Sh.mkL [.a (biI ++ [noC]), sS, sS] [.n c, .n k, .n l, .n m, .n th, .s s, .n se, .n ho, .n a, .n b, .n x, .n y]).1 hG) = some (.p (vBic c k l m th s se ho ∧ okSp a b = true ∧ okSp x y = false), .tuple [.agg [.int false .i64 0, .int false .i64 0], .int false .i64 20]) := by kernel_rfl
def sg_bi_V : List Nu → Option (Prop × AV)
  | [.n c, .n k, .n l, .n m, .n th, .s s, .n se, .n ho, .n a, .n b, .n x, .n y] => some (vBic c k l m th s se ho, spV (sagT a b x y (sagX c k l m a b x y)))
  | _ => none
theorem sg_bi_ok : GOk Tryz.prog glob hG 29 (gSpec [.a (biI ++ [noC]), sS, sS] sg_bi_V) := by
  refine gsp_rel hG_ok hG_plain glob_lt (fun xs q v e h => ?_) ⟨_, Tryz.func29, rfl⟩
  unfold sg_bi_V at e
  split at e
  · rename_i c k l m th s se ho a b x y
    cases e
    cases hok : okSp a b && okSp x y with
    | true =>
      have hh : okSp a b = true ∧ okSp x y = true := by simpa using hok
      exact ⟨cT, 1000, _, _, cT_ok, rfl, rfl, rfl, rfl, sa_bi_run c k l m th s se ho a b x y, tbF_ok h h hh.1 hh.2, by unfold sagT; rw [hok]; exact fun _ _ k => k⟩
    | false =>
      rcases two_bad hok with h1 | ⟨h1, h2⟩
      · exact ⟨cB 0, 1000, _, _, cB_ok _, rfl, rfl, rfl, rfl, sb_bi_1 c k l m th s se ho a b x y, ⟨h, h1⟩, by unfold sagT; rw [hok]; exact fun _ _ k => k⟩
      · exact ⟨cB 40, 1000, _, _, cB_ok _, rfl, rfl, rfl, rfl, sb_bi_2 c k l m th s se ho a b x y, ⟨h, h1, h2⟩, by unfold sagT; rw [hok]; exact fun _ _ k => k⟩
  · cases e
theorem sb_id_1 (c : Int) (th : Int) (se : Int) (ho : Int) (a : Int) (b : Int) (x : Int) (y : Int) : oneG hG.size hG.clock ((run (cB 0) 1000).call 29 (Sh.mkL [.a (idI ++ [noC]), sS, sS] [.n c, .n th, .n se, .n ho, .n a, .n b, .n x, .n y]).1 hG) = some (.p (vIdl c th se ho ∧ okSp a b = false), .tuple [.agg [.int false .i64 0, .int false .i64 0], .int false .i64 20]) := by kernel_rfl
theorem sb_id_2 (c : Int) (th : Int) (se : Int) (ho : Int) (a : Int) (b : Int) (x : Int) (y : Int) : oneG hG.size hG.clock ((run (cB 40) 1000).call 29 (Sh.mkL [.a (idI ++ [noC]), sS, sS] [.n c, .n th, .n se, .n ho, .n a, .n b, .n x, .n y]).1 hG) = some (.p (vIdl c th se ho ∧ okSp a b = true ∧ okSp x y = false), .tuple [.agg [.int false .i64 0, .int false .i64 0], .int false .i64 20]) := by kernel_rfl
def sg_id_V : List Nu → Option (Prop × AV)
  | [.n c, .n th, .n se, .n ho, .n a, .n b, .n x, .n y] => some (vIdl c th se ho, spV (sagT a b x y sp0))
  | _ => none
theorem sg_id_ok : GOk Tryz.prog glob hG 29 (gSpec [.a (idI ++ [noC]), sS, sS] sg_id_V) := by
  refine gsp_rel hG_ok hG_plain glob_lt (fun xs q v e h => ?_) ⟨_, Tryz.func29, rfl⟩
  unfold sg_id_V at e
  split at e
  · rename_i c th se ho a b x y
    cases e
    cases hok : okSp a b && okSp x y with
    | true =>
      have hh : okSp a b = true ∧ okSp x y = true := by simpa using hok
      exact ⟨cT, 1000, _, _, cT_ok, rfl, rfl, rfl, rfl, sa_id_run c th se ho a b x y, ⟨h, hh.1, hh.2⟩, by unfold sagT; rw [hok]; exact fun _ _ k => k⟩
    | false =>
      rcases two_bad hok with h1 | ⟨h1, h2⟩
      · exact ⟨cB 0, 1000, _, _, cB_ok _, rfl, rfl, rfl, rfl, sb_id_1 c th se ho a b x y, ⟨h, h1⟩, by unfold sagT; rw [hok]; exact fun _ _ k => k⟩
      · exact ⟨cB 40, 1000, _, _, cB_ok _, rfl, rfl, rfl, rfl, sb_id_2 c th se ho a b x y, ⟨h, h1, h2⟩, by unfold sagT; rw [hok]; exact fun _ _ k => k⟩
  · cases e
theorem sb_s1_1 (c : Int) (k : Int) (a0 : Int) (a1 : Int) (a2 : Int) (a3 : Int) (f0 : Int) (f1 : Int) (o : Int) (th : Int) (s : ByteArray) (se : Int) (ho : Int) (i0 : Int) (j0 : Int) (q0 : Int) (a : Int) (b : Int) (x : Int) (y : Int) : oneG (hG.size + 1) hG.clock ((run (cB 0) 1000).call 29 (.agg ((Sh.mkL stI [.n c, .n k, .n a0, .n a1, .n a2, .n a3, .n f0, .n f1, .n o, .n th, .s s, .n se, .n ho]).1 ++ [stN 1]) :: (Sh.mkL [sS, sS] [.n a, .n b, .n x, .n y]).1) (coatH hG (Sh.mkL (filmSh 1) [.n i0, .n j0, .n q0]).1)) = some (.p ((vStd c k a0 a1 a2 a3 f0 f1 o th s se ho ∧ inF i0 j0 q0) ∧ okSp a b = false), .tuple [.agg [.int false .i64 0, .int false .i64 0], .int false .i64 20]) := by kernel_rfl
theorem sb_s1_2 (c : Int) (k : Int) (a0 : Int) (a1 : Int) (a2 : Int) (a3 : Int) (f0 : Int) (f1 : Int) (o : Int) (th : Int) (s : ByteArray) (se : Int) (ho : Int) (i0 : Int) (j0 : Int) (q0 : Int) (a : Int) (b : Int) (x : Int) (y : Int) : oneG (hG.size + 1) hG.clock ((run (cB 40) 1000).call 29 (.agg ((Sh.mkL stI [.n c, .n k, .n a0, .n a1, .n a2, .n a3, .n f0, .n f1, .n o, .n th, .s s, .n se, .n ho]).1 ++ [stN 1]) :: (Sh.mkL [sS, sS] [.n a, .n b, .n x, .n y]).1) (coatH hG (Sh.mkL (filmSh 1) [.n i0, .n j0, .n q0]).1)) = some (.p ((vStd c k a0 a1 a2 a3 f0 f1 o th s se ho ∧ inF i0 j0 q0) ∧ okSp a b = true ∧ okSp x y = false), .tuple [.agg [.int false .i64 0, .int false .i64 0], .int false .i64 20]) := by kernel_rfl
def sg_s1_V : List Nu → List Nu → List Nu → Option (Prop × AV)
  | [.n c, .n k, .n a0, .n a1, .n a2, .n a3, .n f0, .n f1, .n o, .n th, .s s, .n se, .n ho], [.n i0, .n j0, .n q0], [.n a, .n b, .n x, .n y] => some ((vStd c k a0 a1 a2 a3 f0 f1 o th s se ho ∧ inF i0 j0 q0), spV (sagT a b x y (sagS c k a0 a1 a2 a3 a b x y)))
  | _, _, _ => none
theorem sg_s1_ok : HOk Tryz.prog glob hG 29 (coatSpec hG 1 stI [sS, sS] sg_s1_V) := by
  refine coat_rel hG_ok hG_plain glob_lt (fun xs ys zs q v e h => ?_) ⟨_, Tryz.func29, rfl⟩
  unfold sg_s1_V at e
  split at e
  · rename_i c k a0 a1 a2 a3 f0 f1 o th s se ho i0 j0 q0 a b x y
    cases e
    cases hok : okSp a b && okSp x y with
    | true =>
      have hh : okSp a b = true ∧ okSp x y = true := by simpa using hok
      exact ⟨cT, 1000, _, _, cT_ok, rfl, rfl, rfl, rfl, rfl, rfl, sa_s1_run c k a0 a1 a2 a3 f0 f1 o th s se ho i0 j0 q0 a b x y, taF_ok h h.1 hh.1 hh.2, by unfold sagT; rw [hok]; exact fun _ _ k => k⟩
    | false =>
      rcases two_bad hok with h1 | ⟨h1, h2⟩
      · exact ⟨cB 0, 1000, _, _, cB_ok _, rfl, rfl, rfl, rfl, rfl, rfl, sb_s1_1 c k a0 a1 a2 a3 f0 f1 o th s se ho i0 j0 q0 a b x y, ⟨h, h1⟩, by unfold sagT; rw [hok]; exact fun _ _ k => k⟩
      · exact ⟨cB 40, 1000, _, _, cB_ok _, rfl, rfl, rfl, rfl, rfl, rfl, sb_s1_2 c k a0 a1 a2 a3 f0 f1 o th s se ho i0 j0 q0 a b x y, ⟨h, h1, h2⟩, by unfold sagT; rw [hok]; exact fun _ _ k => k⟩
  · cases e
theorem sb_s2_1 (c : Int) (k : Int) (a0 : Int) (a1 : Int) (a2 : Int) (a3 : Int) (f0 : Int) (f1 : Int) (o : Int) (th : Int) (s : ByteArray) (se : Int) (ho : Int) (i0 : Int) (j0 : Int) (q0 : Int) (i1 : Int) (j1 : Int) (q1 : Int) (a : Int) (b : Int) (x : Int) (y : Int) : oneG (hG.size + 1) hG.clock ((run (cB 0) 1000).call 29 (.agg ((Sh.mkL stI [.n c, .n k, .n a0, .n a1, .n a2, .n a3, .n f0, .n f1, .n o, .n th, .s s, .n se, .n ho]).1 ++ [stN 2]) :: (Sh.mkL [sS, sS] [.n a, .n b, .n x, .n y]).1) (coatH hG (Sh.mkL (filmSh 2) [.n i0, .n j0, .n q0, .n i1, .n j1, .n q1]).1)) = some (.p ((vStd c k a0 a1 a2 a3 f0 f1 o th s se ho ∧ inF i0 j0 q0 ∧ inF i1 j1 q1) ∧ okSp a b = false), .tuple [.agg [.int false .i64 0, .int false .i64 0], .int false .i64 20]) := by kernel_rfl
theorem sb_s2_2 (c : Int) (k : Int) (a0 : Int) (a1 : Int) (a2 : Int) (a3 : Int) (f0 : Int) (f1 : Int) (o : Int) (th : Int) (s : ByteArray) (se : Int) (ho : Int) (i0 : Int) (j0 : Int) (q0 : Int) (i1 : Int) (j1 : Int) (q1 : Int) (a : Int) (b : Int) (x : Int) (y : Int) : oneG (hG.size + 1) hG.clock ((run (cB 40) 1000).call 29 (.agg ((Sh.mkL stI [.n c, .n k, .n a0, .n a1, .n a2, .n a3, .n f0, .n f1, .n o, .n th, .s s, .n se, .n ho]).1 ++ [stN 2]) :: (Sh.mkL [sS, sS] [.n a, .n b, .n x, .n y]).1) (coatH hG (Sh.mkL (filmSh 2) [.n i0, .n j0, .n q0, .n i1, .n j1, .n q1]).1)) = some (.p ((vStd c k a0 a1 a2 a3 f0 f1 o th s se ho ∧ inF i0 j0 q0 ∧ inF i1 j1 q1) ∧ okSp a b = true ∧ okSp x y = false), .tuple [.agg [.int false .i64 0, .int false .i64 0], .int false .i64 20]) := by kernel_rfl
def sg_s2_V : List Nu → List Nu → List Nu → Option (Prop × AV)
  | [.n c, .n k, .n a0, .n a1, .n a2, .n a3, .n f0, .n f1, .n o, .n th, .s s, .n se, .n ho], [.n i0, .n j0, .n q0, .n i1, .n j1, .n q1], [.n a, .n b, .n x, .n y] => some ((vStd c k a0 a1 a2 a3 f0 f1 o th s se ho ∧ inF i0 j0 q0 ∧ inF i1 j1 q1), spV (sagT a b x y (sagS c k a0 a1 a2 a3 a b x y)))
  | _, _, _ => none
theorem sg_s2_ok : HOk Tryz.prog glob hG 29 (coatSpec hG 2 stI [sS, sS] sg_s2_V) := by
  refine coat_rel hG_ok hG_plain glob_lt (fun xs ys zs q v e h => ?_) ⟨_, Tryz.func29, rfl⟩
  unfold sg_s2_V at e
  split at e
  · rename_i c k a0 a1 a2 a3 f0 f1 o th s se ho i0 j0 q0 i1 j1 q1 a b x y
    cases e
    cases hok : okSp a b && okSp x y with
    | true =>
      have hh : okSp a b = true ∧ okSp x y = true := by simpa using hok
      exact ⟨cT, 1000, _, _, cT_ok, rfl, rfl, rfl, rfl, rfl, rfl, sa_s2_run c k a0 a1 a2 a3 f0 f1 o th s se ho i0 j0 q0 i1 j1 q1 a b x y, taF_ok h h.1 hh.1 hh.2, by unfold sagT; rw [hok]; exact fun _ _ k => k⟩
    | false =>
      rcases two_bad hok with h1 | ⟨h1, h2⟩
      · exact ⟨cB 0, 1000, _, _, cB_ok _, rfl, rfl, rfl, rfl, rfl, rfl, sb_s2_1 c k a0 a1 a2 a3 f0 f1 o th s se ho i0 j0 q0 i1 j1 q1 a b x y, ⟨h, h1⟩, by unfold sagT; rw [hok]; exact fun _ _ k => k⟩
      · exact ⟨cB 40, 1000, _, _, cB_ok _, rfl, rfl, rfl, rfl, rfl, rfl, sb_s2_2 c k a0 a1 a2 a3 f0 f1 o th s se ho i0 j0 q0 i1 j1 q1 a b x y, ⟨h, h1, h2⟩, by unfold sagT; rw [hok]; exact fun _ _ k => k⟩
  · cases e
theorem sb_s3_1 (c : Int) (k : Int) (a0 : Int) (a1 : Int) (a2 : Int) (a3 : Int) (f0 : Int) (f1 : Int) (o : Int) (th : Int) (s : ByteArray) (se : Int) (ho : Int) (i0 : Int) (j0 : Int) (q0 : Int) (i1 : Int) (j1 : Int) (q1 : Int) (i2 : Int) (j2 : Int) (q2 : Int) (a : Int) (b : Int) (x : Int) (y : Int) : oneG (hG.size + 1) hG.clock ((run (cB 0) 1000).call 29 (.agg ((Sh.mkL stI [.n c, .n k, .n a0, .n a1, .n a2, .n a3, .n f0, .n f1, .n o, .n th, .s s, .n se, .n ho]).1 ++ [stN 3]) :: (Sh.mkL [sS, sS] [.n a, .n b, .n x, .n y]).1) (coatH hG (Sh.mkL (filmSh 3) [.n i0, .n j0, .n q0, .n i1, .n j1, .n q1, .n i2, .n j2, .n q2]).1)) = some (.p ((vStd c k a0 a1 a2 a3 f0 f1 o th s se ho ∧ inF i0 j0 q0 ∧ inF i1 j1 q1 ∧ inF i2 j2 q2) ∧ okSp a b = false), .tuple [.agg [.int false .i64 0, .int false .i64 0], .int false .i64 20]) := by kernel_rfl
theorem sb_s3_2 (c : Int) (k : Int) (a0 : Int) (a1 : Int) (a2 : Int) (a3 : Int) (f0 : Int) (f1 : Int) (o : Int) (th : Int) (s : ByteArray) (se : Int) (ho : Int) (i0 : Int) (j0 : Int) (q0 : Int) (i1 : Int) (j1 : Int) (q1 : Int) (i2 : Int) (j2 : Int) (q2 : Int) (a : Int) (b : Int) (x : Int) (y : Int) : oneG (hG.size + 1) hG.clock ((run (cB 40) 1000).call 29 (.agg ((Sh.mkL stI [.n c, .n k, .n a0, .n a1, .n a2, .n a3, .n f0, .n f1, .n o, .n th, .s s, .n se, .n ho]).1 ++ [stN 3]) :: (Sh.mkL [sS, sS] [.n a, .n b, .n x, .n y]).1) (coatH hG (Sh.mkL (filmSh 3) [.n i0, .n j0, .n q0, .n i1, .n j1, .n q1, .n i2, .n j2, .n q2]).1)) = some (.p ((vStd c k a0 a1 a2 a3 f0 f1 o th s se ho ∧ inF i0 j0 q0 ∧ inF i1 j1 q1 ∧ inF i2 j2 q2) ∧ okSp a b = true ∧ okSp x y = false), .tuple [.agg [.int false .i64 0, .int false .i64 0], .int false .i64 20]) := by kernel_rfl
def sg_s3_V : List Nu → List Nu → List Nu → Option (Prop × AV)
  | [.n c, .n k, .n a0, .n a1, .n a2, .n a3, .n f0, .n f1, .n o, .n th, .s s, .n se, .n ho], [.n i0, .n j0, .n q0, .n i1, .n j1, .n q1, .n i2, .n j2, .n q2], [.n a, .n b, .n x, .n y] => some ((vStd c k a0 a1 a2 a3 f0 f1 o th s se ho ∧ inF i0 j0 q0 ∧ inF i1 j1 q1 ∧ inF i2 j2 q2), spV (sagT a b x y (sagS c k a0 a1 a2 a3 a b x y)))
  | _, _, _ => none
theorem sg_s3_ok : HOk Tryz.prog glob hG 29 (coatSpec hG 3 stI [sS, sS] sg_s3_V) := by
  refine coat_rel hG_ok hG_plain glob_lt (fun xs ys zs q v e h => ?_) ⟨_, Tryz.func29, rfl⟩
  unfold sg_s3_V at e
  split at e
  · rename_i c k a0 a1 a2 a3 f0 f1 o th s se ho i0 j0 q0 i1 j1 q1 i2 j2 q2 a b x y
    cases e
    cases hok : okSp a b && okSp x y with
    | true =>
      have hh : okSp a b = true ∧ okSp x y = true := by simpa using hok
      exact ⟨cT, 1000, _, _, cT_ok, rfl, rfl, rfl, rfl, rfl, rfl, sa_s3_run c k a0 a1 a2 a3 f0 f1 o th s se ho i0 j0 q0 i1 j1 q1 i2 j2 q2 a b x y, taF_ok h h.1 hh.1 hh.2, by unfold sagT; rw [hok]; exact fun _ _ k => k⟩
    | false =>
      rcases two_bad hok with h1 | ⟨h1, h2⟩
      · exact ⟨cB 0, 1000, _, _, cB_ok _, rfl, rfl, rfl, rfl, rfl, rfl, sb_s3_1 c k a0 a1 a2 a3 f0 f1 o th s se ho i0 j0 q0 i1 j1 q1 i2 j2 q2 a b x y, ⟨h, h1⟩, by unfold sagT; rw [hok]; exact fun _ _ k => k⟩
      · exact ⟨cB 40, 1000, _, _, cB_ok _, rfl, rfl, rfl, rfl, rfl, rfl, sb_s3_2 c k a0 a1 a2 a3 f0 f1 o th s se ho i0 j0 q0 i1 j1 q1 i2 j2 q2 a b x y, ⟨h, h1, h2⟩, by unfold sagT; rw [hok]; exact fun _ _ k => k⟩
  · cases e
def sg_br_V : List Nu → Option (Prop × AV)
  | [.n th, .n dx, .n dy, .n ax, .n ay, .n az, .n a, .n b, .n x, .n y] => some (vBrk th dx dy ax ay az, .tuple [.agg [.int false .i64 0, .int false .i64 0], .int false .i64 5])
  | _ => none
theorem sg_br_ok : GOk Tryz.prog glob hG 29 (gSpec [.a (brI ++ [noC]), sS, sS] sg_br_V) := by
  refine gsp_rel hG_ok hG_plain glob_lt (fun xs q v e h => ?_) ⟨_, Tryz.func29, rfl⟩
  unfold sg_br_V at e
  split at e
  · rename_i th dx dy ax ay az a b x y
    cases e
    exact ⟨cT, 1000, _, _, cT_ok, rfl, rfl, rfl, rfl, sa_br_run th dx dy ax ay az a b x y, h, fun _ _ k => k⟩
  · cases e
def sagA : HSpec := orH (gH (orG (gSpec [.a (stI ++ [noC]), sS, sS] sg_st_V) (orG (gSpec [.a (biI ++ [noC]), sS, sS] sg_bi_V) (orG (gSpec [.a (brI ++ [noC]), sS, sS] sg_br_V) (gSpec [.a (idI ++ [noC]), sS, sS] sg_id_V))))) (orH (coatSpec hG 1 stI [sS, sS] sg_s1_V) (orH (coatSpec hG 2 stI [sS, sS] sg_s2_V) (coatSpec hG 3 stI [sS, sS] sg_s3_V)))
theorem sagA_ok : HOk Tryz.prog glob hG 29 sagA := orH_ok (GOk.h (orG_ok sg_st_ok (orG_ok sg_bi_ok (orG_ok sg_br_ok sg_id_ok)))) (orH_ok sg_s1_ok (orH_ok sg_s2_ok sg_s3_ok))
end
end Go.Proofs.YtiigkjnhmipnfaaGreatDoor.K
namespace Go.Proofs.YtiigkjnhmipnfaaGreatDoor.K
open Go Go.Eng Go.Ar Go.Rd
noncomputable section
def sh_st_V : List Nu → Option (Prop × AV)
  | [.n c, .n k, .n a0, .n a1, .n a2, .n a3, .n f0, .n f1, .n o, .n th, .s s, .n se, .n ho, .n a, .n b, .n x, .n y] => some (vStd c k a0 a1 a2 a3 f0 f1 o th s se ho ∧ (okSp a b && okSp x y) = false, .tuple [.agg [.int false .i64 0, .int false .i64 0], .int false .i64 20])
  | _ => none
theorem sh_st_ok : GOk Tryz.prog glob hG 29 (gSpec [.a (stI ++ [noC]), sS, sS] sh_st_V) := by
  refine gsp_rel hG_ok hG_plain glob_lt (fun xs q v e h => ?_) ⟨_, Tryz.func29, rfl⟩
  unfold sh_st_V at e
  split at e
  · rename_i c k a0 a1 a2 a3 f0 f1 o th s se ho a b x y
    cases e
    rcases two_bad h.2 with h1 | ⟨h1, h2⟩
    · exact ⟨cB 0, 1000, _, _, cB_ok _, rfl, rfl, rfl, rfl, sb_st_1 c k a0 a1 a2 a3 f0 f1 o th s se ho a b x y, ⟨h.1, h1⟩, fun _ _ k => k⟩
    · exact ⟨cB 40, 1000, _, _, cB_ok _, rfl, rfl, rfl, rfl, sb_st_2 c k a0 a1 a2 a3 f0 f1 o th s se ho a b x y, ⟨h.1, h1, h2⟩, fun _ _ k => k⟩
  · cases e
def sh_bi_V : List Nu → Option (Prop × AV)
  | [.n c, .n k, .n l, .n m, .n th, .s s, .n se, .n ho, .n a, .n b, .n x, .n y] => some (vBic c k l m th s se ho ∧ (okSp a b && okSp x y) = false, .tuple [.agg [.int false .i64 0, .int false .i64 0], .int false .i64 20])
  | _ => none
theorem sh_bi_ok : GOk Tryz.prog glob hG 29 (gSpec [.a (biI ++ [noC]), sS, sS] sh_bi_V) := by
  refine gsp_rel hG_ok hG_plain glob_lt (fun xs q v e h => ?_) ⟨_, Tryz.func29, rfl⟩
  unfold sh_bi_V at e
  split at e
  · rename_i c k l m th s se ho a b x y
    cases e
    rcases two_bad h.2 with h1 | ⟨h1, h2⟩
    · exact ⟨cB 0, 1000, _, _, cB_ok _, rfl, rfl, rfl, rfl, sb_bi_1 c k l m th s se ho a b x y, ⟨h.1, h1⟩, fun _ _ k => k⟩
    · exact ⟨cB 40, 1000, _, _, cB_ok _, rfl, rfl, rfl, rfl, sb_bi_2 c k l m th s se ho a b x y, ⟨h.1, h1, h2⟩, fun _ _ k => k⟩
  · cases e
def sh_id_V : List Nu → Option (Prop × AV)
  | [.n c, .n th, .n se, .n ho, .n a, .n b, .n x, .n y] => some (vIdl c th se ho ∧ (okSp a b && okSp x y) = false, .tuple [.agg [.int false .i64 0, .int false .i64 0], .int false .i64 20])
  | _ => none
theorem sh_id_ok : GOk Tryz.prog glob hG 29 (gSpec [.a (idI ++ [noC]), sS, sS] sh_id_V) := by
  refine gsp_rel hG_ok hG_plain glob_lt (fun xs q v e h => ?_) ⟨_, Tryz.func29, rfl⟩
  unfold sh_id_V at e
  split at e
  · rename_i c th se ho a b x y
    cases e
    rcases two_bad h.2 with h1 | ⟨h1, h2⟩
    · exact ⟨cB 0, 1000, _, _, cB_ok _, rfl, rfl, rfl, rfl, sb_id_1 c th se ho a b x y, ⟨h.1, h1⟩, fun _ _ k => k⟩
    · exact ⟨cB 40, 1000, _, _, cB_ok _, rfl, rfl, rfl, rfl, sb_id_2 c th se ho a b x y, ⟨h.1, h1, h2⟩, fun _ _ k => k⟩
  · cases e
def sh_s1_V : List Nu → List Nu → List Nu → Option (Prop × AV)
  | [.n c, .n k, .n a0, .n a1, .n a2, .n a3, .n f0, .n f1, .n o, .n th, .s s, .n se, .n ho], [.n i0, .n j0, .n q0], [.n a, .n b, .n x, .n y] => some ((vStd c k a0 a1 a2 a3 f0 f1 o th s se ho ∧ inF i0 j0 q0) ∧ (okSp a b && okSp x y) = false, .tuple [.agg [.int false .i64 0, .int false .i64 0], .int false .i64 20])
  | _, _, _ => none
theorem sh_s1_ok : HOk Tryz.prog glob hG 29 (coatSpec hG 1 stI [sS, sS] sh_s1_V) := by
  refine coat_rel hG_ok hG_plain glob_lt (fun xs ys zs q v e h => ?_) ⟨_, Tryz.func29, rfl⟩
  unfold sh_s1_V at e
  split at e
  · rename_i c k a0 a1 a2 a3 f0 f1 o th s se ho i0 j0 q0 a b x y
    cases e
    rcases two_bad h.2 with h1 | ⟨h1, h2⟩
    · exact ⟨cB 0, 1000, _, _, cB_ok _, rfl, rfl, rfl, rfl, rfl, rfl, sb_s1_1 c k a0 a1 a2 a3 f0 f1 o th s se ho i0 j0 q0 a b x y, ⟨h.1, h1⟩, fun _ _ k => k⟩
    · exact ⟨cB 40, 1000, _, _, cB_ok _, rfl, rfl, rfl, rfl, rfl, rfl, sb_s1_2 c k a0 a1 a2 a3 f0 f1 o th s se ho i0 j0 q0 a b x y, ⟨h.1, h1, h2⟩, fun _ _ k => k⟩
  · cases e
def sh_s2_V : List Nu → List Nu → List Nu → Option (Prop × AV)
  | [.n c, .n k, .n a0, .n a1, .n a2, .n a3, .n f0, .n f1, .n o, .n th, .s s, .n se, .n ho], [.n i0, .n j0, .n q0, .n i1, .n j1, .n q1], [.n a, .n b, .n x, .n y] => some ((vStd c k a0 a1 a2 a3 f0 f1 o th s se ho ∧ inF i0 j0 q0 ∧ inF i1 j1 q1) ∧ (okSp a b && okSp x y) = false, .tuple [.agg [.int false .i64 0, .int false .i64 0], .int false .i64 20])
  | _, _, _ => none
theorem sh_s2_ok : HOk Tryz.prog glob hG 29 (coatSpec hG 2 stI [sS, sS] sh_s2_V) := by
  refine coat_rel hG_ok hG_plain glob_lt (fun xs ys zs q v e h => ?_) ⟨_, Tryz.func29, rfl⟩
  unfold sh_s2_V at e
  split at e
  · rename_i c k a0 a1 a2 a3 f0 f1 o th s se ho i0 j0 q0 i1 j1 q1 a b x y
    cases e
    rcases two_bad h.2 with h1 | ⟨h1, h2⟩
    · exact ⟨cB 0, 1000, _, _, cB_ok _, rfl, rfl, rfl, rfl, rfl, rfl, sb_s2_1 c k a0 a1 a2 a3 f0 f1 o th s se ho i0 j0 q0 i1 j1 q1 a b x y, ⟨h.1, h1⟩, fun _ _ k => k⟩
    · exact ⟨cB 40, 1000, _, _, cB_ok _, rfl, rfl, rfl, rfl, rfl, rfl, sb_s2_2 c k a0 a1 a2 a3 f0 f1 o th s se ho i0 j0 q0 i1 j1 q1 a b x y, ⟨h.1, h1, h2⟩, fun _ _ k => k⟩
  · cases e
def sh_s3_V : List Nu → List Nu → List Nu → Option (Prop × AV)
  | [.n c, .n k, .n a0, .n a1, .n a2, .n a3, .n f0, .n f1, .n o, .n th, .s s, .n se, .n ho], [.n i0, .n j0, .n q0, .n i1, .n j1, .n q1, .n i2, .n j2, .n q2], [.n a, .n b, .n x, .n y] => some ((vStd c k a0 a1 a2 a3 f0 f1 o th s se ho ∧ inF i0 j0 q0 ∧ inF i1 j1 q1 ∧ inF i2 j2 q2) ∧ (okSp a b && okSp x y) = false, .tuple [.agg [.int false .i64 0, .int false .i64 0], .int false .i64 20])
  | _, _, _ => none
theorem sh_s3_ok : HOk Tryz.prog glob hG 29 (coatSpec hG 3 stI [sS, sS] sh_s3_V) := by
  refine coat_rel hG_ok hG_plain glob_lt (fun xs ys zs q v e h => ?_) ⟨_, Tryz.func29, rfl⟩
  unfold sh_s3_V at e
  split at e
  · rename_i c k a0 a1 a2 a3 f0 f1 o th s se ho i0 j0 q0 i1 j1 q1 i2 j2 q2 a b x y
    cases e
    rcases two_bad h.2 with h1 | ⟨h1, h2⟩
    · exact ⟨cB 0, 1000, _, _, cB_ok _, rfl, rfl, rfl, rfl, rfl, rfl, sb_s3_1 c k a0 a1 a2 a3 f0 f1 o th s se ho i0 j0 q0 i1 j1 q1 i2 j2 q2 a b x y, ⟨h.1, h1⟩, fun _ _ k => k⟩
    · exact ⟨cB 40, 1000, _, _, cB_ok _, rfl, rfl, rfl, rfl, rfl, rfl, sb_s3_2 c k a0 a1 a2 a3 f0 f1 o th s se ho i0 j0 q0 i1 j1 q1 i2 j2 q2 a b x y, ⟨h.1, h1, h2⟩, fun _ _ k => k⟩
  · cases e
def sagBadH : HSpec := orH (gH (orG (gSpec [.a (stI ++ [noC]), sS, sS] sh_st_V) (orG (gSpec [.a (biI ++ [noC]), sS, sS] sh_bi_V) (gSpec [.a (idI ++ [noC]), sS, sS] sh_id_V)))) (orH (coatSpec hG 1 stI [sS, sS] sh_s1_V) (orH (coatSpec hG 2 stI [sS, sS] sh_s2_V) (coatSpec hG 3 stI [sS, sS] sh_s3_V)))
theorem sagBadH_ok : HOk Tryz.prog glob hG 29 sagBadH := orH_ok (GOk.h (orG_ok sh_st_ok (orG_ok sh_bi_ok sh_id_ok))) (orH_ok sh_s1_ok (orH_ok sh_s2_ok sh_s3_ok))
def tblBs : List (FuncId × HSpec) := [(29, sagBadH)]
theorem tblBs_g : ∀ x ∈ tblBs, HOk Tryz.prog glob hG x.1 x.2 := by
  intro x hx
  obtain rfl := List.mem_singleton.1 hx
  exact sagBadH_ok
def cBs : Ctx := mkH Tryz.prog glob hG tblBs ext
theorem cBs_ok : CtxOk cBs := mkH_ok prog_ok ext_ok tblBs_g
theorem sm_st (c : Int) (k : Int) (a0 : Int) (a1 : Int) (a2 : Int) (a3 : Int) (f0 : Int) (f1 : Int) (o : Int) (th : Int) (s : ByteArray) (se : Int) (ho : Int) (a : Int) (b : Int) (x : Int) (y : Int) : oneG hG.size hG.clock ((run cBs 1000).call 31 (Sh.mkL [.a (stI ++ [noC]), sS, sS] [.n c, .n k, .n a0, .n a1, .n a2, .n a3, .n f0, .n f1, .n o, .n th, .s s, .n se, .n ho, .n a, .n b, .n x, .n y]).1 hG) = some (.p (vStd c k a0 a1 a2 a3 f0 f1 o th s se ho ∧ (okSp a b && okSp x y) = false), .tuple [.agg [.int false .i64 0, .int false .i64 0], .agg [.int false .i64 0, .int false .i64 0], .int false .i64 20]) := by kernel_rfl
def sn_st_V : List Nu → Option (Prop × AV)
  | [.n c, .n k, .n a0, .n a1, .n a2, .n a3, .n f0, .n f1, .n o, .n th, .s s, .n se, .n ho, .n a, .n b, .n x, .n y] => some (vStd c k a0 a1 a2 a3 f0 f1 o th s se ho, sp2V (sagT a b x y (sagS c k a0 a1 a2 a3 a b x y)).e (slC c k a0 a1 a2 a3 a b x y) (slU c k a0 a1 a2 a3 a b x y) (slV c k a0 a1 a2 a3 a b x y))
  | _ => none
theorem sn_st_ok : GOk Tryz.prog glob hG 31 (gSpec [.a (stI ++ [noC]), sS, sS] sn_st_V) := by
  refine gsp_rel hG_ok hG_plain glob_lt (fun xs q v e h => ?_) ⟨_, Tryz.func31, rfl⟩
  unfold sn_st_V at e
  split at e
  · rename_i c k a0 a1 a2 a3 f0 f1 o th s se ho a b x y
    cases e
    cases hok : okSp a b && okSp x y with
    | true =>
      have hh : okSp a b = true ∧ okSp x y = true := by simpa using hok
      cases has : asp a0 a1 a2 a3 with
      | true => exact ⟨cU true, 1000, _, _, cU_ok _, rfl, rfl, rfl, rfl, sl_st_t c k a0 a1 a2 a3 f0 f1 o th s se ho a b x y, tcF_ok h h hh.1 hh.2 has, by unfold sagT; rw [hok]; exact v_rel (slpV_t (h := has) ..)⟩
      | false => exact ⟨cU false, 1000, _, _, cU_ok _, rfl, rfl, rfl, rfl, sl_st_f c k a0 a1 a2 a3 f0 f1 o th s se ho a b x y, teF_ok h h hh.1 hh.2 has, by unfold sagT; rw [hok]; exact v_rel (slpV_f (h := has) ..)⟩
    | false => exact ⟨cBs, 1000, _, _, cBs_ok, rfl, rfl, rfl, rfl, sm_st c k a0 a1 a2 a3 f0 f1 o th s se ho a b x y, ⟨h, hok⟩, by unfold sagT; rw [hok]; exact fun _ _ k => k⟩
  · cases e
theorem sm_bi (c : Int) (k : Int) (l : Int) (m : Int) (th : Int) (s : ByteArray) (se : Int) (ho : Int) (a : Int) (b : Int) (x : Int) (y : Int) : oneG hG.size hG.clock ((run cBs 1000).call 31 (Sh.mkL [.a (biI ++ [noC]), sS, sS] [.n c, .n k, .n l, .n m, .n th, .s s, .n se, .n ho, .n a, .n b, .n x, .n y]).1 hG) = some (.p (vBic c k l m th s se ho ∧ (okSp a b && okSp x y) = false), .tuple [.agg [.int false .i64 0, .int false .i64 0], .agg [.int false .i64 0, .int false .i64 0], .int false .i64 20]) := by kernel_rfl
def sn_bi_V : List Nu → Option (Prop × AV)
  | [.n c, .n k, .n l, .n m, .n th, .s s, .n se, .n ho, .n a, .n b, .n x, .n y] => some (vBic c k l m th s se ho, sp2V (sagT a b x y (sagX c k l m a b x y)).e (slX c k l m a b x y) (b29 c k l m a b x y) (b25 c k l m a b x y))
  | _ => none
theorem sn_bi_ok : GOk Tryz.prog glob hG 31 (gSpec [.a (biI ++ [noC]), sS, sS] sn_bi_V) := by
  refine gsp_rel hG_ok hG_plain glob_lt (fun xs q v e h => ?_) ⟨_, Tryz.func31, rfl⟩
  unfold sn_bi_V at e
  split at e
  · rename_i c k l m th s se ho a b x y
    cases e
    cases hok : okSp a b && okSp x y with
    | true =>
      have hh : okSp a b = true ∧ okSp x y = true := by simpa using hok
      exact ⟨cU false, 1000, _, _, cU_ok _, rfl, rfl, rfl, rfl, sl_bi_r c k l m th s se ho a b x y, tdF_ok h h hh.1 hh.2, by unfold sagT; rw [hok]; exact fun _ _ k => k⟩
    | false => exact ⟨cBs, 1000, _, _, cBs_ok, rfl, rfl, rfl, rfl, sm_bi c k l m th s se ho a b x y, ⟨h, hok⟩, by unfold sagT; rw [hok]; exact fun _ _ k => k⟩
  · cases e
theorem sm_id (c : Int) (th : Int) (se : Int) (ho : Int) (a : Int) (b : Int) (x : Int) (y : Int) : oneG hG.size hG.clock ((run cBs 1000).call 31 (Sh.mkL [.a (idI ++ [noC]), sS, sS] [.n c, .n th, .n se, .n ho, .n a, .n b, .n x, .n y]).1 hG) = some (.p (vIdl c th se ho ∧ (okSp a b && okSp x y) = false), .tuple [.agg [.int false .i64 0, .int false .i64 0], .agg [.int false .i64 0, .int false .i64 0], .int false .i64 20]) := by kernel_rfl
def sn_id_V : List Nu → Option (Prop × AV)
  | [.n c, .n th, .n se, .n ho, .n a, .n b, .n x, .n y] => some (vIdl c th se ho, sp2V (sagT a b x y sp0).e true sp0 sp0)
  | _ => none
theorem sn_id_ok : GOk Tryz.prog glob hG 31 (gSpec [.a (idI ++ [noC]), sS, sS] sn_id_V) := by
  refine gsp_rel hG_ok hG_plain glob_lt (fun xs q v e h => ?_) ⟨_, Tryz.func31, rfl⟩
  unfold sn_id_V at e
  split at e
  · rename_i c th se ho a b x y
    cases e
    cases hok : okSp a b && okSp x y with
    | true =>
      have hh : okSp a b = true ∧ okSp x y = true := by simpa using hok
      exact ⟨cU false, 1000, _, _, cU_ok _, rfl, rfl, rfl, rfl, sl_id_r c th se ho a b x y, ⟨h, hh.1, hh.2⟩, by unfold sagT; rw [hok]; exact fun _ _ k => k⟩
    | false => exact ⟨cBs, 1000, _, _, cBs_ok, rfl, rfl, rfl, rfl, sm_id c th se ho a b x y, ⟨h, hok⟩, by unfold sagT; rw [hok]; exact fun _ _ k => k⟩
  · cases e
theorem sm_s1 (c : Int) (k : Int) (a0 : Int) (a1 : Int) (a2 : Int) (a3 : Int) (f0 : Int) (f1 : Int) (o : Int) (th : Int) (s : ByteArray) (se : Int) (ho : Int) (i0 : Int) (j0 : Int) (q0 : Int) (a : Int) (b : Int) (x : Int) (y : Int) : oneG (hG.size + 1) hG.clock ((run cBs 1000).call 31 (.agg ((Sh.mkL stI [.n c, .n k, .n a0, .n a1, .n a2, .n a3, .n f0, .n f1, .n o, .n th, .s s, .n se, .n ho]).1 ++ [stN 1]) :: (Sh.mkL [sS, sS] [.n a, .n b, .n x, .n y]).1) (coatH hG (Sh.mkL (filmSh 1) [.n i0, .n j0, .n q0]).1)) = some (.p ((vStd c k a0 a1 a2 a3 f0 f1 o th s se ho ∧ inF i0 j0 q0) ∧ (okSp a b && okSp x y) = false), .tuple [.agg [.int false .i64 0, .int false .i64 0], .agg [.int false .i64 0, .int false .i64 0], .int false .i64 20]) := by kernel_rfl
def sn_s1_V : List Nu → List Nu → List Nu → Option (Prop × AV)
  | [.n c, .n k, .n a0, .n a1, .n a2, .n a3, .n f0, .n f1, .n o, .n th, .s s, .n se, .n ho], [.n i0, .n j0, .n q0], [.n a, .n b, .n x, .n y] => some ((vStd c k a0 a1 a2 a3 f0 f1 o th s se ho ∧ inF i0 j0 q0), sp2V (sagT a b x y (sagS c k a0 a1 a2 a3 a b x y)).e (slC c k a0 a1 a2 a3 a b x y) (slU c k a0 a1 a2 a3 a b x y) (slV c k a0 a1 a2 a3 a b x y))
  | _, _, _ => none
theorem sn_s1_ok : HOk Tryz.prog glob hG 31 (coatSpec hG 1 stI [sS, sS] sn_s1_V) := by
  refine coat_rel hG_ok hG_plain glob_lt (fun xs ys zs q v e h => ?_) ⟨_, Tryz.func31, rfl⟩
  unfold sn_s1_V at e
  split at e
  · rename_i c k a0 a1 a2 a3 f0 f1 o th s se ho i0 j0 q0 a b x y
    cases e
    cases hok : okSp a b && okSp x y with
    | true =>
      have hh : okSp a b = true ∧ okSp x y = true := by simpa using hok
      cases has : asp a0 a1 a2 a3 with
      | true => exact ⟨cU true, 1000, _, _, cU_ok _, rfl, rfl, rfl, rfl, rfl, rfl, sl_s1_t c k a0 a1 a2 a3 f0 f1 o th s se ho i0 j0 q0 a b x y, tcF_ok h h.1 hh.1 hh.2 has, by unfold sagT; rw [hok]; exact v_rel (slpV_t (h := has) ..)⟩
      | false => exact ⟨cU false, 1000, _, _, cU_ok _, rfl, rfl, rfl, rfl, rfl, rfl, sl_s1_f c k a0 a1 a2 a3 f0 f1 o th s se ho i0 j0 q0 a b x y, teF_ok h h.1 hh.1 hh.2 has, by unfold sagT; rw [hok]; exact v_rel (slpV_f (h := has) ..)⟩
    | false => exact ⟨cBs, 1000, _, _, cBs_ok, rfl, rfl, rfl, rfl, rfl, rfl, sm_s1 c k a0 a1 a2 a3 f0 f1 o th s se ho i0 j0 q0 a b x y, ⟨h, hok⟩, by unfold sagT; rw [hok]; exact fun _ _ k => k⟩
  · cases e
theorem sm_s2 (c : Int) (k : Int) (a0 : Int) (a1 : Int) (a2 : Int) (a3 : Int) (f0 : Int) (f1 : Int) (o : Int) (th : Int) (s : ByteArray) (se : Int) (ho : Int) (i0 : Int) (j0 : Int) (q0 : Int) (i1 : Int) (j1 : Int) (q1 : Int) (a : Int) (b : Int) (x : Int) (y : Int) : oneG (hG.size + 1) hG.clock ((run cBs 1000).call 31 (.agg ((Sh.mkL stI [.n c, .n k, .n a0, .n a1, .n a2, .n a3, .n f0, .n f1, .n o, .n th, .s s, .n se, .n ho]).1 ++ [stN 2]) :: (Sh.mkL [sS, sS] [.n a, .n b, .n x, .n y]).1) (coatH hG (Sh.mkL (filmSh 2) [.n i0, .n j0, .n q0, .n i1, .n j1, .n q1]).1)) = some (.p ((vStd c k a0 a1 a2 a3 f0 f1 o th s se ho ∧ inF i0 j0 q0 ∧ inF i1 j1 q1) ∧ (okSp a b && okSp x y) = false), .tuple [.agg [.int false .i64 0, .int false .i64 0], .agg [.int false .i64 0, .int false .i64 0], .int false .i64 20]) := by kernel_rfl
def sn_s2_V : List Nu → List Nu → List Nu → Option (Prop × AV)
  | [.n c, .n k, .n a0, .n a1, .n a2, .n a3, .n f0, .n f1, .n o, .n th, .s s, .n se, .n ho], [.n i0, .n j0, .n q0, .n i1, .n j1, .n q1], [.n a, .n b, .n x, .n y] => some ((vStd c k a0 a1 a2 a3 f0 f1 o th s se ho ∧ inF i0 j0 q0 ∧ inF i1 j1 q1), sp2V (sagT a b x y (sagS c k a0 a1 a2 a3 a b x y)).e (slC c k a0 a1 a2 a3 a b x y) (slU c k a0 a1 a2 a3 a b x y) (slV c k a0 a1 a2 a3 a b x y))
  | _, _, _ => none
theorem sn_s2_ok : HOk Tryz.prog glob hG 31 (coatSpec hG 2 stI [sS, sS] sn_s2_V) := by
  refine coat_rel hG_ok hG_plain glob_lt (fun xs ys zs q v e h => ?_) ⟨_, Tryz.func31, rfl⟩
  unfold sn_s2_V at e
  split at e
  · rename_i c k a0 a1 a2 a3 f0 f1 o th s se ho i0 j0 q0 i1 j1 q1 a b x y
    cases e
    cases hok : okSp a b && okSp x y with
    | true =>
      have hh : okSp a b = true ∧ okSp x y = true := by simpa using hok
      cases has : asp a0 a1 a2 a3 with
      | true => exact ⟨cU true, 1000, _, _, cU_ok _, rfl, rfl, rfl, rfl, rfl, rfl, sl_s2_t c k a0 a1 a2 a3 f0 f1 o th s se ho i0 j0 q0 i1 j1 q1 a b x y, tcF_ok h h.1 hh.1 hh.2 has, by unfold sagT; rw [hok]; exact v_rel (slpV_t (h := has) ..)⟩
      | false => exact ⟨cU false, 1000, _, _, cU_ok _, rfl, rfl, rfl, rfl, rfl, rfl, sl_s2_f c k a0 a1 a2 a3 f0 f1 o th s se ho i0 j0 q0 i1 j1 q1 a b x y, teF_ok h h.1 hh.1 hh.2 has, by unfold sagT; rw [hok]; exact v_rel (slpV_f (h := has) ..)⟩
    | false => exact ⟨cBs, 1000, _, _, cBs_ok, rfl, rfl, rfl, rfl, rfl, rfl, sm_s2 c k a0 a1 a2 a3 f0 f1 o th s se ho i0 j0 q0 i1 j1 q1 a b x y, ⟨h, hok⟩, by unfold sagT; rw [hok]; exact fun _ _ k => k⟩
  · cases e
theorem sm_s3 (c : Int) (k : Int) (a0 : Int) (a1 : Int) (a2 : Int) (a3 : Int) (f0 : Int) (f1 : Int) (o : Int) (th : Int) (s : ByteArray) (se : Int) (ho : Int) (i0 : Int) (j0 : Int) (q0 : Int) (i1 : Int) (j1 : Int) (q1 : Int) (i2 : Int) (j2 : Int) (q2 : Int) (a : Int) (b : Int) (x : Int) (y : Int) : oneG (hG.size + 1) hG.clock ((run cBs 1000).call 31 (.agg ((Sh.mkL stI [.n c, .n k, .n a0, .n a1, .n a2, .n a3, .n f0, .n f1, .n o, .n th, .s s, .n se, .n ho]).1 ++ [stN 3]) :: (Sh.mkL [sS, sS] [.n a, .n b, .n x, .n y]).1) (coatH hG (Sh.mkL (filmSh 3) [.n i0, .n j0, .n q0, .n i1, .n j1, .n q1, .n i2, .n j2, .n q2]).1)) = some (.p ((vStd c k a0 a1 a2 a3 f0 f1 o th s se ho ∧ inF i0 j0 q0 ∧ inF i1 j1 q1 ∧ inF i2 j2 q2) ∧ (okSp a b && okSp x y) = false), .tuple [.agg [.int false .i64 0, .int false .i64 0], .agg [.int false .i64 0, .int false .i64 0], .int false .i64 20]) := by kernel_rfl
def sn_s3_V : List Nu → List Nu → List Nu → Option (Prop × AV)
  | [.n c, .n k, .n a0, .n a1, .n a2, .n a3, .n f0, .n f1, .n o, .n th, .s s, .n se, .n ho], [.n i0, .n j0, .n q0, .n i1, .n j1, .n q1, .n i2, .n j2, .n q2], [.n a, .n b, .n x, .n y] => some ((vStd c k a0 a1 a2 a3 f0 f1 o th s se ho ∧ inF i0 j0 q0 ∧ inF i1 j1 q1 ∧ inF i2 j2 q2), sp2V (sagT a b x y (sagS c k a0 a1 a2 a3 a b x y)).e (slC c k a0 a1 a2 a3 a b x y) (slU c k a0 a1 a2 a3 a b x y) (slV c k a0 a1 a2 a3 a b x y))
  | _, _, _ => none
theorem sn_s3_ok : HOk Tryz.prog glob hG 31 (coatSpec hG 3 stI [sS, sS] sn_s3_V) := by
  refine coat_rel hG_ok hG_plain glob_lt (fun xs ys zs q v e h => ?_) ⟨_, Tryz.func31, rfl⟩
  unfold sn_s3_V at e
  split at e
  · rename_i c k a0 a1 a2 a3 f0 f1 o th s se ho i0 j0 q0 i1 j1 q1 i2 j2 q2 a b x y
    cases e
    cases hok : okSp a b && okSp x y with
    | true =>
      have hh : okSp a b = true ∧ okSp x y = true := by simpa using hok
      cases has : asp a0 a1 a2 a3 with
      | true => exact ⟨cU true, 1000, _, _, cU_ok _, rfl, rfl, rfl, rfl, rfl, rfl, sl_s3_t c k a0 a1 a2 a3 f0 f1 o th s se ho i0 j0 q0 i1 j1 q1 i2 j2 q2 a b x y, tcF_ok h h.1 hh.1 hh.2 has, by unfold sagT; rw [hok]; exact v_rel (slpV_t (h := has) ..)⟩
      | false => exact ⟨cU false, 1000, _, _, cU_ok _, rfl, rfl, rfl, rfl, rfl, rfl, sl_s3_f c k a0 a1 a2 a3 f0 f1 o th s se ho i0 j0 q0 i1 j1 q1 i2 j2 q2 a b x y, teF_ok h h.1 hh.1 hh.2 has, by unfold sagT; rw [hok]; exact v_rel (slpV_f (h := has) ..)⟩
    | false => exact ⟨cBs, 1000, _, _, cBs_ok, rfl, rfl, rfl, rfl, rfl, rfl, sm_s3 c k a0 a1 a2 a3 f0 f1 o th s se ho i0 j0 q0 i1 j1 q1 i2 j2 q2 a b x y, ⟨h, hok⟩, by unfold sagT; rw [hok]; exact fun _ _ k => k⟩
  · cases e
def tblBr : List (FuncId × HSpec) := [(29, sagA)]
theorem tblBr_g : ∀ x ∈ tblBr, HOk Tryz.prog glob hG x.1 x.2 := by
  intro x hx
  obtain rfl := List.mem_singleton.1 hx
  exact sagA_ok
def cBr : Ctx := mkH Tryz.prog glob hG tblBr ext
theorem cBr_ok : CtxOk cBr := mkH_ok prog_ok ext_ok tblBr_g
theorem sm_br (th : Int) (dx : Int) (dy : Int) (ax : Int) (ay : Int) (az : Int) (a : Int) (b : Int) (x : Int) (y : Int) : oneG hG.size hG.clock ((run cBr 1000).call 31 (Sh.mkL [.a (brI ++ [noC]), sS, sS] [.n th, .n dx, .n dy, .n ax, .n ay, .n az, .n a, .n b, .n x, .n y]).1 hG) = some (.p (vBrk th dx dy ax ay az), .tuple [.agg [.int false .i64 0, .int false .i64 0], .agg [.int false .i64 0, .int false .i64 0], .int false .i64 5]) := by kernel_rfl
def sn_br_V : List Nu → Option (Prop × AV)
  | [.n th, .n dx, .n dy, .n ax, .n ay, .n az, .n a, .n b, .n x, .n y] => some (vBrk th dx dy ax ay az, .tuple [.agg [.int false .i64 0, .int false .i64 0], .agg [.int false .i64 0, .int false .i64 0], .int false .i64 5])
  | _ => none
theorem sn_br_ok : GOk Tryz.prog glob hG 31 (gSpec [.a (brI ++ [noC]), sS, sS] sn_br_V) := by
  refine gsp_rel hG_ok hG_plain glob_lt (fun xs q v e h => ?_) ⟨_, Tryz.func31, rfl⟩
  unfold sn_br_V at e
  split at e
  · rename_i th dx dy ax ay az a b x y
    cases e
    exact ⟨cBr, 1000, _, _, cBr_ok, rfl, rfl, rfl, rfl, sm_br th dx dy ax ay az a b x y, h, fun _ _ k => k⟩
  · cases e
def slopeA : HSpec := orH (gH (orG (gSpec [.a (stI ++ [noC]), sS, sS] sn_st_V) (orG (gSpec [.a (biI ++ [noC]), sS, sS] sn_bi_V) (orG (gSpec [.a (brI ++ [noC]), sS, sS] sn_br_V) (gSpec [.a (idI ++ [noC]), sS, sS] sn_id_V))))) (orH (coatSpec hG 1 stI [sS, sS] sn_s1_V) (orH (coatSpec hG 2 stI [sS, sS] sn_s2_V) (coatSpec hG 3 stI [sS, sS] sn_s3_V)))
theorem slopeA_ok : HOk Tryz.prog glob hG 31 slopeA := orH_ok (GOk.h (orG_ok sn_st_ok (orG_ok sn_bi_ok (orG_ok sn_br_ok sn_id_ok)))) (orH_ok sn_s1_ok (orH_ok sn_s2_ok sn_s3_ok))
end
end Go.Proofs.YtiigkjnhmipnfaaGreatDoor.K
