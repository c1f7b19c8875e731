/- What is proved: that SurfaceRound returns true: a part of the proof (part 6 of 13). No conditions beyond those of the row. -/
import Derived.Test.YtiigkjnhmipnfaaGreatDoorPE
set_option linter.unusedVariables false
set_option linter.unusedSimpArgs false
set_option linter.unusedSectionVars false
/- Printed by gen.py. What is proved: contracts of surface.Sag and surface.Slope on plain standard and biconic surfaces, at this seat. No conditions. -/
namespace Go.Proofs.YtiigkjnhmipnfaaGreatDoor.K
open Go Go.Eng Go.Ar Go.Rd
noncomputable section
theorem inC_of {c k : Int} (h : okCK c k) : inC c k := h
def slopeV (u v : Sp) : AV := .tuple [.agg [.int true .i64 u.lo, .int true .i64 u.hi], .agg [.int true .i64 v.lo, .int true .i64 v.hi], .int false .i64 0]
def failV : AV := .tuple [.agg [.int false .i64 0, .int false .i64 0], .int false .i64 9]
def failV2 : AV := .tuple [.agg [.int false .i64 0, .int false .i64 0], .agg [.int false .i64 0, .int false .i64 0], .int false .i64 9]
theorem sagSF_run (c k a b d e : Int) : oneG hG.size hG.clock ((run (cA true) 1000).call 29 (Sh.mkL [stdSh, shS, shS] [.n c, .n k, .n a, .n b, .n d, .n e]).1 hG) = some (.p (((okCK c k ∧ okSp a b = true ∧ okSp d e = true) ∧ (((s0 c k a b d e).e = 0 ∧ (c = c ∧ d = d ∧ e = e) ∧ (s1 c k a b d e).e = 0 ∧ c = c ∧ (s2 c k a b d e).e = 0 ∧ c = c ∧ (s3 c k a b d e).e = 0) ∧ (s4 c k a b d e).e = 0 ∧ k = k ∧ (s5 c k a b d e).e = 0) ∧ (s6 c k a b d e).e = 0 ∧ decide ((s6 c k a b d e).lo ≤ 0) = true)), failV) := by kernel_rfl
def VsagSF : List Nu → Option (Prop × AV)
  | [.n c, .n k, .n a, .n b, .n d, .n e] => some (PsagSF c k a b d e, failV)
  | _ => none
theorem sagSF_ok : GOk Tryz.prog glob hG 29 (gSpec [stdSh, shS, shS] VsagSF) := by
  refine gsp_ok hG_ok hG_plain glob_lt (fun xs q v e h => ?_) ⟨_, Tryz.func29, rfl⟩
  unfold VsagSF at e
  split at e
  · rename_i c k a b d e
    cases e
    refine ⟨cA true, 1000, _, cA_ok _, rfl, rfl, rfl, rfl, sagSF_run c k a b d e, ?_⟩
    obtain ⟨h0, h1, h2, h3, h4, h5, h6, h7, h8, h9, h10⟩ := h

    repeat' first | with_reducible assumption | with_reducible exact rfl | refine And.intro ?_ ?_
  · cases e
theorem sagSG_run (c k a b d e : Int) : oneG hG.size hG.clock ((run (cA false) 1000).call 29 (Sh.mkL [stdSh, shS, shS] [.n c, .n k, .n a, .n b, .n d, .n e]).1 hG) = some (.p (((okCK c k ∧ okSp a b = true ∧ okSp d e = true) ∧ (((s0 c k a b d e).e = 0 ∧ (c = c ∧ d = d ∧ e = e) ∧ (s1 c k a b d e).e = 0 ∧ c = c ∧ (s2 c k a b d e).e = 0 ∧ c = c ∧ (s3 c k a b d e).e = 0) ∧ (s4 c k a b d e).e = 0 ∧ k = k ∧ (s5 c k a b d e).e = 0) ∧ (s6 c k a b d e).e = 0 ∧ decide ((s6 c k a b d e).lo ≤ 0) = false ∧ (s7 c k a b d e).e = 0 ∧ (s8 c k a b d e).e = 0 ∧ (((s7 c k a b d e).lo = (s7 c k a b d e).lo ∧ (s7 c k a b d e).hi = (s7 c k a b d e).hi) ∧ (s7 c k a b d e).lo = (s7 c k a b d e).lo ∧ (s7 c k a b d e).hi = (s7 c k a b d e).hi) ∧ (s9 c k a b d e).e = 0 ∧ ((s7 c k a b d e).lo = (s7 c k a b d e).lo ∧ (s7 c k a b d e).hi = (s7 c k a b d e).hi) ∧ (s10 c k a b d e).e = 0 ∧ ((s7 c k a b d e).lo = (s7 c k a b d e).lo ∧ (s7 c k a b d e).hi = (s7 c k a b d e).hi) ∧ (s7 c k a b d e).lo = (s7 c k a b d e).lo ∧ (s7 c k a b d e).hi = (s7 c k a b d e).hi)), goodV (s10 c k a b d e)) := by kernel_rfl
def VsagSG : List Nu → Option (Prop × AV)
  | [.n c, .n k, .n a, .n b, .n d, .n e] => some (PsagSG c k a b d e, goodV (s10 c k a b d e))
  | _ => none
theorem sagSG_ok : GOk Tryz.prog glob hG 29 (gSpec [stdSh, shS, shS] VsagSG) := by
  refine gsp_ok hG_ok hG_plain glob_lt (fun xs q v e h => ?_) ⟨_, Tryz.func29, rfl⟩
  unfold VsagSG at e
  split at e
  · rename_i c k a b d e
    cases e
    refine ⟨cA false, 1000, _, cA_ok _, rfl, rfl, rfl, rfl, sagSG_run c k a b d e, ?_⟩
    obtain ⟨h0, h1, h2, h3, h4, h5, h6, h7, h8, h9, h10, h11, h12, h13, h14⟩ := h

    repeat' first | with_reducible assumption | with_reducible exact rfl | refine And.intro ?_ ?_
  · cases e
theorem sagBF_run (c k l m a b d e : Int) : oneG hG.size hG.clock ((run (cA true) 1000).call 29 (Sh.mkL [bicSh, shS, shS] [.n c, .n k, .n l, .n m, .n a, .n b, .n d, .n e]).1 hG) = some (.p ((((okCK c k ∧ okCK l m) ∧ okSp a b = true ∧ okSp d e = true) ∧ (((b0 c k l m a b d e).e = 0 ∧ (c = c ∧ (d = d ∧ e = e) ∧ l = l) ∧ (b1 c k l m a b d e).e = 0 ∧ (c = c ∧ d = d ∧ e = e) ∧ (b2 c k l m a b d e).e = 0 ∧ c = c ∧ (b3 c k l m a b d e).e = 0) ∧ ((b4 c k l m a b d e).e = 0 ∧ m = m ∧ (b6 c k l m a b d e).e = 0) ∧ ((c = c ∧ k = k) ∧ (b3 c k l m a b d e).lo = (b3 c k l m a b d e).lo ∧ (b3 c k l m a b d e).hi = (b3 c k l m a b d e).hi) ∧ ((b5 c k l m a b d e).e = 0 ∧ k = k ∧ (b7 c k l m a b d e).e = 0) ∧ (b8 c k l m a b d e).e = 0) ∧ (b9 c k l m a b d e).e = 0 ∧ decide ((b9 c k l m a b d e).lo ≤ 0) = true)), failV) := by kernel_rfl
def VsagBF : List Nu → Option (Prop × AV)
  | [.n c, .n k, .n l, .n m, .n a, .n b, .n d, .n e] => some (PsagBF c k l m a b d e, failV)
  | _ => none
theorem sagBF_ok : GOk Tryz.prog glob hG 29 (gSpec [bicSh, shS, shS] VsagBF) := by
  refine gsp_ok hG_ok hG_plain glob_lt (fun xs q v e h => ?_) ⟨_, Tryz.func29, rfl⟩
  unfold VsagBF at e
  split at e
  · rename_i c k l m a b d e
    cases e
    refine ⟨cA true, 1000, _, cA_ok _, rfl, rfl, rfl, rfl, sagBF_run c k l m a b d e, ?_⟩
    obtain ⟨h0, h1, h2, h3, h4, h5, h6, h7, h8, h9, h10, h11, h12, h13, h14⟩ := h

    repeat' first | with_reducible assumption | with_reducible exact rfl | refine And.intro ?_ ?_
  · cases e
theorem sagBG_run (c k l m a b d e : Int) : oneG hG.size hG.clock ((run (cA false) 1000).call 29 (Sh.mkL [bicSh, shS, shS] [.n c, .n k, .n l, .n m, .n a, .n b, .n d, .n e]).1 hG) = some (.p ((((okCK c k ∧ okCK l m) ∧ okSp a b = true ∧ okSp d e = true) ∧ (((b0 c k l m a b d e).e = 0 ∧ (c = c ∧ (d = d ∧ e = e) ∧ l = l) ∧ (b1 c k l m a b d e).e = 0 ∧ (c = c ∧ d = d ∧ e = e) ∧ (b2 c k l m a b d e).e = 0 ∧ c = c ∧ (b3 c k l m a b d e).e = 0) ∧ ((b4 c k l m a b d e).e = 0 ∧ m = m ∧ (b6 c k l m a b d e).e = 0) ∧ ((c = c ∧ k = k) ∧ (b3 c k l m a b d e).lo = (b3 c k l m a b d e).lo ∧ (b3 c k l m a b d e).hi = (b3 c k l m a b d e).hi) ∧ ((b5 c k l m a b d e).e = 0 ∧ k = k ∧ (b7 c k l m a b d e).e = 0) ∧ (b8 c k l m a b d e).e = 0) ∧ (b9 c k l m a b d e).e = 0 ∧ decide ((b9 c k l m a b d e).lo ≤ 0) = false ∧ (b10 c k l m a b d e).e = 0 ∧ (b11 c k l m a b d e).e = 0 ∧ (((b10 c k l m a b d e).lo = (b10 c k l m a b d e).lo ∧ (b10 c k l m a b d e).hi = (b10 c k l m a b d e).hi) ∧ (b10 c k l m a b d e).lo = (b10 c k l m a b d e).lo ∧ (b10 c k l m a b d e).hi = (b10 c k l m a b d e).hi) ∧ (b12 c k l m a b d e).e = 0 ∧ ((b10 c k l m a b d e).lo = (b10 c k l m a b d e).lo ∧ (b10 c k l m a b d e).hi = (b10 c k l m a b d e).hi) ∧ (b13 c k l m a b d e).e = 0 ∧ ((b10 c k l m a b d e).lo = (b10 c k l m a b d e).lo ∧ (b10 c k l m a b d e).hi = (b10 c k l m a b d e).hi) ∧ (b10 c k l m a b d e).lo = (b10 c k l m a b d e).lo ∧ (b10 c k l m a b d e).hi = (b10 c k l m a b d e).hi)), goodV (b13 c k l m a b d e)) := by kernel_rfl
def VsagBG : List Nu → Option (Prop × AV)
  | [.n c, .n k, .n l, .n m, .n a, .n b, .n d, .n e] => some (PsagBG c k l m a b d e, goodV (b13 c k l m a b d e))
  | _ => none
theorem sagBG_ok : GOk Tryz.prog glob hG 29 (gSpec [bicSh, shS, shS] VsagBG) := by
  refine gsp_ok hG_ok hG_plain glob_lt (fun xs q v e h => ?_) ⟨_, Tryz.func29, rfl⟩
  unfold VsagBG at e
  split at e
  · rename_i c k l m a b d e
    cases e
    refine ⟨cA false, 1000, _, cA_ok _, rfl, rfl, rfl, rfl, sagBG_run c k l m a b d e, ?_⟩
    obtain ⟨h0, h1, h2, h3, h4, h5, h6, h7, h8, h9, h10, h11, h12, h13, h14, h15, h16, h17, h18⟩ := h

    repeat' first | with_reducible assumption | with_reducible exact rfl | refine And.intro ?_ ?_
  · cases e
def tblSl : List (FuncId × PSpec) := (29, orG (gSpec [stdSh, shS, shS] VsagSG) (gSpec [bicSh, shS, shS] VsagBG)) :: tblA
theorem tblSl_g : ∀ x ∈ tblSl, GOk Tryz.prog glob hG x.1 x.2 := by
  intro x hx
  rcases List.mem_cons.1 hx with rfl | hx
  · exact orG_ok sagSG_ok sagBG_ok
  · exact tblA_g x hx
def cSl : Ctx := hinting (mkG Tryz.prog glob hG tblSl ext) (h102 false)
theorem cSl_ok : CtxOk cSl := hinting_ok (mkG_ok prog_ok ext_ok tblSl_g) _
theorem slopeS_run (c k a b d e : Int) : oneG hG.size hG.clock ((run (cSl) 1000).call 31 (Sh.mkL [stdSh, shS, shS] [.n c, .n k, .n a, .n b, .n d, .n e]).1 hG) = some (.p ((PsagSG c k a b d e ∧ ((((((s0 c k a b d e).e = 0 ∧ (c = c ∧ d = d ∧ e = e) ∧ (s1 c k a b d e).e = 0 ∧ c = c ∧ (s2 c k a b d e).e = 0 ∧ c = c ∧ (s3 c k a b d e).e = 0) ∧ (s4 c k a b d e).e = 0 ∧ k = k ∧ (s5 c k a b d e).e = 0) ∧ (s6 c k a b d e).e = 0 ∧ decide ((s6 c k a b d e).lo ≤ 0) = false ∧ (s7 c k a b d e).e = 0 ∧ (s8 c k a b d e).e = 0 ∧ (((s7 c k a b d e).lo = (s7 c k a b d e).lo ∧ (s7 c k a b d e).hi = (s7 c k a b d e).hi) ∧ (s7 c k a b d e).lo = (s7 c k a b d e).lo ∧ (s7 c k a b d e).hi = (s7 c k a b d e).hi) ∧ (s9 c k a b d e).e = 0 ∧ ((s7 c k a b d e).lo = (s7 c k a b d e).lo ∧ (s7 c k a b d e).hi = (s7 c k a b d e).hi) ∧ (s10 c k a b d e).e = 0 ∧ ((s7 c k a b d e).lo = (s7 c k a b d e).lo ∧ (s7 c k a b d e).hi = (s7 c k a b d e).hi) ∧ (s7 c k a b d e).lo = (s7 c k a b d e).lo ∧ (s7 c k a b d e).hi = (s7 c k a b d e).hi) ∧ (s13 c k a b d e).e = 0 ∧ (s14 c k a b d e).e = 0) ∧ ((c = c ∧ k = k) ∧ d = d ∧ e = e) ∧ ((((s0 c k a b d e).e = 0 ∧ (c = c ∧ d = d ∧ e = e) ∧ (s1 c k a b d e).e = 0 ∧ c = c ∧ (s2 c k a b d e).e = 0 ∧ c = c ∧ (s3 c k a b d e).e = 0) ∧ (s4 c k a b d e).e = 0 ∧ k = k ∧ (s5 c k a b d e).e = 0) ∧ (s6 c k a b d e).e = 0 ∧ decide ((s6 c k a b d e).lo ≤ 0) = false ∧ (s7 c k a b d e).e = 0 ∧ (s8 c k a b d e).e = 0 ∧ (((s7 c k a b d e).lo = (s7 c k a b d e).lo ∧ (s7 c k a b d e).hi = (s7 c k a b d e).hi) ∧ (s7 c k a b d e).lo = (s7 c k a b d e).lo ∧ (s7 c k a b d e).hi = (s7 c k a b d e).hi) ∧ (s9 c k a b d e).e = 0 ∧ ((s7 c k a b d e).lo = (s7 c k a b d e).lo ∧ (s7 c k a b d e).hi = (s7 c k a b d e).hi) ∧ (s10 c k a b d e).e = 0 ∧ ((s7 c k a b d e).lo = (s7 c k a b d e).lo ∧ (s7 c k a b d e).hi = (s7 c k a b d e).hi) ∧ (s7 c k a b d e).lo = (s7 c k a b d e).lo ∧ (s7 c k a b d e).hi = (s7 c k a b d e).hi) ∧ (s11 c k a b d e).e = 0 ∧ (s12 c k a b d e).e = 0) ∧ (s12 c k a b d e).lo = (s12 c k a b d e).lo ∧ (s12 c k a b d e).hi = (s12 c k a b d e).hi)), slopeV (s14 c k a b d e) (s12 c k a b d e)) := by kernel_rfl
def VslopeS : List Nu → Option (Prop × AV)
  | [.n c, .n k, .n a, .n b, .n d, .n e] => some (PslopeS c k a b d e, slopeV (s14 c k a b d e) (s12 c k a b d e))
  | _ => none
theorem slopeS_ok : GOk Tryz.prog glob hG 31 (gSpec [stdSh, shS, shS] VslopeS) := by
  refine gsp_ok hG_ok hG_plain glob_lt (fun xs q v e h => ?_) ⟨_, Tryz.func31, rfl⟩
  unfold VslopeS at e
  split at e
  · rename_i c k a b d e
    cases e
    refine ⟨cSl, 1000, _, cSl_ok, rfl, rfl, rfl, rfl, slopeS_run c k a b d e, ?_⟩
    obtain ⟨h0, h1, h2, h3, h4, h5, h6, h7, h8, h9, h10, h11, h12, h13, h14, h15, h16, h17, h18⟩ := h
    have hs : PsagSG c k a b d e := ⟨h0, h1, h2, h3, h4, h5, h6, h7, h8, h9, h10, h11, h12, h13, h14⟩
    repeat' first | with_reducible assumption | with_reducible exact rfl | refine And.intro ?_ ?_
  · cases e
theorem slopeB_run (c k l m a b d e : Int) : oneG hG.size hG.clock ((run (cSl) 1000).call 31 (Sh.mkL [bicSh, shS, shS] [.n c, .n k, .n l, .n m, .n a, .n b, .n d, .n e]).1 hG) = some (.p ((PsagBG c k l m a b d e ∧ ((((((b0 c k l m a b d e).e = 0 ∧ (c = c ∧ (d = d ∧ e = e) ∧ l = l) ∧ (b1 c k l m a b d e).e = 0 ∧ (c = c ∧ d = d ∧ e = e) ∧ (b2 c k l m a b d e).e = 0 ∧ c = c ∧ (b3 c k l m a b d e).e = 0) ∧ ((b4 c k l m a b d e).e = 0 ∧ m = m ∧ (b6 c k l m a b d e).e = 0) ∧ ((c = c ∧ k = k) ∧ (b3 c k l m a b d e).lo = (b3 c k l m a b d e).lo ∧ (b3 c k l m a b d e).hi = (b3 c k l m a b d e).hi) ∧ ((b5 c k l m a b d e).e = 0 ∧ k = k ∧ (b7 c k l m a b d e).e = 0) ∧ (b8 c k l m a b d e).e = 0) ∧ (b9 c k l m a b d e).e = 0 ∧ decide ((b9 c k l m a b d e).lo ≤ 0) = false ∧ (b10 c k l m a b d e).e = 0 ∧ (b11 c k l m a b d e).e = 0 ∧ (((b10 c k l m a b d e).lo = (b10 c k l m a b d e).lo ∧ (b10 c k l m a b d e).hi = (b10 c k l m a b d e).hi) ∧ (b10 c k l m a b d e).lo = (b10 c k l m a b d e).lo ∧ (b10 c k l m a b d e).hi = (b10 c k l m a b d e).hi) ∧ (b12 c k l m a b d e).e = 0 ∧ ((b10 c k l m a b d e).lo = (b10 c k l m a b d e).lo ∧ (b10 c k l m a b d e).hi = (b10 c k l m a b d e).hi) ∧ (b13 c k l m a b d e).e = 0 ∧ ((b10 c k l m a b d e).lo = (b10 c k l m a b d e).lo ∧ (b10 c k l m a b d e).hi = (b10 c k l m a b d e).hi) ∧ (b10 c k l m a b d e).lo = (b10 c k l m a b d e).lo ∧ (b10 c k l m a b d e).hi = (b10 c k l m a b d e).hi) ∧ (b14 c k l m a b d e).e = 0 ∧ (((b15 c k l m a b d e).e = 0 ∧ m = m ∧ (b16 c k l m a b d e).e = 0) ∧ ((b10 c k l m a b d e).lo = (b10 c k l m a b d e).lo ∧ (b10 c k l m a b d e).hi = (b10 c k l m a b d e).hi) ∧ (b17 c k l m a b d e).e = 0) ∧ (b27 c k l m a b d e).e = 0 ∧ (((b10 c k l m a b d e).lo = (b10 c k l m a b d e).lo ∧ (b10 c k l m a b d e).hi = (b10 c k l m a b d e).hi) ∧ ((b17 c k l m a b d e).lo = (b17 c k l m a b d e).lo ∧ (b17 c k l m a b d e).hi = (b17 c k l m a b d e).hi) ∧ (b13 c k l m a b d e).lo = (b13 c k l m a b d e).lo ∧ (b13 c k l m a b d e).hi = (b13 c k l m a b d e).hi) ∧ (b26 c k l m a b d e).e = 0 ∧ ((b10 c k l m a b d e).lo = (b10 c k l m a b d e).lo ∧ (b10 c k l m a b d e).hi = (b10 c k l m a b d e).hi) ∧ (b28 c k l m a b d e).e = 0 ∧ ((b10 c k l m a b d e).lo = (b10 c k l m a b d e).lo ∧ (b10 c k l m a b d e).hi = (b10 c k l m a b d e).hi) ∧ (b12 c k l m a b d e).e = 0 ∧ (b29 c k l m a b d e).e = 0) ∧ ((c = c ∧ k = k) ∧ d = d ∧ e = e) ∧ ((((b0 c k l m a b d e).e = 0 ∧ (c = c ∧ (d = d ∧ e = e) ∧ l = l) ∧ (b1 c k l m a b d e).e = 0 ∧ (c = c ∧ d = d ∧ e = e) ∧ (b2 c k l m a b d e).e = 0 ∧ c = c ∧ (b3 c k l m a b d e).e = 0) ∧ ((b4 c k l m a b d e).e = 0 ∧ m = m ∧ (b6 c k l m a b d e).e = 0) ∧ ((c = c ∧ k = k) ∧ (b3 c k l m a b d e).lo = (b3 c k l m a b d e).lo ∧ (b3 c k l m a b d e).hi = (b3 c k l m a b d e).hi) ∧ ((b5 c k l m a b d e).e = 0 ∧ k = k ∧ (b7 c k l m a b d e).e = 0) ∧ (b8 c k l m a b d e).e = 0) ∧ (b9 c k l m a b d e).e = 0 ∧ decide ((b9 c k l m a b d e).lo ≤ 0) = false ∧ (b10 c k l m a b d e).e = 0 ∧ (b11 c k l m a b d e).e = 0 ∧ (((b10 c k l m a b d e).lo = (b10 c k l m a b d e).lo ∧ (b10 c k l m a b d e).hi = (b10 c k l m a b d e).hi) ∧ (b10 c k l m a b d e).lo = (b10 c k l m a b d e).lo ∧ (b10 c k l m a b d e).hi = (b10 c k l m a b d e).hi) ∧ (b12 c k l m a b d e).e = 0 ∧ ((b10 c k l m a b d e).lo = (b10 c k l m a b d e).lo ∧ (b10 c k l m a b d e).hi = (b10 c k l m a b d e).hi) ∧ (b13 c k l m a b d e).e = 0 ∧ ((b10 c k l m a b d e).lo = (b10 c k l m a b d e).lo ∧ (b10 c k l m a b d e).hi = (b10 c k l m a b d e).hi) ∧ (b10 c k l m a b d e).lo = (b10 c k l m a b d e).lo ∧ (b10 c k l m a b d e).hi = (b10 c k l m a b d e).hi) ∧ (b18 c k l m a b d e).e = 0 ∧ (((b19 c k l m a b d e).e = 0 ∧ k = k ∧ (b20 c k l m a b d e).e = 0) ∧ ((b10 c k l m a b d e).lo = (b10 c k l m a b d e).lo ∧ (b10 c k l m a b d e).hi = (b10 c k l m a b d e).hi) ∧ (b21 c k l m a b d e).e = 0) ∧ (b23 c k l m a b d e).e = 0 ∧ (((b10 c k l m a b d e).lo = (b10 c k l m a b d e).lo ∧ (b10 c k l m a b d e).hi = (b10 c k l m a b d e).hi) ∧ ((b21 c k l m a b d e).lo = (b21 c k l m a b d e).lo ∧ (b21 c k l m a b d e).hi = (b21 c k l m a b d e).hi) ∧ (b13 c k l m a b d e).lo = (b13 c k l m a b d e).lo ∧ (b13 c k l m a b d e).hi = (b13 c k l m a b d e).hi) ∧ (b22 c k l m a b d e).e = 0 ∧ ((b10 c k l m a b d e).lo = (b10 c k l m a b d e).lo ∧ (b10 c k l m a b d e).hi = (b10 c k l m a b d e).hi) ∧ (b24 c k l m a b d e).e = 0 ∧ ((b10 c k l m a b d e).lo = (b10 c k l m a b d e).lo ∧ (b10 c k l m a b d e).hi = (b10 c k l m a b d e).hi) ∧ (b12 c k l m a b d e).e = 0 ∧ (b25 c k l m a b d e).e = 0) ∧ (b25 c k l m a b d e).lo = (b25 c k l m a b d e).lo ∧ (b25 c k l m a b d e).hi = (b25 c k l m a b d e).hi)), slopeV (b29 c k l m a b d e) (b25 c k l m a b d e)) := by kernel_rfl
def VslopeB : List Nu → Option (Prop × AV)
  | [.n c, .n k, .n l, .n m, .n a, .n b, .n d, .n e] => some (PslopeB c k l m a b d e, slopeV (b29 c k l m a b d e) (b25 c k l m a b d e))
  | _ => none
theorem slopeB_ok : GOk Tryz.prog glob hG 31 (gSpec [bicSh, shS, shS] VslopeB) := by
  refine gsp_ok hG_ok hG_plain glob_lt (fun xs q v e h => ?_) ⟨_, Tryz.func31, rfl⟩
  unfold VslopeB at e
  split at e
  · rename_i c k l m a b d e
    cases e
    refine ⟨cSl, 1000, _, cSl_ok, rfl, rfl, rfl, rfl, slopeB_run c k l m a b d e, ?_⟩
    obtain ⟨h0, h1, h2, h3, h4, h5, h6, h7, h8, h9, h10, h11, h12, h13, h14, h15, h16, h17, h18, h19, h20, h21, h22, h23, h24, h25, h26, h27, h28, h29, h30, h31, h32, h33, h34⟩ := h
    have hs : PsagBG c k l m a b d e := ⟨h0, h1, h2, h3, h4, h5, h6, h7, h8, h9, h10, h11, h12, h13, h14, h15, h16, h17, h18⟩
    repeat' first | with_reducible assumption | with_reducible exact rfl | refine And.intro ?_ ?_
  · cases e
end
end Go.Proofs.YtiigkjnhmipnfaaGreatDoor.K
