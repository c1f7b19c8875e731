/- What is proved: SurfaceEven returns true, whatever the input (part 11 of 24). No conditions beyond those of the row. -/
import Derived.Test.YtiigkjnhmipnfaaGreatDoorPJ
set_option linter.unusedVariables false
set_option linter.unusedSimpArgs false
set_option linter.unusedSectionVars false
namespace Go.Proofs.YtiigkjnhmipnfaaGreatDoor.K
open Go Go.Eng Go.Ar Go.Rd
noncomputable section
def sixV : AV := .tuple [.agg [.int false .i64 0, .int false .i64 0], .int false .i64 6]
def twS (F : Sp) : Option (Nd × Bool × AV × AV) := some (.p (okE F), F.e == 0, goodV F, sixV)
def tBin (F : Int → Int → Int → Int → Sp) : TSpec := fun args _ => match Sh.readL [shS, shS] args with
  | some (_, [.n a, .n b, .n c, .n d]) => twS (F a b c d)
  | _ => none
def tUn (F : Int → Int → Sp) : TSpec := fun args _ => match Sh.readL [shS] args with
  | some (_, [.n a, .n b]) => twS (F a b)
  | _ => none
def tSc (F : Int → Int → Int → Int → Sp) : TSpec := fun args _ => match Sh.readL [shS, .i .i64, .i .i64] args with
  | some (_, [.n a, .n b, .n c, .n d]) => twS (F a b c d)
  | _ => none
theorem outS_six {σ : Sg} {s : Bool} {x : Sp} {W : Value} (h : VRel σ ((outS x).av s) W) (hx : x = ⟨0, 0, 6⟩) : VRel σ sixV W := by
  subst hx
  obtain ⟨K, rfl, h1⟩ := h
  obtain ⟨V1, L1, e1, h2, h3⟩ := h1
  obtain ⟨V2, L2, e2, h4, h5⟩ := h3
  obtain ⟨K1, rfl, h6⟩ := h2
  obtain ⟨V3, L3, e3, h7, h8⟩ := h6
  obtain ⟨V4, L4, e4, h9, h10⟩ := h8
  have h4 := (Go.Eng.mkInt_rel _ _ _ _).1 h4
  have h7 := (Go.Eng.mkInt_rel _ _ _ _).1 h7
  have h9 := (Go.Eng.mkInt_rel _ _ _ _).1 h9
  exact ⟨K, rfl, _, L1, e1, ⟨K1, rfl, V3, L3, e3, h7, V4, L4, e4, h9, h10⟩, V2, L2, e2, h4, h5⟩
theorem tw_rel {s : Bool} {F : Sp} (h : okE F) : ((F.e == 0) = true → ∀ σ V, VRel σ ((outS F).av s) V → VRel σ (goodV F) V) ∧ ((F.e == 0) = false → ∀ σ V, VRel σ ((outS F).av s) V → VRel σ sixV V) := by
  refine ⟨fun e σ V k => outS_good k (by simpa using e), fun e σ V k => outS_six k ?_⟩
  rcases h with h | h
  · rw [h] at e; cases e
  · exact h
theorem two_bin {f : FuncId} {F : Int → Int → Int → Int → Sp} (g : PureOk Tryz.prog f (sBin F)) : TOk Tryz.prog glob hG f (tBin F) := by
  refine two_of (g.g glob hG).h fun args _ nd p v w e => ?_
  unfold tBin at e
  split at e
  · rename_i s a b c d hr
    cases e
    refine ⟨.tt, (outS (F a b c d)).av s, ?_, fun hn => ⟨trivial, tw_rel hn⟩⟩
    unfold gH sBin numSpec
    rw [hr]
  · cases e
theorem two_sc {f : FuncId} {F : Int → Int → Int → Int → Sp} (g : PureOk Tryz.prog f (sSc F)) : TOk Tryz.prog glob hG f (tSc F) := by
  refine two_of (g.g glob hG).h fun args _ nd p v w e => ?_
  unfold tSc at e
  split at e
  · rename_i s a b c d hr
    cases e
    refine ⟨.tt, (outS (F a b c d)).av s, ?_, fun hn => ⟨trivial, tw_rel hn⟩⟩
    unfold gH sSc numSpec
    rw [hr]
  · cases e
theorem two_un {f : FuncId} {F : Int → Int → Sp} (g : PureOk Tryz.prog f (sUn F)) : TOk Tryz.prog glob hG f (tUn F) := by
  refine two_of (g.g glob hG).h fun args _ nd p v w e => ?_
  unfold tUn at e
  split at e
  · rename_i s a b hr
    cases e
    refine ⟨.tt, (outS (F a b)).av s, ?_, fun hn => ⟨trivial, tw_rel hn⟩⟩
    unfold gH sUn numSpec
    rw [hr]
  · cases e
def tblTw : List (FuncId × TSpec) := [(92, tBin addS), (122, tBin subS), (93, tBin mulS), (107, tBin divS), (131, tUn sqrS), (124, tUn sqrtS), (143, tSc xScaleS)]
theorem tblTw_g : ∀ x ∈ tblTw, TOk Tryz.prog glob hG x.1 x.2 := by
  intro x hx
  simp only [tblTw, List.mem_cons, List.not_mem_nil, or_false] at hx
  rcases hx with rfl | rfl | rfl | rfl | rfl | rfl | rfl
  · exact two_bin sadd_ok
  · exact two_bin ssub_ok
  · exact two_bin smul_ok
  · exact two_bin sdiv_ok
  · exact two_un ssqr_ok
  · exact two_un ssqrt_ok
  · exact two_sc sscale_ok
end
end Go.Proofs.YtiigkjnhmipnfaaGreatDoor.K
namespace Go.Proofs.YtiigkjnhmipnfaaGreatDoor.K
open Go Go.Eng Go.Ar
noncomputable section
def tblQ : List (FuncId × HSpec) := (88, gH chkSpec) :: tblP.map fun x => (x.1, gH x.2)
theorem tblQ_g : ∀ x ∈ tblQ, HOk Tryz.prog glob hG x.1 x.2 := by
  intro x hx
  simp only [tblQ, List.mem_cons, List.mem_map] at hx
  rcases hx with rfl | ⟨y, hy, rfl⟩
  · exact chk0.h
  · exact (tblP_g y hy).h
def cQ : Ctx := mkH Tryz.prog glob hG tblQ ext
theorem cQ_ok : CtxOk cQ := mkH_ok prog_ok ext_ok tblQ_g
def sp4 : List Sh := [.i .i64, .i .i64, .i .i64, .i .i64, .i .i64, .i .i64, .i .i64, .i .i64]
def sS : Sh := .a [.i .i64, .i .i64]
end
end Go.Proofs.YtiigkjnhmipnfaaGreatDoor.K
namespace Go.Proofs.YtiigkjnhmipnfaaGreatDoor.K
open Go Go.Eng Go.Ar Go.Rd
noncomputable section
def symV (s : Sp) : AV := .tuple [.agg [.int true .i64 s.lo, .int true .i64 s.hi], .int true .i64 s.e]
theorem eval_run (a0 b0 a1 b1 a2 b2 a3 b3 x y : Int) : oneG (hG.size + 1) hG.clock ((run cQ 1000).call 125 (.gslice hG.size 0 4 2 :: (Sh.mkL [sS] [.n x, .n y]).1) (coatH hG (Sh.mkL sp4 [.n a0, .n b0, .n a1, .n b1, .n a2, .n b2, .n a3, .n b3]).1)) =
    some (.p ((okSp a0 b0 = true ∧ okSp a1 b1 = true ∧ okSp a2 b2 = true ∧ okSp a3 b3 = true ∧ okSp x y = true) ∧ (evT a0 b0 a1 b1 a2 b2 a3 b3 x y).e = (evT a0 b0 a1 b1 a2 b2 a3 b3 x y).e), symV (evT a0 b0 a1 b1 a2 b2 a3 b3 x y)) := by kernel_rfl
def evalV : List Nu → List Nu → Option (Prop × AV)
  | [.n a0, .n b0, .n a1, .n b1, .n a2, .n b2, .n a3, .n b3], [.n x, .n y] => some (okSp a0 b0 = true ∧ okSp a1 b1 = true ∧ okSp a2 b2 = true ∧ okSp a3 b3 = true ∧ okSp x y = true, symV (evT a0 b0 a1 b1 a2 b2 a3 b3 x y))
  | _, _ => none
theorem eval_ok : HOk Tryz.prog glob hG 125 (listSpec hG 4 2 sp4 [sS] evalV) := by
  refine list_ok (show hG.ok from rfl) hG_plain glob_lt (fun ys zs p v e h => ?_) ⟨_, Tryz.func125, rfl⟩
  unfold evalV at e
  split at e
  · rename_i a0 b0 a1 b1 a2 b2 a3 b3 x y
    cases e
    exact ⟨cQ, 1000, _, cQ_ok, rfl, rfl, rfl, rfl, rfl, eval_run a0 b0 a1 b1 a2 b2 a3 b3 x y, h, rfl⟩
  · cases e
def tEval : TSpec := fun args h => match args with
  | .gslice id off m z :: rest => match Nat.beq m 4 && Nat.beq off 0 && Nat.beq z 2 && Nat.ble hG.size id with
    | true => match h.get id with
      | some ⟨_, .grown fc⟩ => match Sh.readL sp4 fc with
        | some (_, [.n a0, .n b0, .n a1, .n b1, .n a2, .n b2, .n a3, .n b3]) => match Sh.readL [sS] rest with
          | some (_, [.n x, .n y]) => some (.p ((okSp a0 b0 = true ∧ okSp a1 b1 = true ∧ okSp a2 b2 = true ∧ okSp a3 b3 = true ∧ okSp x y = true) ∧ okE (evT a0 b0 a1 b1 a2 b2 a3 b3 x y)), (evT a0 b0 a1 b1 a2 b2 a3 b3 x y).e == 0, goodV (evT a0 b0 a1 b1 a2 b2 a3 b3 x y), sixV)
          | _ => none
        | _ => none
      | _ => none
    | false => none
  | _ => none
theorem sym_good {σ : Sg} {s : Sp} {V : Value} (h : VRel σ (symV s) V) (e : s.e = 0) : VRel σ (goodV s) V := by
  unfold symV at h; rw [e] at h; exact h
theorem sym_six {σ : Sg} {s : Sp} {V : Value} (h : VRel σ (symV s) V) (e : s = ⟨0, 0, 6⟩) : VRel σ sixV V := by
  subst e; exact h
theorem teval_ok : TOk Tryz.prog glob hG 125 tEval := by
  refine two_of eval_ok fun args hp nd p v w e => ?_
  unfold tEval at e
  split at e
  · rename_i id off m z rest
    split at e
    · rename_i hb
      split at e
      · rename_i w' fc hid
        split at e
        · rename_i s2 a0 b0 a1 b1 a2 b2 a3 b3 r2
          split at e
          · rename_i s3 x y r3
            cases e
            refine ⟨.p (okSp a0 b0 = true ∧ okSp a1 b1 = true ∧ okSp a2 b2 = true ∧ okSp a3 b3 = true ∧ okSp x y = true), symV (evT a0 b0 a1 b1 a2 b2 a3 b3 x y), ?_, fun hn => ⟨hn.1, fun q σ V k => sym_good k (by simpa using q), fun q σ V k => sym_six k ?_⟩⟩
            · simp only [listSpec, hb, hid, r2, r3, evalV]
            · rcases hn.2 with h | h
              · rw [h] at q; cases q
              · exact h
          · cases e
        · cases e
      · cases e
    · cases e
  · cases e
end
end Go.Proofs.YtiigkjnhmipnfaaGreatDoor.K
namespace Go.Proofs.YtiigkjnhmipnfaaGreatDoor.K
open Go Go.Eng Go.Ar Go.Rd
noncomputable section
def tblT : List (FuncId × HSpec) := [(18, chkH), (88, gH chkSpec)]
theorem tblT_g : ∀ x ∈ tblT, HOk Tryz.prog glob hG x.1 x.2 := by
  intro x hx
  simp only [tblT, List.mem_cons, List.not_mem_nil, or_false] at hx
  rcases hx with rfl | rfl
  · exact chkH_ok
  · exact chk0.h
def tblTe : List (FuncId × TSpec) := (125, tEval) :: tblTw
theorem tblTe_g : ∀ x ∈ tblTe, TOk Tryz.prog glob hG x.1 x.2 := by
  intro x hx
  rcases List.mem_cons.1 hx with rfl | hx
  · exact teval_ok
  · exact tblTw_g x hx
def cT : Ctx := mkT Tryz.prog glob hG tblT tblTe ext
theorem cT_ok : CtxOk cT := mkT_ok prog_ok ext_ok tblT_g tblTe_g
end
end Go.Proofs.YtiigkjnhmipnfaaGreatDoor.K
namespace Go.Rd
open Go Go.Eng Go.Ar
structure Vs where
  c : Int
  k : Int
  a0 : Int
  a1 : Int
  a2 : Int
  a3 : Int
  a : Int
  b : Int
  x : Int
  y : Int
structure Vx where
  c : Int
  k : Int
  l : Int
  m : Int
  a : Int
  b : Int
  x : Int
  y : Int
abbrev S0 (v : Vs) : Sp := s0 v.c v.k v.a v.b v.x v.y
abbrev S1 (v : Vs) : Sp := s1 v.c v.k v.a v.b v.x v.y
abbrev S2 (v : Vs) : Sp := s2 v.c v.k v.a v.b v.x v.y
abbrev S3 (v : Vs) : Sp := s3 v.c v.k v.a v.b v.x v.y
abbrev S4 (v : Vs) : Sp := s4 v.c v.k v.a v.b v.x v.y
abbrev S5 (v : Vs) : Sp := s5 v.c v.k v.a v.b v.x v.y
abbrev S6 (v : Vs) : Sp := s6 v.c v.k v.a v.b v.x v.y
abbrev S7 (v : Vs) : Sp := s7 v.c v.k v.a v.b v.x v.y
abbrev S8 (v : Vs) : Sp := s8 v.c v.k v.a v.b v.x v.y
abbrev S9 (v : Vs) : Sp := s9 v.c v.k v.a v.b v.x v.y
abbrev S10 (v : Vs) : Sp := s10 v.c v.k v.a v.b v.x v.y
abbrev S11 (v : Vs) : Sp := s11 v.c v.k v.a v.b v.x v.y
abbrev S12 (v : Vs) : Sp := s12 v.c v.k v.a v.b v.x v.y
abbrev S13 (v : Vs) : Sp := s13 v.c v.k v.a v.b v.x v.y
abbrev S14 (v : Vs) : Sp := s14 v.c v.k v.a v.b v.x v.y
abbrev Q1 (v : Vs) : Sp := q1 v.c v.k v.a0 v.a1 v.a2 v.a3 v.a v.b v.x v.y
abbrev Q2 (v : Vs) : Sp := q2 v.c v.k v.a0 v.a1 v.a2 v.a3 v.a v.b v.x v.y
abbrev Q3 (v : Vs) : Sp := q3 v.c v.k v.a0 v.a1 v.a2 v.a3 v.a v.b v.x v.y
abbrev Q4 (v : Vs) : Sp := q4 v.c v.k v.a0 v.a1 v.a2 v.a3 v.a v.b v.x v.y
abbrev Q5 (v : Vs) : Sp := q5 v.c v.k v.a0 v.a1 v.a2 v.a3 v.a v.b v.x v.y
abbrev Q6 (v : Vs) : Sp := q6 v.c v.k v.a0 v.a1 v.a2 v.a3 v.a v.b v.x v.y
abbrev U0 (v : Vs) : Sp := u0 v.c v.k v.a v.b v.x v.y
abbrev U1 (v : Vs) : Sp := u1 v.c v.k v.a0 v.a1 v.a2 v.a3 v.a v.b v.x v.y
abbrev U2 (v : Vs) : Sp := u2 v.c v.k v.a v.b v.x v.y
abbrev U3 (v : Vs) : Sp := u3 v.c v.k v.a0 v.a1 v.a2 v.a3 v.a v.b v.x v.y
abbrev U4 (v : Vs) : Sp := u4 v.c v.k v.a0 v.a1 v.a2 v.a3 v.a v.b v.x v.y
abbrev CA0 (v : Vs) : Sp := ca v.a0
abbrev CB0 (v : Vs) : Sp := cb v.a0 2
abbrev CA1 (v : Vs) : Sp := ca v.a1
abbrev CB1 (v : Vs) : Sp := cb v.a1 3
abbrev CA2 (v : Vs) : Sp := ca v.a2
abbrev CB2 (v : Vs) : Sp := cb v.a2 4
abbrev CA3 (v : Vs) : Sp := ca v.a3
abbrev CB3 (v : Vs) : Sp := cb v.a3 5
abbrev FA (v : Vs) : Sp := fif v.a v.b
abbrev FB (v : Vs) : Sp := fif v.x v.y
abbrev AS (v : Vs) : Bool := !(v.a0 == 0 && (v.a1 == 0 && (v.a2 == 0 && (v.a3 == 0 && true))))
abbrev X0 (v : Vx) : Sp := b0 v.c v.k v.l v.m v.a v.b v.x v.y
abbrev X1 (v : Vx) : Sp := b1 v.c v.k v.l v.m v.a v.b v.x v.y
abbrev X2 (v : Vx) : Sp := b2 v.c v.k v.l v.m v.a v.b v.x v.y
abbrev X3 (v : Vx) : Sp := b3 v.c v.k v.l v.m v.a v.b v.x v.y
abbrev X4 (v : Vx) : Sp := b4 v.c v.k v.l v.m v.a v.b v.x v.y
abbrev X5 (v : Vx) : Sp := b5 v.c v.k v.l v.m v.a v.b v.x v.y
abbrev X6 (v : Vx) : Sp := b6 v.c v.k v.l v.m v.a v.b v.x v.y
abbrev X7 (v : Vx) : Sp := b7 v.c v.k v.l v.m v.a v.b v.x v.y
abbrev X8 (v : Vx) : Sp := b8 v.c v.k v.l v.m v.a v.b v.x v.y
abbrev X9 (v : Vx) : Sp := b9 v.c v.k v.l v.m v.a v.b v.x v.y
abbrev X10 (v : Vx) : Sp := b10 v.c v.k v.l v.m v.a v.b v.x v.y
abbrev X11 (v : Vx) : Sp := b11 v.c v.k v.l v.m v.a v.b v.x v.y
abbrev X12 (v : Vx) : Sp := b12 v.c v.k v.l v.m v.a v.b v.x v.y
abbrev X13 (v : Vx) : Sp := b13 v.c v.k v.l v.m v.a v.b v.x v.y
abbrev X14 (v : Vx) : Sp := b14 v.c v.k v.l v.m v.a v.b v.x v.y
abbrev X15 (v : Vx) : Sp := b15 v.c v.k v.l v.m v.a v.b v.x v.y
abbrev X16 (v : Vx) : Sp := b16 v.c v.k v.l v.m v.a v.b v.x v.y
abbrev X17 (v : Vx) : Sp := b17 v.c v.k v.l v.m v.a v.b v.x v.y
abbrev X18 (v : Vx) : Sp := b18 v.c v.k v.l v.m v.a v.b v.x v.y
abbrev X19 (v : Vx) : Sp := b19 v.c v.k v.l v.m v.a v.b v.x v.y
abbrev X20 (v : Vx) : Sp := b20 v.c v.k v.l v.m v.a v.b v.x v.y
abbrev X21 (v : Vx) : Sp := b21 v.c v.k v.l v.m v.a v.b v.x v.y
abbrev X22 (v : Vx) : Sp := b22 v.c v.k v.l v.m v.a v.b v.x v.y
abbrev X23 (v : Vx) : Sp := b23 v.c v.k v.l v.m v.a v.b v.x v.y
abbrev X24 (v : Vx) : Sp := b24 v.c v.k v.l v.m v.a v.b v.x v.y
abbrev X25 (v : Vx) : Sp := b25 v.c v.k v.l v.m v.a v.b v.x v.y
abbrev X26 (v : Vx) : Sp := b26 v.c v.k v.l v.m v.a v.b v.x v.y
abbrev X27 (v : Vx) : Sp := b27 v.c v.k v.l v.m v.a v.b v.x v.y
abbrev X28 (v : Vx) : Sp := b28 v.c v.k v.l v.m v.a v.b v.x v.y
abbrev X29 (v : Vx) : Sp := b29 v.c v.k v.l v.m v.a v.b v.x v.y
abbrev O (s : Sp) : Prop := okSp s.lo s.hi = true
def ta1 (v : Vs) : Bool := !(z0 (S0 v))
def ta3 (v : Vs) : Bool := !(z0 (S1 v))
def ta5 (v : Vs) : Bool := !(z0 (S2 v))
def ta7 (v : Vs) : Bool := (ta1 v) || (z0 (S0 v)) && ((ta3 v) || (z0 (S1 v)) && ((ta5 v) || (z0 (S2 v)) && !(z0 (S3 v))))
def ta8 (v : Vs) : Bool := (z0 (S0 v)) && ((z0 (S1 v)) && ((z0 (S2 v)) && (z0 (S3 v))))
def ta12 (v : Vs) : Bool := !(z0 (S4 v))
def ta14 (v : Vs) : Bool := (ta8 v) && ((z0 (S4 v)) && (z0 (S5 v)))
def ta17 (v : Vs) : Bool := decide ((S6 v).lo ≤ 0)
def ta18 (v : Vs) : Bool := !(ta17 v)
def ta21 (v : Vs) : Bool := !(z0 (S8 v))
def ta25 (v : Vs) : Bool := !(z0 (S9 v))
def ta27 (v : Vs) : Bool := !(z0 (S10 v))
def ta28 (v : Vs) : Bool := (ta14 v) && ((z0 (S6 v)) && ((ta18 v) && ((z0 (S7 v)) && ((z0 (S8 v)) && ((z0 (S9 v)) && (z0 (S10 v)))))))
def ta29 (v : Vs) : Bool := !(v.a0 == 0 && (v.a1 == 0 && (v.a2 == 0 && (v.a3 == 0 && true))))
def ta31 (v : Vs) : Bool := (z0 (S0 v)) && ((z0 (S1 v)) && ((z0 (S2 v)) && (z0 (U0 v))))
def ta36 (v : Vs) : Bool := (z0 (CA0 v)) && ((z0 (CA1 v)) && ((z0 (CA2 v)) && (z0 (CA3 v))))
def ta50 (v : Vs) : Bool := (ta31 v) && ((ta36 v) && (z0 (U1 v)))
def ta55 (v : Vs) : Bool := (ta14 v) && ((z0 (S6 v)) && (ta17 v))
def ta56 (v : Vs) : Bool := (ta7 v) || (ta8 v) && ((ta12 v) || (z0 (S4 v)) && !(z0 (S5 v)))
def ta57 (v : Vs) : Bool := !(z0 (S7 v))
def ta58 (v : Vs) : Bool := (z0 (S6 v)) && ((ta18 v) && ((ta57 v) || (z0 (S7 v)) && ((ta21 v) || (z0 (S8 v)) && ((ta25 v) || (z0 (S9 v)) && (ta27 v)))))
def ta59 (v : Vs) : Int := bif (ta56 v) then bif (ta7 v) then bif (ta1 v) then v.x else bif (ta3 v) then v.x else bif (ta5 v) then v.x else v.x else bif (ta12 v) then v.x else v.x else bif (ta58 v) then bif (ta57 v) then v.x else bif (ta21 v) then v.x else bif (ta25 v) then v.x else v.x else v.x
def ta60 (v : Vs) : Int := bif (ta56 v) then bif (ta7 v) then bif (ta1 v) then v.y else bif (ta3 v) then v.y else bif (ta5 v) then v.y else v.y else bif (ta12 v) then v.y else v.y else bif (ta58 v) then bif (ta57 v) then v.y else bif (ta21 v) then v.y else bif (ta25 v) then v.y else v.y else v.y
def taF (p : Prop) (v : Vs) : Prop := ((p ∧ okSp v.a v.b = true ∧ okSp v.x v.y = true) ∧ (((okE (S0 v) ∧ ((ta1 v) = true → (v.c = v.c ∧ v.x = v.x ∧ v.y = v.y) ∧ v.c = v.c ∧ v.c = v.c) ∧ ((z0 (S0 v)) = true → (v.c = v.c ∧ v.x = v.x ∧ v.y = v.y) ∧ okE (S1 v) ∧ ((ta3 v) = true → v.c = v.c ∧ v.c = v.c) ∧ ((z0 (S1 v)) = true → v.c = v.c ∧ okE (S2 v) ∧ ((ta5 v) = true → v.c = v.c) ∧ ((z0 (S2 v)) = true → v.c = v.c ∧ okE (S3 v))))) ∧ ((ta7 v) = true → v.k = v.k) ∧ ((ta8 v) = true → okE (S4 v) ∧ ((ta12 v) = true → v.k = v.k) ∧ ((z0 (S4 v)) = true → v.k = v.k ∧ okE (S5 v)))) ∧ ((ta14 v) = true → okE (S6 v) ∧ ((z0 (S6 v)) = true → (ta18 v) = true → okE (S7 v) ∧ ((z0 (S7 v)) = true → okE (S8 v) ∧ ((ta21 v) = true → (((S7 v).lo = (S7 v).lo ∧ (S7 v).hi = (S7 v).hi) ∧ (S7 v).lo = (S7 v).lo ∧ (S7 v).hi = (S7 v).hi) ∧ ((S7 v).lo = (S7 v).lo ∧ (S7 v).hi = (S7 v).hi) ∧ ((S7 v).lo = (S7 v).lo ∧ (S7 v).hi = (S7 v).hi) ∧ (S7 v).lo = (S7 v).lo ∧ (S7 v).hi = (S7 v).hi) ∧ ((z0 (S8 v)) = true → (((S7 v).lo = (S7 v).lo ∧ (S7 v).hi = (S7 v).hi) ∧ (S7 v).lo = (S7 v).lo ∧ (S7 v).hi = (S7 v).hi) ∧ okE (S9 v) ∧ ((ta25 v) = true → ((S7 v).lo = (S7 v).lo ∧ (S7 v).hi = (S7 v).hi) ∧ ((S7 v).lo = (S7 v).lo ∧ (S7 v).hi = (S7 v).hi) ∧ (S7 v).lo = (S7 v).lo ∧ (S7 v).hi = (S7 v).hi) ∧ ((z0 (S9 v)) = true → ((S7 v).lo = (S7 v).lo ∧ (S7 v).hi = (S7 v).hi) ∧ okE (S10 v) ∧ ((ta27 v) = true → ((S7 v).lo = (S7 v).lo ∧ (S7 v).hi = (S7 v).hi) ∧ (S7 v).lo = (S7 v).lo ∧ (S7 v).hi = (S7 v).hi) ∧ ((z0 (S10 v)) = true → ((S7 v).lo = (S7 v).lo ∧ (S7 v).hi = (S7 v).hi) ∧ (S7 v).lo = (S7 v).lo ∧ (S7 v).hi = (S7 v).hi))))))) ∧ ((ta28 v) = true → (ta29 v) = true → ((okE (S0 v) ∧ ((ta1 v) = true → v.x = v.x ∧ v.y = v.y) ∧ ((z0 (S0 v)) = true → (v.x = v.x ∧ v.y = v.y) ∧ okE (S1 v) ∧ ((z0 (S1 v)) = true → okE (S2 v) ∧ ((z0 (S2 v)) = true → okE (U0 v))))) ∧ ((ta31 v) = true → (okE (CA0 v) ∧ ((z0 (CA0 v)) = true → okE (CA1 v) ∧ ((z0 (CA1 v)) = true → okE (CA2 v) ∧ ((z0 (CA2 v)) = true → okE (CA3 v))))) ∧ ((ta36 v) = true → ((O (CA0 v) ∧ O (CA1 v) ∧ O (CA2 v) ∧ O (CA3 v) ∧ O (U0 v)) ∧ okE (U1 v)) ∧ ((z0 (U1 v)) = true → (U1 v).lo = (U1 v).lo ∧ (U1 v).hi = (U1 v).hi)))) ∧ ((ta50 v) = true → okE (U2 v) ∧ ((!(z0 (U2 v))) = true → (((U1 v).lo = (U1 v).lo ∧ (U1 v).hi = (U1 v).hi) ∧ (S10 v).lo = (S10 v).lo ∧ (S10 v).hi = (S10 v).hi) ∧ (S10 v).lo = (S10 v).lo ∧ (S10 v).hi = (S10 v).hi) ∧ ((z0 (U2 v)) = true → (((U1 v).lo = (U1 v).lo ∧ (U1 v).hi = (U1 v).hi) ∧ (S10 v).lo = (S10 v).lo ∧ (S10 v).hi = (S10 v).hi) ∧ okE (U3 v) ∧ ((!(z0 (U3 v))) = true → (S10 v).lo = (S10 v).lo ∧ (S10 v).hi = (S10 v).hi) ∧ ((z0 (U3 v)) = true → ((S10 v).lo = (S10 v).lo ∧ (S10 v).hi = (S10 v).hi) ∧ okE (U4 v)))) ∧ (((ta1 v) || (z0 (S0 v)) && ((ta3 v) || (z0 (S1 v)) && ((ta5 v) || (z0 (S2 v)) && !(z0 (U0 v)))) || (ta31 v) && ((ta36 v) && !(z0 (U1 v)) || ((z0 (CA0 v)) && ((z0 (CA1 v)) && ((z0 (CA2 v)) && !(z0 (CA3 v)) || !(z0 (CA2 v))) || !(z0 (CA1 v))) || !(z0 (CA0 v))))) = true → ((S10 v).lo = (S10 v).lo ∧ (S10 v).hi = (S10 v).hi) ∧ (S10 v).lo = (S10 v).lo ∧ (S10 v).hi = (S10 v).hi)) ∧ ((ta55 v) = true → (ta29 v) = true → v.x = v.x ∧ v.y = v.y) ∧ (((ta56 v) || (ta14 v) && ((ta58 v) || !(z0 (S6 v)))) = true → (!((bif (ta56 v) then bif (ta7 v) then bif (ta1 v) then v.a0 else bif (ta3 v) then v.a0 else bif (ta5 v) then v.a0 else v.a0 else bif (ta12 v) then v.a0 else v.a0 else bif (ta58 v) then bif (ta57 v) then v.a0 else bif (ta21 v) then v.a0 else bif (ta25 v) then v.a0 else v.a0 else v.a0) == 0 && ((bif (ta56 v) then bif (ta7 v) then bif (ta1 v) then v.a1 else bif (ta3 v) then v.a1 else bif (ta5 v) then v.a1 else v.a1 else bif (ta12 v) then v.a1 else v.a1 else bif (ta58 v) then bif (ta57 v) then v.a1 else bif (ta21 v) then v.a1 else bif (ta25 v) then v.a1 else v.a1 else v.a1) == 0 && ((bif (ta56 v) then bif (ta7 v) then bif (ta1 v) then v.a2 else bif (ta3 v) then v.a2 else bif (ta5 v) then v.a2 else v.a2 else bif (ta12 v) then v.a2 else v.a2 else bif (ta58 v) then bif (ta57 v) then v.a2 else bif (ta21 v) then v.a2 else bif (ta25 v) then v.a2 else v.a2 else v.a2) == 0 && ((bif (ta56 v) then bif (ta7 v) then bif (ta1 v) then v.a3 else bif (ta3 v) then v.a3 else bif (ta5 v) then v.a3 else v.a3 else bif (ta12 v) then v.a3 else v.a3 else bif (ta58 v) then bif (ta57 v) then v.a3 else bif (ta21 v) then v.a3 else bif (ta25 v) then v.a3 else v.a3 else v.a3) == 0 && true))))) = true → (ta59 v) = (ta59 v) ∧ (ta60 v) = (ta60 v)))
def tb1 (v : Vx) : Bool := !(z0 (X0 v))
def tb3 (v : Vx) : Bool := !(z0 (X1 v))
def tb5 (v : Vx) : Bool := !(z0 (X2 v))
def tb7 (v : Vx) : Bool := (z0 (X0 v)) && ((z0 (X1 v)) && ((z0 (X2 v)) && (z0 (X3 v))))
def tb11 (v : Vx) : Bool := !(z0 (X4 v))
def tb15 (v : Vx) : Bool := (z0 (X4 v)) && (z0 (X6 v))
def tb17 (v : Vx) : Bool := (z0 (X5 v)) && z0 (X7 v)
def tb18 (v : Vx) : Bool := (tb7 v) && ((tb15 v) && ((tb17 v) && z0 (X8 v)))
def tb21 (v : Vx) : Bool := decide ((X9 v).lo ≤ 0)
def tb22 (v : Vx) : Bool := !(tb21 v)
def tbF (p : Prop) (v : Vx) : Prop := ((p ∧ okSp v.a v.b = true ∧ okSp v.x v.y = true) ∧ ((okE (X0 v) ∧ ((tb1 v) = true → (v.c = v.c ∧ (v.x = v.x ∧ v.y = v.y) ∧ v.l = v.l) ∧ (v.c = v.c ∧ v.x = v.x ∧ v.y = v.y) ∧ v.c = v.c) ∧ ((z0 (X0 v)) = true → (v.c = v.c ∧ (v.x = v.x ∧ v.y = v.y) ∧ v.l = v.l) ∧ okE (X1 v) ∧ ((tb3 v) = true → (v.c = v.c ∧ v.x = v.x ∧ v.y = v.y) ∧ v.c = v.c) ∧ ((z0 (X1 v)) = true → (v.c = v.c ∧ v.x = v.x ∧ v.y = v.y) ∧ okE (X2 v) ∧ ((tb5 v) = true → v.c = v.c) ∧ ((z0 (X2 v)) = true → v.c = v.c ∧ okE (X3 v))))) ∧ (((tb1 v) || (z0 (X0 v)) && ((tb3 v) || (z0 (X1 v)) && ((tb5 v) || (z0 (X2 v)) && !(z0 (X3 v))))) = true → v.m = v.m ∧ (v.c = v.c ∧ v.k = v.k) ∧ v.k = v.k) ∧ ((tb7 v) = true → (okE (X4 v) ∧ ((tb11 v) = true → v.m = v.m) ∧ ((z0 (X4 v)) = true → v.m = v.m ∧ okE (X6 v))) ∧ (((tb11 v) || (z0 (X4 v)) && !(z0 (X6 v))) = true → ((v.c = v.c ∧ v.k = v.k) ∧ (X3 v).lo = (X3 v).lo ∧ (X3 v).hi = (X3 v).hi) ∧ v.k = v.k) ∧ ((tb15 v) = true → ((v.c = v.c ∧ v.k = v.k) ∧ (X3 v).lo = (X3 v).lo ∧ (X3 v).hi = (X3 v).hi) ∧ (okE (X5 v) ∧ ((!(z0 (X5 v))) = true → v.k = v.k) ∧ ((z0 (X5 v)) = true → v.k = v.k ∧ okE (X7 v))) ∧ ((tb17 v) = true → okE (X8 v))))) ∧ ((tb18 v) = true → okE (X9 v) ∧ ((z0 (X9 v)) = true → (tb22 v) = true → okE (X10 v) ∧ ((z0 (X10 v)) = true → okE (X11 v) ∧ ((!(z0 (X11 v))) = true → (((X10 v).lo = (X10 v).lo ∧ (X10 v).hi = (X10 v).hi) ∧ (X10 v).lo = (X10 v).lo ∧ (X10 v).hi = (X10 v).hi) ∧ ((X10 v).lo = (X10 v).lo ∧ (X10 v).hi = (X10 v).hi) ∧ ((X10 v).lo = (X10 v).lo ∧ (X10 v).hi = (X10 v).hi) ∧ (X10 v).lo = (X10 v).lo ∧ (X10 v).hi = (X10 v).hi) ∧ ((z0 (X11 v)) = true → (((X10 v).lo = (X10 v).lo ∧ (X10 v).hi = (X10 v).hi) ∧ (X10 v).lo = (X10 v).lo ∧ (X10 v).hi = (X10 v).hi) ∧ okE (X12 v) ∧ ((!(z0 (X12 v))) = true → ((X10 v).lo = (X10 v).lo ∧ (X10 v).hi = (X10 v).hi) ∧ ((X10 v).lo = (X10 v).lo ∧ (X10 v).hi = (X10 v).hi) ∧ (X10 v).lo = (X10 v).lo ∧ (X10 v).hi = (X10 v).hi) ∧ ((z0 (X12 v)) = true → ((X10 v).lo = (X10 v).lo ∧ (X10 v).hi = (X10 v).hi) ∧ okE (X13 v) ∧ ((!(z0 (X13 v))) = true → ((X10 v).lo = (X10 v).lo ∧ (X10 v).hi = (X10 v).hi) ∧ (X10 v).lo = (X10 v).lo ∧ (X10 v).hi = (X10 v).hi) ∧ ((z0 (X13 v)) = true → ((X10 v).lo = (X10 v).lo ∧ (X10 v).hi = (X10 v).hi) ∧ (X10 v).lo = (X10 v).lo ∧ (X10 v).hi = (X10 v).hi)))))))
def tc1 (v : Vs) : Bool := bif (sagS v.c v.k v.a0 v.a1 v.a2 v.a3 v.a v.b v.x v.y).e != 0 then true else false
def tc2 (v : Vs) : Bool := !(tc1 v)
def tc4 (v : Vs) : Bool := !(z0 (S2 v))
def tc9 (v : Vs) : Bool := !(z0 (S8 v))
def tc13 (v : Vs) : Bool := !(z0 (S9 v))
def tc15 (v : Vs) : Bool := !(z0 (S10 v))
def tc16 (v : Vs) : Bool := (z0 (S2 v)) && ((z0 (S8 v)) && ((z0 (S9 v)) && (z0 (S10 v))))
def tc31 (v : Vs) : Bool := (z0 (S2 v)) && !(z0 (Q1 v))
def tc32 (v : Vs) : Bool := (tc31 v) || (tc4 v)
def tc33 (v : Vs) : Int := bif (tc31 v) then (U0 v).lo else 0
def tc34 (v : Vs) : Int := bif (tc31 v) then (U0 v).hi else 0
def tc37 (v : Vs) : Bool := (z0 (S2 v)) && (z0 (Q1 v))
def tc39 (v : Vs) : Bool := !(z0 (Q2 v))
def tc43 (v : Vs) : Bool := !(z0 (Q3 v))
def tc44 (v : Vs) : Bool := !(z0 (S14 v))
def tc45 (v : Vs) : Bool := (tc4 v) || (z0 (S2 v)) && ((tc9 v) || (z0 (S8 v)) && ((tc13 v) || (z0 (S9 v)) && (tc15 v)))
def tc46 (v : Vs) : Int := bif (tc4 v) then v.a0 else bif (tc9 v) then v.a0 else bif (tc13 v) then v.a0 else v.a0
def tc47 (v : Vs) : Int := bif (tc4 v) then v.a1 else bif (tc9 v) then v.a1 else bif (tc13 v) then v.a1 else v.a1
def tc48 (v : Vs) : Int := bif (tc4 v) then v.a2 else bif (tc9 v) then v.a2 else bif (tc13 v) then v.a2 else v.a2
def tc49 (v : Vs) : Int := bif (tc4 v) then v.a3 else bif (tc9 v) then v.a3 else bif (tc13 v) then v.a3 else v.a3
def tc50 (v : Vs) : Int := bif (tc4 v) then v.x else bif (tc9 v) then v.x else bif (tc13 v) then v.x else v.x
def tc51 (v : Vs) : Int := bif (tc4 v) then v.y else bif (tc9 v) then v.y else bif (tc13 v) then v.y else v.y
def tc53 (v : Vs) : Bool := (tc16 v) && ((z0 (S14 v)) && ((tc37 v) && ((z0 (Q2 v)) && ((z0 (Q3 v)) && (z0 (Q4 v))))))
def tc58 (v : Vs) : Bool := (z0 (S14 v)) && ((tc32 v) || (tc37 v) && ((tc39 v) || (z0 (Q2 v)) && ((tc43 v) || (z0 (Q3 v)) && !(z0 (Q4 v)))))
def tc59 (v : Vs) : Bool := (tc16 v) && ((tc58 v) || (tc44 v))
def tc60 (v : Vs) : Int := bif (tc59 v) then bif (tc58 v) then bif (tc32 v) then bif (tc31 v) then v.c else v.c else bif (tc39 v) then v.c else bif (tc43 v) then v.c else v.c else v.c else bif (tc4 v) then v.c else bif (tc9 v) then v.c else bif (tc13 v) then v.c else v.c
def tc61 (v : Vs) : Int := bif (tc59 v) then bif (tc58 v) then bif (tc32 v) then bif (tc31 v) then v.x else v.x else bif (tc39 v) then v.x else bif (tc43 v) then v.x else v.x else v.x else (tc50 v)
def tc62 (v : Vs) : Int := bif (tc59 v) then bif (tc58 v) then bif (tc32 v) then bif (tc31 v) then v.y else v.y else bif (tc39 v) then v.y else bif (tc43 v) then v.y else v.y else v.y else (tc51 v)
def tc63 (v : Vs) : Int := bif (tc59 v) then bif (tc58 v) then bif (tc32 v) then bif (tc31 v) then v.k else v.k else bif (tc39 v) then v.k else bif (tc43 v) then v.k else v.k else v.k else bif (tc4 v) then v.k else bif (tc9 v) then v.k else bif (tc13 v) then v.k else v.k
def tc64 (v : Vs) : Bool := (tc53 v) && ((tc16 v) && ((z0 (S12 v)) && ((tc37 v) && ((z0 (Q2 v)) && ((z0 (Q5 v)) && z0 (Q6 v))))))
def tcF (p : Prop) (v : Vs) : Prop := ((p ∧ okSp v.a v.b = true ∧ okSp v.x v.y = true) ∧ ((tc2 v) = true → ((((((S0 v).e = 0 ∧ (v.c = v.c ∧ v.x = v.x ∧ v.y = v.y) ∧ (S1 v).e = 0 ∧ v.c = v.c ∧ okE (S2 v) ∧ ((tc4 v) = true → v.c = v.c) ∧ ((z0 (S2 v)) = true → v.c = v.c ∧ (S3 v).e = 0)) ∧ ((z0 (S2 v)) = true → (S4 v).e = 0 ∧ v.k = v.k ∧ (S5 v).e = 0) ∧ ((tc4 v) = true → v.k = v.k)) ∧ ((z0 (S2 v)) = true → (S6 v).e = 0 ∧ decide ((S6 v).lo ≤ 0) = false ∧ (S7 v).e = 0 ∧ okE (S8 v) ∧ ((tc9 v) = true → (((S7 v).lo = (S7 v).lo ∧ (S7 v).hi = (S7 v).hi) ∧ (S7 v).lo = (S7 v).lo ∧ (S7 v).hi = (S7 v).hi) ∧ ((S7 v).lo = (S7 v).lo ∧ (S7 v).hi = (S7 v).hi) ∧ ((S7 v).lo = (S7 v).lo ∧ (S7 v).hi = (S7 v).hi) ∧ (S7 v).lo = (S7 v).lo ∧ (S7 v).hi = (S7 v).hi) ∧ ((z0 (S8 v)) = true → (((S7 v).lo = (S7 v).lo ∧ (S7 v).hi = (S7 v).hi) ∧ (S7 v).lo = (S7 v).lo ∧ (S7 v).hi = (S7 v).hi) ∧ okE (S9 v) ∧ ((tc13 v) = true → ((S7 v).lo = (S7 v).lo ∧ (S7 v).hi = (S7 v).hi) ∧ ((S7 v).lo = (S7 v).lo ∧ (S7 v).hi = (S7 v).hi) ∧ (S7 v).lo = (S7 v).lo ∧ (S7 v).hi = (S7 v).hi) ∧ ((z0 (S9 v)) = true → ((S7 v).lo = (S7 v).lo ∧ (S7 v).hi = (S7 v).hi) ∧ okE (S10 v) ∧ ((tc15 v) = true → ((S7 v).lo = (S7 v).lo ∧ (S7 v).hi = (S7 v).hi) ∧ (S7 v).lo = (S7 v).lo ∧ (S7 v).hi = (S7 v).hi) ∧ ((z0 (S10 v)) = true → ((S7 v).lo = (S7 v).lo ∧ (S7 v).hi = (S7 v).hi) ∧ (S7 v).lo = (S7 v).lo ∧ (S7 v).hi = (S7 v).hi))))) ∧ ((tc16 v) = true → (S13 v).e = 0 ∧ okE (S14 v) ∧ ((z0 (S14 v)) = true → (AS v) = true ∧ (((S0 v).e = 0 ∧ (v.x = v.x ∧ v.y = v.y) ∧ (S1 v).e = 0 ∧ okE (S2 v) ∧ ((z0 (S2 v)) = true → (U0 v).e = 0)) ∧ ((z0 (S2 v)) = true → ((CB0 v).e = 0 ∧ (CB1 v).e = 0 ∧ (CB2 v).e = 0 ∧ (CB3 v).e = 0) ∧ ((O (CB0 v) ∧ O (CB1 v) ∧ O (CB2 v) ∧ O (CB3 v) ∧ O (U0 v)) ∧ okE (Q1 v)) ∧ ((z0 (Q1 v)) = true → (Q1 v).lo = (Q1 v).lo ∧ (Q1 v).hi = (Q1 v).hi))) ∧ ((tc32 v) = true → (((tc33 v) = (tc33 v) ∧ (tc34 v) = (tc34 v)) ∧ (S14 v).lo = (S14 v).lo ∧ (S14 v).hi = (S14 v).hi) ∧ ((S14 v).lo = (S14 v).lo ∧ (S14 v).hi = (S14 v).hi) ∧ (S14 v).lo = (S14 v).lo ∧ (S14 v).hi = (S14 v).hi) ∧ ((tc37 v) = true → (FA v).e = 0 ∧ (((Q1 v).lo = (Q1 v).lo ∧ (Q1 v).hi = (Q1 v).hi) ∧ ((U0 v).lo = (U0 v).lo ∧ (U0 v).hi = (U0 v).hi) ∧ (S14 v).lo = (S14 v).lo ∧ (S14 v).hi = (S14 v).hi) ∧ okE (Q2 v) ∧ ((tc39 v) = true → ((S14 v).lo = (S14 v).lo ∧ (S14 v).hi = (S14 v).hi) ∧ (S14 v).lo = (S14 v).lo ∧ (S14 v).hi = (S14 v).hi) ∧ ((z0 (Q2 v)) = true → ((S14 v).lo = (S14 v).lo ∧ (S14 v).hi = (S14 v).hi) ∧ okE (Q3 v) ∧ ((tc43 v) = true → (S14 v).lo = (S14 v).lo ∧ (S14 v).hi = (S14 v).hi) ∧ ((z0 (Q3 v)) = true → ((S14 v).lo = (S14 v).lo ∧ (S14 v).hi = (S14 v).hi) ∧ okE (Q4 v))))) ∧ ((tc44 v) = true → (AS v) = true ∧ v.x = v.x ∧ v.y = v.y)) ∧ ((tc45 v) = true → (!((tc46 v) == 0 && ((tc47 v) == 0 && ((tc48 v) == 0 && ((tc49 v) == 0 && true))))) = true ∧ (tc50 v) = (tc50 v) ∧ (tc51 v) = (tc51 v))) ∧ ((tc53 v) = true → ((v.c = v.c ∧ v.k = v.k) ∧ v.x = v.x ∧ v.y = v.y) ∧ ((((S0 v).e = 0 ∧ (v.c = v.c ∧ v.x = v.x ∧ v.y = v.y) ∧ (S1 v).e = 0 ∧ v.c = v.c ∧ okE (S2 v) ∧ ((tc4 v) = true → v.c = v.c) ∧ ((z0 (S2 v)) = true → v.c = v.c ∧ (S3 v).e = 0)) ∧ ((z0 (S2 v)) = true → (S4 v).e = 0 ∧ v.k = v.k ∧ (S5 v).e = 0) ∧ ((tc4 v) = true → v.k = v.k)) ∧ ((z0 (S2 v)) = true → (S6 v).e = 0 ∧ decide ((S6 v).lo ≤ 0) = false ∧ (S7 v).e = 0 ∧ okE (S8 v) ∧ ((tc9 v) = true → (((S7 v).lo = (S7 v).lo ∧ (S7 v).hi = (S7 v).hi) ∧ (S7 v).lo = (S7 v).lo ∧ (S7 v).hi = (S7 v).hi) ∧ ((S7 v).lo = (S7 v).lo ∧ (S7 v).hi = (S7 v).hi) ∧ ((S7 v).lo = (S7 v).lo ∧ (S7 v).hi = (S7 v).hi) ∧ (S7 v).lo = (S7 v).lo ∧ (S7 v).hi = (S7 v).hi) ∧ ((z0 (S8 v)) = true → (((S7 v).lo = (S7 v).lo ∧ (S7 v).hi = (S7 v).hi) ∧ (S7 v).lo = (S7 v).lo ∧ (S7 v).hi = (S7 v).hi) ∧ okE (S9 v) ∧ ((tc13 v) = true → ((S7 v).lo = (S7 v).lo ∧ (S7 v).hi = (S7 v).hi) ∧ ((S7 v).lo = (S7 v).lo ∧ (S7 v).hi = (S7 v).hi) ∧ (S7 v).lo = (S7 v).lo ∧ (S7 v).hi = (S7 v).hi) ∧ ((z0 (S9 v)) = true → ((S7 v).lo = (S7 v).lo ∧ (S7 v).hi = (S7 v).hi) ∧ okE (S10 v) ∧ ((tc15 v) = true → ((S7 v).lo = (S7 v).lo ∧ (S7 v).hi = (S7 v).hi) ∧ (S7 v).lo = (S7 v).lo ∧ (S7 v).hi = (S7 v).hi) ∧ ((z0 (S10 v)) = true → ((S7 v).lo = (S7 v).lo ∧ (S7 v).hi = (S7 v).hi) ∧ (S7 v).lo = (S7 v).lo ∧ (S7 v).hi = (S7 v).hi))))) ∧ ((tc16 v) = true → (S11 v).e = 0 ∧ okE (S12 v) ∧ ((z0 (S12 v)) = true → (AS v) = true ∧ (((S0 v).e = 0 ∧ (v.x = v.x ∧ v.y = v.y) ∧ (S1 v).e = 0 ∧ okE (S2 v) ∧ ((z0 (S2 v)) = true → (U0 v).e = 0)) ∧ ((z0 (S2 v)) = true → ((CB0 v).e = 0 ∧ (CB1 v).e = 0 ∧ (CB2 v).e = 0 ∧ (CB3 v).e = 0) ∧ ((O (CB0 v) ∧ O (CB1 v) ∧ O (CB2 v) ∧ O (CB3 v) ∧ O (U0 v)) ∧ okE (Q1 v)) ∧ ((z0 (Q1 v)) = true → (Q1 v).lo = (Q1 v).lo ∧ (Q1 v).hi = (Q1 v).hi))) ∧ ((tc32 v) = true → (((tc33 v) = (tc33 v) ∧ (tc34 v) = (tc34 v)) ∧ (S12 v).lo = (S12 v).lo ∧ (S12 v).hi = (S12 v).hi) ∧ ((S12 v).lo = (S12 v).lo ∧ (S12 v).hi = (S12 v).hi) ∧ (S12 v).lo = (S12 v).lo ∧ (S12 v).hi = (S12 v).hi) ∧ ((tc37 v) = true → (FB v).e = 0 ∧ (((Q1 v).lo = (Q1 v).lo ∧ (Q1 v).hi = (Q1 v).hi) ∧ ((U0 v).lo = (U0 v).lo ∧ (U0 v).hi = (U0 v).hi) ∧ (S12 v).lo = (S12 v).lo ∧ (S12 v).hi = (S12 v).hi) ∧ okE (Q2 v) ∧ ((tc39 v) = true → ((S12 v).lo = (S12 v).lo ∧ (S12 v).hi = (S12 v).hi) ∧ (S12 v).lo = (S12 v).lo ∧ (S12 v).hi = (S12 v).hi) ∧ ((z0 (Q2 v)) = true → ((S12 v).lo = (S12 v).lo ∧ (S12 v).hi = (S12 v).hi) ∧ okE (Q5 v) ∧ ((!(z0 (Q5 v))) = true → (S12 v).lo = (S12 v).lo ∧ (S12 v).hi = (S12 v).hi) ∧ ((z0 (Q5 v)) = true → ((S12 v).lo = (S12 v).lo ∧ (S12 v).hi = (S12 v).hi) ∧ okE (Q6 v))))) ∧ ((!(z0 (S12 v))) = true → (AS v) = true ∧ v.x = v.x ∧ v.y = v.y)) ∧ ((tc45 v) = true → (!((tc46 v) == 0 && ((tc47 v) == 0 && ((tc48 v) == 0 && ((tc49 v) == 0 && true))))) = true ∧ (tc50 v) = (tc50 v) ∧ (tc51 v) = (tc51 v))) ∧ (((tc59 v) || (tc45 v)) = true → ((v.c = v.c ∧ v.k = v.k) ∧ v.x = v.x ∧ v.y = v.y) ∧ ((((tc60 v) = (tc60 v) ∧ (tc61 v) = (tc61 v) ∧ (tc62 v) = (tc62 v)) ∧ (tc60 v) = (tc60 v) ∧ (tc60 v) = (tc60 v)) ∧ (tc63 v) = (tc63 v)) ∧ (!((bif (tc59 v) then bif (tc58 v) then bif (tc32 v) then bif (tc31 v) then v.a0 else v.a0 else bif (tc39 v) then v.a0 else bif (tc43 v) then v.a0 else v.a0 else v.a0 else (tc46 v)) == 0 && ((bif (tc59 v) then bif (tc58 v) then bif (tc32 v) then bif (tc31 v) then v.a1 else v.a1 else bif (tc39 v) then v.a1 else bif (tc43 v) then v.a1 else v.a1 else v.a1 else (tc47 v)) == 0 && ((bif (tc59 v) then bif (tc58 v) then bif (tc32 v) then bif (tc31 v) then v.a2 else v.a2 else bif (tc39 v) then v.a2 else bif (tc43 v) then v.a2 else v.a2 else v.a2 else (tc48 v)) == 0 && ((bif (tc59 v) then bif (tc58 v) then bif (tc32 v) then bif (tc31 v) then v.a3 else v.a3 else bif (tc39 v) then v.a3 else bif (tc43 v) then v.a3 else v.a3 else v.a3 else (tc49 v)) == 0 && true))))) = true ∧ (tc61 v) = (tc61 v) ∧ (tc62 v) = (tc62 v))) ∧ ((tc64 v) = true → (Q6 v).lo = (Q6 v).lo ∧ (Q6 v).hi = (Q6 v).hi)))
def te1 (v : Vs) : Bool := bif (sagS v.c v.k v.a0 v.a1 v.a2 v.a3 v.a v.b v.x v.y).e != 0 then true else false
def te2 (v : Vs) : Bool := !(te1 v)
def te4 (v : Vs) : Bool := !(z0 (S2 v))
def te9 (v : Vs) : Bool := !(z0 (S8 v))
def te13 (v : Vs) : Bool := !(z0 (S9 v))
def te15 (v : Vs) : Bool := !(z0 (S10 v))
def te16 (v : Vs) : Bool := (z0 (S2 v)) && ((z0 (S8 v)) && ((z0 (S9 v)) && (z0 (S10 v))))
def te18 (v : Vs) : Bool := !(z0 (S14 v))
def te19 (v : Vs) : Bool := (te4 v) || (z0 (S2 v)) && ((te9 v) || (z0 (S8 v)) && ((te13 v) || (z0 (S9 v)) && (te15 v)))
def te20 (v : Vs) : Int := bif (te4 v) then v.a0 else bif (te9 v) then v.a0 else bif (te13 v) then v.a0 else v.a0
def te21 (v : Vs) : Int := bif (te4 v) then v.a1 else bif (te9 v) then v.a1 else bif (te13 v) then v.a1 else v.a1
def te22 (v : Vs) : Int := bif (te4 v) then v.a2 else bif (te9 v) then v.a2 else bif (te13 v) then v.a2 else v.a2
def te23 (v : Vs) : Int := bif (te4 v) then v.a3 else bif (te9 v) then v.a3 else bif (te13 v) then v.a3 else v.a3
def te24 (v : Vs) : Bool := (te16 v) && (z0 (S14 v))
def te26 (v : Vs) : Bool := (te16 v) && (te18 v)
def te27 (v : Vs) : Int := bif (te26 v) then v.c else bif (te4 v) then v.c else bif (te9 v) then v.c else bif (te13 v) then v.c else v.c
def te28 (v : Vs) : Int := bif (te26 v) then v.x else bif (te4 v) then v.x else bif (te9 v) then v.x else bif (te13 v) then v.x else v.x
def te29 (v : Vs) : Int := bif (te26 v) then v.y else bif (te4 v) then v.y else bif (te9 v) then v.y else bif (te13 v) then v.y else v.y
def te30 (v : Vs) : Int := bif (te26 v) then v.k else bif (te4 v) then v.k else bif (te9 v) then v.k else bif (te13 v) then v.k else v.k
def te31 (v : Vs) : Bool := (te24 v) && ((te16 v) && (z0 (S12 v)))
def teF (p : Prop) (v : Vs) : Prop := ((p ∧ okSp v.a v.b = true ∧ okSp v.x v.y = true) ∧ ((te2 v) = true → ((((((S0 v).e = 0 ∧ (v.c = v.c ∧ v.x = v.x ∧ v.y = v.y) ∧ (S1 v).e = 0 ∧ v.c = v.c ∧ okE (S2 v) ∧ ((te4 v) = true → v.c = v.c) ∧ ((z0 (S2 v)) = true → v.c = v.c ∧ (S3 v).e = 0)) ∧ ((z0 (S2 v)) = true → (S4 v).e = 0 ∧ v.k = v.k ∧ (S5 v).e = 0) ∧ ((te4 v) = true → v.k = v.k)) ∧ ((z0 (S2 v)) = true → (S6 v).e = 0 ∧ decide ((S6 v).lo ≤ 0) = false ∧ (S7 v).e = 0 ∧ okE (S8 v) ∧ ((te9 v) = true → (((S7 v).lo = (S7 v).lo ∧ (S7 v).hi = (S7 v).hi) ∧ (S7 v).lo = (S7 v).lo ∧ (S7 v).hi = (S7 v).hi) ∧ ((S7 v).lo = (S7 v).lo ∧ (S7 v).hi = (S7 v).hi) ∧ ((S7 v).lo = (S7 v).lo ∧ (S7 v).hi = (S7 v).hi) ∧ (S7 v).lo = (S7 v).lo ∧ (S7 v).hi = (S7 v).hi) ∧ ((z0 (S8 v)) = true → (((S7 v).lo = (S7 v).lo ∧ (S7 v).hi = (S7 v).hi) ∧ (S7 v).lo = (S7 v).lo ∧ (S7 v).hi = (S7 v).hi) ∧ okE (S9 v) ∧ ((te13 v) = true → ((S7 v).lo = (S7 v).lo ∧ (S7 v).hi = (S7 v).hi) ∧ ((S7 v).lo = (S7 v).lo ∧ (S7 v).hi = (S7 v).hi) ∧ (S7 v).lo = (S7 v).lo ∧ (S7 v).hi = (S7 v).hi) ∧ ((z0 (S9 v)) = true → ((S7 v).lo = (S7 v).lo ∧ (S7 v).hi = (S7 v).hi) ∧ okE (S10 v) ∧ ((te15 v) = true → ((S7 v).lo = (S7 v).lo ∧ (S7 v).hi = (S7 v).hi) ∧ (S7 v).lo = (S7 v).lo ∧ (S7 v).hi = (S7 v).hi) ∧ ((z0 (S10 v)) = true → ((S7 v).lo = (S7 v).lo ∧ (S7 v).hi = (S7 v).hi) ∧ (S7 v).lo = (S7 v).lo ∧ (S7 v).hi = (S7 v).hi))))) ∧ ((te16 v) = true → (S13 v).e = 0 ∧ okE (S14 v) ∧ ((z0 (S14 v)) = true → (AS v) = false) ∧ ((te18 v) = true → (AS v) = false)) ∧ ((te19 v) = true → (!((te20 v) == 0 && ((te21 v) == 0 && ((te22 v) == 0 && ((te23 v) == 0 && true))))) = false)) ∧ ((te24 v) = true → ((v.c = v.c ∧ v.k = v.k) ∧ v.x = v.x ∧ v.y = v.y) ∧ ((((S0 v).e = 0 ∧ (v.c = v.c ∧ v.x = v.x ∧ v.y = v.y) ∧ (S1 v).e = 0 ∧ v.c = v.c ∧ okE (S2 v) ∧ ((te4 v) = true → v.c = v.c) ∧ ((z0 (S2 v)) = true → v.c = v.c ∧ (S3 v).e = 0)) ∧ ((z0 (S2 v)) = true → (S4 v).e = 0 ∧ v.k = v.k ∧ (S5 v).e = 0) ∧ ((te4 v) = true → v.k = v.k)) ∧ ((z0 (S2 v)) = true → (S6 v).e = 0 ∧ decide ((S6 v).lo ≤ 0) = false ∧ (S7 v).e = 0 ∧ okE (S8 v) ∧ ((te9 v) = true → (((S7 v).lo = (S7 v).lo ∧ (S7 v).hi = (S7 v).hi) ∧ (S7 v).lo = (S7 v).lo ∧ (S7 v).hi = (S7 v).hi) ∧ ((S7 v).lo = (S7 v).lo ∧ (S7 v).hi = (S7 v).hi) ∧ ((S7 v).lo = (S7 v).lo ∧ (S7 v).hi = (S7 v).hi) ∧ (S7 v).lo = (S7 v).lo ∧ (S7 v).hi = (S7 v).hi) ∧ ((z0 (S8 v)) = true → (((S7 v).lo = (S7 v).lo ∧ (S7 v).hi = (S7 v).hi) ∧ (S7 v).lo = (S7 v).lo ∧ (S7 v).hi = (S7 v).hi) ∧ okE (S9 v) ∧ ((te13 v) = true → ((S7 v).lo = (S7 v).lo ∧ (S7 v).hi = (S7 v).hi) ∧ ((S7 v).lo = (S7 v).lo ∧ (S7 v).hi = (S7 v).hi) ∧ (S7 v).lo = (S7 v).lo ∧ (S7 v).hi = (S7 v).hi) ∧ ((z0 (S9 v)) = true → ((S7 v).lo = (S7 v).lo ∧ (S7 v).hi = (S7 v).hi) ∧ okE (S10 v) ∧ ((te15 v) = true → ((S7 v).lo = (S7 v).lo ∧ (S7 v).hi = (S7 v).hi) ∧ (S7 v).lo = (S7 v).lo ∧ (S7 v).hi = (S7 v).hi) ∧ ((z0 (S10 v)) = true → ((S7 v).lo = (S7 v).lo ∧ (S7 v).hi = (S7 v).hi) ∧ (S7 v).lo = (S7 v).lo ∧ (S7 v).hi = (S7 v).hi))))) ∧ ((te16 v) = true → (S11 v).e = 0 ∧ okE (S12 v) ∧ ((z0 (S12 v)) = true → (AS v) = false) ∧ ((!(z0 (S12 v))) = true → (AS v) = false)) ∧ ((te19 v) = true → (!((te20 v) == 0 && ((te21 v) == 0 && ((te22 v) == 0 && ((te23 v) == 0 && true))))) = false)) ∧ (((te26 v) || (te19 v)) = true → ((v.c = v.c ∧ v.k = v.k) ∧ v.x = v.x ∧ v.y = v.y) ∧ ((((te27 v) = (te27 v) ∧ (te28 v) = (te28 v) ∧ (te29 v) = (te29 v)) ∧ (te27 v) = (te27 v) ∧ (te27 v) = (te27 v)) ∧ (te30 v) = (te30 v)) ∧ (!((bif (te26 v) then v.a0 else (te20 v)) == 0 && ((bif (te26 v) then v.a1 else (te21 v)) == 0 && ((bif (te26 v) then v.a2 else (te22 v)) == 0 && ((bif (te26 v) then v.a3 else (te23 v)) == 0 && true))))) = false)) ∧ ((te31 v) = true → (S12 v).lo = (S12 v).lo ∧ (S12 v).hi = (S12 v).hi)))
def td1 (v : Vx) : Bool := bif (sagX v.c v.k v.l v.m v.a v.b v.x v.y).e != 0 then true else false
def td2 (v : Vx) : Bool := !(td1 v)
def td12 (v : Vx) : Bool := !(z0 (X11 v))
def td16 (v : Vx) : Bool := !(z0 (X12 v))
def td20 (v : Vx) : Bool := !(z0 (X13 v))
def td21 (v : Vx) : Bool := (z0 (X8 v)) && ((td12 v) || (z0 (X11 v)) && ((td16 v) || (z0 (X12 v)) && (td20 v)))
def td22 (v : Vx) : Bool := (td21 v) || !(z0 (X8 v))
def td23 (v : Vx) : Int := bif (td21 v) then bif (td12 v) then (X10 v).lo else bif (td16 v) then (X10 v).lo else (X10 v).lo else 0
def td24 (v : Vx) : Int := bif (td21 v) then bif (td12 v) then (X10 v).hi else bif (td16 v) then (X10 v).hi else (X10 v).hi else 0
def td25 (v : Vx) : Bool := (z0 (X8 v)) && ((z0 (X11 v)) && ((z0 (X12 v)) && (z0 (X13 v))))
def td32 (v : Vx) : Bool := !(z0 (X26 v))
def td34 (v : Vx) : Bool := !(z0 (X28 v))
def td35 (v : Vx) : Bool := !(z0 (X17 v))
def td37 (v : Vx) : Bool := (td25 v) && ((z0 (X17 v)) && ((z0 (X26 v)) && ((z0 (X28 v)) && ((z0 (X12 v)) && (z0 (X29 v))))))
def td43 (v : Vx) : Bool := (z0 (X17 v)) && ((td32 v) || (z0 (X26 v)) && ((td34 v) || (z0 (X28 v)) && ((td16 v) || (z0 (X12 v)) && !(z0 (X29 v)))))
def td44 (v : Vx) : Int := bif (td16 v) then v.c else v.c
def td45 (v : Vx) : Int := bif (td22 v) then bif (td21 v) then bif (td12 v) then v.c else (td44 v) else v.c else bif (td43 v) then bif (td32 v) then v.c else bif (td34 v) then v.c else (td44 v) else v.c
def td46 (v : Vx) : Int := bif (td16 v) then v.x else v.x
def td47 (v : Vx) : Int := bif (td22 v) then bif (td21 v) then bif (td12 v) then v.x else (td46 v) else v.x else bif (td43 v) then bif (td32 v) then v.x else bif (td34 v) then v.x else (td46 v) else v.x
def td48 (v : Vx) : Int := bif (td16 v) then v.y else v.y
def td49 (v : Vx) : Int := bif (td22 v) then bif (td21 v) then bif (td12 v) then v.y else (td48 v) else v.y else bif (td43 v) then bif (td32 v) then v.y else bif (td34 v) then v.y else (td48 v) else v.y
def td50 (v : Vx) : Int := bif (td16 v) then v.l else v.l
def td51 (v : Vx) : Int := bif (td22 v) then bif (td21 v) then bif (td12 v) then v.l else (td50 v) else v.l else bif (td43 v) then bif (td32 v) then v.l else bif (td34 v) then v.l else (td50 v) else v.l
def td52 (v : Vx) : Int := bif (td16 v) then v.m else v.m
def td53 (v : Vx) : Int := bif (td22 v) then bif (td21 v) then bif (td12 v) then v.m else (td52 v) else v.m else bif (td43 v) then bif (td32 v) then v.m else bif (td34 v) then v.m else (td52 v) else v.m
def td54 (v : Vx) : Int := bif (td16 v) then v.k else v.k
def td55 (v : Vx) : Int := bif (td22 v) then bif (td21 v) then bif (td12 v) then v.k else (td54 v) else v.k else bif (td43 v) then bif (td32 v) then v.k else bif (td34 v) then v.k else (td54 v) else v.k
def td56 (v : Vx) : Bool := (td37 v) && ((td25 v) && ((z0 (X21 v)) && ((z0 (X22 v)) && ((z0 (X24 v)) && ((z0 (X12 v)) && z0 (X25 v))))))
def tdF (p : Prop) (v : Vx) : Prop := ((p ∧ okSp v.a v.b = true ∧ okSp v.x v.y = true) ∧ ((td2 v) = true → ((((((X0 v).e = 0 ∧ (v.c = v.c ∧ (v.x = v.x ∧ v.y = v.y) ∧ v.l = v.l) ∧ (X1 v).e = 0 ∧ (v.c = v.c ∧ v.x = v.x ∧ v.y = v.y) ∧ (X2 v).e = 0 ∧ v.c = v.c ∧ (X3 v).e = 0) ∧ ((X4 v).e = 0 ∧ v.m = v.m ∧ (X6 v).e = 0) ∧ ((v.c = v.c ∧ v.k = v.k) ∧ (X3 v).lo = (X3 v).lo ∧ (X3 v).hi = (X3 v).hi) ∧ ((X5 v).e = 0 ∧ v.k = v.k ∧ (X7 v).e = 0) ∧ okE (X8 v)) ∧ ((z0 (X8 v)) = true → (X9 v).e = 0 ∧ decide ((X9 v).lo ≤ 0) = false ∧ (X10 v).e = 0 ∧ okE (X11 v) ∧ ((td12 v) = true → (((X10 v).lo = (X10 v).lo ∧ (X10 v).hi = (X10 v).hi) ∧ (X10 v).lo = (X10 v).lo ∧ (X10 v).hi = (X10 v).hi) ∧ ((X10 v).lo = (X10 v).lo ∧ (X10 v).hi = (X10 v).hi) ∧ ((X10 v).lo = (X10 v).lo ∧ (X10 v).hi = (X10 v).hi) ∧ (X10 v).lo = (X10 v).lo ∧ (X10 v).hi = (X10 v).hi) ∧ ((z0 (X11 v)) = true → (((X10 v).lo = (X10 v).lo ∧ (X10 v).hi = (X10 v).hi) ∧ (X10 v).lo = (X10 v).lo ∧ (X10 v).hi = (X10 v).hi) ∧ okE (X12 v) ∧ ((td16 v) = true → ((X10 v).lo = (X10 v).lo ∧ (X10 v).hi = (X10 v).hi) ∧ ((X10 v).lo = (X10 v).lo ∧ (X10 v).hi = (X10 v).hi) ∧ (X10 v).lo = (X10 v).lo ∧ (X10 v).hi = (X10 v).hi) ∧ ((z0 (X12 v)) = true → ((X10 v).lo = (X10 v).lo ∧ (X10 v).hi = (X10 v).hi) ∧ okE (X13 v) ∧ ((td20 v) = true → ((X10 v).lo = (X10 v).lo ∧ (X10 v).hi = (X10 v).hi) ∧ (X10 v).lo = (X10 v).lo ∧ (X10 v).hi = (X10 v).hi) ∧ ((z0 (X13 v)) = true → ((X10 v).lo = (X10 v).lo ∧ (X10 v).hi = (X10 v).hi) ∧ (X10 v).lo = (X10 v).lo ∧ (X10 v).hi = (X10 v).hi))))) ∧ ((td22 v) = true → (v.m = v.m ∧ (td23 v) = (td23 v) ∧ (td24 v) = (td24 v)) ∧ ((td23 v) = (td23 v) ∧ (td24 v) = (td24 v)) ∧ ((td23 v) = (td23 v) ∧ (td24 v) = (td24 v)) ∧ (td23 v) = (td23 v) ∧ (td24 v) = (td24 v)) ∧ ((td25 v) = true → (X14 v).e = 0 ∧ (((X15 v).e = 0 ∧ v.m = v.m ∧ (X16 v).e = 0) ∧ ((X10 v).lo = (X10 v).lo ∧ (X10 v).hi = (X10 v).hi) ∧ okE (X17 v)) ∧ ((z0 (X17 v)) = true → (X27 v).e = 0 ∧ (((X10 v).lo = (X10 v).lo ∧ (X10 v).hi = (X10 v).hi) ∧ ((X17 v).lo = (X17 v).lo ∧ (X17 v).hi = (X17 v).hi) ∧ (X13 v).lo = (X13 v).lo ∧ (X13 v).hi = (X13 v).hi) ∧ okE (X26 v) ∧ ((td32 v) = true → ((X10 v).lo = (X10 v).lo ∧ (X10 v).hi = (X10 v).hi) ∧ (X10 v).lo = (X10 v).lo ∧ (X10 v).hi = (X10 v).hi) ∧ ((z0 (X26 v)) = true → ((X10 v).lo = (X10 v).lo ∧ (X10 v).hi = (X10 v).hi) ∧ okE (X28 v) ∧ ((td34 v) = true → (X10 v).lo = (X10 v).lo ∧ (X10 v).hi = (X10 v).hi) ∧ ((z0 (X28 v)) = true → ((X10 v).lo = (X10 v).lo ∧ (X10 v).hi = (X10 v).hi) ∧ okE (X12 v) ∧ ((z0 (X12 v)) = true → okE (X29 v))))) ∧ ((td35 v) = true → (((X10 v).lo = (X10 v).lo ∧ (X10 v).hi = (X10 v).hi) ∧ (X13 v).lo = (X13 v).lo ∧ (X13 v).hi = (X13 v).hi) ∧ ((X10 v).lo = (X10 v).lo ∧ (X10 v).hi = (X10 v).hi) ∧ (X10 v).lo = (X10 v).lo ∧ (X10 v).hi = (X10 v).hi))) ∧ ((td37 v) = true → ((v.c = v.c ∧ v.k = v.k) ∧ v.x = v.x ∧ v.y = v.y) ∧ ((((X0 v).e = 0 ∧ (v.c = v.c ∧ (v.x = v.x ∧ v.y = v.y) ∧ v.l = v.l) ∧ (X1 v).e = 0 ∧ (v.c = v.c ∧ v.x = v.x ∧ v.y = v.y) ∧ (X2 v).e = 0 ∧ v.c = v.c ∧ (X3 v).e = 0) ∧ ((X4 v).e = 0 ∧ v.m = v.m ∧ (X6 v).e = 0) ∧ ((v.c = v.c ∧ v.k = v.k) ∧ (X3 v).lo = (X3 v).lo ∧ (X3 v).hi = (X3 v).hi) ∧ ((X5 v).e = 0 ∧ v.k = v.k ∧ (X7 v).e = 0) ∧ okE (X8 v)) ∧ ((z0 (X8 v)) = true → (X9 v).e = 0 ∧ decide ((X9 v).lo ≤ 0) = false ∧ (X10 v).e = 0 ∧ okE (X11 v) ∧ ((td12 v) = true → (((X10 v).lo = (X10 v).lo ∧ (X10 v).hi = (X10 v).hi) ∧ (X10 v).lo = (X10 v).lo ∧ (X10 v).hi = (X10 v).hi) ∧ ((X10 v).lo = (X10 v).lo ∧ (X10 v).hi = (X10 v).hi) ∧ ((X10 v).lo = (X10 v).lo ∧ (X10 v).hi = (X10 v).hi) ∧ (X10 v).lo = (X10 v).lo ∧ (X10 v).hi = (X10 v).hi) ∧ ((z0 (X11 v)) = true → (((X10 v).lo = (X10 v).lo ∧ (X10 v).hi = (X10 v).hi) ∧ (X10 v).lo = (X10 v).lo ∧ (X10 v).hi = (X10 v).hi) ∧ okE (X12 v) ∧ ((td16 v) = true → ((X10 v).lo = (X10 v).lo ∧ (X10 v).hi = (X10 v).hi) ∧ ((X10 v).lo = (X10 v).lo ∧ (X10 v).hi = (X10 v).hi) ∧ (X10 v).lo = (X10 v).lo ∧ (X10 v).hi = (X10 v).hi) ∧ ((z0 (X12 v)) = true → ((X10 v).lo = (X10 v).lo ∧ (X10 v).hi = (X10 v).hi) ∧ okE (X13 v) ∧ ((td20 v) = true → ((X10 v).lo = (X10 v).lo ∧ (X10 v).hi = (X10 v).hi) ∧ (X10 v).lo = (X10 v).lo ∧ (X10 v).hi = (X10 v).hi) ∧ ((z0 (X13 v)) = true → ((X10 v).lo = (X10 v).lo ∧ (X10 v).hi = (X10 v).hi) ∧ (X10 v).lo = (X10 v).lo ∧ (X10 v).hi = (X10 v).hi))))) ∧ ((td22 v) = true → (v.k = v.k ∧ (td23 v) = (td23 v) ∧ (td24 v) = (td24 v)) ∧ ((td23 v) = (td23 v) ∧ (td24 v) = (td24 v)) ∧ ((td23 v) = (td23 v) ∧ (td24 v) = (td24 v)) ∧ (td23 v) = (td23 v) ∧ (td24 v) = (td24 v)) ∧ ((td25 v) = true → (X18 v).e = 0 ∧ (((X19 v).e = 0 ∧ v.k = v.k ∧ (X20 v).e = 0) ∧ ((X10 v).lo = (X10 v).lo ∧ (X10 v).hi = (X10 v).hi) ∧ okE (X21 v)) ∧ ((z0 (X21 v)) = true → (X23 v).e = 0 ∧ (((X10 v).lo = (X10 v).lo ∧ (X10 v).hi = (X10 v).hi) ∧ ((X21 v).lo = (X21 v).lo ∧ (X21 v).hi = (X21 v).hi) ∧ (X13 v).lo = (X13 v).lo ∧ (X13 v).hi = (X13 v).hi) ∧ okE (X22 v) ∧ ((!(z0 (X22 v))) = true → ((X10 v).lo = (X10 v).lo ∧ (X10 v).hi = (X10 v).hi) ∧ (X10 v).lo = (X10 v).lo ∧ (X10 v).hi = (X10 v).hi) ∧ ((z0 (X22 v)) = true → ((X10 v).lo = (X10 v).lo ∧ (X10 v).hi = (X10 v).hi) ∧ okE (X24 v) ∧ ((!(z0 (X24 v))) = true → (X10 v).lo = (X10 v).lo ∧ (X10 v).hi = (X10 v).hi) ∧ ((z0 (X24 v)) = true → ((X10 v).lo = (X10 v).lo ∧ (X10 v).hi = (X10 v).hi) ∧ okE (X12 v) ∧ ((z0 (X12 v)) = true → okE (X25 v))))) ∧ ((!(z0 (X21 v))) = true → (((X10 v).lo = (X10 v).lo ∧ (X10 v).hi = (X10 v).hi) ∧ (X13 v).lo = (X13 v).lo ∧ (X13 v).hi = (X13 v).hi) ∧ ((X10 v).lo = (X10 v).lo ∧ (X10 v).hi = (X10 v).hi) ∧ (X10 v).lo = (X10 v).lo ∧ (X10 v).hi = (X10 v).hi))) ∧ (((td22 v) || (td25 v) && ((td43 v) || (td35 v))) = true → ((v.c = v.c ∧ v.k = v.k) ∧ v.x = v.x ∧ v.y = v.y) ∧ ((((td45 v) = (td45 v) ∧ ((td47 v) = (td47 v) ∧ (td49 v) = (td49 v)) ∧ (td51 v) = (td51 v)) ∧ ((td45 v) = (td45 v) ∧ (td47 v) = (td47 v) ∧ (td49 v) = (td49 v)) ∧ (td45 v) = (td45 v)) ∧ (td53 v) = (td53 v) ∧ ((td45 v) = (td45 v) ∧ (td55 v) = (td55 v)) ∧ (td55 v) = (td55 v)) ∧ v.k = v.k)) ∧ ((td56 v) = true → (X25 v).lo = (X25 v).lo ∧ (X25 v).hi = (X25 v).hi)))
end Go.Rd
namespace Go.Rd
open Go Go.Eng Go.Ar
theorem taF_ok {p : Prop} {c k a0 a1 a2 a3 f0 f1 o th : Int} {s : ByteArray} {se ho a b x y : Int} (hp : p) (h : vStd c k a0 a1 a2 a3 f0 f1 o th s se ho) (hx : okSp a b = true) (hy : okSp x y = true) : taF p ⟨c, k, a0, a1, a2, a3, a, b, x, y⟩ := by
  have hc := h.hc
  have hk := h.hk
  unfold taF
  simp only [ta1, ta3, ta5, ta7, ta8, ta12, ta14, ta17, ta18, ta21, ta25, ta27, ta28, ta29, ta31, ta36, ta50, ta55, ta56, ta57, ta58, ta59, ta60, S0, S1, S2, S3, S4, S5, S6, S7, S8, S9, S10, S11, S12, S13, S14, Q1, Q2, Q3, Q4, Q5, Q6, U0, U1, U2, U3, U4, CA0, CA1, CA2, CA3, CB0, CB1, CB2, CB3, FA, FB, AS, O, Bool.and_eq_true, and_imp, eq_self_iff_true, and_true, true_and, implies_true, and_self]
  exact ⟨⟨hp, hx, hy⟩, ⟨⟨⟨K0 hx, fun e0 => ⟨K1 hy, fun e2 => ⟨K2 hx hy e0 e2, fun e4 => K3 hc hx hy e0 e2 e4⟩⟩⟩,
    fun e0 e2 e4 e6 => ⟨K4 hc hx hy e0 e2 e4 e6, fun e11 => K5 hc hk hx hy e0 e2 e4 e6 e11⟩⟩,
    fun e0 e2 e4 e6 e11 e13 => ⟨K6 hc hk hx hy e0 e2 e4 e6 e11 e13, fun e15 e18 =>
      have g : H6 c k a b x y := ⟨e0, e2, e4, e6, e11, e13, e15⟩
      have p := dom_pos e18
      ⟨K7 hc hk hx hy g p, fun e19 => ⟨K8 hc hx hy g, fun e20 => ⟨K9 hc hk hx hy g e19, fun e24 => K10 hc hk hx hy g p e19 e20 e24⟩⟩⟩⟩⟩,
    fun e0 e2 e4 e6 e11 e13 e15 e18 e19 e20 e24 e26 _ =>
      have g : H6 c k a b x y := ⟨e0, e2, e4, e6, e11, e13, e15⟩
      ⟨⟨⟨K0 hx, fun e0 => ⟨K1 hy, fun e2 => ⟨K2 hx hy e0 e2, fun e4 => KU0 hx hy e0 e2 e4⟩⟩⟩,
        fun _ _ _ e30 => ⟨⟨KCA h.h0, fun _ => ⟨KCA h.h1, fun _ => ⟨KCA h.h2, fun _ => KCA h.h3⟩⟩⟩, fun f0 f1 f2 f3 =>
          have u : HU c k a0 a1 a2 a3 a b x y := ⟨⟨e0, e2, e4, e30⟩, f0, f1, f2, f3⟩
          ⟨⟨(RCA h.h0 f0).ok, (RCA h.h1 f1).ok, (RCA h.h2 f2).ok, (RCA h.h3 f3).ok, (u.r hx hy).ok⟩, KU1 hx hy h.h0 h.h1 h.h2 h.h3 u⟩⟩⟩,
        fun _ _ _ e30 f0 f1 f2 f3 v1 =>
          have u : HU c k a0 a1 a2 a3 a b x y := ⟨⟨e0, e2, e4, e30⟩, f0, f1, f2, f3⟩
          ⟨KU2 hx hy u, fun v2 => ⟨KU3 hx hy h.h0 h.h1 h.h2 h.h3 u v1 v2, fun v3 => KU4 hc hk hx hy h.h0 h.h1 h.h2 h.h3 g e19 e20 e24 e26 u v1 v2 v3⟩⟩⟩⟩
theorem tbF_ok {p : Prop} {c k l m th : Int} {s : ByteArray} {se ho a b x y : Int} (hp : p) (h : vBic c k l m th s se ho) (hx : okSp a b = true) (hy : okSp x y = true) : tbF p ⟨c, k, l, m, a, b, x, y⟩ := by
  have hc := h.hc
  have hk := h.hk
  have hl := h.hl
  have hm := h.hm
  unfold tbF
  simp only [tb1, tb3, tb5, tb7, tb11, tb15, tb17, tb18, tb21, tb22, X0, X1, X2, X3, X4, X5, X6, X7, X8, X9, X10, X11, X12, X13, X14, X15, X16, X17, X18, X19, X20, X21, X22, X23, X24, X25, X26, X27, X28, X29, O, Bool.and_eq_true, and_imp, eq_self_iff_true, and_true, true_and, implies_true, and_self]
  exact ⟨⟨hp, hx, hy⟩, ⟨⟨BK0 hc hk hl hm hx hy , fun e0 => ⟨BK1 hc hk hl hm hx hy e0, fun e1 => ⟨BK2 hc hk hl hm hx hy , fun e2 => BK3 hc hk hl hm hx hy e2⟩⟩⟩,
    fun e0 e1 e2 e3 => ⟨⟨BK4 hc hk hl hm hx hy e0 e1, fun e4 => BK6 hc hk hl hm hx hy e0 e1 e4⟩, fun e4 e6 => ⟨⟨BK5 hc hk hl hm hx hy e2 e3, fun e5 => BK7 hc hk hl hm hx hy e2 e3 e5⟩, fun e5 e7 => BK8 hc hk hl hm hx hy e0 e1 e2 e3 e4 e5 e6 e7⟩⟩⟩,
    fun e0 e1 e2 e3 e4 e6 e5 e7 e8 => ⟨BK9 hc hk hl hm hx hy e0 e1 e2 e3 e4 e5 e6 e7 e8, fun e9 d =>
      have p := dom_pos d
      ⟨BK10 hc hk hl hm hx hy e0 e1 e2 e3 e4 e5 e6 e7 e8 e9 p, fun e10 => ⟨BK11 hc hk hl hm hx hy e0 e1 e2 e3, fun e11 => ⟨BK12 hc hk hl hm hx hy e0 e1 e2 e3 e4 e5 e6 e7 e8 e9 e10, fun e12 => BK13 hc hk hl hm hx hy e0 e1 e2 e3 e4 e5 e6 e7 e8 e9 e10 e11 e12 (BP12 hc hk hl hm hx hy e0 e1 e2 e3 e4 e5 e6 e7 e8 e9 e10 e12 p)⟩⟩⟩⟩⟩
set_option maxHeartbeats 4000000 in
theorem teF_ok {p : Prop} {c k a0 a1 a2 a3 f0 f1 o th : Int} {s : ByteArray} {se ho a b x y : Int} (hp : p) (h : vStd c k a0 a1 a2 a3 f0 f1 o th s se ho) (hx : okSp a b = true) (hy : okSp x y = true) (has : asp a0 a1 a2 a3 = false) : teF p ⟨c, k, a0, a1, a2, a3, a, b, x, y⟩ := by
  have hc := h.hc
  have hk := h.hk
  unfold teF
  refine ⟨⟨hp, hx, hy⟩, fun g => ?_⟩
  have g : (sagS c k a0 a1 a2 a3 a b x y).e = 0 := t1_0 g
  have f := sag_base g
  simp only [te1, te2, te4, te9, te13, te15, te16, te18, te19, te20, te21, te22, te23, te24, te26, te27, te28, te29, te30, te31, S0, S1, S2, S3, S4, S5, S6, S7, S8, S9, S10, S11, S12, S13, S14, Q1, Q2, Q3, Q4, Q5, Q6, U0, U1, U2, U3, U4, CA0, CA1, CA2, CA3, CB0, CB1, CB2, CB3, FA, FB, AS, O, Bool.and_eq_true, and_imp, eq_self_iff_true, and_true, true_and, implies_true, and_self]
  have E0 : (s0 c k a b x y).e = 0 := z0e f.h.1
  have Z0 : z0 (s0 c k a b x y) = true := f.h.1
  have E1 : (s1 c k a b x y).e = 0 := z0e f.h.2.1
  have Z1 : z0 (s1 c k a b x y) = true := f.h.2.1
  have E2 : (s2 c k a b x y).e = 0 := z0e f.h.2.2.1
  have Z2 : z0 (s2 c k a b x y) = true := f.h.2.2.1
  have E3 : (s3 c k a b x y).e = 0 := z0e f.h.2.2.2.1
  have Z3 : z0 (s3 c k a b x y) = true := f.h.2.2.2.1
  have E4 : (s4 c k a b x y).e = 0 := z0e f.h.2.2.2.2.1
  have Z4 : z0 (s4 c k a b x y) = true := f.h.2.2.2.2.1
  have E5 : (s5 c k a b x y).e = 0 := z0e f.h.2.2.2.2.2.1
  have Z5 : z0 (s5 c k a b x y) = true := f.h.2.2.2.2.2.1
  have E6 : (s6 c k a b x y).e = 0 := z0e f.h.2.2.2.2.2.2
  have Z6 : z0 (s6 c k a b x y) = true := f.h.2.2.2.2.2.2
  have E7 : (s7 c k a b x y).e = 0 := z0e f.h7
  have Z7 : z0 (s7 c k a b x y) = true := f.h7
  have E8 : (s8 c k a b x y).e = 0 := z0e f.h8
  have Z8 : z0 (s8 c k a b x y) = true := f.h8
  have E9 : (s9 c k a b x y).e = 0 := z0e f.h9
  have Z9 : z0 (s9 c k a b x y) = true := f.h9
  have E10 : (s10 c k a b x y).e = 0 := z0e f.h10
  have Z10 : z0 (s10 c k a b x y) = true := f.h10
  have O2 : okE (s2 c k a b x y) := .inl E2
  have O8 : okE (s8 c k a b x y) := .inl E8
  have O9 : okE (s9 c k a b x y) := .inl E9
  have O10 : okE (s10 c k a b x y) := .inl E10
  have D : decide ((s6 c k a b x y).lo ≤ 0) = false := decide_eq_false (by have := f.p; omega)
  have E13 : (s13 c k a b x y).e = 0 := (cur_0 hx hc).1
  have E11 : (s11 c k a b x y).e = 0 := (cur_0 hy hc).1
  have O14 := F14 hc hk hx hy f
  have O12 := F12 hc hk hx hy f
  have has0 : (!(a0 == 0 && (a1 == 0 && (a2 == 0 && (a3 == 0 && true))))) = false := has
  simp +contextual only [E0, Z0, E1, Z1, E2, Z2, E3, Z3, E4, Z4, E5, Z5, E6, Z6, E7, Z7, E8, Z8, E9, Z9, E10, Z10, O2, O8, O9, O10, D, E13, E11, O14, O12, has0, and_true, true_and, implies_true, and_self, true_implies, Bool.not_true, Bool.not_false, Bool.false_or, Bool.or_false, Bool.true_and, Bool.false_and, Bool.false_eq_true, false_implies, eq_self_iff_true, cond_true, cond_false, Bool.cond_self]
set_option maxHeartbeats 4000000 in
theorem tcF_ok {p : Prop} {c k a0 a1 a2 a3 f0 f1 o th : Int} {s : ByteArray} {se ho a b x y : Int} (hp : p) (h : vStd c k a0 a1 a2 a3 f0 f1 o th s se ho) (hx : okSp a b = true) (hy : okSp x y = true) (has : asp a0 a1 a2 a3 = true) : tcF p ⟨c, k, a0, a1, a2, a3, a, b, x, y⟩ := by
  have hc := h.hc
  have hk := h.hk
  unfold tcF
  refine ⟨⟨hp, hx, hy⟩, fun g => ?_⟩
  have g : (sagS c k a0 a1 a2 a3 a b x y).e = 0 := t1_0 g
  have f := sag_base g
  simp only [tc1, tc2, tc4, tc9, tc13, tc15, tc16, tc31, tc32, tc33, tc34, tc37, tc39, tc43, tc44, tc45, tc46, tc47, tc48, tc49, tc50, tc51, tc53, tc58, tc59, tc60, tc61, tc62, tc63, tc64, S0, S1, S2, S3, S4, S5, S6, S7, S8, S9, S10, S11, S12, S13, S14, Q1, Q2, Q3, Q4, Q5, Q6, U0, U1, U2, U3, U4, CA0, CA1, CA2, CA3, CB0, CB1, CB2, CB3, FA, FB, AS, O, Bool.and_eq_true, and_imp, eq_self_iff_true, and_true, true_and, implies_true, and_self]
  have E0 : (s0 c k a b x y).e = 0 := z0e f.h.1
  have Z0 : z0 (s0 c k a b x y) = true := f.h.1
  have E1 : (s1 c k a b x y).e = 0 := z0e f.h.2.1
  have Z1 : z0 (s1 c k a b x y) = true := f.h.2.1
  have E2 : (s2 c k a b x y).e = 0 := z0e f.h.2.2.1
  have Z2 : z0 (s2 c k a b x y) = true := f.h.2.2.1
  have E3 : (s3 c k a b x y).e = 0 := z0e f.h.2.2.2.1
  have Z3 : z0 (s3 c k a b x y) = true := f.h.2.2.2.1
  have E4 : (s4 c k a b x y).e = 0 := z0e f.h.2.2.2.2.1
  have Z4 : z0 (s4 c k a b x y) = true := f.h.2.2.2.2.1
  have E5 : (s5 c k a b x y).e = 0 := z0e f.h.2.2.2.2.2.1
  have Z5 : z0 (s5 c k a b x y) = true := f.h.2.2.2.2.2.1
  have E6 : (s6 c k a b x y).e = 0 := z0e f.h.2.2.2.2.2.2
  have Z6 : z0 (s6 c k a b x y) = true := f.h.2.2.2.2.2.2
  have E7 : (s7 c k a b x y).e = 0 := z0e f.h7
  have Z7 : z0 (s7 c k a b x y) = true := f.h7
  have E8 : (s8 c k a b x y).e = 0 := z0e f.h8
  have Z8 : z0 (s8 c k a b x y) = true := f.h8
  have E9 : (s9 c k a b x y).e = 0 := z0e f.h9
  have Z9 : z0 (s9 c k a b x y) = true := f.h9
  have E10 : (s10 c k a b x y).e = 0 := z0e f.h10
  have Z10 : z0 (s10 c k a b x y) = true := f.h10
  have O2 : okE (s2 c k a b x y) := .inl E2
  have O8 : okE (s8 c k a b x y) := .inl E8
  have O9 : okE (s9 c k a b x y) := .inl E9
  have O10 : okE (s10 c k a b x y) := .inl E10
  have D : decide ((s6 c k a b x y).lo ≤ 0) = false := decide_eq_false (by have := f.p; omega)
  have E13 : (s13 c k a b x y).e = 0 := (cur_0 hx hc).1
  have E11 : (s11 c k a b x y).e = 0 := (cur_0 hy hc).1
  have O14 := F14 hc hk hx hy f
  have O12 := F12 hc hk hx hy f
  have has0 : (!(a0 == 0 && (a1 == 0 && (a2 == 0 && (a3 == 0 && true))))) = true := has
  have u := sag_even g has
  have UE : (u0 c k a b x y).e = 0 := z0e u
  have CE0 : (cb a0 2).e = 0 := (cb_0 h.h0 (by decide)).1
  have CR0 : okSp (cb a0 2).lo (cb a0 2).hi = true := (cb_0 h.h0 (by decide)).2.ok
  have CE1 : (cb a1 3).e = 0 := (cb_0 h.h1 (by decide)).1
  have CR1 : okSp (cb a1 3).lo (cb a1 3).hi = true := (cb_0 h.h1 (by decide)).2.ok
  have CE2 : (cb a2 4).e = 0 := (cb_0 h.h2 (by decide)).1
  have CR2 : okSp (cb a2 4).lo (cb a2 4).hi = true := (cb_0 h.h2 (by decide)).2.ok
  have CE3 : (cb a3 5).e = 0 := (cb_0 h.h3 (by decide)).1
  have CR3 : okSp (cb a3 5).lo (cb a3 5).hi = true := (cb_0 h.h3 (by decide)).2.ok
  have UR : okSp (u0 c k a b x y).lo (u0 c k a b x y).hi = true := (FU hx hy f u).ok
  have FA0 : (fif a b).e = 0 := (fif_0 hx).1
  have FB0 : (fif x y).e = 0 := (fif_0 hy).1
  have LFQ1 := FQ1 hc hk hx hy f h.h0 h.h1 h.h2 h.h3 u
  have LFQ2 := FQ2 hc hk hx hy f h.h0 h.h1 h.h2 h.h3 u
  have LFQ3 := FQ3 hc hk hx hy f h.h0 h.h1 h.h2 h.h3 u
  have LFQ4 := FQ4 hc hk hx hy f h.h0 h.h1 h.h2 h.h3 u
  have LFQ5 := FQ5 hc hk hx hy f h.h0 h.h1 h.h2 h.h3 u
  have LFQ6 := FQ6 hc hk hx hy f h.h0 h.h1 h.h2 h.h3 u
  simp +contextual only [E0, Z0, E1, Z1, E2, Z2, E3, Z3, E4, Z4, E5, Z5, E6, Z6, E7, Z7, E8, Z8, E9, Z9, E10, Z10, O2, O8, O9, O10, D, E13, E11, O14, O12, has0, UE, CE0, CR0, CE1, CR1, CE2, CR2, CE3, CR3, UR, FA0, FB0, LFQ1, LFQ2, LFQ3, LFQ4, LFQ5, LFQ6, and_true, true_and, implies_true, and_self, true_implies, Bool.not_true, Bool.not_false, Bool.false_or, Bool.or_false, Bool.true_and, Bool.false_and, Bool.false_eq_true, false_implies, eq_self_iff_true, cond_true, cond_false, Bool.cond_self]
set_option maxHeartbeats 4000000 in
theorem tdF_ok {p : Prop} {c k l m th : Int} {s : ByteArray} {se ho a b x y : Int} (hp : p) (h : vBic c k l m th s se ho) (hx : okSp a b = true) (hy : okSp x y = true) : tdF p ⟨c, k, l, m, a, b, x, y⟩ := by
  have hc := h.hc
  have hk := h.hk
  have hl := h.hl
  have hm := h.hm
  unfold tdF
  refine ⟨⟨hp, hx, hy⟩, fun g => ?_⟩
  have g : (sagX c k l m a b x y).e = 0 := t1_0 g
  have f := sagX_base g
  simp only [td1, td2, td12, td16, td20, td21, td22, td23, td24, td25, td32, td34, td35, td37, td43, td44, td45, td46, td47, td48, td49, td50, td51, td52, td53, td54, td55, td56, X0, X1, X2, X3, X4, X5, X6, X7, X8, X9, X10, X11, X12, X13, X14, X15, X16, X17, X18, X19, X20, X21, X22, X23, X24, X25, X26, X27, X28, X29, O, Bool.and_eq_true, and_imp, eq_self_iff_true, and_true, true_and, implies_true, and_self]
  have E0 : (b0 c k l m a b x y).e = 0 := z0e f.e0
  have Z0 : z0 (b0 c k l m a b x y) = true := f.e0
  have E1 : (b1 c k l m a b x y).e = 0 := z0e f.e1
  have Z1 : z0 (b1 c k l m a b x y) = true := f.e1
  have E2 : (b2 c k l m a b x y).e = 0 := z0e f.e2
  have Z2 : z0 (b2 c k l m a b x y) = true := f.e2
  have E3 : (b3 c k l m a b x y).e = 0 := z0e f.e3
  have Z3 : z0 (b3 c k l m a b x y) = true := f.e3
  have E4 : (b4 c k l m a b x y).e = 0 := z0e f.e4
  have Z4 : z0 (b4 c k l m a b x y) = true := f.e4
  have E5 : (b5 c k l m a b x y).e = 0 := z0e f.e5
  have Z5 : z0 (b5 c k l m a b x y) = true := f.e5
  have E6 : (b6 c k l m a b x y).e = 0 := z0e f.e6
  have Z6 : z0 (b6 c k l m a b x y) = true := f.e6
  have E7 : (b7 c k l m a b x y).e = 0 := z0e f.e7
  have Z7 : z0 (b7 c k l m a b x y) = true := f.e7
  have E8 : (b8 c k l m a b x y).e = 0 := z0e f.e8
  have Z8 : z0 (b8 c k l m a b x y) = true := f.e8
  have E9 : (b9 c k l m a b x y).e = 0 := z0e f.e9
  have Z9 : z0 (b9 c k l m a b x y) = true := f.e9
  have E10 : (b10 c k l m a b x y).e = 0 := z0e f.e10
  have Z10 : z0 (b10 c k l m a b x y) = true := f.e10
  have E11 : (b11 c k l m a b x y).e = 0 := z0e f.e11
  have Z11 : z0 (b11 c k l m a b x y) = true := f.e11
  have E12 : (b12 c k l m a b x y).e = 0 := z0e f.e12
  have Z12 : z0 (b12 c k l m a b x y) = true := f.e12
  have E13 : (b13 c k l m a b x y).e = 0 := z0e f.e13
  have Z13 : z0 (b13 c k l m a b x y) = true := f.e13
  have O8 : okE (b8 c k l m a b x y) := .inl E8
  have O11 : okE (b11 c k l m a b x y) := .inl E11
  have O12 : okE (b12 c k l m a b x y) := .inl E12
  have O13 : okE (b13 c k l m a b x y) := .inl E13
  have D : decide ((b9 c k l m a b x y).lo ≤ 0) = false := decide_eq_false (by have := f.p; omega)
  have E14 := (X14_b hc hk hl hm hx hy f).e
  have E15 := (X15_b hc hk hl hm hx hy f).e
  have E16 := (X16_b hc hk hl hm hx hy f).e
  have E27 := (X27_b hc hk hl hm hx hy f).e
  have E18 := (X18_b hc hk hl hm hx hy f).e
  have E19 := (X19_b hc hk hl hm hx hy f).e
  have E20 := (X20_b hc hk hl hm hx hy f).e
  have E23 := (X23_b hc hk hl hm hx hy f).e
  have L17 := X17_b hc hk hl hm hx hy f
  have L26 := X26_b hc hk hl hm hx hy f
  have L28 := X28_b hc hk hl hm hx hy f
  have L29 := X29_b hc hk hl hm hx hy f
  have L21 := X21_b hc hk hl hm hx hy f
  have L22 := X22_b hc hk hl hm hx hy f
  have L24 := X24_b hc hk hl hm hx hy f
  have L25 := X25_b hc hk hl hm hx hy f
  simp +contextual only [E0, Z0, E1, Z1, E2, Z2, E3, Z3, E4, Z4, E5, Z5, E6, Z6, E7, Z7, E8, Z8, E9, Z9, E10, Z10, E11, Z11, E12, Z12, E13, Z13, O8, O11, O12, O13, D, E14, E15, E16, E27, E18, E19, E20, E23, L17, L26, L28, L29, L21, L22, L24, L25, and_true, true_and, implies_true, and_self, true_implies, Bool.not_true, Bool.not_false, Bool.false_or, Bool.or_false, Bool.true_and, Bool.false_and, Bool.false_eq_true, false_implies, eq_self_iff_true, cond_true, cond_false, Bool.cond_self]
end Go.Rd
