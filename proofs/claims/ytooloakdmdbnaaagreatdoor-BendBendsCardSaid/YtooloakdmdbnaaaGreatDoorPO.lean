/- What is proved: BendBends returns true, whatever the input (part 15 of 18). No conditions beyond those of the row. -/
import Derived.Test.YtooloakdmdbnaaaGreatDoorPF
import Derived.Test.YtooloakdmdbnaaaGreatDoorPH
import Derived.Test.YtooloakdmdbnaaaGreatDoorPI
import Derived.Test.YtooloakdmdbnaaaGreatDoorPN
set_option linter.unusedVariables false
set_option linter.unusedSimpArgs false
set_option linter.unusedSectionVars false
namespace Go.Proofs.YtooloakdmdbnaaaGreatDoor.K
open Go Go.Eng Go.Ar Go.Rd Go.Vc
noncomputable section
abbrev suP2 : List Pa := [.s suI .i64, .n sS, .n sS]
def slNF (F : NF) (s : Su) (ys : List Int) (a b x y : Int) : AV := .tuple [.agg [.int true .i64 (F.sl s ys a b x y 0), .int true .i64 (F.sl s ys a b x y 1)], .agg [.int true .i64 (F.sl s ys a b x y 2), .int true .i64 (F.sl s ys a b x y 3)], .int true .i64 (F.sl s ys a b x y 4)]
def vcNF (F : NF) : PSpec := numSpec [shV] none fun
 | [.n a, .n b, .n c, .n d, .n e, .n f] => .n .i64 (F.vc ⟨a, b, c, d, e, f⟩)
 | _ => .u []
def tblNoP (F : NF) : List (FuncId × NSpec) := [(14, lSpec hG [.s suI .i64] (suV fun s ys => .int true .i64 (F.ck s ys))), (48, lSpec hG suP2 (suV2 (slNF F))), (15, hN (gH (vcNF F))), (51, hN (gH (sUnit F.uV F.uO))), (97, hN (gH (sUn F.ng)))]
def cNoP (F : NF) : Ctx := mkN Tryz.prog glob hG (tblNoP F) [] ext
def rNo (C : Ctx) (f : FuncId) (cs : List AV) (n : Int) (ys : List Int) (v : Ve) : Option (Nd × AV) := oneG (viewsH true hG [(.i64, ys)]).size hG.clock ((run C 3000).call f [.agg (cs ++ [.lslice hG.size n]), .agg v.cells] (viewsH true hG [(.i64, ys)]))
theorem norm_run (F : NF) (s : Su) (n : Int) (ys : List Int) (v : Ve) : rNo (cNoP F) 8 s.ini n ys v = some (.p (pNd F s n ys v), .tuple [.agg (pV F s ys v).cells, .int true .i64 (pC F s ys v), .int true .i64 (pE F s ys v)]) := by kernel_rfl
def slpF (s : Su) (ys : List Int) (a b x y : Int) : Nat -> Int
 | 0 => tw1 (sagG s ys a b x y).e (slpC s a b x y) (slpU s a b x y).lo
 | 1 => tw1 (sagG s ys a b x y).e (slpC s a b x y) (slpU s a b x y).hi
 | 2 => tw1 (sagG s ys a b x y).e (slpC s a b x y) (slpZ s a b x y).lo
 | 3 => tw1 (sagG s ys a b x y).e (slpC s a b x y) (slpZ s a b x y).hi
 | _ => twE (sagG s ys a b x y).e (slpC s a b x y)
def nf0 : NF := ⟨fun s ys => bif rightS s ys then 0 else 110, rightS, vC0 vf0, slpF, Vc.uV vf0, Vc.uO vf0, negS, chkS⟩
theorem vchk_ok : PureOk Tryz.prog 15 (vcNF nf0) := by
 refine num_ok (fun xs hk _ => ?_) ⟨_, Tryz.func15, rfl⟩
 obtain ⟨a, _, rfl, h1⟩ := kn hk; obtain ⟨b, _, rfl, h2⟩ := kn h1; obtain ⟨c, _, rfl, h3⟩ := kn h2; obtain ⟨d, _, rfl, h4⟩ := kn h3; obtain ⟨e, _, rfl, h5⟩ := kn h4; obtain ⟨f, _, rfl, h6⟩ := kn h5; obtain rfl := k0 h6
 exact ⟨cVeP vf0, 3000, _, cVeP_ok, rfl, fun _ => rfl, rfl, vchk_run vf0 ⟨a, b, c, d, e, f⟩, fun _ => ⟨⟨rfl, rfl⟩, ⟨rfl, rfl⟩, rfl, rfl⟩⟩
theorem slNF_0 : slNF nf0 = slpG := by kernel_rfl
theorem tblNoP_g : ∀ x ∈ tblNoP nf0, NOk Tryz.prog glob hG x.1 x.2 := by
 intro x hx
 simp only [tblNoP, slNF_0, List.mem_cons, List.not_mem_nil, or_false] at hx
 rcases hx with rfl | rfl | rfl | rfl | rfl
 .exact chkA_ok
 .exact slpG_ok
 .exact ((vchk_ok.g _ _).h).n
 .exact ((vunit_ok.g _ _).h).n
 .exact ((sneg_ok.g _ _).h).n
theorem cNoP_ok : CtxOk (cNoP nf0) := mkN_ok prog_ok ext_ok tblNoP_g fun _ h => by cases h
abbrev noPa : List Pa := [.s suI .i64, .n shV]
def normV (F : NF) : Nat -> List Itm -> Option (Prop × AV × List ABody) := fun _ its => match its with
 | [.s xs n ys, .n [.n a, .n b, .n c, .n d, .n e, .n f]] => match suOf xs with
  | some s => some (okF3 n ys /\ s.g.size < 1000000000, .tuple [.agg (pV F s ys ⟨a, b, c, d, e, f⟩).cells, .int true .i64 (pC F s ys ⟨a, b, c, d, e, f⟩), .int true .i64 (pE F s ys ⟨a, b, c, d, e, f⟩)], [])
  | none => none
 | _ => none
theorem okF3_emp {n : Int} {ys : List Int} (h : okF3 n ys) : ys = [] -> n = 0 := by
 intro he
 have := h.2.2
 rw [he] at this
 have := h.1
 simp only [List.length_nil] at *
 omega
theorem tell_ini (s : Su) : tellL s.ini s.ini := by
 repeat' first
  | exact trivial
  | refine ⟨⟨rfl, rfl⟩, ?_⟩
  | refine ⟨rfl, ?_⟩
theorem norm_gen {C : Ctx} {f : FuncId} (co : CtxOk C) (hP : C.P = Tryz.prog) (hGl : C.glob = glob) (fn : ∃ fn : Func, Tryz.prog.funcs[f]? = some fn /\ fn.body.isSome = true)
  (hr : ∀ (s : Su) (n : Int) (ys : List Int) (v : Ve), okF3 n ys /\ s.g.size < 1000000000 -> ∃ nd, nd.val /\ rNo C f s.ini n ys v = some (nd, .tuple [.agg (pV nf0 s ys v).cells, .int true .i64 (pC nf0 s ys v), .int true .i64 (pE nf0 s ys v)])) : NOk Tryz.prog glob hG f (lSpec hG noPa (normV nf0)) := by
 refine lsp_okM hG_ok hG_plain glob_lt (fun sz its p v bs e hp => ?_) fn
 unfold normV at e
 split at e
 .rename_i xs n ys a b c d e' f'
  split at e
  .rename_i s hs
   cases e
   obtain rfl := suOf_eq hs
   refine ⟨⟨okF3_emp hp.1, trivial⟩, rfl, true, ?_⟩
   obtain ⟨nd, hnd, r⟩ := hr s n ys ⟨a, b, c, d, e', f'⟩ hp
   unfold rNo at r
   obtain ⟨q, a1, a2, a3, a4⟩ := oneG_tells r rfl
   refine ⟨C, 3000, [.agg (s.ini ++ [.lslice hG.size n]), .agg (Ve.cells ⟨a, b, c, d, e', f'⟩)], nd, _, q, co, hP, hGl, ?_, a1, a2, hnd, a3, a4 sz _ ?_⟩
   .exact ⟨tellL_app (tell_ini s) ⟨rfl, trivial⟩, ⟨⟨rfl, rfl⟩, ⟨rfl, rfl⟩, ⟨rfl, rfl⟩, ⟨rfl, rfl⟩, ⟨rfl, rfl⟩, ⟨rfl, rfl⟩, trivial⟩, trivial⟩
   .exact ⟨⟨⟨rfl, rfl⟩, ⟨rfl, rfl⟩, ⟨rfl, rfl⟩, ⟨rfl, rfl⟩, ⟨rfl, rfl⟩, ⟨rfl, rfl⟩, trivial⟩, ⟨rfl, rfl⟩, ⟨rfl, rfl⟩, trivial⟩
  .cases e
 .cases e
theorem norm_ok : NOk Tryz.prog glob hG 8 (lSpec hG noPa (normV nf0)) :=
 norm_gen cNoP_ok rfl rfl ⟨_, Tryz.func8, rfl⟩ fun s n ys v h => ⟨_, pNd_t h, norm_run nf0 s n ys v⟩
end
end Go.Proofs.YtooloakdmdbnaaaGreatDoor.K
namespace Go.Vc
open Go Go.Eng Go.Ar Go.Rd
structure BF where
 vc : Ve -> Int
 sk : Int -> Int -> Int
 sl : Su -> List Int -> Int -> Int -> Int -> Int -> Nat -> Int
 uV : Ve -> Ve
 uO : Ve -> Int
 ng : Int -> Int -> Sp
 ad : Int -> Int -> Int -> Int -> Sp
 su : Int -> Int -> Int -> Int -> Sp
 mu : Int -> Int -> Int -> Int -> Sp
 di : Int -> Int -> Int -> Int -> Sp
 sc : Int -> Int -> Int -> Int -> Sp
 sq : Int -> Int -> Sp
 rt : Int -> Int -> Sp
 dt : Ve -> Ve -> Sp
 bV : Ve -> Ve -> Ve
 bO : Ve -> Ve -> Int
 aV : Ve -> Ve -> Ve
 aO : Ve -> Ve -> Int
 mV : Ve -> Int -> Int -> Ve
 mO : Ve -> Int -> Int -> Int
 nV : Ve -> Ve
 nO : Ve -> Int
end Go.Vc
namespace Go.Vc
open Go Go.Eng Go.Ar Go.Rd
structure BX where
 F : BF
 S : Su
 ys : List Int
 a : Int
 b : Int
 l : Int
 v : Ve
 w : Ve
namespace BX
variable (X : BX)
def sl (i : Nat) : Int := X.F.sl X.S X.ys X.v.a X.v.b X.v.c X.v.d i
def n1 : Sp := X.F.ng (X.sl 0) (X.sl 1)
def n2 : Sp := X.F.ng (X.sl 2) (X.sl 3)
def nw : Ve := ⟨X.n1.lo, X.n1.hi, X.n2.lo, X.n2.hi, 4294967296, 4294967296⟩
def u : Ve := X.F.uV X.nw
def uo : Int := X.F.uO X.nw
def k : Sp := X.F.dt X.w X.u
def und : Bool := bif decide (X.k.lo <= 0) then decide (X.k.hi >= 0) else false
def mir : Bool := eqBytes X.S.g ⟨#[77, 73, 82, 82, 79, 82]⟩
def s1 : Sp := X.F.sc X.w.a X.w.b X.a X.b
def s2 : Sp := X.F.sc X.w.c X.w.d X.a X.b
def s3 : Sp := X.F.sc X.w.e X.w.f X.a X.b
def o0 : Bool := X.S.o == 0
def q1 : Sp := X.F.sq X.v.a X.v.b
def q2 : Sp := X.F.sq X.v.c X.v.d
def q3 : Sp := X.F.ad X.q1.lo X.q1.hi X.q2.lo X.q2.hi
def w1 : Sp := X.F.sc 4294967296 4294967296 (IntKind.i64.wrap (2 * X.S.f0)) 100000
def w2 : Sp := X.F.sc X.q3.lo X.q3.hi (IntKind.i64.wrap (4 * X.S.f1)) 10000000
def w3 : Sp := X.F.ad X.w1.lo X.w1.hi X.w2.lo X.w2.hi
def w4 : Sp := X.F.sc X.w3.lo X.w3.hi (IntKind.i64.wrap (X.S.o * X.l)) 1000000000
def w5 : Sp := X.F.sc X.w4.lo X.w4.hi 10000000 X.b
def t : Ve := ⟨bif !X.mir then X.s1.lo else X.w.a, bif !X.mir then X.s1.hi else X.w.b, bif !X.mir then X.s2.lo else X.w.c, bif !X.mir then X.s2.hi else X.w.d, bif !X.mir then X.s3.lo else X.w.e, bif !X.mir then X.s3.hi else X.w.f⟩
def m1 : Sp := X.F.mu X.v.a X.v.b X.w5.lo X.w5.hi
def m2 : Sp := X.F.ad X.t.a X.t.b X.m1.lo X.m1.hi
def m3 : Sp := X.F.mu X.v.c X.v.d X.w5.lo X.w5.hi
def m4 : Sp := X.F.ad X.t.c X.t.d X.m3.lo X.m3.hi
def av : Ve := ⟨bif X.o0 then X.t.a else X.m2.lo, bif X.o0 then X.t.b else X.m2.hi, bif X.o0 then X.t.c else X.m4.lo, bif X.o0 then X.t.d else X.m4.hi, bif X.o0 then X.t.e else X.t.e, bif X.o0 then X.t.f else X.t.f⟩
def d1 : Sp := X.F.dt X.av X.u
def mo1 : Int := X.F.mO X.u X.d1.lo X.d1.hi
def mv1 : Ve := X.F.mV X.u X.d1.lo X.d1.hi
def bo : Int := X.F.bO X.av X.mv1
def bv : Ve := X.F.bV X.av X.mv1
def d2 : Sp := X.F.dt X.bv X.bv
def h : Sp := X.F.su 4294967296 4294967296 X.d2.lo X.d2.hi
def tot : Bool := decide (X.h.hi < 0)
def neg : Bool := decide (X.h.lo < 0)
def r : Sp := X.F.rt X.h.lo X.h.hi
def fl : Bool := !(decide (X.k.hi < 0) == X.mir)
def r2 : Sp := X.F.ng X.r.lo X.r.hi
def rl : Int := bif X.fl then X.r2.lo else X.r.lo
def rh : Int := bif X.fl then X.r2.hi else X.r.hi
def mo2 : Int := X.F.mO X.u X.rl X.rh
def mv2 : Ve := X.F.mV X.u X.rl X.rh
def ao : Int := X.F.aO X.bv X.mv2
def out : Ve := X.F.aV X.bv X.mv2
end BX
structure Eb where
 z : Bool
 s : Bool
def eb (e : Int) : Eb := ⟨e == 0, e == 6⟩
structure BT where
 a1 : Eb
 a2 : Eb
 a3 : Eb
 a4 : Eb
 a5 : Eb
 u : Bool
 m : Bool
 b1 : Eb
 b2 : Eb
 b3 : Eb
 o : Bool
 c1 : Eb
 c2 : Eb
 c3 : Eb
 c4 : Eb
 c5 : Eb
 c6 : Eb
 c7 : Eb
 c8 : Eb
 c9 : Eb
 d1 : Eb
 d2 : Eb
 d3 : Eb
 e1 : Eb
 e2 : Eb
 e3 : Eb
 e4 : Eb
 e5 : Eb
 t : Bool
 n : Bool
 f1 : Eb
 fl : Bool
 f2 : Eb
 f3 : Eb
 f4 : Eb
def BX.bt (X : BX) : BT := ⟨eb (X.sl 4), eb X.n1.e, eb X.n2.e, eb X.uo, eb X.k.e, X.und, X.mir, eb X.s1.e, eb X.s2.e, eb X.s3.e, X.o0, eb X.q1.e, eb X.q2.e, eb X.q3.e, eb X.w1.e, eb X.w2.e, eb X.w3.e, eb X.w4.e, eb X.w5.e, eb X.m1.e, eb X.m2.e, eb X.m3.e, eb X.m4.e,
 eb X.d1.e, eb X.mo1, eb X.bo, eb X.d2.e, eb X.h.e, X.tot, X.neg, eb X.r.e, X.fl, eb X.r2.e, eb X.mo2, eb X.ao⟩
namespace BT
variable (B : BT)
def p11 : Bool := B.a1.z && (B.a2.z && (B.a3.z && B.a4.z))
def p22 : Bool := bif !B.m then B.b1.z && (B.b2.z && B.b3.z) else true
def p28 : Bool := B.c1.z && (B.c2.z && B.c3.z)
def p36 : Bool := B.c4.z && (B.c5.z && B.c6.z)
def p40 : Bool := B.c7.z && B.c8.z
def p47 : Bool := B.c9.z && B.d1.z
def p52 : Bool := B.p22 && (B.o || !B.o && (B.p28 && (B.p36 && (B.p40 && (B.p47 && (B.d2.z && B.d3.z))))))
def p72 : Bool := B.e1.z && (B.e2.z && B.e3.z)
def p81 : Bool := B.e4.z && B.e5.z
def p93 : Bool := bif B.fl then B.f2.z else true
def g (z : Eb -> Bool) (u n : Bool) : Bool :=
 B.a1.z && (B.a2.z && (B.a3.z && (!B.a4.z && z B.a4) || !B.a3.z && z B.a3) || !B.a2.z && z B.a2) || !B.a1.z && z B.a1 || B.p11 && (!B.a5.z && z B.a5 || B.a5.z && (u || !B.u && (B.p52 && (B.e1.z && (!B.e2.z && z B.e2 || B.e2.z && (!B.e3.z && z B.e3)) || !B.e1.z && z B.e1 || B.p72 && (B.e4.z && (!B.e5.z && z B.e5) || !B.e4.z && z B.e4 || B.p81 && (!B.t && (n || !B.n && (B.f1.z && (B.fl && (!B.f2.z && z B.f2) || B.p93 && (!B.f3.z && z B.f3 || B.f3.z && (!B.f4.z && z B.f4))) || !B.f1.z && z B.f1))))) || (!B.m && (!B.b1.z && z B.b1 || B.b1.z && (!B.b2.z && z B.b2 || B.b2.z && (!B.b3.z && z B.b3))) || B.p22 && (!B.o && (!B.c1.z && z B.c1 || B.c1.z && (!B.c2.z && z B.c2 || B.c2.z && (!B.c3.z && z B.c3)) || B.p28 && (B.c4.z && (B.c5.z && (!B.c6.z && z B.c6) || !B.c5.z && z B.c5) || !B.c4.z && z B.c4 || B.p36 && (B.c7.z && (!B.c8.z && z B.c8) || !B.c7.z && z B.c7 || B.p40 && (B.p47 && (!B.d2.z && z B.d2 || B.d2.z && (!B.d3.z && z B.d3)) || (!B.c9.z && z B.c9 || B.c9.z && (!B.d1.z && z B.d1)))))))))))
def g2 : Bool := B.g (fun e => !e.s) B.u B.n
def g5 : Bool := B.g (fun e => e.s) false false
def g3 : Bool := B.p11 && (B.a5.z && (!B.u && (B.p52 && (B.p72 && (B.p81 && B.t)))))
end BT
def eF (x y : Eb) : Eb := ⟨x.z && y.z, bif x.z then y.s else x.s⟩
def whyB (e : Eb) : Int := bif e.s then 5 else 2
namespace BT
variable (B : BT)
def R1 : Eb := eF (eF (eF (eF B.a1 B.a2) B.a3) B.a4) B.a5
def Rm : Eb := bif !B.m then eF (eF (eF B.R1 B.b1) B.b2) B.b3 else B.R1
def Ro : Eb := bif !B.o then eF (eF (eF (eF (eF (eF (eF (eF (eF (eF (eF (eF B.Rm B.c1) B.c2) B.c3) B.c4) B.c5) B.c6) B.c7) B.c8) B.c9) B.d1) B.d2) B.d3 else B.Rm
def R2 : Eb := eF (eF (eF (eF (eF B.Ro B.e1) B.e2) B.e3) B.e4) B.e5
def Rf : Eb := bif B.fl then eF (eF B.R2 B.f1) B.f2 else eF B.R2 B.f1
def R3 : Eb := eF (eF B.Rf B.f3) B.f4
def oc : Int := bif !B.R1.z then whyB B.R1 else bif B.u then 2 else bif !B.R2.z then whyB B.R2 else bif B.t then 3 else bif B.n then 2 else bif !B.R3.z then whyB B.R3 else 0
def pc (x y z w : Int) : Int := bif B.g2 then x else bif B.g5 then y else bif B.g3 then z else w
end BT
set_option maxHeartbeats 4000000 in
theorem BT.oc_eq (B : BT) : B.pc 2 5 3 0 = B.oc /\ B.pc 9 9 9 0 = (bif B.oc != 0 then 9 else 0) /\ ∀ x, B.pc 0 0 0 x = bif B.oc != 0 then 0 else x := by
 obtain ⟨a1, a2, a3, a4, a5, u, m, b1, b2, b3, o, c1, c2, c3, c4, c5, c6, c7, c8, c9, d1, d2, d3, e1, e2, e3, e4, e5, t, n, f1, fl, f2, f3, f4⟩ := B
 rcases a1 with ⟨_ | _, s⟩
 .cases s <;> exact ⟨rfl, rfl, fun _ => rfl⟩
 rcases a2 with ⟨_ | _, s⟩
 .cases s <;> exact ⟨rfl, rfl, fun _ => rfl⟩
 rcases a3 with ⟨_ | _, s⟩
 .cases s <;> exact ⟨rfl, rfl, fun _ => rfl⟩
 rcases a4 with ⟨_ | _, s⟩
 .cases s <;> exact ⟨rfl, rfl, fun _ => rfl⟩
 rcases a5 with ⟨_ | _, s⟩
 .cases s <;> exact ⟨rfl, rfl, fun _ => rfl⟩
 cases u
 case true => exact ⟨rfl, rfl, fun _ => rfl⟩
 cases o <;> cases m <;> cases fl
 .rcases b1 with ⟨_ | _, s⟩
  .cases s <;> exact ⟨rfl, rfl, fun _ => rfl⟩
  rcases b2 with ⟨_ | _, s⟩
  .cases s <;> exact ⟨rfl, rfl, fun _ => rfl⟩
  rcases b3 with ⟨_ | _, s⟩
  .cases s <;> exact ⟨rfl, rfl, fun _ => rfl⟩
  rcases c1 with ⟨_ | _, s⟩
  .cases s <;> exact ⟨rfl, rfl, fun _ => rfl⟩
  rcases c2 with ⟨_ | _, s⟩
  .cases s <;> exact ⟨rfl, rfl, fun _ => rfl⟩
  rcases c3 with ⟨_ | _, s⟩
  .cases s <;> exact ⟨rfl, rfl, fun _ => rfl⟩
  rcases c4 with ⟨_ | _, s⟩
  .cases s <;> exact ⟨rfl, rfl, fun _ => rfl⟩
  rcases c5 with ⟨_ | _, s⟩
  .cases s <;> exact ⟨rfl, rfl, fun _ => rfl⟩
  rcases c6 with ⟨_ | _, s⟩
  .cases s <;> exact ⟨rfl, rfl, fun _ => rfl⟩
  rcases c7 with ⟨_ | _, s⟩
  .cases s <;> exact ⟨rfl, rfl, fun _ => rfl⟩
  rcases c8 with ⟨_ | _, s⟩
  .cases s <;> exact ⟨rfl, rfl, fun _ => rfl⟩
  rcases c9 with ⟨_ | _, s⟩
  .cases s <;> exact ⟨rfl, rfl, fun _ => rfl⟩
  rcases d1 with ⟨_ | _, s⟩
  .cases s <;> exact ⟨rfl, rfl, fun _ => rfl⟩
  rcases d2 with ⟨_ | _, s⟩
  .cases s <;> exact ⟨rfl, rfl, fun _ => rfl⟩
  rcases d3 with ⟨_ | _, s⟩
  .cases s <;> exact ⟨rfl, rfl, fun _ => rfl⟩
  rcases e1 with ⟨_ | _, s⟩
  .cases s <;> exact ⟨rfl, rfl, fun _ => rfl⟩
  rcases e2 with ⟨_ | _, s⟩
  .cases s <;> exact ⟨rfl, rfl, fun _ => rfl⟩
  rcases e3 with ⟨_ | _, s⟩
  .cases s <;> exact ⟨rfl, rfl, fun _ => rfl⟩
  rcases e4 with ⟨_ | _, s⟩
  .cases s <;> exact ⟨rfl, rfl, fun _ => rfl⟩
  rcases e5 with ⟨_ | _, s⟩
  .cases s <;> exact ⟨rfl, rfl, fun _ => rfl⟩
  cases t
  case true => exact ⟨rfl, rfl, fun _ => rfl⟩
  cases n
  case true => exact ⟨rfl, rfl, fun _ => rfl⟩
  rcases f1 with ⟨_ | _, s⟩
  .cases s <;> exact ⟨rfl, rfl, fun _ => rfl⟩
  rcases f3 with ⟨_ | _, s⟩
  .cases s <;> exact ⟨rfl, rfl, fun _ => rfl⟩
  rcases f4 with ⟨_ | _, s⟩
  .cases s <;> exact ⟨rfl, rfl, fun _ => rfl⟩
  exact ⟨rfl, rfl, fun _ => rfl⟩
 .rcases b1 with ⟨_ | _, s⟩
  .cases s <;> exact ⟨rfl, rfl, fun _ => rfl⟩
  rcases b2 with ⟨_ | _, s⟩
  .cases s <;> exact ⟨rfl, rfl, fun _ => rfl⟩
  rcases b3 with ⟨_ | _, s⟩
  .cases s <;> exact ⟨rfl, rfl, fun _ => rfl⟩
  rcases c1 with ⟨_ | _, s⟩
  .cases s <;> exact ⟨rfl, rfl, fun _ => rfl⟩
  rcases c2 with ⟨_ | _, s⟩
  .cases s <;> exact ⟨rfl, rfl, fun _ => rfl⟩
  rcases c3 with ⟨_ | _, s⟩
  .cases s <;> exact ⟨rfl, rfl, fun _ => rfl⟩
  rcases c4 with ⟨_ | _, s⟩
  .cases s <;> exact ⟨rfl, rfl, fun _ => rfl⟩
  rcases c5 with ⟨_ | _, s⟩
  .cases s <;> exact ⟨rfl, rfl, fun _ => rfl⟩
  rcases c6 with ⟨_ | _, s⟩
  .cases s <;> exact ⟨rfl, rfl, fun _ => rfl⟩
  rcases c7 with ⟨_ | _, s⟩
  .cases s <;> exact ⟨rfl, rfl, fun _ => rfl⟩
  rcases c8 with ⟨_ | _, s⟩
  .cases s <;> exact ⟨rfl, rfl, fun _ => rfl⟩
  rcases c9 with ⟨_ | _, s⟩
  .cases s <;> exact ⟨rfl, rfl, fun _ => rfl⟩
  rcases d1 with ⟨_ | _, s⟩
  .cases s <;> exact ⟨rfl, rfl, fun _ => rfl⟩
  rcases d2 with ⟨_ | _, s⟩
  .cases s <;> exact ⟨rfl, rfl, fun _ => rfl⟩
  rcases d3 with ⟨_ | _, s⟩
  .cases s <;> exact ⟨rfl, rfl, fun _ => rfl⟩
  rcases e1 with ⟨_ | _, s⟩
  .cases s <;> exact ⟨rfl, rfl, fun _ => rfl⟩
  rcases e2 with ⟨_ | _, s⟩
  .cases s <;> exact ⟨rfl, rfl, fun _ => rfl⟩
  rcases e3 with ⟨_ | _, s⟩
  .cases s <;> exact ⟨rfl, rfl, fun _ => rfl⟩
  rcases e4 with ⟨_ | _, s⟩
  .cases s <;> exact ⟨rfl, rfl, fun _ => rfl⟩
  rcases e5 with ⟨_ | _, s⟩
  .cases s <;> exact ⟨rfl, rfl, fun _ => rfl⟩
  cases t
  case true => exact ⟨rfl, rfl, fun _ => rfl⟩
  cases n
  case true => exact ⟨rfl, rfl, fun _ => rfl⟩
  rcases f1 with ⟨_ | _, s⟩
  .cases s <;> exact ⟨rfl, rfl, fun _ => rfl⟩
  rcases f2 with ⟨_ | _, s⟩
  .cases s <;> exact ⟨rfl, rfl, fun _ => rfl⟩
  rcases f3 with ⟨_ | _, s⟩
  .cases s <;> exact ⟨rfl, rfl, fun _ => rfl⟩
  rcases f4 with ⟨_ | _, s⟩
  .cases s <;> exact ⟨rfl, rfl, fun _ => rfl⟩
  exact ⟨rfl, rfl, fun _ => rfl⟩
 .rcases c1 with ⟨_ | _, s⟩
  .cases s <;> exact ⟨rfl, rfl, fun _ => rfl⟩
  rcases c2 with ⟨_ | _, s⟩
  .cases s <;> exact ⟨rfl, rfl, fun _ => rfl⟩
  rcases c3 with ⟨_ | _, s⟩
  .cases s <;> exact ⟨rfl, rfl, fun _ => rfl⟩
  rcases c4 with ⟨_ | _, s⟩
  .cases s <;> exact ⟨rfl, rfl, fun _ => rfl⟩
  rcases c5 with ⟨_ | _, s⟩
  .cases s <;> exact ⟨rfl, rfl, fun _ => rfl⟩
  rcases c6 with ⟨_ | _, s⟩
  .cases s <;> exact ⟨rfl, rfl, fun _ => rfl⟩
  rcases c7 with ⟨_ | _, s⟩
  .cases s <;> exact ⟨rfl, rfl, fun _ => rfl⟩
  rcases c8 with ⟨_ | _, s⟩
  .cases s <;> exact ⟨rfl, rfl, fun _ => rfl⟩
  rcases c9 with ⟨_ | _, s⟩
  .cases s <;> exact ⟨rfl, rfl, fun _ => rfl⟩
  rcases d1 with ⟨_ | _, s⟩
  .cases s <;> exact ⟨rfl, rfl, fun _ => rfl⟩
  rcases d2 with ⟨_ | _, s⟩
  .cases s <;> exact ⟨rfl, rfl, fun _ => rfl⟩
  rcases d3 with ⟨_ | _, s⟩
  .cases s <;> exact ⟨rfl, rfl, fun _ => rfl⟩
  rcases e1 with ⟨_ | _, s⟩
  .cases s <;> exact ⟨rfl, rfl, fun _ => rfl⟩
  rcases e2 with ⟨_ | _, s⟩
  .cases s <;> exact ⟨rfl, rfl, fun _ => rfl⟩
  rcases e3 with ⟨_ | _, s⟩
  .cases s <;> exact ⟨rfl, rfl, fun _ => rfl⟩
  rcases e4 with ⟨_ | _, s⟩
  .cases s <;> exact ⟨rfl, rfl, fun _ => rfl⟩
  rcases e5 with ⟨_ | _, s⟩
  .cases s <;> exact ⟨rfl, rfl, fun _ => rfl⟩
  cases t
  case true => exact ⟨rfl, rfl, fun _ => rfl⟩
  cases n
  case true => exact ⟨rfl, rfl, fun _ => rfl⟩
  rcases f1 with ⟨_ | _, s⟩
  .cases s <;> exact ⟨rfl, rfl, fun _ => rfl⟩
  rcases f3 with ⟨_ | _, s⟩
  .cases s <;> exact ⟨rfl, rfl, fun _ => rfl⟩
  rcases f4 with ⟨_ | _, s⟩
  .cases s <;> exact ⟨rfl, rfl, fun _ => rfl⟩
  exact ⟨rfl, rfl, fun _ => rfl⟩
 .rcases c1 with ⟨_ | _, s⟩
  .cases s <;> exact ⟨rfl, rfl, fun _ => rfl⟩
  rcases c2 with ⟨_ | _, s⟩
  .cases s <;> exact ⟨rfl, rfl, fun _ => rfl⟩
  rcases c3 with ⟨_ | _, s⟩
  .cases s <;> exact ⟨rfl, rfl, fun _ => rfl⟩
  rcases c4 with ⟨_ | _, s⟩
  .cases s <;> exact ⟨rfl, rfl, fun _ => rfl⟩
  rcases c5 with ⟨_ | _, s⟩
  .cases s <;> exact ⟨rfl, rfl, fun _ => rfl⟩
  rcases c6 with ⟨_ | _, s⟩
  .cases s <;> exact ⟨rfl, rfl, fun _ => rfl⟩
  rcases c7 with ⟨_ | _, s⟩
  .cases s <;> exact ⟨rfl, rfl, fun _ => rfl⟩
  rcases c8 with ⟨_ | _, s⟩
  .cases s <;> exact ⟨rfl, rfl, fun _ => rfl⟩
  rcases c9 with ⟨_ | _, s⟩
  .cases s <;> exact ⟨rfl, rfl, fun _ => rfl⟩
  rcases d1 with ⟨_ | _, s⟩
  .cases s <;> exact ⟨rfl, rfl, fun _ => rfl⟩
  rcases d2 with ⟨_ | _, s⟩
  .cases s <;> exact ⟨rfl, rfl, fun _ => rfl⟩
  rcases d3 with ⟨_ | _, s⟩
  .cases s <;> exact ⟨rfl, rfl, fun _ => rfl⟩
  rcases e1 with ⟨_ | _, s⟩
  .cases s <;> exact ⟨rfl, rfl, fun _ => rfl⟩
  rcases e2 with ⟨_ | _, s⟩
  .cases s <;> exact ⟨rfl, rfl, fun _ => rfl⟩
  rcases e3 with ⟨_ | _, s⟩
  .cases s <;> exact ⟨rfl, rfl, fun _ => rfl⟩
  rcases e4 with ⟨_ | _, s⟩
  .cases s <;> exact ⟨rfl, rfl, fun _ => rfl⟩
  rcases e5 with ⟨_ | _, s⟩
  .cases s <;> exact ⟨rfl, rfl, fun _ => rfl⟩
  cases t
  case true => exact ⟨rfl, rfl, fun _ => rfl⟩
  cases n
  case true => exact ⟨rfl, rfl, fun _ => rfl⟩
  rcases f1 with ⟨_ | _, s⟩
  .cases s <;> exact ⟨rfl, rfl, fun _ => rfl⟩
  rcases f2 with ⟨_ | _, s⟩
  .cases s <;> exact ⟨rfl, rfl, fun _ => rfl⟩
  rcases f3 with ⟨_ | _, s⟩
  .cases s <;> exact ⟨rfl, rfl, fun _ => rfl⟩
  rcases f4 with ⟨_ | _, s⟩
  .cases s <;> exact ⟨rfl, rfl, fun _ => rfl⟩
  exact ⟨rfl, rfl, fun _ => rfl⟩
 .rcases b1 with ⟨_ | _, s⟩
  .cases s <;> exact ⟨rfl, rfl, fun _ => rfl⟩
  rcases b2 with ⟨_ | _, s⟩
  .cases s <;> exact ⟨rfl, rfl, fun _ => rfl⟩
  rcases b3 with ⟨_ | _, s⟩
  .cases s <;> exact ⟨rfl, rfl, fun _ => rfl⟩
  rcases e1 with ⟨_ | _, s⟩
  .cases s <;> exact ⟨rfl, rfl, fun _ => rfl⟩
  rcases e2 with ⟨_ | _, s⟩
  .cases s <;> exact ⟨rfl, rfl, fun _ => rfl⟩
  rcases e3 with ⟨_ | _, s⟩
  .cases s <;> exact ⟨rfl, rfl, fun _ => rfl⟩
  rcases e4 with ⟨_ | _, s⟩
  .cases s <;> exact ⟨rfl, rfl, fun _ => rfl⟩
  rcases e5 with ⟨_ | _, s⟩
  .cases s <;> exact ⟨rfl, rfl, fun _ => rfl⟩
  cases t
  case true => exact ⟨rfl, rfl, fun _ => rfl⟩
  cases n
  case true => exact ⟨rfl, rfl, fun _ => rfl⟩
  rcases f1 with ⟨_ | _, s⟩
  .cases s <;> exact ⟨rfl, rfl, fun _ => rfl⟩
  rcases f3 with ⟨_ | _, s⟩
  .cases s <;> exact ⟨rfl, rfl, fun _ => rfl⟩
  rcases f4 with ⟨_ | _, s⟩
  .cases s <;> exact ⟨rfl, rfl, fun _ => rfl⟩
  exact ⟨rfl, rfl, fun _ => rfl⟩
 .rcases b1 with ⟨_ | _, s⟩
  .cases s <;> exact ⟨rfl, rfl, fun _ => rfl⟩
  rcases b2 with ⟨_ | _, s⟩
  .cases s <;> exact ⟨rfl, rfl, fun _ => rfl⟩
  rcases b3 with ⟨_ | _, s⟩
  .cases s <;> exact ⟨rfl, rfl, fun _ => rfl⟩
  rcases e1 with ⟨_ | _, s⟩
  .cases s <;> exact ⟨rfl, rfl, fun _ => rfl⟩
  rcases e2 with ⟨_ | _, s⟩
  .cases s <;> exact ⟨rfl, rfl, fun _ => rfl⟩
  rcases e3 with ⟨_ | _, s⟩
  .cases s <;> exact ⟨rfl, rfl, fun _ => rfl⟩
  rcases e4 with ⟨_ | _, s⟩
  .cases s <;> exact ⟨rfl, rfl, fun _ => rfl⟩
  rcases e5 with ⟨_ | _, s⟩
  .cases s <;> exact ⟨rfl, rfl, fun _ => rfl⟩
  cases t
  case true => exact ⟨rfl, rfl, fun _ => rfl⟩
  cases n
  case true => exact ⟨rfl, rfl, fun _ => rfl⟩
  rcases f1 with ⟨_ | _, s⟩
  .cases s <;> exact ⟨rfl, rfl, fun _ => rfl⟩
  rcases f2 with ⟨_ | _, s⟩
  .cases s <;> exact ⟨rfl, rfl, fun _ => rfl⟩
  rcases f3 with ⟨_ | _, s⟩
  .cases s <;> exact ⟨rfl, rfl, fun _ => rfl⟩
  rcases f4 with ⟨_ | _, s⟩
  .cases s <;> exact ⟨rfl, rfl, fun _ => rfl⟩
  exact ⟨rfl, rfl, fun _ => rfl⟩
 .rcases e1 with ⟨_ | _, s⟩
  .cases s <;> exact ⟨rfl, rfl, fun _ => rfl⟩
  rcases e2 with ⟨_ | _, s⟩
  .cases s <;> exact ⟨rfl, rfl, fun _ => rfl⟩
  rcases e3 with ⟨_ | _, s⟩
  .cases s <;> exact ⟨rfl, rfl, fun _ => rfl⟩
  rcases e4 with ⟨_ | _, s⟩
  .cases s <;> exact ⟨rfl, rfl, fun _ => rfl⟩
  rcases e5 with ⟨_ | _, s⟩
  .cases s <;> exact ⟨rfl, rfl, fun _ => rfl⟩
  cases t
  case true => exact ⟨rfl, rfl, fun _ => rfl⟩
  cases n
  case true => exact ⟨rfl, rfl, fun _ => rfl⟩
  rcases f1 with ⟨_ | _, s⟩
  .cases s <;> exact ⟨rfl, rfl, fun _ => rfl⟩
  rcases f3 with ⟨_ | _, s⟩
  .cases s <;> exact ⟨rfl, rfl, fun _ => rfl⟩
  rcases f4 with ⟨_ | _, s⟩
  .cases s <;> exact ⟨rfl, rfl, fun _ => rfl⟩
  exact ⟨rfl, rfl, fun _ => rfl⟩
 .rcases e1 with ⟨_ | _, s⟩
  .cases s <;> exact ⟨rfl, rfl, fun _ => rfl⟩
  rcases e2 with ⟨_ | _, s⟩
  .cases s <;> exact ⟨rfl, rfl, fun _ => rfl⟩
  rcases e3 with ⟨_ | _, s⟩
  .cases s <;> exact ⟨rfl, rfl, fun _ => rfl⟩
  rcases e4 with ⟨_ | _, s⟩
  .cases s <;> exact ⟨rfl, rfl, fun _ => rfl⟩
  rcases e5 with ⟨_ | _, s⟩
  .cases s <;> exact ⟨rfl, rfl, fun _ => rfl⟩
  cases t
  case true => exact ⟨rfl, rfl, fun _ => rfl⟩
  cases n
  case true => exact ⟨rfl, rfl, fun _ => rfl⟩
  rcases f1 with ⟨_ | _, s⟩
  .cases s <;> exact ⟨rfl, rfl, fun _ => rfl⟩
  rcases f2 with ⟨_ | _, s⟩
  .cases s <;> exact ⟨rfl, rfl, fun _ => rfl⟩
  rcases f3 with ⟨_ | _, s⟩
  .cases s <;> exact ⟨rfl, rfl, fun _ => rfl⟩
  rcases f4 with ⟨_ | _, s⟩
  .cases s <;> exact ⟨rfl, rfl, fun _ => rfl⟩
  exact ⟨rfl, rfl, fun _ => rfl⟩
end Go.Vc
namespace Go.Vc
open Go Go.Eng Go.Ar Go.Rd
def kE (E e : Int) : Int := bif E != 0 then E else bif e != 0 then e else E
def kI (E e x : Int) : Int := bif E != 0 then 0 else bif e != 0 then 0 else x
def kV (E e : Int) (v : Ve) : Ve := ⟨kI E e v.a, kI E e v.b, kI E e v.c, kI E e v.d, kI E e v.e, kI E e v.f⟩
theorem kE_fe (E e : Int) : kE E e = fe E e := by
 unfold kE fe
 simp only [bne]
 cases hE : E == 0 with
 | false => rfl
 | true =>
  cases he : e == 0 with
  | false => rfl
  | true => have := beq_iff_eq.1 hE; have := beq_iff_eq.1 he; subst_vars; rfl
theorem fe_z {x y : Int} : fe x y = 0 ↔ x = 0 /\ y = 0 := by
 unfold fe
 cases h : x == 0 with
 | true => have := beq_iff_eq.1 h; simp [this]
 | false =>
  have : x ≠ 0 := by simpa using h
  simp [this]
theorem kE_c {E e e' : Int} (h : E = 0 -> e = e') : kE E e = fe E e' := by
 rw [kE_fe]
 unfold fe
 cases hE : E == 0 with
 | false => rfl
 | true => exact h (beq_iff_eq.1 hE)
theorem kI_z {E e x : Int} (h : fe E e = 0) : kI E e x = x := by
 obtain ⟨rfl, rfl⟩ := fe_z.1 h
 rfl
theorem kV_z {E e : Int} {v : Ve} (h : fe E e = 0) : kV E e v = v := by
 unfold kV
 simp only [kI_z h]
namespace BX
variable (X : BX)
def E1 : Int := kE (X.sl 4) X.n1.e
def E2 : Int := kE X.E1 X.n2.e
def nw' : Ve := ⟨kI (X.sl 4) X.n1.e X.n1.lo, kI (X.sl 4) X.n1.e X.n1.hi, kI X.E1 X.n2.e X.n2.lo, kI X.E1 X.n2.e X.n2.hi, 4294967296, 4294967296⟩
def E3 : Int := kE X.E2 (X.F.uO X.nw')
def u' : Ve := kV X.E2 (X.F.uO X.nw') (X.F.uV X.nw')
def k' : Sp := X.F.dt X.w X.u'
def E4 : Int := kE X.E3 X.k'.e
def kl : Int := kI X.E3 X.k'.e X.k'.lo
def kh : Int := kI X.E3 X.k'.e X.k'.hi
def und' : Bool := bif decide (X.kl <= 0) then decide (X.kh >= 0) else false
def E5 : Int := kE X.E4 X.s1.e
def E6 : Int := kE X.E5 X.s2.e
def t' : Ve := ⟨bif !X.mir then kI X.E4 X.s1.e X.s1.lo else X.w.a, bif !X.mir then kI X.E4 X.s1.e X.s1.hi else X.w.b, bif !X.mir then kI X.E5 X.s2.e X.s2.lo else X.w.c, bif !X.mir then kI X.E5 X.s2.e X.s2.hi else X.w.d, bif !X.mir then kI X.E6 X.s3.e X.s3.lo else X.w.e, bif !X.mir then kI X.E6 X.s3.e X.s3.hi else X.w.f⟩
def E7 : Int := bif !X.mir then kE X.E6 X.s3.e else X.E4
def E8 : Int := kE X.E7 X.w1.e
def E9 : Int := kE X.E8 X.q1.e
def E10 : Int := kE X.E9 X.q2.e
def q3' : Sp := X.F.ad (kI X.E8 X.q1.e X.q1.lo) (kI X.E8 X.q1.e X.q1.hi) (kI X.E9 X.q2.e X.q2.lo) (kI X.E9 X.q2.e X.q2.hi)
def E11 : Int := kE X.E10 X.q3'.e
def w2' : Sp := X.F.sc (kI X.E10 X.q3'.e X.q3'.lo) (kI X.E10 X.q3'.e X.q3'.hi) (IntKind.i64.wrap (4 * X.S.f1)) 10000000
def E12 : Int := kE X.E11 X.w2'.e
def w3' : Sp := X.F.ad (kI X.E7 X.w1.e X.w1.lo) (kI X.E7 X.w1.e X.w1.hi) (kI X.E11 X.w2'.e X.w2'.lo) (kI X.E11 X.w2'.e X.w2'.hi)
def E13 : Int := kE X.E12 X.w3'.e
def w4' : Sp := X.F.sc (kI X.E12 X.w3'.e X.w3'.lo) (kI X.E12 X.w3'.e X.w3'.hi) (IntKind.i64.wrap (X.S.o * X.l)) 1000000000
def E14 : Int := kE X.E13 X.w4'.e
def w5' : Sp := X.F.sc (kI X.E13 X.w4'.e X.w4'.lo) (kI X.E13 X.w4'.e X.w4'.hi) 10000000 X.b
def E15 : Int := kE X.E14 X.w5'.e
def wl : Int := kI X.E14 X.w5'.e X.w5'.lo
def wh : Int := kI X.E14 X.w5'.e X.w5'.hi
def m1' : Sp := X.F.mu X.v.a X.v.b X.wl X.wh
def E16 : Int := kE X.E15 X.m1'.e
def m2' : Sp := X.F.ad X.t'.a X.t'.b (kI X.E15 X.m1'.e X.m1'.lo) (kI X.E15 X.m1'.e X.m1'.hi)
def E17 : Int := kE X.E16 X.m2'.e
def m3' : Sp := X.F.mu X.v.c X.v.d X.wl X.wh
def E18 : Int := kE X.E17 X.m3'.e
def m4' : Sp := X.F.ad X.t'.c X.t'.d (kI X.E17 X.m3'.e X.m3'.lo) (kI X.E17 X.m3'.e X.m3'.hi)
def E19 : Int := bif X.S.o != 0 then kE X.E18 X.m4'.e else X.E7
def av' : Ve := ⟨bif X.S.o != 0 then kI X.E16 X.m2'.e X.m2'.lo else X.t'.a, bif X.S.o != 0 then kI X.E16 X.m2'.e X.m2'.hi else X.t'.b, bif X.S.o != 0 then kI X.E18 X.m4'.e X.m4'.lo else X.t'.c, bif X.S.o != 0 then kI X.E18 X.m4'.e X.m4'.hi else X.t'.d, bif X.S.o != 0 then X.t'.e else X.t'.e, bif X.S.o != 0 then X.t'.f else X.t'.f⟩
def d1' : Sp := X.F.dt X.av' X.u'
def E20 : Int := kE X.E19 X.d1'.e
def dl : Int := kI X.E19 X.d1'.e X.d1'.lo
def dh : Int := kI X.E19 X.d1'.e X.d1'.hi
def E21 : Int := kE X.E20 (X.F.mO X.u' X.dl X.dh)
def mv1' : Ve := kV X.E20 (X.F.mO X.u' X.dl X.dh) (X.F.mV X.u' X.dl X.dh)
def E22 : Int := kE X.E21 (X.F.bO X.av' X.mv1')
def bv' : Ve := kV X.E21 (X.F.bO X.av' X.mv1') (X.F.bV X.av' X.mv1')
def d2' : Sp := X.F.dt X.bv' X.bv'
def E23 : Int := kE X.E22 X.d2'.e
def h' : Sp := X.F.su 4294967296 4294967296 (kI X.E22 X.d2'.e X.d2'.lo) (kI X.E22 X.d2'.e X.d2'.hi)
def E24 : Int := kE X.E23 X.h'.e
def hl : Int := kI X.E23 X.h'.e X.h'.lo
def hh : Int := kI X.E23 X.h'.e X.h'.hi
def r' : Sp := X.F.rt X.hl X.hh
def E25 : Int := kE X.E24 X.r'.e
def fl' : Bool := !(decide (X.kh < 0) == X.mir)
def rl1 : Int := kI X.E24 X.r'.e X.r'.lo
def rh1 : Int := kI X.E24 X.r'.e X.r'.hi
def r2' : Sp := X.F.ng X.rl1 X.rh1
def E26 : Int := bif X.fl' then kE X.E25 X.r2'.e else X.E25
def rl' : Int := bif X.fl' then kI X.E25 X.r2'.e X.r2'.lo else X.rl1
def rh' : Int := bif X.fl' then kI X.E25 X.r2'.e X.r2'.hi else X.rh1
def E27 : Int := kE X.E26 (X.F.mO X.u' X.rl' X.rh')
def mv2' : Ve := kV X.E26 (X.F.mO X.u' X.rl' X.rh') (X.F.mV X.u' X.rl' X.rh')
def E28 : Int := kE X.E27 (X.F.aO X.bv' X.mv2')
def out' : Ve := kV X.E27 (X.F.aO X.bv' X.mv2') (X.F.aV X.bv' X.mv2')
def why (e : Int) : Int := bif e == 6 then 5 else 2
def oc' : Int := bif X.E4 != 0 then why X.E4 else bif X.und' then 2 else bif X.E24 != 0 then why X.E24 else bif decide (X.hh < 0) then 3 else bif decide (X.hl < 0) then 2 else bif X.E28 != 0 then why X.E28 else 0
def fin (x : Int) : Int := bif X.oc' != 0 then 0 else bif X.E4 != 0 then 0 else bif X.und' then 0 else bif X.E24 != 0 then 0 else bif decide (X.hh < 0) then 0 else bif decide (X.hl < 0) then 0 else bif X.E28 != 0 then 0 else x
def F1 : Int := fe (fe (fe (fe (X.sl 4) X.n1.e) X.n2.e) X.uo) X.k.e
def Fm : Int := bif !X.mir then fe (fe (fe X.F1 X.s1.e) X.s2.e) X.s3.e else X.F1
def Fc : Int := fe (fe (fe (fe X.Fm X.q1.e) X.q2.e) X.q3.e) X.w1.e
def Fo : Int := bif !X.o0 then fe (fe (fe (fe (fe (fe (fe (fe X.Fc X.w2.e) X.w3.e) X.w4.e) X.w5.e) X.m1.e) X.m2.e) X.m3.e) X.m4.e else X.Fm
def F2 : Int := fe (fe (fe (fe (fe X.Fo X.d1.e) X.mo1) X.bo) X.d2.e) X.h.e
def Ff : Int := bif X.fl then fe (fe X.F2 X.r.e) X.r2.e else fe X.F2 X.r.e
def F3 : Int := fe (fe X.Ff X.mo2) X.ao
end BX
structure BX.law (X : BX) : Prop where
 q1 : X.q1.e = 0 ∨ X.q1.e = 6
 q2 : X.q2.e = 0 ∨ X.q2.e = 6
 q3 : X.q1.e = 0 -> X.q2.e = 0 -> X.q3.e = 0 ∨ X.q3.e = 6
 w1 : X.w1.e = 0 ∨ X.w1.e = 6
namespace BX
variable {X : BX}
theorem e1 : X.E1 = fe (X.sl 4) X.n1.e := kE_fe _ _
theorem e2 : X.E2 = fe X.E1 X.n2.e := kE_fe _ _
theorem z_nw (h : X.E2 = 0) : X.nw' = X.nw := by
 have h1 := e1 (X := X); have h2 := e2 (X := X)
 rw [h2] at h
 obtain ⟨a, b⟩ := fe_z.1 h
 have c := h1 ▸ a
 unfold nw' nw
 simp only [kI_z c, kI_z h]
theorem e3 : X.E3 = fe X.E2 X.uo := kE_c fun h => by rw [z_nw h]; rfl
theorem z3 (h : X.E3 = 0) : X.u' = X.u := by
 rw [e3] at h
 have a := z_nw (fe_z.1 h).1
 have c : X.F.uO X.nw' = X.uo := by rw [a]; rfl
 unfold u'
 rw [c, a, kV_z h]
 rfl
theorem z_k (h : X.E3 = 0) : X.k' = X.k := by unfold k' k; rw [z3 h]
theorem e4 : X.E4 = fe X.E3 X.k.e := kE_c fun h => by rw [z_k h]
theorem z4 (h : X.E4 = 0) : X.kl = X.k.lo /\ X.kh = X.k.hi := by
 rw [e4] at h
 have a := z_k (fe_z.1 h).1
 unfold kl kh
 rw [a, kI_z h, kI_z h]
 exact ⟨rfl, rfl⟩
theorem f1 : X.E4 = X.F1 := by rw [e4, e3, e2, e1]; rfl
theorem e5 : X.E5 = fe X.E4 X.s1.e := kE_fe _ _
theorem e6 : X.E6 = fe X.E5 X.s2.e := kE_fe _ _
theorem e7 : X.E7 = bif !X.mir then fe X.E6 X.s3.e else X.E4 := by unfold E7; rw [kE_fe]
theorem fm : X.E7 = X.Fm := by rw [e7, e6, e5, f1]; rfl
theorem z7 (h : X.E7 = 0) : X.t' = X.t := by
 rw [e7] at h
 unfold t' t
 cases hm : X.mir with
 | true => rfl
 | false =>
  rw [hm] at h
  have h : fe X.E6 X.s3.e = 0 := h
  have a := (fe_z.1 h).1
  rw [e6] at a
  have b := (fe_z.1 a).1
  rw [e5] at b
  simp only [kI_z h, kI_z a, kI_z b]
theorem z74 (h : X.E7 = 0) : X.E4 = 0 := by
 rw [e7] at h
 cases hm : X.mir with
 | true => rw [hm] at h; exact h
 | false =>
  rw [hm] at h
  have h : fe X.E6 X.s3.e = 0 := h
  have a := (fe_z.1 h).1
  rw [e6] at a
  have b := (fe_z.1 a).1
  rw [e5] at b
  exact (fe_z.1 b).1
theorem e8 : X.E8 = fe X.E7 X.w1.e := kE_fe _ _
theorem e9 : X.E9 = fe X.E8 X.q1.e := kE_fe _ _
theorem e10 : X.E10 = fe X.E9 X.q2.e := kE_fe _ _
theorem z_q3 (h : X.E10 = 0) : X.q3' = X.q3 := by
 rw [e10] at h
 have a := (fe_z.1 h).1
 rw [e9] at a
 unfold q3' q3
 simp only [kI_z h, kI_z a]
theorem e11 : X.E11 = fe X.E10 X.q3.e := kE_c fun h => by rw [z_q3 h]
theorem z_w2 (h : X.E11 = 0) : X.w2' = X.w2 := by
 rw [e11] at h
 unfold w2' w2
 rw [z_q3 (fe_z.1 h).1]
 simp only [kI_z h]
theorem e12 : X.E12 = fe X.E11 X.w2.e := kE_c fun h => by rw [z_w2 h]
theorem z11 (h : X.E11 = 0) : X.E8 = 0 := by
 rw [e11] at h
 have a := (fe_z.1 h).1
 rw [e10] at a
 have b := (fe_z.1 a).1
 rw [e9] at b
 exact (fe_z.1 b).1
theorem z_w3 (h : X.E12 = 0) : X.w3' = X.w3 := by
 rw [e12] at h
 have a := (fe_z.1 h).1
 have b := z11 a
 rw [e8] at b
 unfold w3' w3
 rw [z_w2 a]
 simp only [kI_z h, kI_z b]
theorem e13 : X.E13 = fe X.E12 X.w3.e := kE_c fun h => by rw [z_w3 h]
theorem z_w4 (h : X.E13 = 0) : X.w4' = X.w4 := by
 rw [e13] at h
 unfold w4' w4
 rw [z_w3 (fe_z.1 h).1]
 simp only [kI_z h]
theorem e14 : X.E14 = fe X.E13 X.w4.e := kE_c fun h => by rw [z_w4 h]
theorem z_w5 (h : X.E14 = 0) : X.w5' = X.w5 := by
 rw [e14] at h
 unfold w5' w5
 rw [z_w4 (fe_z.1 h).1]
 simp only [kI_z h]
theorem e15 : X.E15 = fe X.E14 X.w5.e := kE_c fun h => by rw [z_w5 h]
theorem z15 (h : X.E15 = 0) : X.wl = X.w5.lo /\ X.wh = X.w5.hi := by
 rw [e15] at h
 unfold wl wh
 rw [z_w5 (fe_z.1 h).1]
 exact ⟨kI_z h, kI_z h⟩
theorem z_m1 (h : X.E15 = 0) : X.m1' = X.m1 := by
 unfold m1' m1
 rw [(z15 h).1, (z15 h).2]
theorem e16 : X.E16 = fe X.E15 X.m1.e := kE_c fun h => by rw [z_m1 h]
theorem z15_7 (h : X.E15 = 0) : X.E7 = 0 := by
 rw [e15] at h
 have a := (fe_z.1 h).1
 rw [e14] at a
 have b := (fe_z.1 a).1
 rw [e13] at b
 have c := (fe_z.1 b).1
 rw [e12] at c
 have d := z11 (fe_z.1 c).1
 rw [e8] at d
 exact (fe_z.1 d).1
theorem z_m2 (h : X.E16 = 0) : X.m2' = X.m2 := by
 rw [e16] at h
 have a := (fe_z.1 h).1
 unfold m2' m2
 rw [z_m1 a, z7 (z15_7 a)]
 simp only [kI_z h]
theorem e17 : X.E17 = fe X.E16 X.m2.e := kE_c fun h => by rw [z_m2 h]
theorem z17_15 (h : X.E17 = 0) : X.E16 = 0 /\ X.E15 = 0 := by
 rw [e17] at h
 have a := (fe_z.1 h).1
 refine ⟨a, ?_⟩
 rw [e16] at a
 exact (fe_z.1 a).1
theorem z_m3 (h : X.E17 = 0) : X.m3' = X.m3 := by
 have a := z15 (z17_15 h).2
 unfold m3' m3
 rw [a.1, a.2]
theorem e18 : X.E18 = fe X.E17 X.m3.e := kE_c fun h => by rw [z_m3 h]
theorem z_m4 (h : X.E18 = 0) : X.m4' = X.m4 := by
 rw [e18] at h
 have a := (fe_z.1 h).1
 unfold m4' m4
 rw [z_m3 a, z7 (z15_7 (z17_15 a).2)]
 simp only [kI_z h]
theorem o_ne : (X.S.o != 0) = !X.o0 := rfl
theorem e19 : X.E19 = bif !X.o0 then fe X.E18 X.m4.e else X.E7 := by
 unfold E19
 rw [o_ne, kE_c (e' := X.m4.e) fun h => by rw [z_m4 h]]
theorem fc (L : X.law) : fe X.E10 X.q3.e = X.Fc := by
 unfold Fc
 rw [e10, e9, e8, fm]
 obtain ⟨l1, l2, l3, l4⟩ := L
 have go : ∀ x : Int, fe 0 x = x := fun _ => rfl
 have stop : ∀ x y : Int, x ≠ 0 -> fe x y = x := fun x y h => by
  unfold fe
  rw [show (x == 0) = false by simpa using h]; rfl
 by_cases hm : X.Fm = 0
 .rw [hm]
  simp only [go]
  have six : ∀ y : Int, fe 6 y = 6 := fun _ => rfl
  rcases l4 with w | w <;> rw [w] <;> rcases l1 with a | a <;> rw [a] <;> simp only [go, six] <;> rcases l2 with b | b <;> rw [b] <;> simp only [go, six] <;> (rcases l3 a b with c | c <;> rw [c]) <;> simp only [go, six]
 .simp only [stop _ _ hm]
theorem fo (L : X.law) : X.E19 = X.Fo := by
 rw [e19, e18, e17, e16, e15, e14, e13, e12, e11, fc L, fm]
 rfl
theorem z19 (h : X.E19 = 0) : X.av' = X.av /\ X.E7 = 0 := by
 rw [e19] at h
 unfold av' av
 simp only [o_ne]
 cases ho : X.o0 with
 | true =>
  rw [ho] at h
  have h : X.E7 = 0 := h
  rw [z7 h]
  exact ⟨rfl, h⟩
 | false =>
  rw [ho] at h
  have h : fe X.E18 X.m4.e = 0 := h
  have a := (fe_z.1 h).1
  have a' := a
  rw [e18] at a
  have b := (fe_z.1 a).1
  have c := z17_15 b
  have d := z15_7 c.2
  have b' := b
  rw [e17] at b
  rw [z_m4 a', z_m2 c.1, z7 d]
  simp only [kI_z h, kI_z b, Bool.not_false, cond_true, cond_false]
  exact ⟨trivial, d⟩
theorem z_d1 (h : X.E19 = 0) : X.d1' = X.d1 := by
 have a := z19 h
 have b := z74 a.2
 rw [e4] at b
 unfold d1' d1
 rw [a.1, z3 (fe_z.1 b).1]
theorem e20 : X.E20 = fe X.E19 X.d1.e := kE_c fun h => by rw [z_d1 h]
theorem z_u (h : X.E19 = 0) : X.u' = X.u := by
 have b := z74 (z19 h).2
 rw [e4] at b
 exact z3 (fe_z.1 b).1
theorem z20 (h : X.E20 = 0) : X.E19 = 0 /\ X.dl = X.d1.lo /\ X.dh = X.d1.hi := by
 rw [e20] at h
 have a := (fe_z.1 h).1
 unfold dl dh
 rw [z_d1 a]
 exact ⟨a, kI_z h, kI_z h⟩
theorem z_mo1 (h : X.E20 = 0) : X.F.mO X.u' X.dl X.dh = X.mo1 := by
 obtain ⟨a, b, c⟩ := z20 h
 rw [z_u a, b, c]
 rfl
theorem e21 : X.E21 = fe X.E20 X.mo1 := kE_c z_mo1
theorem z21 (h : X.E21 = 0) : X.E19 = 0 /\ X.mv1' = X.mv1 := by
 rw [e21] at h
 have a := (fe_z.1 h).1
 obtain ⟨b, c, d⟩ := z20 a
 unfold mv1'
 rw [z_mo1 a, kV_z h, z_u b, c, d]
 exact ⟨b, rfl⟩
theorem z_bo (h : X.E21 = 0) : X.F.bO X.av' X.mv1' = X.bo := by
 obtain ⟨a, b⟩ := z21 h
 rw [b, (z19 a).1]
 rfl
theorem e22 : X.E22 = fe X.E21 X.bo := kE_c z_bo
theorem z22 (h : X.E22 = 0) : X.E19 = 0 /\ X.bv' = X.bv := by
 rw [e22] at h
 have a := (fe_z.1 h).1
 obtain ⟨b, c⟩ := z21 a
 unfold bv'
 rw [z_bo a, kV_z h, c, (z19 b).1]
 exact ⟨b, rfl⟩
theorem z_d2 (h : X.E22 = 0) : X.d2' = X.d2 := by
 unfold d2' d2
 rw [(z22 h).2]
theorem e23 : X.E23 = fe X.E22 X.d2.e := kE_c fun h => by rw [z_d2 h]
theorem z_h (h : X.E23 = 0) : X.h' = X.h := by
 rw [e23] at h
 have a := (fe_z.1 h).1
 unfold h'
 rw [z_d2 a, kI_z h, kI_z h]
 rfl
theorem e24 : X.E24 = fe X.E23 X.h.e := kE_c fun h => by rw [z_h h]
theorem f2 (L : X.law) : X.E24 = X.F2 := by rw [e24, e23, e22, e21, e20, fo L]; rfl
theorem z24 (h : X.E24 = 0) : X.E22 = 0 /\ X.hl = X.h.lo /\ X.hh = X.h.hi := by
 rw [e24] at h
 have a := (fe_z.1 h).1
 unfold hl hh
 rw [z_h a]
 rw [e23] at a
 exact ⟨(fe_z.1 a).1, kI_z h, kI_z h⟩
theorem z_r (h : X.E24 = 0) : X.r' = X.r := by
 obtain ⟨_, b, c⟩ := z24 h
 unfold r'
 rw [b, c]
 rfl
theorem e25 : X.E25 = fe X.E24 X.r.e := kE_c fun h => by rw [z_r h]
theorem z25 (h : X.E25 = 0) : X.E24 = 0 /\ X.rl1 = X.r.lo /\ X.rh1 = X.r.hi := by
 rw [e25] at h
 have a := (fe_z.1 h).1
 unfold rl1 rh1
 rw [z_r a]
 exact ⟨a, kI_z h, kI_z h⟩
theorem z_r2 (h : X.E25 = 0) : X.r2' = X.r2 := by
 obtain ⟨_, b, c⟩ := z25 h
 unfold r2'
 rw [b, c]
 rfl
theorem z_fl (h : X.E4 = 0) : X.fl' = X.fl := by
 unfold fl' fl
 rw [(z4 h).2]
theorem e26 (h : X.E4 = 0) : X.E26 = bif X.fl then fe X.E25 X.r2.e else X.E25 := by
 unfold E26
 rw [z_fl h, kE_c (e' := X.r2.e) fun h => by rw [z_r2 h]]
theorem z26 (h0 : X.E4 = 0) (h : X.E26 = 0) : X.E24 = 0 /\ X.rl' = X.rl /\ X.rh' = X.rh := by
 rw [e26 h0] at h
 unfold rl' rh' rl rh
 rw [z_fl h0]
 cases hf : X.fl with
 | true =>
  rw [hf] at h
  have h : fe X.E25 X.r2.e = 0 := h
  have a := (fe_z.1 h).1
  have b := z25 a
  rw [z_r2 a]
  simp only [kI_z h, cond_true]
  exact ⟨b.1, trivial, trivial⟩
 | false =>
  rw [hf] at h
  exact z25 h
theorem z_mo2 (h0 : X.E4 = 0) (h : X.E26 = 0) : X.F.mO X.u' X.rl' X.rh' = X.mo2 := by
 obtain ⟨a, b, c⟩ := z26 h0 h
 rw [b, c, z_u (z22 (z24 a).1).1]
 rfl
theorem e27 (h0 : X.E4 = 0) : X.E27 = fe X.E26 X.mo2 := kE_c (z_mo2 h0)
theorem z27 (h0 : X.E4 = 0) (h : X.E27 = 0) : X.E22 = 0 /\ X.mv2' = X.mv2 := by
 rw [e27 h0] at h
 have a := (fe_z.1 h).1
 obtain ⟨b, c, d⟩ := z26 h0 a
 have e := (z24 b).1
 unfold mv2'
 rw [z_mo2 h0 a, kV_z h, c, d, z_u (z22 e).1]
 exact ⟨e, rfl⟩
theorem z_ao (h0 : X.E4 = 0) (h : X.E27 = 0) : X.F.aO X.bv' X.mv2' = X.ao := by
 obtain ⟨a, b⟩ := z27 h0 h
 rw [b, (z22 a).2]
 rfl
theorem e28 (h0 : X.E4 = 0) : X.E28 = fe X.E27 X.ao := kE_c (z_ao h0)
theorem z28 (h0 : X.E4 = 0) (h : X.E28 = 0) : X.out' = X.out := by
 rw [e28 h0] at h
 have a := (fe_z.1 h).1
 obtain ⟨b, c⟩ := z27 h0 a
 unfold out'
 rw [z_ao h0 a, kV_z h, c, (z22 b).2]
 rfl
theorem f3 (L : X.law) (h0 : X.E4 = 0) : X.E28 = X.F3 := by
 rw [e28 h0, e27 h0, e26 h0, e25, f2 L]; rfl
theorem eb_fe (x y : Int) : eb (fe x y) = eF (eb x) (eb y) := by
 unfold eb fe eF
 cases h : x == 0 with
 | true => simp only [cond_true, Bool.true_and]
 | false => simp only [cond_false, Bool.false_and, h]
theorem eb_if (c : Bool) (x y : Int) : eb (bif c then x else y) = bif c then eb x else eb y := by cases c <;> rfl
theorem eb1 : eb X.F1 = X.bt.R1 := by unfold F1; simp only [eb_fe]; rfl
theorem ebm : eb X.Fm = X.bt.Rm := by unfold Fm; simp only [eb_if, eb_fe, eb1]; rfl
theorem ebo : eb X.Fo = X.bt.Ro := by unfold Fo Fc; simp only [eb_if, eb_fe, ebm]; rfl
theorem eb2 : eb X.F2 = X.bt.R2 := by unfold F2; simp only [eb_fe, ebo]; rfl
theorem ebf : eb X.Ff = X.bt.Rf := by unfold Ff; simp only [eb_if, eb_fe, eb2]; rfl
theorem eb3 : eb X.F3 = X.bt.R3 := by unfold F3; simp only [eb_fe, ebf]; rfl
theorem ne_z (x : Int) : (x != 0) = !(eb x).z := rfl
theorem why_b (x : Int) : why x = whyB (eb x) := rfl
theorem oc_oc (L : X.law) : X.oc' = X.bt.oc := by
 unfold oc' BT.oc
 simp only [ne_z, why_b, f1, f2 L, eb1, eb2]
 cases h1 : X.bt.R1.z with
 | false => rfl
 | true =>
  have h0 : X.E4 = 0 := by
   have : (X.E4 == 0) = true := by
    have := congrArg Eb.z (eb1 (X := X)); rw [h1] at this; rw [f1]; exact this
   exact beq_iff_eq.1 this
  have hu : X.und' = X.bt.u := by
   show X.und' = X.und
   unfold und' und
   rw [(z4 h0).1, (z4 h0).2]
  rw [hu]
  cases X.bt.u with
  | true => rfl
  | false =>
   cases h2 : X.bt.R2.z with
   | false => rfl
   | true =>
    have h4 : X.E24 = 0 := by
     have : (X.E24 == 0) = true := by
      have := congrArg Eb.z (eb2 (X := X)); rw [h2] at this; rw [f2 L]; exact this
     exact beq_iff_eq.1 this
    obtain ⟨_, a, b⟩ := z24 h4
    rw [a, b, f3 L h0, eb3]
    rfl
theorem bent_eq (L : X.law) : X.bt.pc 2 5 3 0 = X.oc' /\ X.bt.pc 9 9 9 0 = (bif X.oc' != 0 then 9 else 0) /\ ∀ f : Ve -> Int, X.bt.pc 0 0 0 (f X.out) = X.fin (f X.out') := by
 obtain ⟨a, b, c⟩ := X.bt.oc_eq
 rw [oc_oc L]
 refine ⟨a, b, fun f => ?_⟩
 rw [c]
 unfold fin
 rw [oc_oc L]
 cases ho : X.bt.oc != 0 with
 | true => rfl
 | false =>
  have ho : X.bt.oc = 0 := by simpa using ho
  have ho' : X.oc' = 0 := by rw [oc_oc L, ho]
  have why0 : ∀ e, why e ≠ 0 := fun e => by unfold why; cases e == 6 <;> decide
  unfold oc' at ho'
  cases h1 : X.E4 != 0 with
  | true => rw [h1] at ho'; exact absurd ho' (why0 _)
  | false =>
   rw [h1] at ho'
   have h0 : X.E4 = 0 := by simpa using h1
   cases h2 : X.und' with
   | true => rw [h2] at ho'; cases ho'
   | false =>
    rw [h2] at ho'
    cases h3 : X.E24 != 0 with
    | true => rw [h3] at ho'; exact absurd ho' (why0 _)
    | false =>
     rw [h3] at ho'
     cases h4 : decide (X.hh < 0) with
     | true => rw [h4] at ho'; cases ho'
     | false =>
      rw [h4] at ho'
      cases h5 : decide (X.hl < 0) with
      | true => rw [h5] at ho'; cases ho'
      | false =>
       rw [h5] at ho'
       cases h6 : X.E28 != 0 with
       | true => rw [h6] at ho'; exact absurd ho' (why0 _)
       | false =>
        have h6 : X.E28 = 0 := by simpa using h6
        rw [z28 h0 h6]
        rfl
end BX
end Go.Vc
namespace Go.Vc
open Go Go.Eng Go.Ar Go.Rd
def okSq (a b n d : Int) : Prop := okSp a b = true -> okR n d = true -> abH a b * sg n n < 18446744073709551615 * d
theorem sg_nn (n : Int) : 0 <= sg n n := by
 unfold sg
 cases h : decide (n < 0) with
 | true => have := of_decide_eq_true h; show 0 <= -n; omega
 | false => have := of_decide_eq_false h; show 0 <= n; omega
theorem okSq_of {a b n d : Int} (k : okSc n d) : okSq a b n d := fun h1 h2 => by
 have := k h2
 have p := abH_le h1
 have := Int.mul_le_mul_of_nonneg_right p.2 (sg_nn n)
 omega
structure BO where
 v : Ve
 c : Int
 e : Int
def cz (f : Int -> Int) (v : Ve) : Ve := ⟨f v.a, f v.b, f v.c, f v.d, f v.e, f v.f⟩
namespace BX
variable (X : BX)
def bi : Bool := bif decide ((if X.b < X.a then X.b else X.a) < 10000000) then true else bif decide ((if X.b > X.a then X.b else X.a) > 40000000) then true else bif decide (X.l < 300000) then true else decide (X.l > 2500000)
def vz : Bool := !(X.F.vc X.v != 0) && !(X.F.vc X.w != 0)
def fr (x y z : Int) : Int := bif X.bi then x else bif X.vz then z else y
def er : Int := bif X.F.vc X.v != 0 then X.F.vc X.v else X.F.vc X.w
def ri : Bool := bif decide (X.a < 10000000) then true else bif decide (X.a > 40000000) then true else bif decide (X.b < 10000000) then true else bif decide (X.b > 40000000) then true else bif decide (X.l < 300000) then true else decide (X.l > 2500000)
def sk3 (v : Ve) : Bool := !bif X.F.sk v.a v.b != 0 || !(X.F.sk v.a v.b != 0) && (X.F.sk v.c v.d != 0 || !(X.F.sk v.c v.d != 0) && X.F.sk v.e v.f != 0) then false else true
def rv : Bool := bif X.sk3 X.v then true else X.sk3 X.w
def rr (x y z : Int) : Int := bif X.ri then x else bif X.rv then y else z
def i1 : Sp := X.F.sc X.v.a X.v.b X.S.c 1000000000
def i2 : Sp := X.F.sc X.i1.lo X.i1.hi 10000000 X.b
def i3 : Sp := X.F.sc X.v.c X.v.d X.S.c 1000000000
def i4 : Sp := X.F.sc X.i3.lo X.i3.hi 10000000 X.b
def bk : Bool := decide (X.w.f < 0)
def i5 : Sp := X.F.ng X.i2.lo X.i2.hi
def i6 : Sp := X.F.ng X.i4.lo X.i4.hi
def xl : Int := bif X.bk then X.i5.lo else X.i2.lo
def xh : Int := bif X.bk then X.i5.hi else X.i2.hi
def yl : Int := bif X.bk then X.i6.lo else X.i4.lo
def yh : Int := bif X.bk then X.i6.hi else X.i4.hi
def i7 : Sp := X.F.di X.w.a X.w.b X.w.e X.w.f
def i8 : Sp := X.F.su X.i7.lo X.i7.hi X.xl X.xh
def i9 : Sp := X.F.di X.w.c X.w.d X.w.e X.w.f
def i10 : Sp := X.F.su X.i9.lo X.i9.hi X.yl X.yh
def iw : Ve := ⟨X.i8.lo, X.i8.hi, X.i10.lo, X.i10.hi, 4294967296, 4294967296⟩
def io : Int := X.F.uO X.iw
def iu : Ve := X.F.uV X.iw
def jo : Int := X.F.nO X.iu
def jv : Ve := X.F.nV X.iu
end BX
structure IT where
 a1 : Eb
 a2 : Eb
 a3 : Eb
 a4 : Eb
 k : Bool
 b1 : Eb
 b2 : Eb
 c1 : Eb
 c2 : Eb
 c3 : Eb
 c4 : Eb
 c5 : Eb
 c6 : Eb
namespace IT
variable (B : IT)
def p47 : Bool := B.a1.z && B.a2.z
def p410 : Bool := B.p47 && (B.a3.z && B.a4.z)
def p418 : Bool := bif B.k then B.b1.z && B.b2.z else true
def p423 : Bool := B.c1.z && B.c2.z
def ok : Bool := B.p410 && (B.p418 && (B.p423 && (B.c3.z && B.c4.z) && (B.c5.z && bif B.k then B.c6.z else true)))
def g5 : Bool := B.p410 && (B.p418 && (B.p423 && (B.c3.z && B.c4.z) && (B.c5.z && (B.k && (!B.c6.z && B.c6.s)) || !B.c5.z && B.c5.s) || (B.p423 && (!B.c3.z && B.c3.s || B.c3.z && (!B.c4.z && B.c4.s)) || (!B.c1.z && B.c1.s || B.c1.z && (!B.c2.z && B.c2.s)))) || B.k && (!B.b1.z && B.b1.s || B.b1.z && (!B.b2.z && B.b2.s))) || (B.a1.z && (!B.a2.z && B.a2.s) || !B.a1.z && B.a1.s || B.p47 && (B.a3.z && (!B.a4.z && B.a4.s) || !B.a3.z && B.a3.s))
def H4 : Eb := eF (eF (eF B.a1 B.a2) B.a3) B.a4
def Hb : Eb := bif B.k then eF (eF B.H4 B.b1) B.b2 else B.H4
def H11 : Eb := eF (eF (eF (eF (eF B.Hb B.c1) B.c2) B.c3) B.c4) B.c5
def H12 : Eb := bif B.k then eF B.H11 B.c6 else B.H11
theorem law : B.ok = B.H12.z /\ (B.H12.z = false -> B.g5 = B.H12.s) := by
 obtain ⟨a1, a2, a3, a4, k, b1, b2, c1, c2, c3, c4, c5, c6⟩ := B
 cases k with
 | false =>
  rcases a1 with ⟨_ | _, s⟩
  .cases s <;> exact ⟨rfl, fun _ => rfl⟩
  rcases a2 with ⟨_ | _, s⟩
  .cases s <;> exact ⟨rfl, fun _ => rfl⟩
  rcases a3 with ⟨_ | _, s⟩
  .cases s <;> exact ⟨rfl, fun _ => rfl⟩
  rcases a4 with ⟨_ | _, s⟩
  .cases s <;> exact ⟨rfl, fun _ => rfl⟩
  rcases c1 with ⟨_ | _, s⟩
  .cases s <;> exact ⟨rfl, fun _ => rfl⟩
  rcases c2 with ⟨_ | _, s⟩
  .cases s <;> exact ⟨rfl, fun _ => rfl⟩
  rcases c3 with ⟨_ | _, s⟩
  .cases s <;> exact ⟨rfl, fun _ => rfl⟩
  rcases c4 with ⟨_ | _, s⟩
  .cases s <;> exact ⟨rfl, fun _ => rfl⟩
  rcases c5 with ⟨_ | _, s⟩
  .cases s <;> exact ⟨rfl, fun _ => rfl⟩
  exact ⟨rfl, fun h => by cases h⟩
 | true =>
  rcases a1 with ⟨_ | _, s⟩
  .cases s <;> exact ⟨rfl, fun _ => rfl⟩
  rcases a2 with ⟨_ | _, s⟩
  .cases s <;> exact ⟨rfl, fun _ => rfl⟩
  rcases a3 with ⟨_ | _, s⟩
  .cases s <;> exact ⟨rfl, fun _ => rfl⟩
  rcases a4 with ⟨_ | _, s⟩
  .cases s <;> exact ⟨rfl, fun _ => rfl⟩
  rcases b1 with ⟨_ | _, s⟩
  .cases s <;> exact ⟨rfl, fun _ => rfl⟩
  rcases b2 with ⟨_ | _, s⟩
  .cases s <;> exact ⟨rfl, fun _ => rfl⟩
  rcases c1 with ⟨_ | _, s⟩
  .cases s <;> exact ⟨rfl, fun _ => rfl⟩
  rcases c2 with ⟨_ | _, s⟩
  .cases s <;> exact ⟨rfl, fun _ => rfl⟩
  rcases c3 with ⟨_ | _, s⟩
  .cases s <;> exact ⟨rfl, fun _ => rfl⟩
  rcases c4 with ⟨_ | _, s⟩
  .cases s <;> exact ⟨rfl, fun _ => rfl⟩
  rcases c5 with ⟨_ | _, s⟩
  .cases s <;> exact ⟨rfl, fun _ => rfl⟩
  rcases c6 with ⟨_ | _, s⟩
  .cases s <;> exact ⟨rfl, fun _ => rfl⟩
  exact ⟨rfl, fun h => by cases h⟩
end IT
namespace BX
variable (X : BX)
def it : IT := ⟨eb X.i1.e, eb X.i2.e, eb X.i3.e, eb X.i4.e, X.bk, eb X.i5.e, eb X.i6.e, eb X.i7.e, eb X.i8.e, eb X.i9.e, eb X.i10.e, eb X.io, eb X.jo⟩
def iv : Ve := ⟨bif X.bk then X.jv.a else X.iu.a, bif X.bk then X.jv.b else X.iu.b, bif X.bk then X.jv.c else X.iu.c, bif X.bk then X.jv.d else X.iu.d, bif X.bk then X.jv.e else X.iu.e, bif X.bk then X.jv.f else X.iu.f⟩
def an1 : BO := ⟨cz (fun z => X.fr 0 0 (X.bt.pc 0 0 0 z)) X.out, X.fr 0 0 (X.bt.pc 2 5 3 0), X.fr 2 X.er (X.bt.pc 9 9 9 0)⟩
def an3 : BO := ⟨cz (fun z => X.fr 0 0 z) X.w, 0, X.fr 2 X.er 0⟩
def an4 : BO := ⟨cz (fun z => X.fr 0 0 (bif X.it.ok then z else 0)) X.iv, X.fr 0 0 (bif X.it.ok then 0 else bif X.it.g5 then 5 else 2), X.fr 2 X.er (bif X.it.ok then 0 else 9)⟩
def ans (r : Bool) : BO := bif !r then ⟨⟨0, 0, 0, 0, 0, 0⟩, 0, 110⟩ else bif X.S.kd == 3 then X.an3 else bif X.S.kd == 4 then X.an4 else X.an1
def k1 : Int := bif X.i1.e != 0 then X.i1.e else 0
def i2' : Sp := X.F.sc (bif X.i1.e != 0 then 0 else X.i1.lo) (bif X.i1.e != 0 then 0 else X.i1.hi) 10000000 X.b
def k2 : Int := kE X.k1 X.i2'.e
def k3 : Int := kE X.k2 X.i3.e
def i4' : Sp := X.F.sc (kI X.k2 X.i3.e X.i3.lo) (kI X.k2 X.i3.e X.i3.hi) 10000000 X.b
def k4 : Int := kE X.k3 X.i4'.e
def al : Int := kI X.k1 X.i2'.e X.i2'.lo
def ah : Int := kI X.k1 X.i2'.e X.i2'.hi
def cl : Int := kI X.k3 X.i4'.e X.i4'.lo
def ch : Int := kI X.k3 X.i4'.e X.i4'.hi
def i5' : Sp := X.F.ng X.al X.ah
def k5 : Int := kE X.k4 X.i5'.e
def i6' : Sp := X.F.ng X.cl X.ch
def kb : Int := bif X.bk then kE X.k5 X.i6'.e else X.k4
def xl' : Int := bif X.bk then kI X.k4 X.i5'.e X.i5'.lo else X.al
def xh' : Int := bif X.bk then kI X.k4 X.i5'.e X.i5'.hi else X.ah
def yl' : Int := bif X.bk then kI X.k5 X.i6'.e X.i6'.lo else X.cl
def yh' : Int := bif X.bk then kI X.k5 X.i6'.e X.i6'.hi else X.ch
def k7 : Int := kE X.kb X.i7.e
def i8' : Sp := X.F.su (kI X.kb X.i7.e X.i7.lo) (kI X.kb X.i7.e X.i7.hi) X.xl' X.xh'
def k8 : Int := kE X.k7 X.i8'.e
def k9 : Int := kE X.k8 X.i9.e
def i10' : Sp := X.F.su (kI X.k8 X.i9.e X.i9.lo) (kI X.k8 X.i9.e X.i9.hi) X.yl' X.yh'
def k10 : Int := kE X.k9 X.i10'.e
def iw' : Ve := ⟨kI X.k7 X.i8'.e X.i8'.lo, kI X.k7 X.i8'.e X.i8'.hi, kI X.k9 X.i10'.e X.i10'.lo, kI X.k9 X.i10'.e X.i10'.hi, 4294967296, 4294967296⟩
def k11 : Int := kE X.k10 (X.F.uO X.iw')
def iu' : Ve := kV X.k10 (X.F.uO X.iw') (X.F.uV X.iw')
def k12 : Int := bif X.bk then kE X.k11 (X.F.nO X.iu') else X.k11
def jv' : Ve := kV X.k11 (X.F.nO X.iu') (X.F.nV X.iu')
def iv' : Ve := ⟨bif X.bk then X.jv'.a else X.iu'.a, bif X.bk then X.jv'.b else X.iu'.b, bif X.bk then X.jv'.c else X.iu'.c, bif X.bk then X.jv'.d else X.iu'.d, bif X.bk then X.jv'.e else X.iu'.e, bif X.bk then X.jv'.f else X.iu'.f⟩
def rn1 : BO := ⟨cz (fun z => X.rr 0 0 (X.fin z)) X.out', X.rr 0 0 (bif X.oc' != 0 then X.oc' else 0), X.rr 2 20 (bif X.oc' != 0 then 9 else 0)⟩
def rn3 : BO := ⟨cz (fun z => X.rr 0 0 z) X.w, 0, X.rr 2 20 0⟩
def rn4 : BO := ⟨cz (fun z => X.rr 0 0 (bif X.k12 != 0 then 0 else z)) X.iv', X.rr 0 0 (bif X.k12 != 0 then bif X.k12 == 6 then 5 else 2 else 0), X.rr 2 20 (bif X.k12 != 0 then 9 else 0)⟩
variable {X}
theorem k1_e : X.k1 = X.i1.e := by
 unfold k1
 cases h : X.i1.e != 0 with
 | true => rfl
 | false =>
  have : X.i1.e = 0 := by simpa using h
  rw [this]; rfl
theorem z_i2 (h : X.k1 = 0) : X.i2' = X.i2 := by
 rw [k1_e] at h
 unfold i2' i2
 rw [h]; rfl
theorem k2_e : X.k2 = fe X.k1 X.i2.e := kE_c fun h => by rw [z_i2 h]
theorem k3_e : X.k3 = fe X.k2 X.i3.e := kE_fe _ _
theorem z_i4 (h : X.k3 = 0) : X.i4' = X.i4 := by
 rw [k3_e] at h
 unfold i4' i4
 simp only [kI_z h]
theorem k4_e : X.k4 = fe X.k3 X.i4.e := kE_c fun h => by rw [z_i4 h]
theorem z_k4 (h : X.k4 = 0) : X.al = X.i2.lo /\ X.ah = X.i2.hi /\ X.cl = X.i4.lo /\ X.ch = X.i4.hi := by
 rw [k4_e] at h
 have a := (fe_z.1 h).1
 have b := z_i4 a
 rw [k3_e] at a
 have c := (fe_z.1 a).1
 rw [k2_e] at c
 have d := z_i2 (fe_z.1 c).1
 unfold al ah cl ch
 rw [d, b]
 simp only [kI_z h, kI_z c, and_self]
theorem z_i5 (h : X.k4 = 0) : X.i5' = X.i5 := by
 unfold i5' i5
 rw [(z_k4 h).1, (z_k4 h).2.1]
theorem k5_e : X.k5 = fe X.k4 X.i5.e := kE_c fun h => by rw [z_i5 h]
theorem z_i6 (h : X.k5 = 0) : X.i6' = X.i6 := by
 rw [k5_e] at h
 have a := z_k4 (fe_z.1 h).1
 unfold i6' i6
 rw [a.2.2.1, a.2.2.2]
theorem kb_e : X.kb = bif X.bk then fe X.k5 X.i6.e else X.k4 := by
 unfold kb
 rw [kE_c (e' := X.i6.e) fun h => by rw [z_i6 h]]
theorem z_kb (h : X.kb = 0) : X.xl' = X.xl /\ X.xh' = X.xh /\ X.yl' = X.yl /\ X.yh' = X.yh := by
 rw [kb_e] at h
 unfold xl' xh' yl' yh' xl xh yl yh
 cases hb : X.bk with
 | false =>
  rw [hb] at h
  exact z_k4 h
 | true =>
  rw [hb] at h
  have h : fe X.k5 X.i6.e = 0 := h
  have a := (fe_z.1 h).1
  have b := z_i6 a
  rw [k5_e] at a
  have c := z_i5 (fe_z.1 a).1
  rw [b, c]
  simp only [kI_z h, kI_z a, cond_true, and_self]
theorem k7_e : X.k7 = fe X.kb X.i7.e := kE_fe _ _
theorem z_i8 (h : X.k7 = 0) : X.i8' = X.i8 := by
 rw [k7_e] at h
 obtain ⟨a, b, _, _⟩ := z_kb (fe_z.1 h).1
 unfold i8' i8
 rw [a, b]
 simp only [kI_z h]
theorem k8_e : X.k8 = fe X.k7 X.i8.e := kE_c fun h => by rw [z_i8 h]
theorem k9_e : X.k9 = fe X.k8 X.i9.e := kE_fe _ _
theorem z_k9 (h : X.k9 = 0) : X.kb = 0 /\ X.k7 = 0 /\ X.k8 = 0 := by
 rw [k9_e] at h
 have a := (fe_z.1 h).1
 have a' := a
 rw [k8_e] at a
 have b := (fe_z.1 a).1
 have b' := b
 rw [k7_e] at b
 exact ⟨(fe_z.1 b).1, b', a'⟩
theorem z_i10 (h : X.k9 = 0) : X.i10' = X.i10 := by
 obtain ⟨_, _, a, b⟩ := z_kb (z_k9 h).1
 rw [k9_e] at h
 unfold i10' i10
 rw [a, b]
 simp only [kI_z h]
theorem k10_e : X.k10 = fe X.k9 X.i10.e := kE_c fun h => by rw [z_i10 h]
theorem z_iw (h : X.k10 = 0) : X.iw' = X.iw := by
 rw [k10_e] at h
 have a := (fe_z.1 h).1
 obtain ⟨_, b, c⟩ := z_k9 a
 rw [k8_e] at c
 unfold iw' iw
 rw [z_i8 b, z_i10 a]
 simp only [kI_z h, kI_z c]
theorem k11_e : X.k11 = fe X.k10 X.io := kE_c fun h => by rw [z_iw h]; rfl
theorem z_iu (h : X.k11 = 0) : X.iu' = X.iu := by
 rw [k11_e] at h
 have a := z_iw (fe_z.1 h).1
 have c : X.F.uO X.iw' = X.io := by rw [a]; rfl
 unfold iu'
 rw [c, a, kV_z h]
 rfl
theorem k12_e : X.k12 = bif X.bk then fe X.k11 X.jo else X.k11 := by
 unfold k12
 rw [kE_c (e' := X.jo) fun h => by rw [z_iu h]; rfl]
theorem eb12 : eb X.k12 = X.it.H12 := by
 rw [k12_e, k11_e, k10_e, k9_e, k8_e, k7_e, kb_e, k5_e, k4_e, k3_e, k2_e, k1_e]
 simp only [eb_if, eb_fe]
 rfl
theorem z_iv (h : X.k12 = 0) : X.iv' = X.iv := by
 rw [k12_e] at h
 unfold iv' iv
 cases hb : X.bk with
 | false => rw [hb] at h; rw [z_iu h]; rfl
 | true =>
  rw [hb] at h
  have h : fe X.k11 X.jo = 0 := h
  have a := z_iu (fe_z.1 h).1
  have c : X.F.nO X.iu' = X.jo := by rw [a]; rfl
  unfold jv'
  rw [c, a, kV_z h]
  rfl
theorem bt_or (p q : Bool) : (bif p then true else q) = (p || q) := by cases p <;> rfl
theorem bi_ri : X.bi = X.ri := by
 unfold bi ri
 simp only [bt_or]
 rw [Bool.eq_iff_iff]
 simp only [Bool.or_eq_true, decide_eq_true_eq]
 split <;> split <;> omega
structure vlaw (X : BX) : Prop where
 vc : ∀ v, X.F.vc v = bif X.sk3 v then 20 else 0
theorem vz_rv (L : X.vlaw) : X.vz = !X.rv /\ (X.rv = true -> X.er = 20) := by
 unfold vz rv er
 rw [L.vc X.v, L.vc X.w]
 cases X.sk3 X.v <;> cases X.sk3 X.w <;> exact ⟨rfl, fun h => by first | rfl | cases h⟩
theorem fr_rr (L : X.vlaw) {x y y' z z' : Int} (hy : X.rv = true -> y = y') (hz : X.bi = false -> X.vz = true -> z = z') : X.fr x y z = X.rr x y' z' := by
 obtain ⟨a, b⟩ := vz_rv L
 unfold fr rr
 rw [<- bi_ri]
 rw [a] at hz ⊢
 cases hb : X.bi with
 | true => rfl
 | false =>
  cases hr : X.rv with
  | true => exact hy hr
  | false => rw [hr] at hz; exact hz hb rfl
theorem cz_eq {f g : Int -> Int} {v w : Ve} (h : ∀ s : Ve -> Int, f (s v) = g (s w)) : cz f v = cz g w := by
 unfold cz
 rw [h Ve.a, h Ve.b, h Ve.c, h Ve.d, h Ve.e, h Ve.f]
theorem bo_eq {a a' : Ve} {b b' c c' : Int} (h1 : a = a') (h2 : b = b') (h3 : c = c') : (⟨a, b, c⟩ : BO) = ⟨a', b', c'⟩ := by rw [h1, h2, h3]
theorem an3_eq (L : X.vlaw) : X.an3 = X.rn3 :=
 bo_eq (cz_eq fun _ => fr_rr L (fun _ => rfl) fun _ _ => rfl) rfl (fr_rr L (vz_rv L).2 fun _ _ => rfl)
theorem an1_eq (L : X.vlaw) (h : X.bi = false -> X.vz = true -> X.law) : X.an1 = X.rn1 := by
 have go := fun b v => bent_eq (h b v)
 refine bo_eq (cz_eq fun s => fr_rr L (fun _ => rfl) fun b v => (go b v).2.2 s) (fr_rr L (fun _ => rfl) fun b v => ?_) (fr_rr L (vz_rv L).2 fun b v => (go b v).2.1)
 rw [(go b v).1]
 cases e : X.oc' != 0 with
 | true => rfl
 | false => simpa using e
theorem an4_eq (L : X.vlaw) : X.an4 = X.rn4 := by
 obtain ⟨a, b⟩ := X.it.law
 rw [<- eb12] at a b
 have a : X.it.ok = (X.k12 == 0) := a
 have b : (X.k12 == 0) = false -> X.it.g5 = (X.k12 == 6) := b
 refine bo_eq (cz_eq fun s => fr_rr L (fun _ => rfl) fun _ _ => ?_) (fr_rr L (fun _ => rfl) fun _ _ => ?_) (fr_rr L (vz_rv L).2 fun _ _ => ?_)
 .rw [a]
  unfold bne
  cases h : X.k12 == 0 with
  | true => rw [z_iv (beq_iff_eq.1 h)]; rfl
  | false => rfl
 .rw [a]
  unfold bne
  cases h : X.k12 == 0 with
  | true => rfl
  | false => rw [b h]; rfl
 .rw [a]
  unfold bne
  cases X.k12 == 0 <;> rfl
end BX
end Go.Vc
namespace Go.Vc
open Go Go.Eng Go.Ar Go.Rd
namespace BX
variable (X : BX) (n : Int)
def nS : Prop := okF3 n X.ys /\ X.S.g.size < 1000000000
def n0 : Prop := okF3 n X.ys /\ X.S.g.size < 1000000000 /\ rightS X.S X.ys = true
def p2f : Int := IntKind.i64.wrap (2 * X.S.f0)
def p4f : Int := IntKind.i64.wrap (4 * X.S.f1)
def pol : Int := IntKind.i64.wrap (X.S.o * X.l)
def nP1 : Prop := X.n0 n /\ ((!X.bi) = true -> X.vz = true -> (X.nS n /\ ((X.sl 4 == 0) = true -> (X.n1.e == 0) = true -> X.sl 2 = X.sl 2 /\ X.sl 3 = X.sl 3)) /\ (X.bt.p11 = true -> (X.k.e == 0) = true -> (!X.und) = true ->
 (((!X.mir) = true -> okSq X.w.a X.w.b X.a X.b /\ ((X.s1.e == 0) = true -> okSq X.w.c X.w.d X.a X.b /\ ((X.s2.e == 0) = true -> okSq X.w.e X.w.f X.a X.b))) /\
  (X.bt.p22 = true -> (!X.o0) = true -> ((X.v.c = X.v.c /\ X.v.d = X.v.d) /\ ((X.q1.e == 0) = true -> X.v.c = X.v.c /\ X.v.d = X.v.d)) /\ (X.bt.p28 = true -> ((X.S.f1 = X.S.f1 /\ (X.q3.lo = X.q3.lo /\ X.q3.hi = X.q3.hi) /\ X.S.f0 = X.S.f0) /\ okSq 4294967296 4294967296 X.p2f 100000 /\ ((X.w1.e == 0) = true -> (X.S.f1 = X.S.f1 /\ X.q3.lo = X.q3.lo /\ X.q3.hi = X.q3.hi) /\ okSq X.q3.lo X.q3.hi X.p4f 10000000)) /\ (X.bt.p36 = true -> (okSq X.w3.lo X.w3.hi X.pol 1000000000 /\ ((X.w4.e == 0) = true -> X.b = X.b /\ okSq X.w4.lo X.w4.hi 10000000 X.b)) /\ (X.bt.p40 = true -> ((X.t.a = X.t.a /\ X.t.b = X.t.b) /\ ((X.m1.e == 0) = true -> X.t.a = X.t.a /\ X.t.b = X.t.b)) /\ (X.bt.p47 = true -> (X.t.c = X.t.c /\ X.t.d = X.t.d) /\ ((X.m3.e == 0) = true -> X.t.c = X.t.c /\ X.t.d = X.t.d))))))) /\
 (X.bt.p52 = true -> ((X.d1.e == 0) = true -> (veP X.u /\ veP X.av) /\ veP X.av /\ ((X.mo1 == 0) = true -> veP X.av)) /\ (X.bt.p72 = true -> (veP X.bv /\ veP X.bv) /\ (X.bt.p81 = true -> (!X.tot) = true -> (!X.neg) = true -> (X.r.e == 0) = true -> X.bt.p93 = true -> veP X.bv /\ ((X.mo2 == 0) = true -> veP X.bv))))))
def nP4 : Prop := X.n0 n /\ ((!X.bi) = true -> X.vz = true -> ((okSq X.v.a X.v.b X.S.c 1000000000 /\ ((X.i1.e == 0) = true -> X.b = X.b /\ okSq X.i1.lo X.i1.hi 10000000 X.b)) /\ (X.it.p47 = true -> okSq X.v.c X.v.d X.S.c 1000000000 /\ ((X.i3.e == 0) = true -> X.b = X.b /\ okSq X.i3.lo X.i3.hi 10000000 X.b))) /\
 (X.it.p410 = true -> X.it.p418 = true -> ((X.xl = X.xl /\ X.xh = X.xh) /\ ((X.i7.e == 0) = true -> X.xl = X.xl /\ X.xh = X.xh)) /\ (X.it.p423 = true -> (X.yl = X.yl /\ X.yh = X.yh) /\ ((X.i9.e == 0) = true -> X.yl = X.yl /\ X.yh = X.yh))))
def nQ1 : Prop := X.n0 n /\ ((!X.ri) = true -> (!X.rv) = true -> (X.nS n /\ X.sl 2 = X.sl 2 /\ X.sl 3 = X.sl 3) /\ ((!(X.E4 != 0)) = true -> (!X.und') = true -> ((X.S.o != 0) = true -> ((X.S.f1 = X.S.f1 /\ (X.v.c = X.v.c /\ X.v.d = X.v.d) /\ (X.v.a = X.v.a /\ X.v.b = X.v.b) /\ X.S.f0 = X.S.f0) /\ (X.S.f1 = X.S.f1 /\ (X.v.c = X.v.c /\ X.v.d = X.v.d) /\ X.v.a = X.v.a /\ X.v.b = X.v.b) /\ (X.S.f1 = X.S.f1 /\ X.v.c = X.v.c /\ X.v.d = X.v.d) /\ X.S.f1 = X.S.f1 /\ X.S.f1 = X.S.f1) /\ (X.t'.a = X.t'.a /\ X.t'.b = X.t'.b) /\ X.t'.c = X.t'.c /\ X.t'.d = X.t'.d) /\
 ((veP X.u' /\ veP X.av') /\ veP X.av' /\ veP X.av') /\ (veP X.bv' /\ veP X.bv') /\ ((!(X.E24 != 0)) = true -> (!decide (X.hh < 0)) = true -> (!decide (X.hl < 0)) = true -> veP X.bv' /\ veP X.bv')))
def nQ4 : Prop := X.n0 n /\ ((!X.ri) = true -> (!X.rv) = true -> ((X.yl' = X.yl' /\ X.yh' = X.yh') /\ (X.w.e = X.w.e /\ X.w.f = X.w.f) /\ (X.w.c = X.w.c /\ X.w.d = X.w.d) /\ X.xl' = X.xl' /\ X.xh' = X.xh') /\ ((X.yl' = X.yl' /\ X.yh' = X.yh') /\ (X.w.e = X.w.e /\ X.w.f = X.w.f) /\ X.w.c = X.w.c /\ X.w.d = X.w.d) /\ X.yl' = X.yl' /\ X.yh' = X.yh')
variable {X n}
theorem veP_t (v : Ve) : veP v := ⟨rfl, rfl, rfl, rfl, rfl, rfl⟩
theorem ri_ab (h : X.bi = false) : 10000000 <= X.a /\ X.a <= 40000000 /\ 10000000 <= X.b /\ X.b <= 40000000 /\ 300000 <= X.l /\ X.l <= 2500000 := by
 rw [bi_ri] at h
 unfold ri at h
 simp only [bt_or, Bool.or_eq_false_iff, decide_eq_false_iff_not] at h
 omega
theorem numsX {s : Su} {ys : List Int} (h : rightS s ys = true) : (-1000000000 <= s.c /\ s.c <= 1000000000) /\ (-1000000000 <= s.f0 /\ s.f0 <= 1000000000) /\ (-1000000000 <= s.f1 /\ s.f1 <= 1000000000) /\ -3 <= s.o /\ s.o <= 3 := by
 have h := right_nums h
 unfold numsB at h
 simp only [Bool.and_eq_true, inR_iff] at h
 obtain ⟨⟨⟨⟨⟨⟨⟨⟨⟨⟨hc, _⟩, _⟩, _⟩, _⟩, _⟩, ⟨f0, f1⟩⟩, _⟩, ⟨o, _⟩⟩, _⟩, _⟩ := h
 exact ⟨hc, f0, f1, o⟩
theorem wr {x : Int} (h : -9000000000000000000 <= x /\ x <= 9000000000000000000) : IntKind.i64.wrap x = x := i64w (by omega) (by omega)
theorem q_ab (h : X.bi = false) (x y : Int) : okSq x y X.a X.b := okSq_of fun _ => by
 obtain ⟨h1, h2, h3, h4, _⟩ := ri_ab h
 have : sg X.a X.a = X.a := by unfold sg; rw [decide_eq_false (by omega)]; rfl
 rw [this]; omega
theorem q_7b (h : X.bi = false) (x y : Int) : okSq x y 10000000 X.b := okSq_of fun _ => by
 obtain ⟨_, _, h3, _, _⟩ := ri_ab h
 have : sg 10000000 10000000 = 10000000 := by decide
 rw [this]; omega
theorem q_c (h : X.n0 n) (x y : Int) : okSq x y X.S.c 1000000000 := okSq_of (okSc_of (numsX h.2.2).1 (by decide))
theorem q_2f (h : X.n0 n) : okSq 4294967296 4294967296 X.p2f 100000 := fun _ _ => by
 have hf := (numsX h.2.2).2.1
 have e : X.p2f = 2 * X.S.f0 := wr (by omega)
 have : sg X.p2f X.p2f <= 2000000000 := by
  rw [e]; unfold sg
  cases decide (2 * X.S.f0 < 0)
  .show 2 * X.S.f0 <= _; omega
  .show -(2 * X.S.f0) <= _; omega
 have k : abH 4294967296 4294967296 = 4294967296 := by decide
 rw [k]; omega
theorem q_4f (h : X.n0 n) (x y : Int) : okSq x y X.p4f 10000000 := okSq_of (okSc_of (M := 4000000000) (by
 have hf := (numsX h.2.2).2.2.1
 have e : X.p4f = 4 * X.S.f1 := wr (by omega)
 rw [e]; omega) (by decide))
theorem q_ol (h : X.n0 n) (hb : X.bi = false) (x y : Int) : okSq x y X.pol 1000000000 := okSq_of (okSc_of (M := 7500000) (by
 have ho := (numsX h.2.2).2.2.2
 have hl := (ri_ab hb).2.2.2.2
 have b : -7500000 <= X.S.o * X.l /\ X.S.o * X.l <= 7500000 := by
  have : X.S.o = -3 ∨ X.S.o = -2 ∨ X.S.o = -1 ∨ X.S.o = 0 ∨ X.S.o = 1 ∨ X.S.o = 2 ∨ X.S.o = 3 := by omega
  rcases this with e | e | e | e | e | e | e <;> rw [e] <;> omega
 have e : X.pol = X.S.o * X.l := wr (by omega)
 rw [e]; exact b) (by decide))
theorem nP1_t (h : X.n0 n) : X.nP1 n := by
 refine ⟨h, fun hb _ => ?_⟩
 have hb : X.bi = false := by simpa using hb
 have h1 : X.nS n := ⟨h.1, h.2.1⟩
 simp only [h1, veP_t, q_ab hb, q_7b hb, q_2f h, q_4f h, q_ol h hb, implies_true, and_self]
theorem nP4_t (h : X.n0 n) : X.nP4 n := by
 refine ⟨h, fun hb _ => ?_⟩
 have hb : X.bi = false := by simpa using hb
 simp only [q_c h, q_7b hb, implies_true, and_self]
theorem nQ1_t (h : X.n0 n) : X.nQ1 n := by
 refine ⟨h, fun _ _ => ?_⟩
 have h1 : X.nS n := ⟨h.1, h.2.1⟩
 simp only [h1, veP_t, implies_true, and_self]
theorem nQ4_t (h : X.n0 n) : X.nQ4 n := by
 refine ⟨h, fun _ _ => ?_⟩
 simp only [and_self]
end BX
def slpB (s : Su) (ys : List Int) (a b x y : Int) : Nat -> Int
 | 0 => tw1 (sagG s ys a b x y).e (slpC s a b x y) (slpU s a b x y).lo
 | 1 => tw1 (sagG s ys a b x y).e (slpC s a b x y) (slpU s a b x y).hi
 | 2 => tw1 (sagG s ys a b x y).e (slpC s a b x y) (slpZ s a b x y).lo
 | 3 => tw1 (sagG s ys a b x y).e (slpC s a b x y) (slpZ s a b x y).hi
 | _ => twE (sagG s ys a b x y).e (slpC s a b x y)
noncomputable def bf0 : BF := ⟨vC0 vf0, chkS, slpB, uV vf0, uO vf0, negS, addS, subS, mulS, divS, scaleS, sqrS, sqrtS, dotF vf0, fun v w => twoV vf0 v w vf0.su, fun v w => twoO vf0 v w vf0.su, fun v w => twoV vf0 v w vf0.ad, fun v w => twoO vf0 v w vf0.ad, fun v x y => twoV vf0 v (lk x y) vf0.mu, fun v x y => twoO vf0 v (lk x y) vf0.mu, gV vf0, gO vf0⟩
theorem bf0_v (X : BX) (h : X.F = bf0) : X.vlaw := by
 refine ⟨fun v => ?_⟩
 unfold BX.sk3
 rw [h]
 show vC0 vf0 v = _
 rw [vC0_eq vf0_law]
 have : (!bif chkS v.a v.b != 0 || !(chkS v.a v.b != 0) && (chkS v.c v.d != 0 || !(chkS v.c v.d != 0) && chkS v.e v.f != 0) then false else true) = wOk vf0 v := by
  show _ = !bif okSp v.a v.b then bif okSp v.c v.d then okSp v.e v.f else false else false
  unfold chkS
  cases okSp v.a v.b <;> cases okSp v.c v.d <;> cases okSp v.e v.f <;> rfl
 exact congrArg (fun z => bif z then (20 : Int) else 0) this.symm
theorem okE_6 {s : Sp} (h : okE s) : s.e = 0 ∨ s.e = 6 := by
 rcases h with h | h
 .exact .inl h
 .rw [h]; exact .inr rfl
theorem bf0_law (X : BX) (h : X.F = bf0) {n : Int} (hr : X.n0 n) (hv : X.vz = true) : X.law := by
 have hok : okSp X.v.a X.v.b = true /\ okSp X.v.c X.v.d = true := by
  unfold BX.vz at hv
  rw [h] at hv
  have hv : (!(vC0 vf0 X.v != 0) && !(vC0 vf0 X.w != 0)) = true := hv
  rw [vC0_eq vf0_law] at hv
  cases e : wOk vf0 X.v with
  | true => rw [e] at hv; simp at hv
  | false =>
   have e : (!bif okSp X.v.a X.v.b then bif okSp X.v.c X.v.d then okSp X.v.e X.v.f else false else false) = false := e
   cases h1 : okSp X.v.a X.v.b with
   | false => rw [h1] at e; cases e
   | true =>
    cases h2 : okSp X.v.c X.v.d with
    | false => rw [h1, h2] at e; cases e
    | true => exact ⟨rfl, rfl⟩
 have s1 : X.q1 = sqrS X.v.a X.v.b := by unfold BX.q1; rw [h]; rfl
 have s2 : X.q2 = sqrS X.v.c X.v.d := by unfold BX.q2; rw [h]; rfl
 refine ⟨by rw [s1]; exact okE_6 (e_sqr (s := ⟨_, _, 0⟩) (Ri.of hok.1)), by rw [s2]; exact okE_6 (e_sqr (s := ⟨_, _, 0⟩) (Ri.of hok.2)), fun e1 e2 => ?_, ?_⟩
 .have t1 := (r_sqr (s := ⟨X.v.a, X.v.b, 0⟩) (Ri.of hok.1) (by rw [s1] at e1; exact e1)).ok
  have t2 := (r_sqr (s := ⟨X.v.c, X.v.d, 0⟩) (Ri.of hok.2) (by rw [s2] at e2; exact e2)).ok
  have : X.q3 = addS X.q1.lo X.q1.hi X.q2.lo X.q2.hi := by unfold BX.q3; rw [h]; rfl
  rw [this, s1, s2]
  unfold addS both
  rw [t1, t2]
  exact okE_6 (told_six _ _)
 .have : X.w1 = scaleS 4294967296 4294967296 X.p2f 100000 := by unfold BX.w1; rw [h]; rfl
  rw [this]
  have hf := (BX.numsX hr.2.2).2.1
  have e : X.p2f = 2 * X.S.f0 := BX.wr (by omega)
  unfold scaleS
  have k1 : okSp 4294967296 4294967296 = true := by decide
  have k2 : okR X.p2f 100000 = true := by rw [e]; unfold okR; simp only [Bool.and_eq_true, decide_eq_true_eq]; omega
  rw [k1, k2]
  exact okE_6 (told_six _ _)
end Go.Vc
namespace Go.Proofs.YtooloakdmdbnaaaGreatDoor.K
open Go Go.Eng Go.Ar Go.Rd Go.Vc
noncomputable section
def slBF (F : BF) (s : Su) (ys : List Int) (a b x y : Int) : AV := .tuple [.agg [.int true .i64 (F.sl s ys a b x y 0), .int true .i64 (F.sl s ys a b x y 1)], .agg [.int true .i64 (F.sl s ys a b x y 2), .int true .i64 (F.sl s ys a b x y 3)], .int true .i64 (F.sl s ys a b x y 4)]
def vcBF (F : BF) : PSpec := numSpec [shV] none fun
 | [.n a, .n b, .n c, .n d, .n e, .n f] => .n .i64 (F.vc ⟨a, b, c, d, e, f⟩)
 | _ => .u []
def skBF (F : BF) : PSpec := numSpec [shS] none fun
 | [.n a, .n b] => .n .i64 (F.sk a b)
 | _ => .u []
def sScP (F : Int -> Int -> Int -> Int -> Sp) : PSpec := fun args => match Sh.readL [shS, .i .i64, .i .i64] args with
 | some (s, [.n a, .n b, .n n, .n d]) => some (.p (okSq a b n d), (outS (F a b n d)).av s)
 | _ => none
def hp (s : PSpec) : NSpec := hN (gH s)
def tblBdO (F : BF) : List (FuncId × NSpec) := [(51, hp (sUnit F.uV F.uO)), (97, hp (sUn F.ng)), (146, hp (sBin F.ad)), (119, hp (sBin F.su)), (116, hp (sBin F.mu)), (71, hp (sBin F.di)), (124, hp (sScP F.sc)), (115, hp (sUn F.sq)), (68, hp (sUn F.rt)), (113, hp (sVD F.dt)), (64, hp (sVV F.bV F.bO)), (69, hp (sVV F.aV F.aO)), (65, hp (sVS F.mV F.mO)), (72, hp (sUnit F.nV F.nO))]
def tblBdR (F : BF) : List (FuncId × NSpec) := [(58, hp (sUnit F.uV F.uO)), (108, hp (sUn F.ng)), (138, hp (sBin F.ad)), (130, hp (sBin F.su)), (136, hp (sBin F.mu)), (106, hp (sBin F.di)), (61, hp (sSc F.sc)), (160, hp (sUn F.sq)), (137, hp (sUn F.rt)), (131, hp (sVD F.dt)), (79, hp (sVV F.bV F.bO)), (82, hp (sVV F.aV F.aO)), (80, hp (sVS F.mV F.mO)), (76, hp (sUnit F.nV F.nO))]
def rigC (b : Bool) : Nat -> List Itm -> Option (Prop × AV × List ABody) := fun _ its => match its with
 | [.s xs n ys] => match suOf xs with
  | some s => some (okF3 n ys /\ s.g.size < 1000000000 /\ rightS s ys = b, .bool false b, [])
  | none => none
 | _ => none
theorem rigC_ok {b : Bool} : NOk Tryz.prog glob hG 18 (lSpec hG [.s suI .i64] (rigC b)) := by
 refine lSpec_weaken rightA_ok fun sz its p v bs e => ?_
 unfold rigC at e
 split at e
 .rename_i xs n ys
  split at e
  .rename_i s hs
   cases e
   refine ⟨okF3 n ys /\ s.g.size < 1000000000, rightA s ys, by simp only [suV, hs], fun hp => ⟨⟨hp.1, hp.2.1⟩, fun σ U hU => ?_⟩⟩
   have hU : VRel σ (.bool true (rightS s ys)) U := hU
   rw [hp.2.2] at hU
   exact hU
  .cases e
 .cases e
def tblBdP (F : BF) (b : Bool) : List (FuncId × NSpec) := (14, bif b then chk0S else chk1S) :: (48, lSpec hG suP2 (suV2 (slBF F))) :: (15, hp (vcBF F)) :: tblBdO F
def tblBdQ (F : BF) (b : Bool) : List (FuncId × NSpec) := (18, lSpec hG [.s suI .i64] (rigC b)) :: (56, lSpec hG suP2 (suV2 (slBF F))) :: (54, hp (skBF F)) :: tblBdR F
def cBdP (F : BF) (b : Bool) : Ctx := mkN Tryz.prog glob hG (tblBdP F b) [] ext
def cBdQ (F : BF) (b : Bool) : Ctx := mkN Tryz.prog glob hG (tblBdQ F b) [] ext
def rBd (C : Ctx) (f : FuncId) (kd : AV) (s : Su) (n : Int) (ys : List Int) (a b l : Int) (v w : Ve) : Option (Nd × AV) := oneG (viewsH true hG [(.i64, ys)]).size hG.clock ((run C 6000).call f [.agg (s.cells kd ++ [.lslice hG.size n]), .int true .i64 a, .int true .i64 b, .int true .i64 l, .agg v.cells, .agg w.cells] (viewsH true hG [(.i64, ys)]))
end
end Go.Proofs.YtooloakdmdbnaaaGreatDoor.K
