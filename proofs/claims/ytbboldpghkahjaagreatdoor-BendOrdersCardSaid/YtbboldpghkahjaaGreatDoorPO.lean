/- What is proved: a law of bends returns true, whatever the input (part 15). No conditions beyond those of the row. -/
import Derived.Test.YtbboldpghkahjaaGreatDoorPF
import Derived.Test.YtbboldpghkahjaaGreatDoorPM
import Derived.Test.YtbboldpghkahjaaGreatDoorPN
set_option linter.unusedVariables false
set_option linter.unusedSimpArgs false
set_option linter.unusedSectionVars false
namespace Go.Proofs.YtbboldpghkahjaaGreatDoor.K
open Go Go.Eng Go.Ar Go.Rd Go.Vc
noncomputable section
theorem sscP_ok : PureOk Tryz.prog 113 (sScP scaleS) := by
 refine ⟨sscale_ok.fn, fun args nd v e hn σ A W hA cs => ?_⟩
 unfold sScP at e
 split at e
 .rename_i s a b n d hr
  cases e
  have hn : okSq a b n d := hn
  exact sscale_ok.run args .tt ((outS (scaleS a b n d)).av s) (by unfold sSc numSpec; rw [hr]; simp only [xScaleS_eq a b n d hn]) trivial σ A W hA cs
 .cases e
theorem slBF_0 : slBF bf0 = slpG := by kernel_rfl
theorem vcBF_0 : vcBF bf0 = vcNF nf0 := by kernel_rfl
theorem tblBdO_g : ∀ x ∈ tblBdO bf0, NOk Tryz.prog glob hG x.1 x.2 := by
 intro x hx
 simp only [tblBdO, List.mem_cons, List.not_mem_nil, or_false] at hx
 rcases hx with rfl | rfl | rfl | rfl | rfl | rfl | rfl | rfl | rfl | rfl | rfl | rfl | rfl | rfl
 .exact ((vunit_ok.g _ _).h).n
 .exact ((sneg_ok.g _ _).h).n
 .exact ((sadd_ok.g _ _).h).n
 .exact ((ssub_ok.g _ _).h).n
 .exact ((smul_ok.g _ _).h).n
 .exact ((sdiv_ok.g _ _).h).n
 .exact ((sscP_ok.g _ _).h).n
 .exact ((ssqr_ok.g _ _).h).n
 .exact ((ssqrt_ok.g _ _).h).n
 .exact ((vdot_ok.g _ _).h).n
 .exact ((vsub_ok.g _ _).h).n
 .exact ((vadd_ok.g _ _).h).n
 .exact ((vscale_ok.g _ _).h).n
 .exact ((vneg_ok.g _ _).h).n
theorem cBdP_ok (b : Bool) : CtxOk (cBdP bf0 b) := mkN_ok prog_ok ext_ok (fun x hx => by
 simp only [tblBdP, slBF_0, vcBF_0, List.mem_cons] at hx
 rcases hx with rfl | rfl | rfl | hx
 .cases b
  .exact chkC_ok rfl
  .exact chkC_ok rfl
 .exact slpG_ok
 .exact ((vchk_ok.g _ _).h).n
 .exact tblBdO_g x hx) fun _ h => by cases h
abbrev bdPa : List Pa := [.s suI .i64, .n (.i .i64), .n (.i .i64), .n (.i .i64), .n shV, .n shV]
def bAns (s : Su) (ys : List Int) (a b l : Int) (v w : Ve) : BO := BX.ans ⟨bf0, s, ys, a, b, l, v, w⟩ (rightS s ys)
def bendV (A : Su -> List Int -> Int -> Int -> Int -> Ve -> Ve -> BO) : Nat -> List Itm -> Option (Prop × AV × List ABody) := fun _ its => match its with
 | [.s xs n ys, .n [.n a], .n [.n b], .n [.n l], .n [.n va, .n vb, .n vc, .n vd, .n ve, .n vf], .n [.n wa, .n wb, .n wc, .n wd, .n we, .n wf]] => match suOf xs with
  | some s => some (okF3 n ys /\ s.g.size < 1000000000, bC (A s ys a b l ⟨va, vb, vc, vd, ve, vf⟩ ⟨wa, wb, wc, wd, we, wf⟩), [])
  | none => none
 | _ => none
theorem bend_gen {C : Bool -> Ctx} {f : FuncId} (co : ∀ b, CtxOk (C b)) (hP : ∀ b, (C b).P = Tryz.prog) (hGl : ∀ b, (C b).glob = glob) (fn : ∃ fn : Func, Tryz.prog.funcs[f]? = some fn /\ fn.body.isSome = true)
  (hr : ∀ (s : Su) (n : Int) (ys : List Int) (a b l : Int) (v w : Ve), okF3 n ys /\ s.g.size < 1000000000 -> ∃ r kd nd A, nd.val /\ tell (.int true .i64 s.kd) kd /\ A.num = true /\ rBd (C r) f kd s n ys a b l v w = some (nd, A) /\ tell A (bC (bAns s ys a b l v w))) : NOk Tryz.prog glob hG f (lSpec hG bdPa (bendV bAns)) := by
 refine lsp_okM hG_ok hG_plain glob_lt (fun sz its p v bs e hp => ?_) fn
 unfold bendV at e
 split at e
 .rename_i xs n ys a b l va vb vc vd ve vf wa wb wc wd we wf
  split at e
  .rename_i s hs
   cases e
   obtain rfl := suOf_eq hs
   refine ⟨⟨okF3_emp hp.1, trivial⟩, rfl, true, ?_⟩
   obtain ⟨r0, kd, nd, A, hnd, hk, hA, r, ht⟩ := hr s n ys a b l ⟨va, vb, vc, vd, ve, vf⟩ ⟨wa, wb, wc, wd, we, wf⟩ hp
   unfold rBd at r
   obtain ⟨q, a1, a2, a3, a4⟩ := oneG_tells r hA
   refine ⟨C r0, 6000, [.agg (s.cells kd ++ [.lslice hG.size n]), .int true .i64 a, .int true .i64 b, .int true .i64 l, .agg (Ve.cells ⟨va, vb, vc, vd, ve, vf⟩), .agg (Ve.cells ⟨wa, wb, wc, wd, we, wf⟩)], nd, A, q, co r0, hP r0, hGl r0, ?_, a1, a2, hnd, a3, a4 sz _ ht⟩
   exact ⟨tellL_app (tell_kd hk) ⟨rfl, trivial⟩, ⟨rfl, rfl⟩, ⟨rfl, rfl⟩, ⟨rfl, rfl⟩, ⟨⟨rfl, rfl⟩, ⟨rfl, rfl⟩, ⟨rfl, rfl⟩, ⟨rfl, rfl⟩, ⟨rfl, rfl⟩, ⟨rfl, rfl⟩, trivial⟩, ⟨⟨rfl, rfl⟩, ⟨rfl, rfl⟩, ⟨rfl, rfl⟩, ⟨rfl, rfl⟩, ⟨rfl, rfl⟩, ⟨rfl, rfl⟩, trivial⟩, trivial⟩
  .cases e
 .cases e
theorem bC_tell {r s : BO} (h : r = s) : tell (bC r) (bC s) := by
 subst h
 exact ⟨⟨⟨rfl, rfl⟩, ⟨rfl, rfl⟩, ⟨rfl, rfl⟩, ⟨rfl, rfl⟩, ⟨rfl, rfl⟩, ⟨rfl, rfl⟩, trivial⟩, ⟨rfl, rfl⟩, ⟨rfl, rfl⟩, trivial⟩
theorem bC3_tell {r s : BO} (h : r = s) (h0 : r.c = 0) : tell (bC3 r) (bC s) := by
 subst h
 exact ⟨⟨⟨rfl, rfl⟩, ⟨rfl, rfl⟩, ⟨rfl, rfl⟩, ⟨rfl, rfl⟩, ⟨rfl, rfl⟩, ⟨rfl, rfl⟩, trivial⟩, ⟨rfl, h0.symm⟩, ⟨rfl, rfl⟩, trivial⟩
theorem bC0_tell {s : BO} (h : (⟨⟨0, 0, 0, 0, 0, 0⟩, 0, 110⟩ : BO) = s) : tell bC0 (bC s) := by
 subst h
 exact ⟨⟨⟨rfl, rfl⟩, ⟨rfl, rfl⟩, ⟨rfl, rfl⟩, ⟨rfl, rfl⟩, ⟨rfl, rfl⟩, ⟨rfl, rfl⟩, trivial⟩, ⟨rfl, rfl⟩, ⟨rfl, rfl⟩, trivial⟩
theorem bAns_0 {s : Su} {ys : List Int} {a b l : Int} {v w : Ve} (h : rightS s ys = false) : (⟨⟨0, 0, 0, 0, 0, 0⟩, 0, 110⟩ : BO) = bAns s ys a b l v w := by unfold bAns BX.ans; rw [h]; rfl
theorem bX_n0 {s : Su} {n : Int} {ys : List Int} {a b l : Int} {v w : Ve} {k : Int} (hk : s.kd = k) (ho : okF3 n ys /\ s.g.size < 1000000000) (hr : rightS s ys = true) : (bX bf0 s k ys a b l v w).n0 n := by
 show okF3 n ys /\ s.g.size < 1000000000 /\ rightS { s with kd := k } ys = true
 rw [su_kd hk]
 exact ⟨ho.1, ho.2, hr⟩
theorem bX_an {s : Su} {ys : List Int} {a b l : Int} {v w : Ve} {k : Int} (hk : s.kd = k) (hr : rightS s ys = true) : bAns s ys a b l v w = bif k == 3 then (bX bf0 s k ys a b l v w).an3 else bif k == 4 then (bX bf0 s k ys a b l v w).an4 else (bX bf0 s k ys a b l v w).an1 := by
 unfold bAns BX.ans bX
 rw [su_kd hk, hr]
 show (bif s.kd == 3 then _ else _) = _
 rw [hk]
theorem bend_ok : NOk Tryz.prog glob hG 11 (lSpec hG bdPa (bendV bAns)) :=
 bend_gen cBdP_ok (fun _ => rfl) (fun _ => rfl) ⟨_, Tryz.func11, rfl⟩ fun s n ys a b l v w h => by
  cases hr : rightS s ys with
  | false => exact ⟨false, .int true .i64 s.kd, .p _, _, ⟨h.1, h.2, hr⟩, ⟨rfl, rfl⟩, rfl, bd_0 bf0 s n ys a b l v w, bC0_tell (bAns_0 hr)⟩
  | true =>
   rcases right_kd hr with hk | hk | hk | hk
   .exact ⟨true, .int false .i64 1, .p _, _, BX.nP1_t (bX_n0 hk h hr), ⟨rfl, hk⟩, rfl, bd_1 bf0 s n ys a b l v w, bC_tell (bX_an hk hr).symm⟩
   .exact ⟨true, .int false .i64 2, .p _, _, BX.nP1_t (bX_n0 hk h hr), ⟨rfl, hk⟩, rfl, bd_2 bf0 s n ys a b l v w, bC_tell (bX_an hk hr).symm⟩
   .exact ⟨true, .int false .i64 3, .p _, _, bX_n0 hk h hr, ⟨rfl, hk⟩, rfl, bd_3 bf0 s n ys a b l v w, bC3_tell (bX_an hk hr).symm rfl⟩
   .exact ⟨true, .int false .i64 4, .p _, _, BX.nP4_t (bX_n0 hk h hr), ⟨rfl, hk⟩, rfl, bd_4 bf0 s n ys a b l v w, bC_tell (bX_an hk hr).symm⟩
end
end Go.Proofs.YtbboldpghkahjaaGreatDoor.K
namespace Go.Proofs.YtbboldpghkahjaaGreatDoor.K
open Go Go.Eng Go.Ar Go.Rd Go.Vc
noncomputable section
structure Sp14 where
 kd : Int
 c0 : Int
 c1 : Int
 k0 : Int
 k1 : Int
 a0 : Int
 a1 : Int
 a2 : Int
 a3 : Int
 m : Bool
def Sp14.cells (p : Sp14) : List AV := [.int true .u8 p.kd, .int true .i16 p.c0, .int true .i16 p.c1, .int true .i16 p.k0, .int true .i16 p.k1, .int true .i8 p.a0, .int true .i8 p.a1, .int true .i8 p.a2, .int true .i8 p.a3, .bool true p.m]
def p14I : List Sh := [.i .u8, .i .i16, .i .i16, .i .i16, .i .i16, .i .i8, .i .i8, .i .i8, .i .i8, .b]
def sHint (k : Nat) (m : Bool) (_ t : Nat) : Option AV := match Nat.beq t 8 || Nat.beq t 51 with
 | true => some (.int false .u8 k)
 | false => match Nat.beq t 32 with
  | true => some (.bool false m)
  | false => none
def cSp (k : Nat) (m : Bool) : Ctx := hinting (mkG Tryz.prog glob hG [] ext) (sHint k m)
theorem cSp_ok (k : Nat) (m : Bool) : CtxOk (cSp k m) := hinting_ok (mkG_ok prog_ok ext_ok fun _ h => by cases h) _
def rSp (k : Nat) (m : Bool) (p : Sp14) : Option (Nd × List AV × Nat × List Int) := outL hG.size hG.clock 2 .i64 ((run (cSp k m) 1000).call 9 [.agg p.cells] hG)
end
end Go.Proofs.YtbboldpghkahjaaGreatDoor.K
namespace Go.Proofs.YtbboldpghkahjaaGreatDoor.K
open Go Go.Eng Go.Ar Go.Rd Go.Vc
noncomputable section
def spC (x : Int) : Int := IntKind.i64.wrap (1000 * IntKind.i64.wrap x)
def spK (x : Int) : Int := IntKind.i64.wrap (250 * IntKind.i64.wrap x)
def spA (x : Int) : Int := IntKind.i64.wrap (100 * IntKind.i64.wrap x)
def mirG (m : Bool) : ByteArray := match m with | true => ⟨#[77, 73, 82, 82, 79, 82]⟩ | false => ⟨#[]⟩
def su0x : Su := ⟨0, 0, 0, 0, 0, 0, 0, 0, 0, 0, 0, 0, 0, ⟨#[]⟩, 0, 0, 0, 0, 0, 0, 0⟩
def shSu (k : Nat) (m : Bool) (p : Sp14) : Su := match k with
 | 0 => { su0x with kd := 1, c := spC p.c0, k := spK p.k0, g := mirG m }
 | 1 => { su0x with kd := 1, c := spC p.c0, k := spK p.k0, g := mirG m }
 | 2 => { su0x with kd := 1, c := spC p.c0, k := spK p.k0, g := mirG m, a0 := spA p.a0, a1 := spA p.a1, a2 := spA p.a2, a3 := spA p.a3 }
 | 3 => { su0x with kd := 2, c := spC p.c0, k := spK p.k0, g := mirG m, l := spC p.c1, m := spK p.k1 }
 | 4 => { su0x with kd := 4, c := spC p.c0 }
 | _ => { su0x with kd := 3 }
def pZz : AV := .int false .i64 0
def iv (x : Int) : AV := .int true .i64 x
def spAV (k : Nat) (m : Bool) (p : Sp14) : List AV := match k with
 | 0 => [.int false .i64 1, iv (spC p.c0), iv (spK p.k0), pZz, pZz, pZz, pZz, pZz, pZz, pZz, pZz, pZz, pZz, .str false (mirG m), pZz, pZz, pZz, pZz, pZz, pZz, pZz]
 | 1 => [.int false .i64 1, iv (spC p.c0), iv (spK p.k0), pZz, pZz, pZz, pZz, pZz, pZz, pZz, pZz, pZz, pZz, .str false (mirG m), pZz, pZz, pZz, pZz, pZz, pZz, pZz]
 | 2 => [.int false .i64 1, iv (spC p.c0), iv (spK p.k0), pZz, pZz, iv (spA p.a0), iv (spA p.a1), iv (spA p.a2), iv (spA p.a3), pZz, pZz, pZz, pZz, .str false (mirG m), pZz, pZz, pZz, pZz, pZz, pZz, pZz]
 | 3 => [.int false .i64 2, iv (spC p.c0), iv (spK p.k0), iv (spC p.c1), iv (spK p.k1), pZz, pZz, pZz, pZz, pZz, pZz, pZz, pZz, .str false (mirG m), pZz, pZz, pZz, pZz, pZz, pZz, pZz]
 | 4 => [.int false .i64 4, iv (spC p.c0), pZz, pZz, pZz, pZz, pZz, pZz, pZz, pZz, pZz, pZz, pZz, .str false ⟨#[]⟩, pZz, pZz, pZz, pZz, pZz, pZz, pZz]
 | _ => [.int false .i64 3, pZz, pZz, pZz, pZz, pZz, pZz, pZz, pZz, pZz, pZz, pZz, pZz, .str false ⟨#[]⟩, pZz, pZz, pZz, pZz, pZz, pZz, pZz]
def spNd (k : Nat) (m : Bool) (p : Sp14) : Prop := match k with
 | 0 => p.kd.tmod 6 = 0 /\ p.m = m /\ p.kd.tmod 6 = 0
 | 1 => p.kd.tmod 6 = 1 /\ p.m = m /\ p.kd.tmod 6 = 1
 | 2 => p.kd.tmod 6 = 2 /\ p.m = m /\ p.kd.tmod 6 = 2
 | 3 => p.kd.tmod 6 = 3 /\ p.m = m /\ p.k1 = p.k1 /\ p.kd.tmod 6 = 3
 | 4 => p.kd.tmod 6 = 4
 | _ => p.kd.tmod 6 = 5
def SpR (p : Sp14) (k : Nat) (m : Bool) : Prop := rSp k m p = some (.p (spNd k m p), spAV k m p, 0, [])
theorem sp_all (p : Sp14) (m : Bool) : ∀ k : Nat, k < 6 -> SpR p k m := fun k h => by
 unfold SpR
 rcases k with _ | _ | _ | _ | _ | _ | k
 case succ.succ.succ.succ.succ.succ => omega
 all_goals cases m <;> kernel_rfl
theorem spNd_t {p : Sp14} {k : Nat} (hk : k < 6) (h : p.kd.tmod 6 = k) : spNd k p.m p := by
 rcases k with _ | _ | _ | _ | _ | _ | k
 .exact ⟨h, rfl, h⟩
 .exact ⟨h, rfl, h⟩
 .exact ⟨h, rfl, h⟩
 .exact ⟨h, rfl, rfl, h⟩
 .exact h
 .exact h
 .omega
theorem spAV_num (k : Nat) (m : Bool) (p : Sp14) : AV.numL (spAV k m p) = true := by
 unfold spAV
 split <;> rfl
theorem spAV_t (k : Nat) (m : Bool) (p : Sp14) : tellL (spAV k m p) (shSu k m p).ini := by
 rcases k with _ | _ | _ | _ | _ | k <;>
 repeat' first
  | exact trivial
  | refine ⟨⟨rfl, rfl⟩, ?_⟩
  | refine ⟨rfl, ?_⟩
def p14Of : List Nu -> Option Sp14
 | [.n kd, .n c0, .n c1, .n k0, .n k1, .n a0, .n a1, .n a2, .n a3, .t m] => some ⟨kd, c0, c1, k0, k1, a0, a1, a2, a3, m⟩
 | _ => none
def shpV : Nat -> List Itm -> Option (Prop × AV × List ABody) := fun sz its => match its with
 | [.n xs] => match p14Of xs with
  | some p => some (0 <= p.kd, .agg ((shSu (p.kd.tmod 6).toNat p.m p).ini ++ [.lslice sz 0]), [.rows .i64 []])
  | none => none
 | _ => none
theorem shp_ok : NOk Tryz.prog glob hG 9 (lSpec hG [.n (.a p14I)] shpV) := by
 refine lsp_okM hG_ok hG_plain glob_lt (fun sz its p v bs e hp => ?_) ⟨_, Tryz.func9, rfl⟩
 unfold shpV at e
 split at e
 .rename_i xs
  split at e
  .rename_i p hs
   cases e
   unfold p14Of at hs
   split at hs
   .cases hs
    rename_i kd c0 c1 k0 k1 a0 a1 a2 a3 m
    have hp : 0 <= kd := hp
    have h6 : kd.tmod 6 = ((kd.tmod 6).toNat : Int) /\ (kd.tmod 6).toNat < 6 := by
     rw [Int.tmod_eq_emod_of_nonneg hp]
     omega
    refine ⟨trivial, rfl, true, ?_⟩
    have r := sp_all ⟨kd, c0, c1, k0, k1, a0, a1, a2, a3, m⟩ m (kd.tmod 6).toNat h6.2
    unfold SpR rSp at r
    obtain ⟨v0, q, h1, h2, h3, h4⟩ := outL_tells r (spAV_num _ _ _)
    refine ⟨cSp (kd.tmod 6).toNat m, 1000, [.agg (Sp14.cells ⟨kd, c0, c1, k0, k1, a0, a1, a2, a3, m⟩)], _, v0, q, cSp_ok _ _, rfl, rfl, ?_, h1, h2, spNd_t h6.2 h6.1, h3, ?_⟩
    .exact ⟨⟨⟨rfl, rfl⟩, ⟨rfl, rfl⟩, ⟨rfl, rfl⟩, ⟨rfl, rfl⟩, ⟨rfl, rfl⟩, ⟨rfl, rfl⟩, ⟨rfl, rfl⟩, ⟨rfl, rfl⟩, ⟨rfl, rfl⟩, rfl, trivial⟩, trivial⟩
    .exact h4 sz _ _ _ (spAV_t _ _ _) rfl rfl
   .cases hs
  .cases e
 .cases e
def normT (F : NF) : List Itm -> Option (Prop × AV) := fun its => match its with
 | [.s xs n ys, .n [.n a, .n b, .n c, .n d, .n e, .n f]] => match suOf xs with
  | some s => some (okF3 n ys /\ s.g.size < 1000000000, .tuple [.agg (pV F s ys ⟨a, b, c, d, e, f⟩).cells, .int true .i64 (pC F s ys ⟨a, b, c, d, e, f⟩), .int true .i64 (pE F s ys ⟨a, b, c, d, e, f⟩)])
  | none => none
 | _ => none
theorem normT_ok {f : FuncId} (g : NOk Tryz.prog glob hG f (lSpec hG noPa (normV nf0))) : NOk Tryz.prog glob hG f (tSpec hG 3 noPa (normT nf0)) := by
 refine tSpec_ok hG_ok hG_plain glob_lt g fun its p v e hp => ?_
 unfold normT at e
 split at e
 .rename_i xs n ys a b c d e' f'
  split at e
  .rename_i s hs
   cases e
   have hs' := hs
   obtain rfl := suOf_eq hs
   exact ⟨_, by simp only [normV, hs'], hp, rfl, ⟨okF3_emp hp.1, trivial⟩, rfl, ⟨_, rfl⟩, rfl, rfl⟩
  .cases e
 .cases e
end
end Go.Proofs.YtbboldpghkahjaaGreatDoor.K
namespace Go.Vc
open Go Go.Eng Go.Ar Go.Rd
abbrev BA := Su -> List Int -> Int -> Int -> Int -> Ve -> Ve -> BO
structure LF where
 be : BA
 no : Su -> List Int -> Ve -> BO
 uV : Ve -> Ve
 uO : Ve -> Int
 dt : Ve -> Ve -> Sp
 xV : Ve -> Ve -> Ve
 xO : Ve -> Ve -> Int
 aV : Ve -> Ve -> Ve
 aO : Ve -> Ve -> Int
 nV : Ve -> Ve
 nO : Ve -> Int
 sc : Int -> Int -> Int -> Int -> Sp
 ng : Int -> Int -> Sp
structure Th where
 a : Int
 b : Int
 c : Int
 d : Int
 e : Int
 f : Int
 w : Int
 k : Bool
def Th.cells (t : Th) : List AV := [.int true .i16 t.a, .int true .i16 t.b, .int true .i16 t.c, .int true .i16 t.d, .int true .i16 t.e, .int true .i16 t.f, .int true .u8 t.w, .bool true t.k]
structure Md where
 a : Int
 b : Int
 l : Int
 o : Int
 f0 : Int
 f1 : Int
def Md.cells (m : Md) : List AV := [.int true .u16 m.a, .int true .u16 m.b, .int true .u16 m.l, .int true .i8 m.o, .int true .i8 m.f0, .int true .i8 m.f1]
def lw (x : Int) : Int := IntKind.i64.wrap x
def l24 : Int := 2 ^ min (Int.toNat 24) IntKind.i64.bits
def l16 : Int := 2 ^ min (Int.toNat 16) IntKind.i64.bits
def Th.wd (t : Th) : Int := lw (t.w.tmod 4)
def pL (x : Int) : Int := lw (lw x * l24)
def pH (t : Th) (x i : Int) : Int := lw (pL x + lw (t.wd * i))
def dL (x : Int) : Int := lw (lw x * l16)
def dH (t : Th) (x : Int) : Int := lw (dL x + t.wd)
def atV (t : Th) : Ve := ⟨bif t.k then pL t.a else pL t.a, bif t.k then pH t t.a 0 else pH t t.a 0, bif t.k then pL t.b else pL t.b, bif t.k then pH t t.b 1 else pH t t.b 1, bif t.k then pL t.c else pL t.c, bif t.k then pH t t.c 0 else pH t t.c 0⟩
def dirV (t : Th) : Ve := ⟨bif t.k then dL t.d else dL t.d, bif t.k then dH t t.d else dH t t.d, bif t.k then dL t.e else dL t.e, bif t.k then dH t t.e else dH t t.e, bif t.k then -4294967296 else lw (4294967296 - t.wd), bif t.k then lw (-4294967296 + t.wd) else 4294967296⟩
def ixQ (x : Int) : Int := lw (10000000 + lw (250 * lw x))
def ixL (x : Int) : Int := lw (400000 + lw (10 * lw x))
def mirG0 : ByteArray := ⟨#[77, 73, 82, 82, 79, 82]⟩
def selI (b : Bool) (x y : Int) : Int := bif b then x else y
def suBy (b : Bool) (S : Su) (c f0 f1 o : Int) : Su := ⟨selI b S.kd S.kd, c, selI b S.k S.k, selI b S.l S.l, selI b S.m S.m, selI b S.a0 S.a0, selI b S.a1 S.a1, selI b S.a2 S.a2, selI b S.a3 S.a3, f0, f1, o, selI b S.th S.th, bif b then S.g else S.g, selI b S.se S.se, selI b S.ho S.ho, selI b S.dx S.dx, selI b S.dy S.dy, selI b S.ax S.ax, selI b S.ay S.ay, selI b S.az S.az⟩
def tkY (n : Int) : List Int := List.take (3 * n.toNat) []
def oS (S : Su) (n : Int) : Prop := okF3 n (tkY n) /\ S.g.size < 1000000000
def tc1 (a b c d : Int) : Bool := bif decide (a <= d) then decide (c <= b) else false
def tcB (v w : Ve) : Bool := bif tc1 v.a v.b w.a w.b then bif tc1 v.c v.d w.c w.d then tc1 v.e v.f w.e w.f else false else false
def ze (e : Int) : Int := bif e != 0 then e else 0
section
variable (F : LF) (R N : BO) (D : Ve) (a b : Int) (nm : Bool)
end
section
variable (F : LF) (R R2 : BO) (D : Ve)
end
section
variable (F : LF) (R1 R2 R3 N : BO)
def oE1 : Int := ze (F.xO R1.v N.v)
def oV1 : Ve := ⟨bif F.xO R1.v N.v != 0 then 0 else (F.xV R1.v N.v).a, bif F.xO R1.v N.v != 0 then 0 else (F.xV R1.v N.v).b, bif F.xO R1.v N.v != 0 then 0 else (F.xV R1.v N.v).c, bif F.xO R1.v N.v != 0 then 0 else (F.xV R1.v N.v).d, bif F.xO R1.v N.v != 0 then 0 else (F.xV R1.v N.v).e, bif F.xO R1.v N.v != 0 then 0 else (F.xV R1.v N.v).f⟩
def oE2 : Int := kE (oE1 F R1 N) (F.xO R2.v N.v)
def oV2 : Ve := kV (oE1 F R1 N) (F.xO R2.v N.v) (F.xV R2.v N.v)
def oE3 : Int := kE (oE2 F R1 R2 N) (F.xO R3.v N.v)
def oV3 : Ve := kV (oE2 F R1 R2 N) (F.xO R3.v N.v) (F.xV R3.v N.v)
def oE4 : Int := kE (oE3 F R1 R2 R3 N) (F.aO (oV1 F R1 N) (oV2 F R1 R2 N))
def oS4 : Ve := kV (oE3 F R1 R2 R3 N) (F.aO (oV1 F R1 N) (oV2 F R1 R2 N)) (F.aV (oV1 F R1 N) (oV2 F R1 R2 N))
def oq1 : Sp := F.sc (oV3 F R1 R2 R3 N).a (oV3 F R1 R2 R3 N).b 2 1
def oE5 : Int := kE (oE4 F R1 R2 R3 N) (oq1 F R1 R2 R3 N).e
def oq2 : Sp := F.sc (oV3 F R1 R2 R3 N).c (oV3 F R1 R2 R3 N).d 2 1
def oE6 : Int := kE (oE5 F R1 R2 R3 N) (oq2 F R1 R2 R3 N).e
def oq3 : Sp := F.sc (oV3 F R1 R2 R3 N).e (oV3 F R1 R2 R3 N).f 2 1
def oE7 : Int := kE (oE6 F R1 R2 R3 N) (oq3 F R1 R2 R3 N).e
def oT : Ve := ⟨kI (oE4 F R1 R2 R3 N) (oq1 F R1 R2 R3 N).e (oq1 F R1 R2 R3 N).lo, kI (oE4 F R1 R2 R3 N) (oq1 F R1 R2 R3 N).e (oq1 F R1 R2 R3 N).hi, kI (oE5 F R1 R2 R3 N) (oq2 F R1 R2 R3 N).e (oq2 F R1 R2 R3 N).lo, kI (oE5 F R1 R2 R3 N) (oq2 F R1 R2 R3 N).e (oq2 F R1 R2 R3 N).hi, kI (oE6 F R1 R2 R3 N) (oq3 F R1 R2 R3 N).e (oq3 F R1 R2 R3 N).lo, kI (oE6 F R1 R2 R3 N) (oq3 F R1 R2 R3 N).e (oq3 F R1 R2 R3 N).hi⟩
def ob1 : Bool := !bif N.e != 0 then true else R1.e != 0
def ob2 : Bool := bif N.e != 0 then true else R2.e != 0
def ob3 : Bool := bif N.e != 0 then true else R3.e != 0
def n9 (x : BO) : Bool := bif N.e == 9 then true else x.e == 9
def orR : Bool := bif ob1 R1 N && (!ob2 R2 N && !ob3 R3 N) then bif oE7 F R1 R2 R3 N != 0 then true else tcB (oS4 F R1 R2 R3 N) (oT F R1 R2 R3 N) else bif ob1 R1 N && (!ob2 R2 N && ob3 R3 N || ob2 R2 N) then bif !ob2 R2 N && ob3 R3 N then n9 N R3 else n9 N R2 else n9 N R1
end
end Go.Vc
namespace Go.Eng
open Go
end Go.Eng
namespace Go.Eng
open Go
noncomputable section
structure Lst (W : World) (ik : IntKind) (m : Nat) (v : Value) (n : Int) (zs : List Int) : Prop where
 val : ∃ p len c, v = .slice p len c /\ len <= c /\ n = len /\ zs.length = m * len /\ (zs ≠ [] -> ∃ B N, p = some ⟨B, N, none⟩ /\ ∀ i, i < zs.length -> W.cell? ⟨B, N + i, none⟩ = some (.int ik (zs.getD i 0)))
end
end Go.Eng
namespace Go.Eng
open Go
noncomputable section
end
end Go.Eng
namespace Go.Proofs.YtbboldpghkahjaaGreatDoor.K
open Go Go.Eng Go.Ar Go.Rd Go.Vc
noncomputable section
def shpVF (S : Sp14 -> Su) : Nat -> List Itm -> Option (Prop × AV × List ABody) := fun sz its => match its with
 | [.n xs] => match p14Of xs with
  | some p => some (0 <= p.kd, .agg ((S p).ini ++ [.lslice sz 0]), [.rows .i64 []])
  | none => none
 | _ => none
def shS0 (p : Sp14) : Su := shSu (p.kd.tmod 6).toNat p.m p
theorem shpVF_0 : shpVF shS0 = shpV := by kernel_rfl
def bendT (A : BA) : List Itm -> Option (Prop × AV) := fun its => match its with
 | [.s xs n ys, .n [.n a], .n [.n b], .n [.n l], .n [.n va, .n vb, .n vc, .n vd, .n ve, .n vf], .n [.n wa, .n wb, .n wc, .n wd, .n we, .n wf]] => match suOf xs with
  | some s => some (okF3 n ys /\ s.g.size < 1000000000, bC (A s ys a b l ⟨va, vb, vc, vd, ve, vf⟩ ⟨wa, wb, wc, wd, we, wf⟩))
  | none => none
 | _ => none
theorem bendT_ok {f : FuncId} (g : NOk Tryz.prog glob hG f (lSpec hG bdPa (bendV bAns))) : NOk Tryz.prog glob hG f (tSpec hG 3 bdPa (bendT bAns)) := by
 refine tSpec_ok hG_ok hG_plain glob_lt g fun its p v e hp => ?_
 unfold bendT at e
 split at e
 .rename_i xs n ys a b l va vb vc vd ve vf wa wb wc wd we wf
  split at e
  .rename_i s hs
   have hs' := hs
   cases e
   obtain rfl := suOf_eq hs
   exact ⟨_, by simp only [bendV, hs'], hp, rfl, ⟨okF3_emp hp.1, trivial⟩, rfl, ⟨_, rfl⟩, rfl, rfl⟩
  .cases e
 .cases e
end
end Go.Proofs.YtbboldpghkahjaaGreatDoor.K
namespace Go.Proofs.YtbboldpghkahjaaGreatDoor.K
open Go Go.Eng Go.Ar Go.Rd Go.Vc
noncomputable section
def noT (A : Su -> List Int -> Ve -> BO) : List Itm -> Option (Prop × AV) := fun its => match its with
 | [.s xs n ys, .n [.n a, .n b, .n c, .n d, .n e, .n f]] => match suOf xs with
  | some s => some (okF3 n ys /\ s.g.size < 1000000000, bC (A s ys ⟨a, b, c, d, e, f⟩))
  | none => none
 | _ => none
def tblLX (F : LF) (S : Sp14 -> Su) : List (FuncId × NSpec) := [(11, tSpec hG 3 bdPa (bendT F.be)), (12, tSpec hG 3 noPa (noT F.no)), (29, hp (sUnit F.uV F.uO)), (37, hp (sVD F.dt)), (15, hp (sVV F.xV F.xO)), (22, hp (sVV F.aV F.aO)), (20, hp (sUnit F.nV F.nO)), (42, hp (sSc F.sc)), (43, hp (sUn F.ng)), (9, lSpec hG [.n (.a p14I)] (shpVF S)), (7, cSpec (.bool false true))]
def cLX (F : LF) (S : Sp14 -> Su) (h : Nat -> Nat -> Option AV) : Ctx := hinting (mkN Tryz.prog glob hG (tblLX F S) [] ext) h
def rLX (C : Ctx) (f : FuncId) (p : Sp14) (m : Md) (t : Th) : Option (Nd × AV) := oneG hG.size hG.clock ((run C 10000).call f [.agg p.cells, .agg m.cells, .agg t.cells] hG)
end
end Go.Proofs.YtbboldpghkahjaaGreatDoor.K
