/- What is proved: BendBends returns true, whatever the input (part 17 of 18). No conditions beyond those of the row. -/
import Derived.Test.YtooloakdmdbnaaaGreatDoorPF
import Derived.Test.YtooloakdmdbnaaaGreatDoorPO
import Derived.Test.YtooloakdmdbnaaaGreatDoorPP
namespace Go.Proofs.YtooloakdmdbnaaaGreatDoor.K
open Go Go.Eng Go.Ar Go.Rd Go.Vc
noncomputable section
theorem sscP_ok : PureOk Tryz.prog 124 (sScP scaleS) := by
 refine ⟨sscale_ok.fn, fun args nd v e hn σ A W hA cs => ?_⟩
 unfold sScP at e
 split at e
 .rename_i s a b n d hr
  cases e
  have hn : okSq a b n d := hn
  exact sscale_ok.run args .tt ((outS (scaleS a b n d)).av s) (by unfold sSc numSpec; rw [hr]; simp only [xScaleS_eq a b n d hn]) trivial σ A W hA cs
 .cases e
theorem slBF_0 : slBF bf0 = slpG := by kernel_rfl
theorem vcBF_0 : vcBF bf0 = vcNF nf0 := by kernel_rfl
theorem tblBdO_g : ∀ x ∈ tblBdO bf0, NOk Tryz.prog glob hG x.1 x.2 := by
 intro x hx
 simp only [tblBdO, List.mem_cons, List.not_mem_nil, or_false] at hx
 rcases hx with rfl | rfl | rfl | rfl | rfl | rfl | rfl | rfl | rfl | rfl | rfl | rfl | rfl | rfl
 .exact ((vunit_ok.g _ _).h).n
 .exact ((sneg_ok.g _ _).h).n
 .exact ((sadd_ok.g _ _).h).n
 .exact ((ssub_ok.g _ _).h).n
 .exact ((smul_ok.g _ _).h).n
 .exact ((sdiv_ok.g _ _).h).n
 .exact ((sscP_ok.g _ _).h).n
 .exact ((ssqr_ok.g _ _).h).n
 .exact ((ssqrt_ok.g _ _).h).n
 .exact ((vdot_ok.g _ _).h).n
 .exact ((vsub_ok.g _ _).h).n
 .exact ((vadd_ok.g _ _).h).n
 .exact ((vscale_ok.g _ _).h).n
 .exact ((vneg_ok.g _ _).h).n
theorem tblBdR_g : ∀ x ∈ tblBdR bf0, NOk Tryz.prog glob hG x.1 x.2 := by
 intro x hx
 simp only [tblBdR, List.mem_cons, List.not_mem_nil, or_false] at hx
 rcases hx with rfl | rfl | rfl | rfl | rfl | rfl | rfl | rfl | rfl | rfl | rfl | rfl | rfl | rfl
 .exact ((runit_ok.g _ _).h).n
 .exact ((rneg_ok.g _ _).h).n
 .exact ((radd_ok.g _ _).h).n
 .exact ((rsub_ok.g _ _).h).n
 .exact ((rmul_ok.g _ _).h).n
 .exact ((rdiv_ok.g _ _).h).n
 .exact ((rsc_ok.g _ _).h).n
 .exact ((rsqr_ok.g _ _).h).n
 .exact ((rsqrt_ok.g _ _).h).n
 .exact ((wdot_ok.g _ _).h).n
 .exact ((wsub_ok.g _ _).h).n
 .exact ((wadd_ok.g _ _).h).n
 .exact ((wscale_ok.g _ _).h).n
 .exact ((wneg_ok.g _ _).h).n
theorem cBdP_ok (b : Bool) : CtxOk (cBdP bf0 b) := mkN_ok prog_ok ext_ok (fun x hx => by
 simp only [tblBdP, slBF_0, vcBF_0, List.mem_cons] at hx
 rcases hx with rfl | rfl | rfl | hx
 .cases b
  .exact chkC_ok rfl
  .exact chkC_ok rfl
 .exact slpG_ok
 .exact ((vchk_ok.g _ _).h).n
 .exact tblBdO_g x hx) fun _ h => by cases h
theorem cBdQ_ok (b : Bool) : CtxOk (cBdQ bf0 b) := mkN_ok prog_ok ext_ok (fun x hx => by
 simp only [tblBdQ, slBF_0, List.mem_cons] at hx
 rcases hx with rfl | rfl | rfl | hx
 .exact rigC_ok
 .exact rslp_ok
 .exact ((rchk_ok.g _ _).h).n
 .exact tblBdR_g x hx) fun _ h => by cases h
abbrev bdPa : List Pa := [.s suI .i64, .n (.i .i64), .n (.i .i64), .n (.i .i64), .n shV, .n shV]
def bAns (s : Su) (ys : List Int) (a b l : Int) (v w : Ve) : BO := BX.ans ⟨bf0, s, ys, a, b, l, v, w⟩ (rightS s ys)
def bendV (A : Su -> List Int -> Int -> Int -> Int -> Ve -> Ve -> BO) : Nat -> List Itm -> Option (Prop × AV × List ABody) := fun _ its => match its with
 | [.s xs n ys, .n [.n a], .n [.n b], .n [.n l], .n [.n va, .n vb, .n vc, .n vd, .n ve, .n vf], .n [.n wa, .n wb, .n wc, .n wd, .n we, .n wf]] => match suOf xs with
  | some s => some (okF3 n ys /\ s.g.size < 1000000000, bC (A s ys a b l ⟨va, vb, vc, vd, ve, vf⟩ ⟨wa, wb, wc, wd, we, wf⟩), [])
  | none => none
 | _ => none
theorem bend_gen {C : Bool -> Ctx} {f : FuncId} (co : ∀ b, CtxOk (C b)) (hP : ∀ b, (C b).P = Tryz.prog) (hGl : ∀ b, (C b).glob = glob) (fn : ∃ fn : Func, Tryz.prog.funcs[f]? = some fn /\ fn.body.isSome = true)
  (hr : ∀ (s : Su) (n : Int) (ys : List Int) (a b l : Int) (v w : Ve), okF3 n ys /\ s.g.size < 1000000000 -> ∃ r kd nd A, nd.val /\ tell (.int true .i64 s.kd) kd /\ A.num = true /\ rBd (C r) f kd s n ys a b l v w = some (nd, A) /\ tell A (bC (bAns s ys a b l v w))) : NOk Tryz.prog glob hG f (lSpec hG bdPa (bendV bAns)) := by
 refine lsp_okM hG_ok hG_plain glob_lt (fun sz its p v bs e hp => ?_) fn
 unfold bendV at e
 split at e
 .rename_i xs n ys a b l va vb vc vd ve vf wa wb wc wd we wf
  split at e
  .rename_i s hs
   cases e
   obtain rfl := suOf_eq hs
   refine ⟨⟨okF3_emp hp.1, trivial⟩, rfl, true, ?_⟩
   obtain ⟨r0, kd, nd, A, hnd, hk, hA, r, ht⟩ := hr s n ys a b l ⟨va, vb, vc, vd, ve, vf⟩ ⟨wa, wb, wc, wd, we, wf⟩ hp
   unfold rBd at r
   obtain ⟨q, a1, a2, a3, a4⟩ := oneG_tells r hA
   refine ⟨C r0, 6000, [.agg (s.cells kd ++ [.lslice hG.size n]), .int true .i64 a, .int true .i64 b, .int true .i64 l, .agg (Ve.cells ⟨va, vb, vc, vd, ve, vf⟩), .agg (Ve.cells ⟨wa, wb, wc, wd, we, wf⟩)], nd, A, q, co r0, hP r0, hGl r0, ?_, a1, a2, hnd, a3, a4 sz _ ht⟩
   exact ⟨tellL_app (tell_kd hk) ⟨rfl, trivial⟩, ⟨rfl, rfl⟩, ⟨rfl, rfl⟩, ⟨rfl, rfl⟩, ⟨⟨rfl, rfl⟩, ⟨rfl, rfl⟩, ⟨rfl, rfl⟩, ⟨rfl, rfl⟩, ⟨rfl, rfl⟩, ⟨rfl, rfl⟩, trivial⟩, ⟨⟨rfl, rfl⟩, ⟨rfl, rfl⟩, ⟨rfl, rfl⟩, ⟨rfl, rfl⟩, ⟨rfl, rfl⟩, ⟨rfl, rfl⟩, trivial⟩, trivial⟩
  .cases e
 .cases e
theorem bC_tell {r s : BO} (h : r = s) : tell (bC r) (bC s) := by
 subst h
 exact ⟨⟨⟨rfl, rfl⟩, ⟨rfl, rfl⟩, ⟨rfl, rfl⟩, ⟨rfl, rfl⟩, ⟨rfl, rfl⟩, ⟨rfl, rfl⟩, trivial⟩, ⟨rfl, rfl⟩, ⟨rfl, rfl⟩, trivial⟩
theorem bC3_tell {r s : BO} (h : r = s) (h0 : r.c = 0) : tell (bC3 r) (bC s) := by
 subst h
 exact ⟨⟨⟨rfl, rfl⟩, ⟨rfl, rfl⟩, ⟨rfl, rfl⟩, ⟨rfl, rfl⟩, ⟨rfl, rfl⟩, ⟨rfl, rfl⟩, trivial⟩, ⟨rfl, h0.symm⟩, ⟨rfl, rfl⟩, trivial⟩
theorem bC0_tell {s : BO} (h : (⟨⟨0, 0, 0, 0, 0, 0⟩, 0, 110⟩ : BO) = s) : tell bC0 (bC s) := by
 subst h
 exact ⟨⟨⟨rfl, rfl⟩, ⟨rfl, rfl⟩, ⟨rfl, rfl⟩, ⟨rfl, rfl⟩, ⟨rfl, rfl⟩, ⟨rfl, rfl⟩, trivial⟩, ⟨rfl, rfl⟩, ⟨rfl, rfl⟩, trivial⟩
theorem bAns_0 {s : Su} {ys : List Int} {a b l : Int} {v w : Ve} (h : rightS s ys = false) : (⟨⟨0, 0, 0, 0, 0, 0⟩, 0, 110⟩ : BO) = bAns s ys a b l v w := by unfold bAns BX.ans; rw [h]; rfl
theorem bX_n0 {s : Su} {n : Int} {ys : List Int} {a b l : Int} {v w : Ve} {k : Int} (hk : s.kd = k) (ho : okF3 n ys /\ s.g.size < 1000000000) (hr : rightS s ys = true) : (bX bf0 s k ys a b l v w).n0 n := by
 show okF3 n ys /\ s.g.size < 1000000000 /\ rightS { s with kd := k } ys = true
 rw [su_kd hk]
 exact ⟨ho.1, ho.2, hr⟩
theorem bX_an {s : Su} {ys : List Int} {a b l : Int} {v w : Ve} {k : Int} (hk : s.kd = k) (hr : rightS s ys = true) : bAns s ys a b l v w = bif k == 3 then (bX bf0 s k ys a b l v w).an3 else bif k == 4 then (bX bf0 s k ys a b l v w).an4 else (bX bf0 s k ys a b l v w).an1 := by
 unfold bAns BX.ans bX
 rw [su_kd hk, hr]
 show (bif s.kd == 3 then _ else _) = _
 rw [hk]
theorem bend_ok : NOk Tryz.prog glob hG 12 (lSpec hG bdPa (bendV bAns)) :=
 bend_gen cBdP_ok (fun _ => rfl) (fun _ => rfl) ⟨_, Tryz.func12, rfl⟩ fun s n ys a b l v w h => by
  cases hr : rightS s ys with
  | false => exact ⟨false, .int true .i64 s.kd, .p _, _, ⟨h.1, h.2, hr⟩, ⟨rfl, rfl⟩, rfl, bd_0 bf0 s n ys a b l v w, bC0_tell (bAns_0 hr)⟩
  | true =>
   rcases right_kd hr with hk | hk | hk | hk
   .exact ⟨true, .int false .i64 1, .p _, _, BX.nP1_t (bX_n0 hk h hr), ⟨rfl, hk⟩, rfl, bd_1 bf0 s n ys a b l v w, bC_tell (bX_an hk hr).symm⟩
   .exact ⟨true, .int false .i64 2, .p _, _, BX.nP1_t (bX_n0 hk h hr), ⟨rfl, hk⟩, rfl, bd_2 bf0 s n ys a b l v w, bC_tell (bX_an hk hr).symm⟩
   .exact ⟨true, .int false .i64 3, .p _, _, bX_n0 hk h hr, ⟨rfl, hk⟩, rfl, bd_3 bf0 s n ys a b l v w, bC3_tell (bX_an hk hr).symm rfl⟩
   .exact ⟨true, .int false .i64 4, .p _, _, BX.nP4_t (bX_n0 hk h hr), ⟨rfl, hk⟩, rfl, bd_4 bf0 s n ys a b l v w, bC_tell (bX_an hk hr).symm⟩
theorem rbend_ok : NOk Tryz.prog glob hG 13 (lSpec hG bdPa (bendV bAns)) :=
 bend_gen cBdQ_ok (fun _ => rfl) (fun _ => rfl) ⟨_, Tryz.func13, rfl⟩ fun s n ys a b l v w h => by
  cases hr : rightS s ys with
  | false => exact ⟨false, .int true .i64 s.kd, .p _, _, ⟨h.1, h.2, hr⟩, ⟨rfl, rfl⟩, rfl, rd_0 bf0 s n ys a b l v w, bC0_tell (bAns_0 hr)⟩
  | true =>
   rcases right_kd hr with hk | hk | hk | hk
   .exact ⟨true, .int false .i64 1, .p _, _, BX.nQ1_t (bX_n0 hk h hr), ⟨rfl, hk⟩, rfl, rd_1 bf0 s n ys a b l v w, bC_tell ((BX.an1_eq (bf0_v _ rfl) fun _ hv => bf0_law _ rfl (bX_n0 hk h hr) hv).symm.trans (bX_an hk hr).symm)⟩
   .exact ⟨true, .int false .i64 2, .p _, _, BX.nQ1_t (bX_n0 hk h hr), ⟨rfl, hk⟩, rfl, rd_2 bf0 s n ys a b l v w, bC_tell ((BX.an1_eq (bf0_v _ rfl) fun _ hv => bf0_law _ rfl (bX_n0 hk h hr) hv).symm.trans (bX_an hk hr).symm)⟩
   .exact ⟨true, .int false .i64 3, .p _, _, bX_n0 hk h hr, ⟨rfl, hk⟩, rfl, rd_3 bf0 s n ys a b l v w, bC3_tell ((BX.an3_eq (bf0_v _ rfl)).symm.trans (bX_an hk hr).symm) rfl⟩
   .exact ⟨true, .int false .i64 4, .p _, _, BX.nQ4_t (bX_n0 hk h hr), ⟨rfl, hk⟩, rfl, rd_4 bf0 s n ys a b l v w, bC_tell ((BX.an4_eq (bf0_v _ rfl)).symm.trans (bX_an hk hr).symm)⟩
end
end Go.Proofs.YtooloakdmdbnaaaGreatDoor.K
namespace Go.Proofs.YtooloakdmdbnaaaGreatDoor.K
open Go Go.Eng Go.Ar Go.Rd Go.Vc
noncomputable section
structure Sp14 where
 kd : Int
 c0 : Int
 c1 : Int
 k0 : Int
 k1 : Int
 a0 : Int
 a1 : Int
 a2 : Int
 a3 : Int
 m : Bool
def Sp14.cells (p : Sp14) : List AV := [.int true .u8 p.kd, .int true .i16 p.c0, .int true .i16 p.c1, .int true .i16 p.k0, .int true .i16 p.k1, .int true .i8 p.a0, .int true .i8 p.a1, .int true .i8 p.a2, .int true .i8 p.a3, .bool true p.m]
def p14I : List Sh := [.i .u8, .i .i16, .i .i16, .i .i16, .i .i16, .i .i8, .i .i8, .i .i8, .i .i8, .b]
def sHint (k : Nat) (m : Bool) (_ t : Nat) : Option AV := match Nat.beq t 8 || Nat.beq t 51 with
 | true => some (.int false .u8 k)
 | false => match Nat.beq t 32 with
  | true => some (.bool false m)
  | false => none
def cSp (k : Nat) (m : Bool) : Ctx := hinting (mkG Tryz.prog glob hG [] ext) (sHint k m)
theorem cSp_ok (k : Nat) (m : Bool) : CtxOk (cSp k m) := hinting_ok (mkG_ok prog_ok ext_ok fun _ h => by cases h) _
def rSp (k : Nat) (m : Bool) (p : Sp14) : Option (Nd × List AV × Nat × List Int) := outL hG.size hG.clock 2 .i64 ((run (cSp k m) 1000).call 5 [.agg p.cells] hG)
end
end Go.Proofs.YtooloakdmdbnaaaGreatDoor.K
namespace Go.Proofs.YtooloakdmdbnaaaGreatDoor.K
open Go Go.Eng Go.Ar Go.Rd Go.Vc
noncomputable section
def spC (x : Int) : Int := IntKind.i64.wrap (1000 * IntKind.i64.wrap x)
def spK (x : Int) : Int := IntKind.i64.wrap (250 * IntKind.i64.wrap x)
def spA (x : Int) : Int := IntKind.i64.wrap (100 * IntKind.i64.wrap x)
def mirG (m : Bool) : ByteArray := match m with | true => ⟨#[77, 73, 82, 82, 79, 82]⟩ | false => ⟨#[]⟩
def su0x : Su := ⟨0, 0, 0, 0, 0, 0, 0, 0, 0, 0, 0, 0, 0, ⟨#[]⟩, 0, 0, 0, 0, 0, 0, 0⟩
def shSu (k : Nat) (m : Bool) (p : Sp14) : Su := match k with
 | 0 => { su0x with kd := 1, c := spC p.c0, k := spK p.k0, g := mirG m }
 | 1 => { su0x with kd := 1, c := spC p.c0, k := spK p.k0, g := mirG m }
 | 2 => { su0x with kd := 1, c := spC p.c0, k := spK p.k0, g := mirG m, a0 := spA p.a0, a1 := spA p.a1, a2 := spA p.a2, a3 := spA p.a3 }
 | 3 => { su0x with kd := 2, c := spC p.c0, k := spK p.k0, g := mirG m, l := spC p.c1, m := spK p.k1 }
 | 4 => { su0x with kd := 4, c := spC p.c0 }
 | _ => { su0x with kd := 3 }
def pZz : AV := .int false .i64 0
def iv (x : Int) : AV := .int true .i64 x
def spAV (k : Nat) (m : Bool) (p : Sp14) : List AV := match k with
 | 0 => [.int false .i64 1, iv (spC p.c0), iv (spK p.k0), pZz, pZz, pZz, pZz, pZz, pZz, pZz, pZz, pZz, pZz, .str false (mirG m), pZz, pZz, pZz, pZz, pZz, pZz, pZz]
 | 1 => [.int false .i64 1, iv (spC p.c0), iv (spK p.k0), pZz, pZz, pZz, pZz, pZz, pZz, pZz, pZz, pZz, pZz, .str false (mirG m), pZz, pZz, pZz, pZz, pZz, pZz, pZz]
 | 2 => [.int false .i64 1, iv (spC p.c0), iv (spK p.k0), pZz, pZz, iv (spA p.a0), iv (spA p.a1), iv (spA p.a2), iv (spA p.a3), pZz, pZz, pZz, pZz, .str false (mirG m), pZz, pZz, pZz, pZz, pZz, pZz, pZz]
 | 3 => [.int false .i64 2, iv (spC p.c0), iv (spK p.k0), iv (spC p.c1), iv (spK p.k1), pZz, pZz, pZz, pZz, pZz, pZz, pZz, pZz, .str false (mirG m), pZz, pZz, pZz, pZz, pZz, pZz, pZz]
 | 4 => [.int false .i64 4, iv (spC p.c0), pZz, pZz, pZz, pZz, pZz, pZz, pZz, pZz, pZz, pZz, pZz, .str false ⟨#[]⟩, pZz, pZz, pZz, pZz, pZz, pZz, pZz]
 | _ => [.int false .i64 3, pZz, pZz, pZz, pZz, pZz, pZz, pZz, pZz, pZz, pZz, pZz, pZz, .str false ⟨#[]⟩, pZz, pZz, pZz, pZz, pZz, pZz, pZz]
def spNd (k : Nat) (m : Bool) (p : Sp14) : Prop := match k with
 | 0 => p.kd.tmod 6 = 0 /\ p.m = m /\ p.kd.tmod 6 = 0
 | 1 => p.kd.tmod 6 = 1 /\ p.m = m /\ p.kd.tmod 6 = 1
 | 2 => p.kd.tmod 6 = 2 /\ p.m = m /\ p.kd.tmod 6 = 2
 | 3 => p.kd.tmod 6 = 3 /\ p.m = m /\ p.k1 = p.k1 /\ p.kd.tmod 6 = 3
 | 4 => p.kd.tmod 6 = 4
 | _ => p.kd.tmod 6 = 5
def SpR (p : Sp14) (k : Nat) (m : Bool) : Prop := rSp k m p = some (.p (spNd k m p), spAV k m p, 0, [])
theorem sp_all (p : Sp14) (m : Bool) : ∀ k : Nat, k < 6 -> SpR p k m := fun k h => by
 unfold SpR
 rcases k with _ | _ | _ | _ | _ | _ | k
 case succ.succ.succ.succ.succ.succ => omega
 all_goals cases m <;> kernel_rfl
theorem spNd_t {p : Sp14} {k : Nat} (hk : k < 6) (h : p.kd.tmod 6 = k) : spNd k p.m p := by
 rcases k with _ | _ | _ | _ | _ | _ | k
 .exact ⟨h, rfl, h⟩
 .exact ⟨h, rfl, h⟩
 .exact ⟨h, rfl, h⟩
 .exact ⟨h, rfl, rfl, h⟩
 .exact h
 .exact h
 .omega
theorem spAV_num (k : Nat) (m : Bool) (p : Sp14) : AV.numL (spAV k m p) = true := by
 unfold spAV
 split <;> rfl
theorem spAV_t (k : Nat) (m : Bool) (p : Sp14) : tellL (spAV k m p) (shSu k m p).ini := by
 rcases k with _ | _ | _ | _ | _ | k <;>
 repeat' first
  | exact trivial
  | refine ⟨⟨rfl, rfl⟩, ?_⟩
  | refine ⟨rfl, ?_⟩
def p14Of : List Nu -> Option Sp14
 | [.n kd, .n c0, .n c1, .n k0, .n k1, .n a0, .n a1, .n a2, .n a3, .t m] => some ⟨kd, c0, c1, k0, k1, a0, a1, a2, a3, m⟩
 | _ => none
def shpV : Nat -> List Itm -> Option (Prop × AV × List ABody) := fun sz its => match its with
 | [.n xs] => match p14Of xs with
  | some p => some (0 <= p.kd, .agg ((shSu (p.kd.tmod 6).toNat p.m p).ini ++ [.lslice sz 0]), [.rows .i64 []])
  | none => none
 | _ => none
theorem shp_ok : NOk Tryz.prog glob hG 5 (lSpec hG [.n (.a p14I)] shpV) := by
 refine lsp_okM hG_ok hG_plain glob_lt (fun sz its p v bs e hp => ?_) ⟨_, Tryz.func5, rfl⟩
 unfold shpV at e
 split at e
 .rename_i xs
  split at e
  .rename_i p hs
   cases e
   unfold p14Of at hs
   split at hs
   .cases hs
    rename_i kd c0 c1 k0 k1 a0 a1 a2 a3 m
    have hp : 0 <= kd := hp
    have h6 : kd.tmod 6 = ((kd.tmod 6).toNat : Int) /\ (kd.tmod 6).toNat < 6 := by
     rw [Int.tmod_eq_emod_of_nonneg hp]
     omega
    refine ⟨trivial, rfl, true, ?_⟩
    have r := sp_all ⟨kd, c0, c1, k0, k1, a0, a1, a2, a3, m⟩ m (kd.tmod 6).toNat h6.2
    unfold SpR rSp at r
    obtain ⟨v0, q, h1, h2, h3, h4⟩ := outL_tells r (spAV_num _ _ _)
    refine ⟨cSp (kd.tmod 6).toNat m, 1000, [.agg (Sp14.cells ⟨kd, c0, c1, k0, k1, a0, a1, a2, a3, m⟩)], _, v0, q, cSp_ok _ _, rfl, rfl, ?_, h1, h2, spNd_t h6.2 h6.1, h3, ?_⟩
    .exact ⟨⟨⟨rfl, rfl⟩, ⟨rfl, rfl⟩, ⟨rfl, rfl⟩, ⟨rfl, rfl⟩, ⟨rfl, rfl⟩, ⟨rfl, rfl⟩, ⟨rfl, rfl⟩, ⟨rfl, rfl⟩, ⟨rfl, rfl⟩, rfl, trivial⟩, trivial⟩
    .exact h4 sz _ _ _ (spAV_t _ _ _) rfl rfl
   .cases hs
  .cases e
 .cases e
def normT (F : NF) : List Itm -> Option (Prop × AV) := fun its => match its with
 | [.s xs n ys, .n [.n a, .n b, .n c, .n d, .n e, .n f]] => match suOf xs with
  | some s => some (okF3 n ys /\ s.g.size < 1000000000, .tuple [.agg (pV F s ys ⟨a, b, c, d, e, f⟩).cells, .int true .i64 (pC F s ys ⟨a, b, c, d, e, f⟩), .int true .i64 (pE F s ys ⟨a, b, c, d, e, f⟩)])
  | none => none
 | _ => none
theorem normT_ok {f : FuncId} (g : NOk Tryz.prog glob hG f (lSpec hG noPa (normV nf0))) : NOk Tryz.prog glob hG f (tSpec hG 3 noPa (normT nf0)) := by
 refine tSpec_ok hG_ok hG_plain glob_lt g fun its p v e hp => ?_
 unfold normT at e
 split at e
 .rename_i xs n ys a b c d e' f'
  split at e
  .rename_i s hs
   cases e
   have hs' := hs
   obtain rfl := suOf_eq hs
   exact ⟨_, by simp only [normV, hs'], hp, rfl, ⟨okF3_emp hp.1, trivial⟩, rfl, ⟨_, rfl⟩, rfl, rfl⟩
  .cases e
 .cases e
end
end Go.Proofs.YtooloakdmdbnaaaGreatDoor.K
namespace Go.Eng
open Go
theorem agg_of_cells {v : Value} (h : 1 < v.cells.toList.length) : v = .agg v.cells.toList.toArray := by
 cases v <;> simp_all [Value.cells]
end Go.Eng
namespace Go.Eng
open Go
noncomputable section
theorem add_viewA {σ : Sg} {h : Hp} {W : World} (r : HRel σ h W) {k : IntKind} {B N : Nat} {fs : List Int} (hne : fs ≠ []) (hc : ∀ i, i < fs.length -> W.cell? ⟨B, N + i, none⟩ = some (.int k (fs.getD i 0)))
  (apart : ∀ i b M, h.get i = some b -> b.body.isDead = false -> σ i = some (B, M) -> b.body.isView = true) :
  HRel (σ.add h.size (B, N)) (h.push0 (.view (fs.map fun n => .int true k n))) W := by
 have hpos : 0 < fs.length := List.length_pos_iff.2 hne
 have row : ∃ K e fr, W.heap[B]? = some (.cells K e fr) /\ ∀ i, i < fs.length -> K[N + i]? = some (.int k (fs.getD i 0)) := by
  have h0 := hc 0 hpos
  unfold World.cell? at h0
  split at h0
  .rename_i K e fr hh
   refine ⟨K, e, fr, hh, fun i hi => ?_⟩
   have := hc i hi
   unfold World.cell? at this
   rw [hh] at this
   simpa using this
  .cases h0
 obtain ⟨K, e, fr, hB, hK⟩ := row
 have hs := Sub.add (x := (B, N)) r.fresh
 have main : BRel (σ.add h.size (B, N)) N (.view (fs.map fun n => .int true k n)) (.cells K e fr) := by
  refine ⟨K, e, fr, rfl, ?_⟩
  have : (K.toList.drop N).take (fs.map fun n => AV.int true k n).length = fs.map (Value.int k) := by
   apply List.ext_getElem?
   intro i
   rw [List.getElem?_take, List.length_map]
   by_cases hi : i < fs.length
   .rw [if_pos hi, List.getElem?_drop, Array.getElem?_toList, hK i hi]
    simp [List.getD_eq_getElem?_getD, hi]
   .rw [if_neg hi, List.getElem?_eq_none (by simpa using hi)]
  rw [this]
  have rels : ∀ l : List Int, VRels (σ.add h.size (B, N)) (l.map fun n => .int true k n) (l.map (Value.int k)) := by
   intro l
   induction l with
   | nil => exact rfl
   | cons a l ih => exact ⟨_, _, rfl, rfl, ih⟩
  exact rels fs
 refine ⟨by have := r.ok; simp only [Hp.ok, Hp.push0, List.length_cons] at this ⊢; omega, fun i b hg hd => ?_, fun i B' M hσ => ?_, fun i j b c B' M M' hg hg' hd hd' e1 e2 => ?_⟩
 .rw [Hp.get_push0] at hg
  split at hg
  .rename_i hi; subst hi; cases hg
   exact ⟨B, N, _, add_here, hB, main⟩
  .obtain ⟨B', M, o, h1, h2, h3⟩ := r.blk i b hg hd
   exact ⟨B', M, o, hs _ _ h1, h2, h3.mono hs⟩
 .unfold Sg.add at hσ
  split at hσ
  .rename_i hi; subst hi; cases hσ
   exact ⟨Nat.lt_succ_self _, (Array.getElem?_eq_some_iff.1 hB).1⟩
  .have := r.dom i B' M hσ
   exact ⟨Nat.lt_succ_of_lt this.1, this.2⟩
 .rw [Hp.get_push0] at hg hg'
  unfold Sg.add at e1 e2
  by_cases hi : i = h.size <;> by_cases hj : j = h.size
  .exact .inl (hi.trans hj.symm)
  .right
   rw [if_pos hi] at e1 hg
   rw [if_neg hj] at e2 hg'
   cases e1; cases hg
   exact ⟨rfl, apart j c M' hg' hd' e2⟩
  .right
   rw [if_neg hi] at e1 hg
   rw [if_pos hj] at e2 hg'
   cases e2; cases hg'
   exact ⟨apart i b M hg hd e1, rfl⟩
  .rw [if_neg hi] at e1 hg
   rw [if_neg hj] at e2 hg'
   exact r.inj i j b c B' M M' hg hg' hd hd' e1 e2
def noM (k : IntKind) (m : Nat) : ABody -> Bool
 | .cells l => Nat.blt l.length m || noK k (.cells l)
 | .rows _ _ => true
 | b => noK k b
theorem apart_of {σ : Sg} {h : Hp} {W : World} (r : HRel σ h W) {k : IntKind} {m : Nat} (hb : (h.blks.all fun b => noM k m b.body) = true) {B N : Nat} {fs : List Int} (hm : 0 < m) (hf : m <= fs.length) (hc : ∀ i, i < fs.length -> W.cell? ⟨B, N + i, none⟩ = some (.int k (fs.getD i 0))) :
  ∀ i b M, h.get i = some b -> b.body.isDead = false -> σ i = some (B, M) -> b.body.isView = true := by
 have hpos : 0 < fs.length := by omega
 have row : ∃ K e fr, W.heap[B]? = some (.cells K e fr) /\ ∀ i, i < fs.length -> K[N + i]? = some (.int k (fs.getD i 0)) := by
  have h0 := hc 0 hpos
  unfold World.cell? at h0
  split at h0
  .rename_i K e fr hh
   refine ⟨K, e, fr, hh, fun i hi => ?_⟩
   have := hc i hi
   unfold World.cell? at this
   rw [hh] at this
   simpa using this
  .cases h0
 obtain ⟨K, e, fr, hB, hK⟩ := row
 intro i b M hg hd hσ
 obtain ⟨B', M', o, h1, h2, h3⟩ := r.blk i b hg hd
 rw [hσ] at h1; cases h1
 rw [hB] at h2; cases h2
 have hbb := List.all_eq_true.1 hb b (by
  have hlt := Hp.get_lt hg
  rw [Hp.get_eq, if_pos hlt] at hg
  exact List.mem_of_getElem? hg)
 cases hbody : b.body with
 | cells l =>
  rw [hbody] at h3 hbb
  obtain ⟨K', e', h4, h5, h6⟩ := h3
  cases h4
  have hlen : l.length = K.size := by have := VRels.length h5; simpa using this.symm
  simp only [noM, Bool.or_eq_true] at hbb
  rcases hbb with hbb | hbb
  .exfalso
   have hlt : l.length < m := Nat.le_of_ble_eq_true hbb
   have h0 := hK (m - 1) (by omega)
   have hN : N + (m - 1) < K.size := (Array.getElem?_eq_some_iff.1 h0).1
   omega
  .have h0 := hK 0 hpos
   have hN : N + 0 < K.size := (Array.getElem?_eq_some_iff.1 h0).1
   obtain ⟨a, ha⟩ : ∃ a, l[N + 0]? = some a := ⟨_, List.getElem?_eq_getElem (by omega)⟩
   obtain ⟨v, hv, hav⟩ := VRels.nth h5 (by rw [nth_eq]; exact ha)
   rw [Array.getElem?_toList, h0] at hv
   cases hv
   have := List.all_eq_true.1 hbb a (List.mem_of_getElem? ha)
   split at this
   .rename_i s' k' n'
    have h8 : Value.int k (fs.getD 0 0) = Value.int k' n' := hav
    cases h8
    simp at this
   .obtain ⟨_, _, _, h8⟩ := hav; cases h8
   .cases this
 | view l => rfl
 | rows ik xs => rfl
 | map es =>
  rw [hbody] at h3
  obtain ⟨_, _, _, h4, _⟩ := h3
  cases h4
 | _ => rw [hbody] at hbb; cases hbb
structure Lst (W : World) (ik : IntKind) (m : Nat) (v : Value) (n : Int) (zs : List Int) : Prop where
 val : ∃ p len c, v = .slice p len c /\ len <= c /\ n = len /\ zs.length = m * len /\ (zs ≠ [] -> ∃ B N, p = some ⟨B, N, none⟩ /\ ∀ i, i < zs.length -> W.cell? ⟨B, N + i, none⟩ = some (.int ik (zs.getD i 0)))
theorem lst_rel {σ : Sg} {h : Hp} {W : World} (r : HRel σ h W) {ik : IntKind} {m : Nat} (hm : 0 < m) (hb : (h.blks.all fun b => noM ik m b.body) = true) {v : Value} {n : Int} {zs : List Int} (b : Lst W ik m v n zs) :
  ∃ τ, Sub σ τ /\ HRel τ (h.push0 (.rows ik zs)) W /\ VRel τ (.lslice h.size n) v := by
 obtain ⟨p, len, c, rfl, hcap, hn, hl, hp⟩ := b
 cases zs with
 | nil =>
  have h0 : len = 0 := by
   rcases Nat.eq_zero_or_pos len with h | h
   .exact h
   .have := Nat.mul_pos hm h
    simp only [List.length_nil] at hl
    omega
  subst h0
  exact ⟨σ, Sub.refl _, view_dead r rfl, p, 0, c, rfl, ⟨hn.symm, hcap⟩, .inl rfl⟩
 | cons f fs =>
  obtain ⟨B, N, rfl, hc⟩ := hp (by simp)
  have h1 : 0 < len := by
   rcases Nat.eq_zero_or_pos len with h | h
   .rw [h, Nat.mul_zero] at hl; cases hl
   .exact h
  have hf : m <= (f :: fs).length := by rw [hl]; exact Nat.le_mul_of_pos_right m h1
  exact ⟨_, Sub.add r.fresh, swap_top (add_viewA r (B := B) (N := N) (k := ik) (fs := f :: fs) (by simp) hc (apart_of r hb hm hf hc)) rfl rfl rfl (fun N o h => view_rows h), some ⟨B, N, none⟩, len, c, rfl, ⟨hn.symm, hcap⟩, .inr ⟨B, N, add_here, rfl⟩⟩
theorem law_struct {P : Program} {W : World} {base : Nat} {σ : Sg} {t : TypeId} {sh : List Sh} (h2 : shapeT P t = some (.a (sh ++ [.c (.any true)]))) {v : Value} (hok : Value.okWide P W .any base t v) {cs : List Value} {last : Value} (hv : v = .agg (cs ++ [last]).toArray) :
  ∃ xs, xs.map Nu.isN = Sh.kindsL sh /\ inRange (Sh.leavesL sh) xs /\ ∀ (τ : Sg) (i : Nat) (n : Int), Sub σ τ -> VRel τ (.lslice i n) last -> VRel τ (.agg ((Sh.mkL sh xs).1 ++ [.lslice i n])) v := by
 obtain ⟨xs, a1, a2, a3⟩ := law_one (σ := σ) h2 hok
 obtain ⟨_, a4⟩ := a3 []
 rw [List.append_nil] at a4
 have kl : ∀ l m : List Sh, Sh.kindsL (l ++ m) = Sh.kindsL l ++ Sh.kindsL m := by
  intro l m
  induction l with
  | nil => rfl
  | cons a l ih => simp [Sh.kindsL, ih]
 have ll : ∀ l m : List Sh, Sh.leavesL (l ++ m) = Sh.leavesL l ++ Sh.leavesL m := by
  intro l m
  induction l with
  | nil => rfl
  | cons a l ih => simp [Sh.leavesL, ih]
 have a1' : xs.map Nu.isN = Sh.kindsL sh := by
  have : xs.map Nu.isN = Sh.kindsL (sh ++ [.c (.any true)]) := a1
  rw [kl] at this; simpa [Sh.kindsL, Sh.kinds] using this
 have drop_any : ∀ (l : List Sh) (zs : List Nu), inRange (l ++ [.c (.any true)]) zs -> inRange l zs := by
  intro l
  induction l with
  | nil => intro zs h; cases zs with
   | nil => trivial
   | cons z zs => simp [inRange] at h
  | cons a l ih => intro zs h; cases a with
   | i k => cases zs with
    | nil => simp [inRange] at h
    | cons z zs => cases z with
     | n x => exact ⟨h.1, ih zs h.2⟩
     | t b => simp [inRange] at h
     | s b => simp [inRange] at h
   | b => cases zs with
    | nil => simp [inRange] at h
    | cons z zs => cases z with
     | n x => simp [inRange] at h
     | t b => exact ih zs h
     | s b => simp [inRange] at h
   | str => cases zs with
    | nil => simp [inRange] at h
    | cons z zs => cases z with
     | n x => simp [inRange] at h
     | t b => simp [inRange] at h
     | s b => exact ih zs h
   | one => cases zs <;> simp [inRange] at h
   | c w =>
    have h' : inRange (l ++ [.c (.any true)]) zs := by cases zs <;> simpa [inRange] using h
    have := ih zs h'
    cases zs <;> simpa [inRange] using this
   | a m => cases zs <;> simp [inRange] at h
 have a2' : inRange (Sh.leavesL sh) xs := by
  have : inRange (Sh.leavesL (sh ++ [.c (.any true)])) xs := a2
  rw [ll] at this
  exact drop_any _ _ this
 have mk_app : ∀ (l : List Sh) (xs : List Nu), (Sh.mkL (l ++ [.c (.any true)]) xs).1 = (Sh.mkL l xs).1 ++ [.any true] := by
  intro l
  induction l with
  | nil => intro xs; rfl
  | cons a l ih => intro xs; simp only [List.cons_append, Sh.mkL, ih]
 refine ⟨xs, a1', a2', fun τ i n sub hfv => ?_⟩
 subst hv
 obtain ⟨K, hK, h5⟩ := a4
 have h6 := VRels.mono sub _ _ h5
 rw [mk_app] at h6
 cases hK
 refine ⟨_, rfl, ?_⟩
 rw [List.toList_toArray] at h6 ⊢
 exact rels_last h6 hfv
theorem cell_plain {W : World} {a : Addr} {v : Value} (h : W.cell? a = some v) : a.spot = none := by
 obtain ⟨B, N, s⟩ := a
 unfold World.cell? at h
 split at h
 .cases s with
  | none => rfl
  | some s => simp at h
 .cases h
theorem films_of {H : Type} {enc : TypeId × Value -> H} {P : Program} {w : World} {base : Nat} {spare : Nat -> Bool} {held : Bool} {fuel t e : Nat} {v : Value} {x : DataW H × List MemPlace} {f0 f1 f2 : Field} (ht : P.underlying t = some (.slice e)) (he : P.underlying e = some (.struct #[f0, f1, f2])) (hc : P.cellsOf e = 3)
  (h0 : P.underlying f0.type = some (.int .i64)) (h1 : P.underlying f1.type = some (.int .i64)) (h2 : P.underlying f2.type = some (.int .i64)) (c0 : P.cellsOf f0.type = 1) (c1 : P.cellsOf f1.type = 1) (c2 : P.cellsOf f2.type = 1) (o0 : f0.offset = 0) (o1 : f1.offset = 1) (o2 : f2.offset = 2)
  (h : DataW.trod enc P w base spare held fuel t [v] = some x) : ∃ n zs, Lst w .i64 3 v n zs := by
 rcases DataW.trod_slice ht h with ⟨h3, _⟩ | ⟨a, len, cap, elems, rest, n, _, h3, _, _, hl, _, hlen, hel, _, _⟩
 .cases h3
  exact ⟨0, [], none, 0, 0, rfl, Nat.le_refl _, rfl, rfl, fun h => absurd rfl h⟩
 .cases h3
  have cell : ∀ i j, i < len -> j < 3 -> ∃ z, w.cell? ((a.add (i * 3)).add j) = some (.int .i64 z) := by
   intro i j hi hj
   have h4 := hel i hi
   rw [hc, List.getElem?_eq_getElem (by omega), Option.bind_eq_some_iff] at h4
   obtain ⟨cs, h5, h6⟩ := h4
   obtain ⟨_, hcl, hcs⟩ := World.cells?_some h5
   obtain ⟨xs, k, _, _, _, hxl, hf⟩ := DataW.trod_struct he h6
   have one : ∀ (q : Nat) (f : Field), #[f0, f1, f2][q]? = some f -> f.offset = q -> P.cellsOf f.type = 1 -> P.underlying f.type = some (.int .i64) -> q < 3 -> ∃ z, cs[q]? = some (.int .i64 z) := by
    intro q f hq ho hcf hu h9
    have h7 := hf q f hq
    have hxs : xs.length = 3 := hxl
    rw [ho, hcf, List.getElem?_eq_getElem (by omega)] at h7
    obtain ⟨z, h8, _⟩ := DataW.trod_int hu h7
    refine ⟨z, ?_⟩
    have : (cs.drop q)[0]? = some (.int .i64 z) := by
     have : ((cs.drop q).take 1)[0]? = some (.int .i64 z) := by rw [h8]; rfl
     rwa [List.getElem?_take, if_pos (by omega)] at this
    simpa using this
   have : ∃ z, cs[j]? = some (.int .i64 z) := by
    rcases j with _ | _ | _ | j
    .exact one 0 f0 rfl o0 c0 h0 (by omega)
    .exact one 1 f1 rfl o1 c1 h1 (by omega)
    .exact one 2 f2 rfl o2 c2 h2 (by omega)
    .omega
   obtain ⟨z, hz⟩ := this
   exact ⟨z, by rw [hcs j hj]; exact hz⟩
  obtain ⟨B, N, spot⟩ := a
  have cell' : ∀ q, q < 3 * len -> spot = none /\ ∃ z, w.cell? ⟨B, N + q, none⟩ = some (.int .i64 z) := by
   intro q hq
   have hs : spot = none := by
    obtain ⟨z, hz⟩ := cell 0 0 (by omega) (by omega)
    simp only [Addr.add, Nat.zero_mul, if_true] at hz
    exact cell_plain hz
   subst hs
   refine ⟨rfl, ?_⟩
   obtain ⟨z, hz⟩ := cell (q / 3) (q % 3) (by omega) (by omega)
   refine ⟨z, ?_⟩
   have e : ((⟨B, N, none⟩ : Addr).add (q / 3 * 3)).add (q % 3) = ⟨B, N + q, none⟩ := by
    unfold Addr.add
    split
    .split
     .have : q = 0 := by omega
      subst this; rfl
     .simp only [Addr.mk.injEq, true_and, and_true]; omega
    .split
     .simp only [Addr.mk.injEq, true_and, and_true]; omega
     .simp only [Addr.mk.injEq, true_and, and_true]; omega
   rw [e] at hz
   exact hz
  refine ⟨len, (List.range (3 * len)).map fun q => (match w.cell? ⟨B, N + q, none⟩ with | some (.int _ z) => z | _ => 0), some ⟨B, N, spot⟩, len, cap, rfl, hl, rfl, by simp, fun hne => ?_⟩
  have hpos : 0 < 3 * len := by
   rcases Nat.eq_zero_or_pos (3 * len) with h | h
   .rw [h] at hne; exact absurd rfl hne
   .exact h
  obtain rfl := (cell' 0 hpos).1
  refine ⟨B, N, rfl, fun q hq => ?_⟩
  simp only [List.length_map, List.length_range] at hq
  obtain ⟨z, hz⟩ := (cell' q hq).2
  rw [hz]
  simp [List.getD_eq_getElem?_getD, hq, hz]
theorem raw_films {H : Type} {enc : TypeId × Value -> H} {P : Program} {W : World} {base : Nat} {spare : Nat -> Bool} {held : Bool} {t e i : Nat} {fs : Array Field} {f f0 f1 f2 : Field} (ht : P.underlying t = some (.struct fs)) (hf : fs[i]? = some f) (hs : P.underlying f.type = some (.slice e)) (he : P.underlying e = some (.struct #[f0, f1, f2])) (ce : P.cellsOf e = 3)
  (h0 : P.underlying f0.type = some (.int .i64)) (h1 : P.underlying f1.type = some (.int .i64)) (h2 : P.underlying f2.type = some (.int .i64)) (c0 : P.cellsOf f0.type = 1) (c1 : P.cellsOf f1.type = 1) (c2 : P.cellsOf f2.type = 1) (o0 : f0.offset = 0) (o1 : f1.offset = 1) (o2 : f2.offset = 2)
  (off : f.offset + 1 = P.cellsOf t) (many : 0 < f.offset) (cf : P.cellsOf f.type = 1)
  {ts : List TypeId} {v : Value} {vs : List Value} {ds : List (DataW H)} {p : List MemPlace} (hA : DataW.TrodAll enc P W base spare held (t :: ts) (v :: vs) ds p) : ∃ cs last, v = .agg (cs ++ [last]).toArray /\ ∃ n zs, Lst W .i64 3 last n zs := by
 cases ds with
 | nil => simp [DataW.TrodAll] at hA
 | cons d ds =>
  obtain ⟨_, _, ⟨fuel, h⟩, _, _⟩ := hA
  obtain ⟨xs, n, _, _, hl, hxl, hff⟩ := DataW.trod_struct ht h
  have h3 := hff i f hf
  have hi : i < fs.size := (Array.getElem?_eq_some_iff.1 hf).1
  rw [List.getElem?_eq_getElem (by omega), cf] at h3
  have hlen : ((v.cells.toList.drop f.offset).take 1).length = 1 := by simp only [List.length_take, List.length_drop]; omega
  obtain ⟨last, hlast⟩ : ∃ last, (v.cells.toList.drop f.offset).take 1 = [last] := by
   match hq : (v.cells.toList.drop f.offset).take 1, hlen with
   | [a], _ => exact ⟨a, rfl⟩
  rw [hlast] at h3
  refine ⟨v.cells.toList.take f.offset, last, ?_, films_of hs he ce h0 h1 h2 c0 c1 c2 o0 o1 o2 h3⟩
  have h4 : v.cells.toList.take f.offset ++ [last] = v.cells.toList := by
   rw [<- hlast, List.take_of_length_le (l := v.cells.toList.drop f.offset) (by simp only [List.length_drop]; omega), List.take_append_drop]
  rw [h4]
  exact agg_of_cells (by omega)
theorem trod_tail {H : Type} {enc : TypeId × Value -> H} {P : Program} {W : World} {base : Nat} {spare : Nat -> Bool} {held : Bool} {t : Nat} {ts : List TypeId} {v : Value} {vs : List Value} {ds : List (DataW H)} {p : List MemPlace} (hA : DataW.TrodAll enc P W base spare held (t :: ts) (v :: vs) ds p) : ∃ ds p, DataW.TrodAll enc P W base spare held ts vs ds p := by
 cases ds with
 | nil => simp [DataW.TrodAll] at hA
 | cons d ds =>
  obtain ⟨_, _, _, h, _⟩ := hA
  exact ⟨_, _, h⟩
end
end Go.Eng
namespace Go.Eng
open Go
noncomputable section
theorem law_walkM {P : Program} {glob : Nat -> Option Nat} {hG : Hp} {ik : IntKind} {m : Nat} (hm : 0 < m) (hb : (hG.blks.all fun b => noM ik m b.body) = true) (old : allOld hG.clock hG.blks = true) (h1 : 0 < hG.clock) {f : FuncId} {ps qs : List TypeId} {t : TypeId} {sh pshs qshs : List Sh}
  (hs1 : shapesT P ps = some pshs) (hs : shapeT P t = some (.a (sh ++ [.c (.any true)]))) (hs2 : shapesT P qs = some qshs)
  (hT : ∀ xs ws ys, xs.map Nu.isN = Sh.kindsL pshs -> inRange (Sh.leavesL pshs) xs -> ws.map Nu.isN = Sh.kindsL sh -> inRange (Sh.leavesL sh) ws -> ys.map Nu.isN = Sh.kindsL qshs -> inRange (Sh.leavesL qshs) ys -> ∀ (k : Int) (zs : List Int), 0 <= k -> zs.length = m * k.toNat ->
   LawTrueH P glob (hG.push0 (.rows ik zs)) f ((Sh.mkL pshs xs).1 ++ .agg ((Sh.mkL sh ws).1 ++ [.lslice hG.size k]) :: (Sh.mkL qshs ys).1))
  {W : World} {base : Nat} {σ : Sg} {A : Array Value} (g : ∀ gl i, glob gl = some i -> ∃ N, σ i = some (gl, N)) (r : HRel σ hG W) {us vs : List Value} {v : Value} (hA : A.toList = us ++ v :: vs) (hu : us.length = ps.length) (hl : vs.length = qs.length)
  {cs : List Value} {last : Value} (hv : v = .agg (cs ++ [last]).toArray) (hlast : ∃ k zs, Lst W ik m last k zs)
  (hok : ∀ (j : Nat) t' v, (ps ++ t :: qs)[j]? = some t' -> A.toList[j]? = some v -> Value.okWide P W .any base t' v) :
  Calls P f A W fun e w' => e = .returned (.bool true) /\ RowKit.Grown W w' /\ ∀ B, B < W.heap.size -> w'.heap[B]? = W.heap[B]? := by
 obtain ⟨k, zs, bq⟩ := hlast
 obtain ⟨xs, b1, b2, b3⟩ := law_args (P := P) (W := W) (base := base) (σ := σ) (ts := ps) (vs := us) hs1 hu fun j t' v' k1 k2 => by
  have h1 := (List.getElem?_eq_some_iff.1 k1).1
  have h2 := (List.getElem?_eq_some_iff.1 k2).1
  exact hok j t' v' (by rw [List.getElem?_append_left h1]; exact k1) (by rw [hA, List.getElem?_append_left h2]; exact k2)
 obtain ⟨_, b4⟩ := b3 []
 rw [List.append_nil] at b4
 obtain ⟨ws, a1, a2, a3⟩ := law_struct (σ := σ) hs (hok ps.length t v (by rw [List.getElem?_append_right (Nat.le_refl _), Nat.sub_self]; rfl) (by rw [hA, <- hu, List.getElem?_append_right (Nat.le_refl _), Nat.sub_self]; rfl)) hv
 obtain ⟨ys, c1, c2, c3⟩ := law_args (P := P) (W := W) (base := base) (σ := σ) (ts := qs) (vs := vs) hs2 hl fun j t' v' k1 k2 =>
  hok (ps.length + 1 + j) t' v' (by rw [List.getElem?_append_right (by omega), show ps.length + 1 + j - ps.length = j + 1 by omega]; exact k1) (by rw [hA, <- hu, List.getElem?_append_right (by omega), show us.length + 1 + j - us.length = j + 1 by omega]; exact k2)
 obtain ⟨_, c4⟩ := c3 []
 rw [List.append_nil] at c4
 obtain ⟨τ, sub, hr, hfv⟩ := lst_rel r hm hb bq
 have hk : 0 <= k /\ zs.length = m * k.toNat := by
  obtain ⟨p, len, c, _, _, rfl, h8, _⟩ := bq
  exact ⟨by omega, by rw [h8, Int.toNat_natCast]⟩
 obtain ⟨C, fuel, nd, s, p, co, rfl, rfl, e1, e2, e3⟩ := hT xs ws ys b1 b2 a1 a2 c1 c2 k zs hk.1 hk.2
 have h9 := a3 τ _ k sub hfv
 have old' : allOld (hG.push0 (.rows ik zs)).clock (hG.push0 (.rows ik zs)).blks = true := by
  show (Nat.blt 0 hG.clock && allOld hG.clock hG.blks) = true
  have : Nat.blt 0 hG.clock = true := Nat.ble_eq_true_of_le h1
  rw [old, this]; rfl
 exact law_calls co old' e1 e2 e3 (fun gl i hi => by obtain ⟨N, hN⟩ := g gl i hi; exact ⟨N, sub _ _ hN⟩) hr (by rw [hA]; exact VRels.append (VRels.mono sub _ _ b4) ⟨v, vs, rfl, h9, VRels.mono sub _ _ c4⟩)
theorem trod_drop {H : Type} {enc : TypeId × Value -> H} {P : Program} {W : World} {base : Nat} {spare : Nat -> Bool} {held : Bool} : ∀ {us : List Value} {ps ts : List TypeId} {vs : List Value} {ds : List (DataW H)} {p : List MemPlace}, us.length = ps.length -> DataW.TrodAll enc P W base spare held (ps ++ ts) (us ++ vs) ds p -> ∃ ds p, DataW.TrodAll enc P W base spare held ts vs ds p
 | [], [], _, _, _, _, _, h => ⟨_, _, h⟩
 | _ :: us, _ :: ps, _, _, _, _, hl, h => by
  obtain ⟨ds', p', h'⟩ := trod_tail h
  exact trod_drop (us := us) (ps := ps) (by simpa using hl) h'
 | [], _ :: _, _, _, _, _, hl, _ => by cases hl
 | _ :: _, [], _, _, _, _, hl, _ => by cases hl
end
end Go.Eng
namespace Go.Proofs.YtooloakdmdbnaaaGreatDoor.K
open Go Go.Eng Go.Ar Go.Rd Go.Vc
noncomputable section
def shpVF (S : Sp14 -> Su) : Nat -> List Itm -> Option (Prop × AV × List ABody) := fun sz its => match its with
 | [.n xs] => match p14Of xs with
  | some p => some (0 <= p.kd, .agg ((S p).ini ++ [.lslice sz 0]), [.rows .i64 []])
  | none => none
 | _ => none
def shS0 (p : Sp14) : Su := shSu (p.kd.tmod 6).toNat p.m p
theorem shpVF_0 : shpVF shS0 = shpV := by kernel_rfl
abbrev BA := Su -> List Int -> Int -> Int -> Int -> Ve -> Ve -> BO
def bendT (A : BA) : List Itm -> Option (Prop × AV) := fun its => match its with
 | [.s xs n ys, .n [.n a], .n [.n b], .n [.n l], .n [.n va, .n vb, .n vc, .n vd, .n ve, .n vf], .n [.n wa, .n wb, .n wc, .n wd, .n we, .n wf]] => match suOf xs with
  | some s => some (okF3 n ys /\ s.g.size < 1000000000, bC (A s ys a b l ⟨va, vb, vc, vd, ve, vf⟩ ⟨wa, wb, wc, wd, we, wf⟩))
  | none => none
 | _ => none
theorem bendT_ok {f : FuncId} (g : NOk Tryz.prog glob hG f (lSpec hG bdPa (bendV bAns))) : NOk Tryz.prog glob hG f (tSpec hG 3 bdPa (bendT bAns)) := by
 refine tSpec_ok hG_ok hG_plain glob_lt g fun its p v e hp => ?_
 unfold bendT at e
 split at e
 .rename_i xs n ys a b l va vb vc vd ve vf wa wb wc wd we wf
  split at e
  .rename_i s hs
   have hs' := hs
   cases e
   obtain rfl := suOf_eq hs
   exact ⟨_, by simp only [bendV, hs'], hp, rfl, ⟨okF3_emp hp.1, trivial⟩, rfl, ⟨_, rfl⟩, rfl, rfl⟩
  .cases e
 .cases e
end
end Go.Proofs.YtooloakdmdbnaaaGreatDoor.K
namespace Go.Proofs.YtooloakdmdbnaaaGreatDoor.K
open Go Go.Eng Go.Ar Go.Rd Go.Vc
noncomputable section
def okI (its : List Itm) : Bool := match its with
 | .s xs n ys :: _ => match suOf xs with
  | some s => decide (n = 0) && (ys.isEmpty && Nat.ble s.g.size 100)
  | none => false
 | _ => false
def plV (V : List Itm -> Option (Prop × AV)) (its : List Itm) : Option AV := match okI its with
 | true => match V its with
  | some (_, v) => some v
  | none => none
 | false => none
theorem okI_p {xs : List Nu} {n : Int} {ys : List Int} {l : List Itm} {s : Su} (h : okI (.s xs n ys :: l) = true) (hs : suOf xs = some s) : okF3 n ys /\ s.g.size < 1000000000 := by
 simp only [okI, hs, Bool.and_eq_true, decide_eq_true_eq] at h
 obtain ⟨rfl, h1, h2⟩ := h
 have : ys = [] := by cases ys with
  | nil => rfl
  | cons a l => cases h1
 subst this
 exact ⟨⟨by decide, by decide, rfl⟩, by have := Nat.le_of_ble_eq_true h2; omega⟩
theorem plV_norm : ∀ its v, plV (normT nf0) its = some v -> ∃ p : Prop, normT nf0 its = some (p, v) /\ p := by
 intro its v e
 unfold plV at e
 split at e
 .rename_i ho
  split at e
  .rename_i p v' hV
   cases e
   refine ⟨p, hV, ?_⟩
   unfold normT at hV
   split at hV
   .split at hV
    .rename_i s hs
     cases hV
     exact okI_p ho hs
    .cases hV
   .cases hV
  .cases e
 .cases e
theorem plV_bend : ∀ its v, plV (bendT bAns) its = some v -> ∃ p : Prop, bendT bAns its = some (p, v) /\ p := by
 intro its v e
 unfold plV at e
 split at e
 .rename_i ho
  split at e
  .rename_i p v' hV
   cases e
   refine ⟨p, hV, ?_⟩
   unfold bendT at hV
   split at hV
   .split at hV
    .rename_i s hs
     cases hV
     exact okI_p ho hs
    .cases hV
   .cases hV
  .cases e
 .cases e
def tblWk : List (FuncId × NSpec) := [(8, tP hG 3 noPa (plV (normT nf0))), (12, tP hG 3 bdPa (plV (bendT bAns))), (61, hp (plainS (sSc scaleS)))]
def cWk : Ctx := mkN Tryz.prog glob hG tblWk [] ext
theorem cWk_ok : CtxOk cWk := mkN_ok prog_ok ext_ok (fun x hx => by
 simp only [tblWk, List.mem_cons, List.not_mem_nil, or_false] at hx
 rcases hx with rfl | rfl | rfl
 .exact tP_ok (normT_ok norm_ok) plV_norm
 .exact tP_ok (bendT_ok bend_ok) plV_bend
 .exact ((rsc_ok.plainS.g _ _).h).n) fun _ h => by cases h
theorem works_run : oneG hG.size hG.clock ((run cWk 5000).call 10 [] hG) = some (.tt, .bool false true) := by kernel_rfl
theorem works_ok : NOk Tryz.prog glob hG 10 (cSpec (.bool false true)) :=
 cSpec_ok hG_ok hG_plain glob_lt cWk_ok rfl rfl ⟨_, Tryz.func10, rfl⟩ works_run trivial rfl rfl
end
end Go.Proofs.YtooloakdmdbnaaaGreatDoor.K
namespace Go.Proofs.YtooloakdmdbnaaaGreatDoor.K
open Go Go.Eng Go.Ar Go.Rd Go.Vc
noncomputable section
def tblBB (A : BA) (S : Sp14 -> Su) : List (FuncId × NSpec) := [(12, tSpec hG 3 bdPa (bendT A)), (13, tSpec hG 3 bdPa (bendT A)), (5, lSpec hG [.n (.a p14I)] (shpVF S)), (10, cSpec (.bool false true))]
def cBB (A : BA) (S : Sp14 -> Su) : Ctx := hinting (mkN Tryz.prog glob hG (tblBB A S) [] ext) (fun _ t => match Nat.beq t 124 || (Nat.beq t 128 || Nat.beq t 133) with
  | true => some (.bool false false)
  | false => none)
structure Th where
 a : Int
 b : Int
 c : Int
 d : Int
 e : Int
 f : Int
 w : Int
 k : Bool
def Th.cells (t : Th) : List AV := [.int true .i16 t.a, .int true .i16 t.b, .int true .i16 t.c, .int true .i16 t.d, .int true .i16 t.e, .int true .i16 t.f, .int true .u8 t.w, .bool true t.k]
structure Md where
 a : Int
 b : Int
 l : Int
 o : Int
 f0 : Int
 f1 : Int
def Md.cells (m : Md) : List AV := [.int true .u16 m.a, .int true .u16 m.b, .int true .u16 m.l, .int true .i8 m.o, .int true .i8 m.f0, .int true .i8 m.f1]
def hBN (zs : List Int) : Hp := hG.push0 (.rows .i64 zs)
def rBB (A : BA) (S : Sp14 -> Su) (p : Sp14) (m : Md) (t : Th) (s : Su) (n : Int) (zs : List Int) (v w : Ve) (x y z : Int) : Option (Nd × AV) :=
 oneG (hBN zs).size (hBN zs).clock ((run (cBB A S) 10000).call 4 [.agg p.cells, .agg m.cells, .agg t.cells, .agg (s.ini ++ [.lslice hG.size n]), .agg (v.cells ++ w.cells), .agg [.int true .i64 x, .int true .i64 y, .int true .i64 z]] (hBN zs))
theorem tblBB_g : ∀ x ∈ tblBB bAns shS0, NOk Tryz.prog glob hG x.1 x.2 := by
 intro x hx
 simp only [tblBB, shpVF_0, List.mem_cons, List.not_mem_nil, or_false] at hx
 rcases hx with rfl | rfl | rfl | rfl
 .exact bendT_ok bend_ok
 .exact bendT_ok rbend_ok
 .exact shp_ok
 .exact works_ok
theorem cBB_ok : CtxOk (cBB bAns shS0) := hinting_ok (mkN_ok prog_ok ext_ok tblBB_g fun _ h => by cases h) _
def ctN (n : Int) : Int := if (10 : Int) < n then (10 : Int) else n
def ctI (s : Su) : Int := if (20 : Int) < (s.g.size : Int) then (20 : Int) else (s.g.size : Int)
def ctS (s : Su) : Su := { s with g := s.g.extract (Int.toNat 0) (ctI s).toNat }
def w64 (x : Int) : Int := IntKind.i64.wrap x
def tP24 : Int := 2 ^ min (Int.toNat 24) IntKind.i64.bits
def tP16 : Int := 2 ^ min (Int.toNat 16) IntKind.i64.bits
def tW (t : Th) : Int := w64 (t.w.tmod 4)
def tL (x : Int) : Int := w64 (w64 x * tP24)
def tH (t : Th) (x i : Int) : Int := w64 (tL x + w64 (tW t * i))
def tM (x : Int) : Int := w64 (w64 x * tP16)
def tN (t : Th) (x : Int) : Int := w64 (tM x + tW t)
def thV (t : Th) : Ve := ⟨bif t.k then tL t.a else tL t.a, bif t.k then tH t t.a 0 else tH t t.a 0, bif t.k then tL t.b else tL t.b, bif t.k then tH t t.b 1 else tH t t.b 1, bif t.k then tL t.c else tL t.c, bif t.k then tH t t.c 0 else tH t t.c 0⟩
def thW (t : Th) : Ve := ⟨bif t.k then tM t.d else tM t.d, bif t.k then tN t t.d else tN t t.d, bif t.k then tM t.e else tM t.e, bif t.k then tN t t.e else tN t t.e, bif t.k then -4294967296 else w64 (4294967296 - tW t), bif t.k then w64 (-4294967296 + tW t) else 4294967296⟩
def veB (v : Ve) : Bool := v.a == v.a && (v.b == v.b && (v.c == v.c && (v.d == v.d && (v.e == v.e && (v.f == v.f && true)))))
def mdQ (S : Su) (m : Md) : Bool := bif S.kd == 1 then bif !eqBytes S.g ⟨#[77, 73, 82, 82, 79, 82]⟩ then m.o.tmod 4 != 0 else false else false
def mdI (b : Bool) (x y : Int) : Int := bif b then x else y
def mdS (S : Su) (m : Md) (b : Bool) : Su := ⟨mdI b S.kd S.kd, mdI b S.c S.c, mdI b S.k S.k, mdI b S.l S.l, mdI b S.m S.m, mdI b S.a0 S.a0, mdI b S.a1 S.a1, mdI b S.a2 S.a2, mdI b S.a3 S.a3, mdI b (w64 (1000 * w64 m.f0)) S.f0, mdI b (w64 (1000 * w64 m.f1)) S.f1, mdI b (w64 (m.o.tmod 4)) S.o, mdI b S.th S.th, bif b then S.g else S.g, mdI b S.se S.se, mdI b S.ho S.ho, mdI b S.dx S.dx, mdI b S.dy S.dy, mdI b S.ax S.ax, mdI b S.ay S.ay, mdI b S.az S.az⟩
def bnE (s : Su) (N : Int) : Prop := s.kd = s.kd /\ s.c = s.c /\ s.k = s.k /\ s.l = s.l /\ s.m = s.m /\ s.a0 = s.a0 /\ s.a1 = s.a1 /\ s.a2 = s.a2 /\ s.a3 = s.a3 /\ s.f0 = s.f0 /\ s.f1 = s.f1 /\ s.o = s.o /\ s.th = s.th /\ (s.g = s.g) /\ s.se = s.se /\ s.ho = s.ho /\ s.dx = s.dx /\ s.dy = s.dy /\ s.ax = s.ax /\ s.ay = s.ay /\ s.az = s.az /\ N = N
def bnO (S : Su) (Y : List Int) (N : Int) : Prop := okF3 N Y /\ S.g.size < 1000000000
def boT (S : Su) (Y : List Int) (N : Int) (R : BO) : Prop := bnO S Y N /\ bnO S Y N /\ (!veB R.v) = false /\ (R.c != R.c) = false /\ (R.e != R.e) = false
def tri (S : Su) (Y : List Int) (N : Int) (R : Ve -> Ve -> BO) (t : Th) (v w : Ve) : Prop := boT S Y N (R (thV t) (thW t)) /\ boT S Y N (R v (thW t)) /\ boT S Y N (R (thV t) w)
def mQ (x : Int) : Int := w64 (10000000 + w64 (250 * w64 x))
def mL (x : Int) : Int := w64 (400000 + w64 (10 * w64 x))
def quad (A : BA) (S : Su) (Y : List Int) (N : Int) (m : Md) (t : Th) (v w : Ve) (x y z : Int) : Prop :=
 tri S Y N (A S Y (mQ m.a) (mQ m.b) (mL m.l)) t v w /\
 tri S Y N (A S Y x (mQ m.b) (mL m.l)) t v w /\
 tri S Y N (A S Y (mQ m.a) y (mL m.l)) t v w /\
 tri S Y N (A S Y (mQ m.a) (mQ m.b) z) t v w
def bbP (A : BA) (S : Sp14 -> Su) (p : Sp14) (m : Md) (t : Th) (s : Su) (n : Int) (zs : List Int) (v w : Ve) (x y z : Int) : Prop :=
 (0 <= p.kd /\ (m.a = m.a /\ m.b = m.b /\ m.l = m.l /\ m.o = m.o /\ m.f0 = m.f0 /\ m.f1 = m.f1) /\ (m.l = m.l /\ m.b = m.b /\ m.a = m.a) /\ (m.l = m.l /\ m.b = m.b) /\ m.l = m.l) /\
 (((0 <= ctN n /\ ctN n <= n) /\ (0 : Int) <= 0 /\ 0 <= ctI s /\ ctI s <= (s.g.size : Int)) /\ bnE (mdS (S p) m (mdQ (S p) m)) (mdI (mdQ (S p) m) 0 0)) /\
 quad A (mdS (S p) m (mdQ (S p) m)) (List.take (3 * (mdI (mdQ (S p) m) 0 0).toNat) []) (mdI (mdQ (S p) m) 0 0) m t v w x y z /\
 quad A (ctS s) (List.take (3 * (ctN n).toNat) zs) (ctN n) m t v w x y z
theorem bb_run (A : BA) (S : Sp14 -> Su) (p : Sp14) (m : Md) (t : Th) (s : Su) (n : Int) (zs : List Int) (v w : Ve) (x y z : Int) : rBB A S p m t s n zs v w x y z = some (.p (bbP A S p m t s n zs v w x y z), .bool false true) := by kernel_rfl
end
end Go.Proofs.YtooloakdmdbnaaaGreatDoor.K
namespace Go.Proofs.YtooloakdmdbnaaaGreatDoor.K
open Go Go.Eng Go.Ar Go.Rd Go.Vc
noncomputable section
theorem veB_t (v : Ve) : veB v = true := by unfold veB; simp only [beq_self_eq_true, Bool.and_true]
theorem boT_t {S : Su} {Y : List Int} {N : Int} {R : BO} (h : bnO S Y N) : boT S Y N R := ⟨h, h, by rw [veB_t]; rfl, bne_self_eq_false _, bne_self_eq_false _⟩
theorem tri_t {S : Su} {Y : List Int} {N : Int} {R : Ve -> Ve -> BO} {t : Th} {v w : Ve} (h : bnO S Y N) : tri S Y N R t v w := ⟨boT_t h, boT_t h, boT_t h⟩
theorem quad_t {A : BA} {S : Su} {Y : List Int} {N : Int} {m : Md} {t : Th} {v w : Ve} {x y z : Int} (h : bnO S Y N) : quad A S Y N m t v w x y z := ⟨tri_t h, tri_t h, tri_t h, tri_t h⟩
theorem shS0_g (p : Sp14) : (shS0 p).g.size <= 6 := by
 have hm : ∀ m, (mirG m).size <= 6 := fun m => by cases m <;> decide
 have h0 : (⟨#[]⟩ : ByteArray).size <= 6 := by decide
 unfold shS0 shSu
 split <;> first | exact hm _ | exact h0
theorem bbP_t {p : Sp14} {m : Md} {t : Th} {s : Su} {n : Int} {zs : List Int} {v w : Ve} {x y z : Int} (hp : 0 <= p.kd) (h0 : 0 <= n) (hl : zs.length = 3 * n.toNat) : bbP bAns shS0 p m t s n zs v w x y z := by
 have hS := shS0_g p
 have hm : ∀ b, mdI b 0 0 = 0 := fun b => by cases b <;> rfl
 have hM : ∀ b, (mdS (shS0 p) m b).g.size <= 6 := fun b => by cases b <;> exact hS
 have hn : 0 <= ctN n /\ ctN n <= n /\ ctN n <= 10 := by unfold ctN; split <;> omega
 have hi : 0 <= ctI s /\ ctI s <= (s.g.size : Int) /\ ctI s <= 20 := by unfold ctI; split <;> omega
 have hg : (ctS s).g.size <= 20 := by
  show (s.g.extract (Int.toNat 0) (ctI s).toNat).size <= 20
  rw [ByteArray.size_extract]
  omega
 have hC : bnO (ctS s) (List.take (3 * (ctN n).toNat) zs) (ctN n) := ⟨⟨hn.1, by omega, by rw [List.length_take, hl]; omega⟩, by omega⟩
 refine ⟨⟨hp, ?_⟩, ⟨⟨⟨hn.1, hn.2.1⟩, Int.le_refl _, hi.1, hi.2.1⟩, ?_⟩, ?_, quad_t hC⟩
 .simp only [and_self]
 .unfold bnE
  simp only [and_self]
 .rw [hm]
  have := hM (mdQ (shS0 p) m)
  exact quad_t ⟨⟨by decide, by decide, rfl⟩, by omega⟩
def preBB : List Sh := [.a p14I, .a [.i .u16, .i .u16, .i .u16, .i .i8, .i .i8, .i .i8], .a [.i .i16, .i .i16, .i .i16, .i .i16, .i .i16, .i .i16, .i .u8, .b]]
def postBB : List Sh := [.a [.i .i64, .i .i64, .i .i64, .i .i64, .i .i64, .i .i64, .i .i64, .i .i64, .i .i64, .i .i64, .i .i64, .i .i64], .a [.i .i64, .i .i64, .i .i64]]
theorem kn5 {xs : List Nu} {l : List Nat} (h : xs.map Nu.isN = 0 :: 0 :: 0 :: 0 :: 0 :: l) : ∃ a b c d e ys, xs = .n a :: .n b :: .n c :: .n d :: .n e :: ys /\ ys.map Nu.isN = l := by
 obtain ⟨a, _, rfl, i⟩ := kn h; obtain ⟨b, _, rfl, j⟩ := kn i; obtain ⟨c, _, rfl, k⟩ := kn j; obtain ⟨d, _, rfl, m⟩ := kn k; obtain ⟨e, _, rfl, n⟩ := kn m
 exact ⟨a, b, c, d, e, _, rfl, n⟩
theorem bb_true : ∀ xs ws ys, xs.map Nu.isN = Sh.kindsL preBB -> inRange (Sh.leavesL preBB) xs -> ws.map Nu.isN = Sh.kindsL suI -> inRange (Sh.leavesL suI) ws -> ys.map Nu.isN = Sh.kindsL postBB -> inRange (Sh.leavesL postBB) ys -> ∀ (k : Int) (zs : List Int), 0 <= k -> zs.length = 3 * k.toNat ->
  LawTrueH Tryz.prog glob (hG.push0 (.rows .i64 zs)) 4 ((Sh.mkL preBB xs).1 ++ .agg ((Sh.mkL suI ws).1 ++ [.lslice hG.size k]) :: (Sh.mkL postBB ys).1) := by
 intro xs ws ys hx rx hw rw0 hy ry k zs hk hl
 obtain ⟨x0, x1, x2, x3, x4, _, rfl, a0⟩ := kn5 hx
 obtain ⟨x5, _, rfl, a1⟩ := kn a0
 obtain ⟨x6, _, rfl, a2⟩ := kn a1
 obtain ⟨x7, _, rfl, a3⟩ := kn a2
 obtain ⟨x8, _, rfl, a4⟩ := kn a3
 obtain ⟨x9, _, rfl, a5⟩ := kt a4
 obtain ⟨x10, x11, x12, x13, x14, _, rfl, a6⟩ := kn5 a5
 obtain ⟨x15, x16, x17, x18, x19, _, rfl, a7⟩ := kn5 a6
 obtain ⟨x20, _, rfl, a8⟩ := kn a7
 obtain ⟨x21, _, rfl, a9⟩ := kn a8
 obtain ⟨x22, _, rfl, a10⟩ := kn a9
 obtain ⟨x23, _, rfl, a11⟩ := kt a10
 obtain rfl := k0 a11
 obtain ⟨s0, s1, s2, s3, s4, _, rfl, b0⟩ := kn5 hw
 obtain ⟨s5, s6, s7, s8, s9, _, rfl, b1⟩ := kn5 b0
 obtain ⟨s10, _, rfl, b2⟩ := kn b1
 obtain ⟨s11, _, rfl, b3⟩ := kn b2
 obtain ⟨s12, _, rfl, b4⟩ := kn b3
 obtain ⟨s13, _, rfl, b5⟩ := ks b4
 obtain ⟨s14, s15, s16, s17, s18, _, rfl, b6⟩ := kn5 b5
 obtain ⟨s19, _, rfl, b7⟩ := kn b6
 obtain ⟨s20, _, rfl, b8⟩ := kn b7
 obtain rfl := k0 b8
 obtain ⟨y0, y1, y2, y3, y4, _, rfl, c0⟩ := kn5 hy
 obtain ⟨y5, y6, y7, y8, y9, _, rfl, c1⟩ := kn5 c0
 obtain ⟨y10, y11, y12, y13, y14, _, rfl, c2⟩ := kn5 c1
 obtain rfl := k0 c2
 obtain ⟨w0, -⟩ := rx
 exact ⟨cBB bAns shS0, 10000, _, _, _, cBB_ok, rfl, rfl, bb_run bAns shS0 ⟨x0, x1, x2, x3, x4, x5, x6, x7, x8, x9⟩ ⟨x10, x11, x12, x13, x14, x15⟩ ⟨x16, x17, x18, x19, x20, x21, x22, x23⟩ ⟨s0, s1, s2, s3, s4, s5, s6, s7, s8, s9, s10, s11, s12, s13, s14, s15, s16, s17, s18, s19, s20⟩ k zs ⟨y0, y1, y2, y3, y4, y5⟩ ⟨y6, y7, y8, y9, y10, y11⟩ y12 y13 y14, bbP_t w0.1 hk hl, rfl⟩
end
end Go.Proofs.YtooloakdmdbnaaaGreatDoor.K
