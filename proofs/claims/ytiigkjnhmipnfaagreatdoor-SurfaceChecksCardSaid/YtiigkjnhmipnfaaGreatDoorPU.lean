/- What is proved: SurfaceChecks returns true, whatever the input (part 21 of 28). No conditions beyond those of the row. -/
import Derived.Test.YtiigkjnhmipnfaaGreatDoorPL
import Derived.Test.YtiigkjnhmipnfaaGreatDoorPM
import Derived.Test.YtiigkjnhmipnfaaGreatDoorPO
import Derived.Test.YtiigkjnhmipnfaaGreatDoorPT
set_option linter.unusedVariables false
set_option linter.unusedSimpArgs false
set_option linter.unusedSectionVars false
namespace Go.Proofs.YtiigkjnhmipnfaaGreatDoor
open Go Go.Eng
theorem call77 : MemoOk Tryz.prog glob hG (14, [], (.bool false true)) := known table5_ok (by kernel_rfl) (by kernel_rfl) (by kernel_rfl)
end Go.Proofs.YtiigkjnhmipnfaaGreatDoor
namespace Go.Proofs.YtiigkjnhmipnfaaGreatDoor.K
open Go Go.Eng Go.Ar Go.Rd
noncomputable section
end
end Go.Proofs.YtiigkjnhmipnfaaGreatDoor.K
namespace Go.Rd
open Go Go.Eng Go.Ar
end Go.Rd
namespace Go.Proofs.YtiigkjnhmipnfaaGreatDoor.K
open Go Go.Eng Go.Ar Go.Rd
noncomputable section
def tblRH : List (FuncId × NSpec) := [(59, lSpec hG [.s suI .i64] (suV rightA))]
theorem tblRH_g : ∀ x ∈ tblRH, NOk Tryz.prog glob hG x.1 x.2 := by
 intro x hx
 simp only [tblRH, List.mem_cons, List.not_mem_nil, or_false] at hx
 subst hx
 exact rightA_ok
def cRH : Ctx := mkN Tryz.prog glob hG tblRH [] ext
theorem cRH_ok : CtxOk cRH := mkN_ok prog_ok ext_ok tblRH_g fun _ h => by cases h
end
end Go.Proofs.YtiigkjnhmipnfaaGreatDoor.K
namespace Go.Rd
open Go Go.Eng Go.Ar
section
variable (S : Su) (Y : List Int) (N p v : Int)
end
section
variable {S : Su} {Y : List Int} {N p v : Int}
end
end Go.Rd
namespace Go.Rd
open Go Go.Eng Go.Ar
structure PF where
 gS : Su → List Int → Int → Int
 mS : Su → List Int → Int → Int
 hB : Su → List Int → Int → Bool
 sF : Su → List Int → Int → Int → Su
 sY : Su → List Int → Int → Int → List Int
 sN : Su → List Int → Int → Int → Int → Int
 sE : Su → List Int → Int → Int → Int
 sm : Su → Su → List Int → List Int → Bool
 dS : Df → Su
 dY : Df → List Int → List Int
 dN : Df → List Int → Int
 bS : Bn → Su → Su
 bY : Bn → Int → List Int → List Int
 bN : Bn → Int → Int
section
variable (S : Su) (Y : List Int) (N v : Int)
def paE : Prop := S.kd = S.kd ∧ S.c = S.c ∧ S.k = S.k ∧ S.l = S.l ∧ S.m = S.m ∧ S.a0 = S.a0 ∧ S.a1 = S.a1 ∧ S.a2 = S.a2 ∧ S.a3 = S.a3 ∧ S.f0 = S.f0 ∧ S.f1 = S.f1 ∧ S.o = S.o ∧ S.th = S.th ∧ S.g = S.g ∧ S.se = S.se ∧ S.ho = S.ho ∧ S.dx = S.dx ∧ S.dy = S.dy ∧ S.ax = S.ax ∧ S.ay = S.ay ∧ S.az = S.az ∧ N = N
variable (F : PF)
end
section
variable {S : Su} {Y : List Int} {N v : Int}
end
section
variable (d : Df) (n : Int) (zs : List Int) (b : Bn) (p v : Int)
variable (F : PF)
end
end Go.Rd
namespace Go.Proofs.YtiigkjnhmipnfaaGreatDoor.K
open Go Go.Eng Go.Ar Go.Rd
noncomputable section
def cSmH (l : List (Nat × Nat × Bool)) : Ctx := hinting (mkG Tryz.prog glob hG [] ext) (hT l)
theorem cSmH_ok (l : List (Nat × Nat × Bool)) : CtxOk (cSmH l) := hinting_ok (mkG_ok prog_ok ext_ok fun _ h => by cases h) _
def rsL (l : List (Nat × Nat × Bool)) (f : FuncId) (s t : Su) (n m : Int) (ys zs : List Int) : Option (Nd × AV) := rsm (cSmH l) true f s t (.lslice hG.size n) (.lslice (hG.size + 1) m) ys zs
theorem sm_ne (s t : Su) (n m : Int) (ys zs : List Int) : rsL [(0, 10, true)] 20 s t n m ys zs = some (.p (paE t m ∧ (nP s t = true → (n != m) = true)), .bool false false) := by kernel_rfl
theorem rsm_ne (s t : Su) (n m : Int) (ys zs : List Int) : rsL [(0, 12, true)] 21 s t n m ys zs = some (.p ((n != m) = true), .bool false false) := by kernel_rfl
def sameA : Nat → List Itm → Option (Prop × AV × List ABody) := fun _ its => match its with
 | [.s xs n ys, .s us m zs] => match suOf xs, suOf us with
  | some s, some t => some (okF3 n ys ∧ okF3 m zs, .bool true (sameS s t ys zs), [])
  | _, _ => none
 | _ => none
theorem sameA_gen {f : FuncId} {nd : Su → Su → Nd} {g : Su → Su → List Int → List Int → Bool} (fn : ∃ fn : Func, Tryz.prog.funcs[f]? = some fn ∧ fn.body.isSome = true)
  (hr : ∀ (s t : Su) (x y : Nat → Int) (k : Nat), k ≤ 12 → rsk cHas f s t k x y = some (nd s t, .bool true (g s t (spinF (3 * k) 0 x) (spinF (3 * k) 0 y)))) (hn : ∀ s t, (nd s t).val) (hg : ∀ s t ys zs, ys.length = zs.length → g s t ys zs = sameS s t ys zs)
  {l : List (Nat × Nat × Bool)} {nd2 : Su → Su → Int → Int → Nd} (hr2 : ∀ (s t : Su) (n m : Int) (ys zs : List Int), rsL l f s t n m ys zs = some (nd2 s t n m, .bool false false)) (hn2 : ∀ s t n m, n ≠ m → (nd2 s t n m).val) : NOk Tryz.prog glob hG f (lSpec hG smPa sameA) := by
 refine lsp_okM hG_ok hG_plain glob_lt (fun sz its p v bs e hp => ?_) fn
 unfold sameA at e
 split at e
 ·rename_i xs n ys us m zs
  split at e
  ·rename_i s t hs ht
   cases e
   obtain ⟨h1, h2⟩ := hp
   obtain rfl := suOf_eq hs
   obtain rfl := suOf_eq ht
   by_cases h3 : n = m
   ·subst h3
    refine ⟨⟨okF3_emp h1, okF3_emp h2, trivial⟩, rfl, false, ?_⟩
    obtain ⟨k, x, hk, rfl, rfl⟩ := okF3_of h1
    obtain ⟨k', y, hk', e2, rfl⟩ := okF3_of h2
    obtain rfl : k = k' := by omega
    have r := hr s t x y k hk
    unfold rsk rsm at r
    obtain ⟨q, a1, a2, a3, a4⟩ := oneG_tells r rfl
    refine ⟨cHas, 1000, suPair s t (.pslice hG.size k false k) (.pslice (hG.size + 1) k false k), nd s t, _, q, cHas_ok, rfl, rfl, ?_, a1, a2, hn s t, a3, a4 sz _ ?_⟩
    ·exact ⟨tellL_app (tell_ini s) ⟨⟨rfl, Nat.le_refl _, rfl⟩, trivial⟩, tellL_app (tell_ini t) ⟨⟨rfl, Nat.le_refl _, rfl⟩, trivial⟩, trivial⟩
    ·exact hg s t _ _ (by rw [spinF_len, spinF_len])
   ·refine ⟨⟨okF3_emp h1, okF3_emp h2, trivial⟩, rfl, true, ?_⟩
    have r := hr2 s t n m ys zs
    unfold rsL rsm at r
    obtain ⟨q, a1, a2, a3, a4⟩ := oneG_tells r rfl
    refine ⟨cSmH l, 1000, suPair s t (.lslice hG.size n) (.lslice (hG.size + 1) m), nd2 s t n m, _, q, cSmH_ok l, rfl, rfl, ?_, a1, a2, hn2 s t n m h3, a3, a4 sz _ ?_⟩
    ·exact ⟨tellL_app (tell_ini s) ⟨rfl, trivial⟩, tellL_app (tell_ini t) ⟨rfl, trivial⟩, trivial⟩
    ·show false = sameS s t ys zs
     have hl : ys.length ≠ zs.length := fun h => h3 (by have a := h1.2.2; have b := h2.2.2; have := h1.1; have := h2.1; omega)
     unfold sameS
     rw [decide_eq_false hl]
     cases nP s t <;> rfl
  ·cases e
 ·cases e
theorem sameA_ok : NOk Tryz.prog glob hG 20 (lSpec hG smPa sameA) :=
 sameA_gen (nd := fun _ t => .p (suQ t)) (g := smP) ⟨_, Tryz.func20, rfl⟩ (fun s t x y k hk => sm_all s t x y k hk) (fun _ t => suQ_t t) (fun s t _ _ h => smP_eq s t h)
  (nd2 := fun s t n m => .p (paE t m ∧ (nP s t = true → (n != m) = true))) (fun s t n m ys zs => sm_ne s t n m ys zs) fun s t n m h => ⟨by unfold paE; simp only [and_self], fun _ => bne_iff_ne.2 h⟩
theorem rsameA_ok : NOk Tryz.prog glob hG 21 (lSpec hG smPa sameA) :=
 sameA_gen (nd := fun _ _ => .tt) (g := smR) ⟨_, Tryz.func21, rfl⟩ (fun s t x y k hk => rsm_all s t x y k hk) (fun _ _ => trivial) (fun s t _ _ h => smR_eq s t h)
  (nd2 := fun s t n m => .p ((n != m) = true)) (fun s t n m ys zs => rsm_ne s t n m ys zs) fun s t n m h => bne_iff_ne.2 h
def rchk (s : Su) (n : Int) (ys : List Int) : Option (Nd × AV) := oneG (viewsH true hG [(.i64, ys)]).size hG.clock ((run cRH 1000).call 19 [.agg (s.ini ++ [.lslice hG.size n])] (viewsH true hG [(.i64, ys)]))
theorem rchk_run (s : Su) (n : Int) (ys : List Int) : rchk s n ys = some (.p (okF3 n ys ∧ s.g.size < 1000000000), .int true .i64 (bif rightS s ys then 0 else 110)) := by kernel_rfl
theorem rchkA_ok : NOk Tryz.prog glob hG 19 (lSpec hG [.s suI .i64] (suV chkA)) := by
 refine lsp_ok true hG_ok hG_plain glob_lt (fun sz its p v bs e hp => ?_) ⟨_, Tryz.func19, rfl⟩
 unfold suV at e
 split at e
 ·rename_i xs n ys
  split at e
  ·rename_i s hs
   cases e
   obtain rfl := suOf_eq hs
   refine ⟨⟨okF3_emp hp.1, trivial⟩, rfl, ?_⟩
   have r := rchk_run s n ys
   unfold rchk at r
   obtain ⟨q, a1, a2, a3, a4⟩ := oneG_tells r rfl
   exact ⟨cRH, 1000, [AV.agg (s.ini ++ [AV.lslice hG.size n])], _, _, q, cRH_ok, rfl, rfl, ⟨tellL_app (tell_ini s) ⟨rfl, trivial⟩, trivial⟩, a1, a2, hp, a3, a4 sz _ ⟨rfl, rfl⟩⟩
  ·cases e
 ·cases e
end
end Go.Proofs.YtiigkjnhmipnfaaGreatDoor.K
