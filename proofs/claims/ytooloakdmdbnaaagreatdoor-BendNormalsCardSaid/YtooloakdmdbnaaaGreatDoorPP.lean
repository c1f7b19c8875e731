/- What is proved: BendNormals returns true, whatever the input (part 16 of 30). No conditions beyond those of the row. -/
import Derived.Test.YtooloakdmdbnaaaGreatDoorPO
set_option linter.unusedVariables false
set_option linter.unusedSimpArgs false
set_option linter.unusedSectionVars false
namespace Go.Proofs.YtooloakdmdbnaaaGreatDoor.K
open Go Go.Eng Go.Ar Go.Rd Go.Vc
noncomputable section
def spC (x : Int) : Int := IntKind.i64.wrap (1000 * IntKind.i64.wrap x)
def spK (x : Int) : Int := IntKind.i64.wrap (250 * IntKind.i64.wrap x)
def spA (x : Int) : Int := IntKind.i64.wrap (100 * IntKind.i64.wrap x)
def mirG (m : Bool) : ByteArray := match m with | true => ⟨#[77, 73, 82, 82, 79, 82]⟩ | false => ⟨#[]⟩
def su0x : Su := ⟨0, 0, 0, 0, 0, 0, 0, 0, 0, 0, 0, 0, 0, ⟨#[]⟩, 0, 0, 0, 0, 0, 0, 0⟩
def shSu (k : Nat) (m : Bool) (p : Sp14) : Su := match k with
 | 0 => { su0x with kd := 1, c := spC p.c0, k := spK p.k0, g := mirG m }
 | 1 => { su0x with kd := 1, c := spC p.c0, k := spK p.k0, g := mirG m }
 | 2 => { su0x with kd := 1, c := spC p.c0, k := spK p.k0, g := mirG m, a0 := spA p.a0, a1 := spA p.a1, a2 := spA p.a2, a3 := spA p.a3 }
 | 3 => { su0x with kd := 2, c := spC p.c0, k := spK p.k0, g := mirG m, l := spC p.c1, m := spK p.k1 }
 | 4 => { su0x with kd := 4, c := spC p.c0 }
 | _ => { su0x with kd := 3 }
def pZz : AV := .int false .i64 0
def iv (x : Int) : AV := .int true .i64 x
def spAV (k : Nat) (m : Bool) (p : Sp14) : List AV := match k with
 | 0 => [.int false .i64 1, iv (spC p.c0), iv (spK p.k0), pZz, pZz, pZz, pZz, pZz, pZz, pZz, pZz, pZz, pZz, .str false (mirG m), pZz, pZz, pZz, pZz, pZz, pZz, pZz]
 | 1 => [.int false .i64 1, iv (spC p.c0), iv (spK p.k0), pZz, pZz, pZz, pZz, pZz, pZz, pZz, pZz, pZz, pZz, .str false (mirG m), pZz, pZz, pZz, pZz, pZz, pZz, pZz]
 | 2 => [.int false .i64 1, iv (spC p.c0), iv (spK p.k0), pZz, pZz, iv (spA p.a0), iv (spA p.a1), iv (spA p.a2), iv (spA p.a3), pZz, pZz, pZz, pZz, .str false (mirG m), pZz, pZz, pZz, pZz, pZz, pZz, pZz]
 | 3 => [.int false .i64 2, iv (spC p.c0), iv (spK p.k0), iv (spC p.c1), iv (spK p.k1), pZz, pZz, pZz, pZz, pZz, pZz, pZz, pZz, .str false (mirG m), pZz, pZz, pZz, pZz, pZz, pZz, pZz]
 | 4 => [.int false .i64 4, iv (spC p.c0), pZz, pZz, pZz, pZz, pZz, pZz, pZz, pZz, pZz, pZz, pZz, .str false ⟨#[]⟩, pZz, pZz, pZz, pZz, pZz, pZz, pZz]
 | _ => [.int false .i64 3, pZz, pZz, pZz, pZz, pZz, pZz, pZz, pZz, pZz, pZz, pZz, pZz, .str false ⟨#[]⟩, pZz, pZz, pZz, pZz, pZz, pZz, pZz]
def spNd (k : Nat) (m : Bool) (p : Sp14) : Prop := match k with
 | 0 => p.kd.tmod 6 = 0 ∧ p.m = m ∧ p.kd.tmod 6 = 0
 | 1 => p.kd.tmod 6 = 1 ∧ p.m = m ∧ p.kd.tmod 6 = 1
 | 2 => p.kd.tmod 6 = 2 ∧ p.m = m ∧ p.kd.tmod 6 = 2
 | 3 => p.kd.tmod 6 = 3 ∧ p.m = m ∧ p.k1 = p.k1 ∧ p.kd.tmod 6 = 3
 | 4 => p.kd.tmod 6 = 4
 | _ => p.kd.tmod 6 = 5
def SpR (p : Sp14) (k : Nat) (m : Bool) : Prop := rSp k m p = some (.p (spNd k m p), spAV k m p, 0, [])
theorem sp_0t (p : Sp14) : SpR p 0 true := by unfold SpR; kernel_rfl
theorem sp_0f (p : Sp14) : SpR p 0 false := by unfold SpR; kernel_rfl
theorem sp_1t (p : Sp14) : SpR p 1 true := by unfold SpR; kernel_rfl
theorem sp_1f (p : Sp14) : SpR p 1 false := by unfold SpR; kernel_rfl
theorem sp_2t (p : Sp14) : SpR p 2 true := by unfold SpR; kernel_rfl
theorem sp_2f (p : Sp14) : SpR p 2 false := by unfold SpR; kernel_rfl
theorem sp_3t (p : Sp14) : SpR p 3 true := by unfold SpR; kernel_rfl
theorem sp_3f (p : Sp14) : SpR p 3 false := by unfold SpR; kernel_rfl
theorem sp_4t (p : Sp14) : SpR p 4 true := by unfold SpR; kernel_rfl
theorem sp_4f (p : Sp14) : SpR p 4 false := by unfold SpR; kernel_rfl
theorem sp_5t (p : Sp14) : SpR p 5 true := by unfold SpR; kernel_rfl
theorem sp_5f (p : Sp14) : SpR p 5 false := by unfold SpR; kernel_rfl
theorem sp_all (p : Sp14) (m : Bool) : ∀ k : Nat, k < 6 → SpR p k m := fun k h => match k, m, h with
 | 0, true, _ => sp_0t p
 | 0, false, _ => sp_0f p
 | 1, true, _ => sp_1t p
 | 1, false, _ => sp_1f p
 | 2, true, _ => sp_2t p
 | 2, false, _ => sp_2f p
 | 3, true, _ => sp_3t p
 | 3, false, _ => sp_3f p
 | 4, true, _ => sp_4t p
 | 4, false, _ => sp_4f p
 | 5, true, _ => sp_5t p
 | 5, false, _ => sp_5f p
 | k + 6, _, h => absurd h (by omega)
theorem spNd_t {p : Sp14} {k : Nat} (hk : k < 6) (h : p.kd.tmod 6 = k) : spNd k p.m p := by
 rcases k with _ | _ | _ | _ | _ | _ | k
 ·exact ⟨h, rfl, h⟩
 ·exact ⟨h, rfl, h⟩
 ·exact ⟨h, rfl, h⟩
 ·exact ⟨h, rfl, rfl, h⟩
 ·exact h
 ·exact h
 ·omega
theorem spAV_num (k : Nat) (m : Bool) (p : Sp14) : AV.numL (spAV k m p) = true := by
 unfold spAV
 split <;> rfl
theorem spAV_t (k : Nat) (m : Bool) (p : Sp14) : tellL (spAV k m p) (shSu k m p).ini := by
 rcases k with _ | _ | _ | _ | _ | k <;>
 repeat' first
  | exact trivial
  | refine ⟨⟨rfl, rfl⟩, ?_⟩
  | refine ⟨rfl, ?_⟩
def p14Of : List Nu → Option Sp14
 | [.n kd, .n c0, .n c1, .n k0, .n k1, .n a0, .n a1, .n a2, .n a3, .t m] => some ⟨kd, c0, c1, k0, k1, a0, a1, a2, a3, m⟩
 | _ => none
def shpV : Nat → List Itm → Option (Prop × AV × List ABody) := fun sz its => match its with
 | [.n xs] => match p14Of xs with
  | some p => some (0 ≤ p.kd, .agg ((shSu (p.kd.tmod 6).toNat p.m p).ini ++ [.lslice sz 0]), [.rows .i64 []])
  | none => none
 | _ => none
theorem shp_ok : NOk Tryz.prog glob hG 5 (lSpec hG [.n (.a p14I)] shpV) := by
 refine lsp_okM hG_ok hG_plain glob_lt (fun sz its p v bs e hp => ?_) ⟨_, Tryz.func5, rfl⟩
 unfold shpV at e
 split at e
 ·rename_i xs
  split at e
  ·rename_i p hs
   cases e
   unfold p14Of at hs
   split at hs
   ·cases hs
    rename_i kd c0 c1 k0 k1 a0 a1 a2 a3 m
    have hp : 0 ≤ kd := hp
    have h6 : kd.tmod 6 = ((kd.tmod 6).toNat : Int) ∧ (kd.tmod 6).toNat < 6 := by
     rw [Int.tmod_eq_emod_of_nonneg hp]
     omega
    refine ⟨trivial, rfl, true, ?_⟩
    have r := sp_all ⟨kd, c0, c1, k0, k1, a0, a1, a2, a3, m⟩ m (kd.tmod 6).toNat h6.2
    unfold SpR rSp at r
    obtain ⟨v0, q, h1, h2, h3, h4⟩ := outL_tells r (spAV_num _ _ _)
    refine ⟨cSp (kd.tmod 6).toNat m, 1000, [.agg (Sp14.cells ⟨kd, c0, c1, k0, k1, a0, a1, a2, a3, m⟩)], _, v0, q, cSp_ok _ _, rfl, rfl, ?_, h1, h2, spNd_t h6.2 h6.1, h3, ?_⟩
    ·exact ⟨⟨⟨rfl, rfl⟩, ⟨rfl, rfl⟩, ⟨rfl, rfl⟩, ⟨rfl, rfl⟩, ⟨rfl, rfl⟩, ⟨rfl, rfl⟩, ⟨rfl, rfl⟩, ⟨rfl, rfl⟩, ⟨rfl, rfl⟩, rfl, trivial⟩, trivial⟩
    ·exact h4 sz _ _ _ (spAV_t _ _ _) rfl rfl
   ·cases hs
  ·cases e
 ·cases e
def normT (F : NF) : List Itm → Option (Prop × AV) := fun its => match its with
 | [.s xs n ys, .n [.n a, .n b, .n c, .n d, .n e, .n f]] => match suOf xs with
  | some s => some (okF3 n ys ∧ s.g.size < 1000000000, .tuple [.agg (pV F s ys ⟨a, b, c, d, e, f⟩).cells, .int true .i64 (pC F s ys ⟨a, b, c, d, e, f⟩), .int true .i64 (pE F s ys ⟨a, b, c, d, e, f⟩)])
  | none => none
 | _ => none
theorem normT_ok {f : FuncId} (g : NOk Tryz.prog glob hG f (lSpec hG noPa (normV nf0))) : NOk Tryz.prog glob hG f (tSpec hG 3 noPa (normT nf0)) := by
 refine tSpec_ok hG_ok hG_plain glob_lt g fun its p v e hp => ?_
 unfold normT at e
 split at e
 ·rename_i xs n ys a b c d e' f'
  split at e
  ·rename_i s hs
   cases e
   have hs' := hs
   obtain rfl := suOf_eq hs
   exact ⟨_, by simp only [normV, hs'], hp, rfl, ⟨okF3_emp hp.1, trivial⟩, rfl, ⟨_, rfl⟩, rfl, rfl⟩
  ·cases e
 ·cases e
end
end Go.Proofs.YtooloakdmdbnaaaGreatDoor.K
