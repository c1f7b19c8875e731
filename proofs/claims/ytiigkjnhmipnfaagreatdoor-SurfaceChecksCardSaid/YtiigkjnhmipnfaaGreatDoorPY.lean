/- What is proved: SurfaceChecks returns true, whatever the input (part 25 of 28). No conditions beyond those of the row. -/
import Derived.Test.YtiigkjnhmipnfaaGreatDoorPO
import Derived.Test.YtiigkjnhmipnfaaGreatDoorPU
import Derived.Test.YtiigkjnhmipnfaaGreatDoorPV
import Derived.Test.YtiigkjnhmipnfaaGreatDoorPX
set_option linter.unusedVariables false
set_option linter.unusedSimpArgs false
set_option linter.unusedSectionVars false
namespace Go.Proofs.YtiigkjnhmipnfaaGreatDoor.K
open Go Go.Eng Go.Ar Go.Rd
noncomputable section
abbrev bnP : List Pa := [.n (.a bnI), .s suI .i64]
def bendV : Nat → List Itm → Option (Prop × AV × List ABody) := fun sz its => match its with
 | [.n xs, .s ys n zs] => match bnOf xs, suOf ys with
  | some b, some s => some (b.ok ∧ okF3 n zs ∧ n ≤ 9, .agg ((bsu b s).ini ++ [.lslice sz (bnf b n.toNat)]), [.rows .i64 (bys b n.toNat zs)])
  | _, _ => none
 | _ => none
theorem tellS' (b : Bn) : tellL b.cells b.cells := by
 repeat' first
  | exact trivial
  | refine ⟨⟨rfl, rfl⟩, ?_⟩
  | refine ⟨rfl, ?_⟩
theorem bend_ok : NOk Tryz.prog glob hG 16 (lSpec hG bnP bendV) := by
 refine lsp_ok false hG_ok hG_plain glob_lt (fun sz its p v bs e hp => ?_) ⟨_, Tryz.func16, rfl⟩
 unfold bendV at e
 split at e
 ·rename_i xs ys n zs
  split at e
  ·rename_i b s hb hs
   cases e
   obtain ⟨ok, hf, h3⟩ := hp
   obtain rfl := bnOf_eq hb
   obtain rfl := suOf_eq hs
   obtain ⟨k, x, hk, rfl, rfl⟩ := okF3_of hf
   refine ⟨⟨fun h0 => ?_, trivial⟩, rfl, ?_⟩
   ·have : (spinF (3 * k) 0 x).length = 3 * k := by
     have := hf.2.2
     simpa using this
    rw [h0] at this
    simp only [List.length_nil] at this
    omega
   have r := bn_run b s x k (by omega) b.w b.a ok.case.1 ok.ix.1
   unfold bRun rb1 at r
   have hnum : AV.numL (bsuW b s b.w b.a).ini = true := rfl
   obtain ⟨v0, q, h1, h2, h3, h4⟩ := outL_tells r hnum
   refine ⟨cBn b.w b.a, 1000, [.agg b.cells, .agg (s.ini ++ [co k])], _, v0, q, cBn_ok _ _, rfl, rfl, ?_, h1, h2, ok.nd k, h3, ?_⟩
   ·exact ⟨tellS' b, tellL_app (tellS s) ⟨⟨rfl, Nat.le_refl _, rfl⟩, trivial⟩, trivial⟩
   ·exact h4 sz _ _ _ (tellS (bsuW b s b.w b.a)) rfl rfl
  ·cases e
 ·cases e
end
end Go.Proofs.YtiigkjnhmipnfaaGreatDoor.K
namespace Go.Rd
open Go Go.Eng Go.Ar
structure CF where
 dS : Df → Su
 dY : Df → List Int → List Int
 dN : Df → List Int → Int
 bS : Bn → Su → Su
 bY : Bn → Int → List Int → List Int
 bN : Bn → Int → Int
 fS : Su → Su
 fY : List Int → List Int
 fK : Int → Int
 ck : Su → List Int → Int
 sm : Su → Su → List Int → List Int → Bool
structure Tr where
 S : Su
 Y : List Int
 N : Int
section
variable (F : CF)
def ckE (x : Tr) : Prop := paE x.S x.N
def ckO (x : Tr) : Prop := okF3 x.N x.Y
def ckZ (x : Tr) : Prop := okF3 x.N x.Y ∧ x.S.g.size < 1000000000
def ckM (x y : Tr) : Prop := (ckO x ∧ ckO y) ∧ (ckE y ∧ ckE x) ∧ ckO x ∧ ckO y
def ckS (x y : Tr) : Bool := !(!(F.sm x.S y.S x.Y y.Y == F.sm x.S y.S x.Y y.Y))
def ckC (x : Tr) : Bool := !(F.ck x.S x.Y != F.ck x.S x.Y)
def ckR (x a b c d : Tr) : Prop := (ckZ x ∧ ckE x ∧ ckZ x) ∧ (ckC F x = true → ckM x a ∧ (ckS F x a = true → ckM x b ∧ (ckS F x b = true → ckM x c ∧ (ckS F x c = true → ckM x d))))
def ckA (x a b c d : Tr) : Bool := ckC F x && (ckS F x a && (ckS F x b && (ckS F x c && ckS F x d)))
def ckN (a b c d : Tr) : Prop := ckR F a a b c d ∧ (ckA F a a b c d = true → ckR F b a b c d ∧ (ckA F b a b c d = true → ckR F c a b c d ∧ (ckA F c a b c d = true → ckR F d a b c d)))
def ckV (a b c d : Tr) : Bool := bif ckA F a a b c d && (ckA F b a b c d && (ckA F c a b c d && ckA F d a b c d)) then true else false
def tr0 (d : Df) (zs : List Int) : Tr := ⟨F.dS d, F.dY d zs, F.dN d zs⟩
def trB (b : Bn) (x : Tr) : Tr := ⟨F.bS b x.S, F.bY b x.N x.Y, F.bN b x.N⟩
def trF (s : Su) (k : Int) (qs : List Int) : Tr := ⟨F.fS s, F.fY qs, F.fK k⟩
def ckP (s : Su) (k : Int) (qs : List Int) (d : Df) (n : Int) (zs : List Int) (b e : Bn) : Prop :=
 (n = zs.length ∧ 0 ≤ d.gl ∧ d.gl ≤ 255) ∧ (b.ok ∧ ckO (tr0 F d zs) ∧ F.dN d zs ≤ 9) ∧ ((e.ok ∧ ckO (trB F b (tr0 F d zs)) ∧ F.bN b (F.dN d zs) ≤ 9) ∧ (paE s k ∧ ckE (trB F b (tr0 F d zs)) ∧ ckE (tr0 F d zs)) ∧ (0 ≤ k ∧ qs.length = 3 * k.toNat) ∧ ckE (trB F b (tr0 F d zs)) ∧ ckE (tr0 F d zs)) ∧ ckN F (tr0 F d zs) (trB F b (tr0 F d zs)) (trB F e (trB F b (tr0 F d zs))) (trF F s k qs)
def ckW (s : Su) (k : Int) (qs : List Int) (d : Df) (zs : List Int) (b e : Bn) : Bool := ckV F (tr0 F d zs) (trB F b (tr0 F d zs)) (trB F e (trB F b (tr0 F d zs))) (trF F s k qs)
end
theorem paE_t (S : Su) (N : Int) : paE S N := by unfold paE; simp only [and_self]
theorem ckM_t {x y : Tr} (h : ckZ x) (h' : ckZ y) : ckM x y := ⟨⟨h.1, h'.1⟩, ⟨paE_t _ _, paE_t _ _⟩, h.1, h'.1⟩
theorem ckR_t (F : CF) {x a b c d : Tr} (hx : ckZ x) (ha : ckZ a) (hb : ckZ b) (hc : ckZ c) (hd : ckZ d) : ckR F x a b c d :=
 ⟨⟨hx, paE_t _ _, hx⟩, fun _ => ⟨ckM_t hx ha, fun _ => ⟨ckM_t hx hb, fun _ => ⟨ckM_t hx hc, fun _ => ckM_t hx hd⟩⟩⟩⟩
theorem ckN_t (F : CF) {a b c d : Tr} (ha : ckZ a) (hb : ckZ b) (hc : ckZ c) (hd : ckZ d) : ckN F a b c d :=
 ⟨ckR_t F ha ha hb hc hd, fun _ => ⟨ckR_t F hb ha hb hc hd, fun _ => ⟨ckR_t F hc ha hb hc hd, fun _ => ckR_t F hd ha hb hc hd⟩⟩⟩
theorem ckS_t (F : CF) (x y : Tr) : ckS F x y = true := by unfold ckS; simp only [beq_self_eq_true, Bool.not_not]
theorem ckC_t (F : CF) (x : Tr) : ckC F x = true := by unfold ckC; simp only [bne_self_eq_false, Bool.not_false]
theorem ckA_t (F : CF) (x a b c d : Tr) : ckA F x a b c d = true := by unfold ckA; simp only [ckS_t, ckC_t, Bool.and_self]
theorem ckV_t (F : CF) (a b c d : Tr) : ckV F a b c d = true := by unfold ckV; simp only [ckA_t, Bool.and_self, cond_true]
theorem bnf9 {b : Bn} {n : Nat} (hb : b.ok) (hn : n ≤ 8) : bnf b n ≤ 9 := by
 have h3 := hb.ix.1
 unfold bnf
 revert h3
 generalize b.w = w
 generalize b.a = a
 intro h3
 unfold bnfW
 split
 ·omega
 ·have : a < 2 := h3
  omega
 ·omega
end Go.Rd
namespace Go.Proofs.YtiigkjnhmipnfaaGreatDoor.K
open Go Go.Eng Go.Ar Go.Rd
noncomputable section
def cf0 : CF := ⟨dsu, dys, fun d zs => (dnf d zs : Int), bsu, fun b n zs => bys b n.toNat zs, fun b n => (bnf b n.toNat : Int), fwS, fwY, fun n => (fwK n : Int), fun s ys => bif rightS s ys then 0 else 110, sameS⟩
def draftCF (F : CF) : Nat → List Itm → Option (Prop × AV × List ABody) := fun sz its => match its with
 | [.s xs n zs] => match drOf xs with
  | some d => some (n = zs.length ∧ 0 ≤ d.gl ∧ d.gl ≤ 255, .agg ((F.dS d).ini ++ [.lslice sz (F.dN d zs)]), [.rows .i64 (F.dY d zs)])
  | none => none
 | _ => none
def bendCF (F : CF) : Nat → List Itm → Option (Prop × AV × List ABody) := fun sz its => match its with
 | [.n xs, .s ys n zs] => match bnOf xs, suOf ys with
  | some b, some s => some (b.ok ∧ okF3 n zs ∧ n ≤ 9, .agg ((F.bS b s).ini ++ [.lslice sz (F.bN b n)]), [.rows .i64 (F.bY b n zs)])
  | _, _ => none
 | _ => none
def fewCF (F : CF) : Nat → List Itm → Option (Prop × AV × List ABody) := fun sz its => match its with
 | [.s xs n ys] => match suOf xs with
  | some s => some (0 ≤ n ∧ ys.length = 3 * n.toNat, .agg ((F.fS s).ini ++ [.lslice sz (F.fK n)]), [.rows .i64 (F.fY ys)])
  | none => none
 | _ => none
def chkCF (F : CF) : Su → List Int → AV := fun s ys => .int true .i64 (F.ck s ys)
def sameCF (F : CF) : Nat → List Itm → Option (Prop × AV × List ABody) := fun _ its => match its with
 | [.s xs n ys, .s us m zs] => match suOf xs, suOf us with
  | some s, some t => some (okF3 n ys ∧ okF3 m zs, .bool true (F.sm s t ys zs), [])
  | _, _ => none
 | _ => none
theorem draftCF_0 : draftCF cf0 = draftV := by kernel_rfl
theorem bendCF_0 : bendCF cf0 = bendV := by kernel_rfl
theorem fewCF_0 : fewCF cf0 = fewV := by kernel_rfl
theorem chkCF_0 : chkCF cf0 = chkA := by kernel_rfl
theorem sameCF_0 : sameCF cf0 = sameA := by kernel_rfl
def tblCk (F : CF) : List (FuncId × NSpec) := [(20, lSpec hG smPa (sameCF F)), (21, lSpec hG smPa (sameCF F)), (18, lSpec hG [.s suI .i64] (suV (chkCF F))), (19, lSpec hG [.s suI .i64] (suV (chkCF F))), (14, hN (gH (memoSpec [] (.bool false true)))), (15, lSpec hG [.s drI .u8] (draftCF F)), (16, lSpec hG bnP (bendCF F)), (17, lSpec hG [.s suI .i64] (fewCF F))]
theorem tblCk_g : ∀ x ∈ tblCk cf0, NOk Tryz.prog glob hG x.1 x.2 := by
 intro x hx
 simp only [tblCk, draftCF_0, bendCF_0, fewCF_0, chkCF_0, sameCF_0, List.mem_cons, List.not_mem_nil, or_false] at hx
 rcases hx with rfl | rfl | rfl | rfl | rfl | rfl | rfl | rfl
 ·exact sameA_ok
 ·exact rsameA_ok
 ·exact chkA_ok
 ·exact rchkA_ok
 ·exact call77.g.h.n
 ·exact draft_ok
 ·exact bend_ok
 ·exact few_ok
def cCk (F : CF) : Ctx := mkN Tryz.prog glob hG (tblCk F) [] ext
theorem cCk_ok : CtxOk (cCk cf0) := mkN_ok prog_ok ext_ok tblCk_g fun _ h => by cases h
def hL2 (qs zs : List Int) : Hp := (hG.push0 (.rows .i64 qs)).push0 (.rows .u8 zs)
def runL2 (C : Ctx) (f : FuncId) (s : Su) (k : Int) (qs : List Int) (d : Df) (n : Int) (zs : List Int) (rest : List AV) : Option (Nd × AV) :=
 oneG (hL2 qs zs).size (hL2 qs zs).clock ((run C 10000).call f (.agg (s.ini ++ [.lslice hG.size k]) :: .agg (d.cells ++ [.lslice (hG.size + 1) n]) :: rest) (hL2 qs zs))
end
end Go.Proofs.YtiigkjnhmipnfaaGreatDoor.K
