/- What is proved: SurfaceParams returns true, whatever the input (part 25 of 28). No conditions beyond those of the row. -/
import Derived.Test.YtiigkjnhmipnfaaGreatDoorPL
import Derived.Test.YtiigkjnhmipnfaaGreatDoorPO
import Derived.Test.YtiigkjnhmipnfaaGreatDoorPV
import Derived.Test.YtiigkjnhmipnfaaGreatDoorPX
set_option linter.unusedVariables false
set_option linter.unusedSimpArgs false
set_option linter.unusedSectionVars false
namespace Go.Proofs.YtiigkjnhmipnfaaGreatDoor.K
open Go Go.Eng Go.Ar Go.Rd
noncomputable section
abbrev bnP : List Pa := [.n (.a bnI), .s suI .i64]
def bendV : Nat → List Itm → Option (Prop × AV × List ABody) := fun sz its => match its with
 | [.n xs, .s ys n zs] => match bnOf xs, suOf ys with
  | some b, some s => some (b.ok ∧ okF3 n zs ∧ n ≤ 3, .agg ((bsu b s).ini ++ [.lslice sz (bnf b n.toNat)]), [.rows .i64 (bys b n.toNat zs)])
  | _, _ => none
 | _ => none
theorem tellS' (b : Bn) : tellL b.cells b.cells := by
 repeat' first
  | exact trivial
  | refine ⟨⟨rfl, rfl⟩, ?_⟩
  | refine ⟨rfl, ?_⟩
theorem bend_ok : NOk Tryz.prog glob hG 16 (lSpec hG bnP bendV) := by
 refine lsp_ok false hG_ok hG_plain glob_lt (fun sz its p v bs e hp => ?_) ⟨_, Tryz.func16, rfl⟩
 unfold bendV at e
 split at e
 ·rename_i xs ys n zs
  split at e
  ·rename_i b s hb hs
   cases e
   obtain ⟨ok, hf, h3⟩ := hp
   obtain rfl := bnOf_eq hb
   obtain rfl := suOf_eq hs
   obtain ⟨k, x, hk, rfl, rfl⟩ := okF3_of hf
   refine ⟨⟨fun h0 => ?_, trivial⟩, rfl, ?_⟩
   ·have : (spinF (3 * k) 0 x).length = 3 * k := by
     have := hf.2.2
     simpa using this
    rw [h0] at this
    simp only [List.length_nil] at this
    omega
   have r := bn_run b s x k (by omega) b.w b.a ok.case.1 ok.ix.1
   unfold bRun rb1 at r
   have hnum : AV.numL (bsuW b s b.w b.a).ini = true := rfl
   obtain ⟨v0, q, h1, h2, h3, h4⟩ := outL_tells r hnum
   refine ⟨cBn b.w b.a, 1000, [.agg b.cells, .agg (s.ini ++ [co k])], _, v0, q, cBn_ok _ _, rfl, rfl, ?_, h1, h2, ok.nd k, h3, ?_⟩
   ·exact ⟨tellS' b, tellL_app (tellS s) ⟨⟨rfl, Nat.le_refl _, rfl⟩, trivial⟩, trivial⟩
   ·exact h4 sz _ _ _ (tellS (bsuW b s b.w b.a)) rfl rfl
  ·cases e
 ·cases e
end
end Go.Proofs.YtiigkjnhmipnfaaGreatDoor.K
namespace Go.Rd
open Go Go.Eng Go.Ar
section
variable (S : Su) (Y : List Int) (N p v : Int)
end
section
variable {S : Su} {Y : List Int} {N p v : Int}
theorem set0 (h : setE S Y p v = 0) : missS S Y p = 0 ∧ rightS (setF S v p.toNat) Y = true ∧ setSu S Y p v = setF S v p.toNat ∧ setYs S Y p v = Y ∧ setN S Y p v N = N := by
 have hb : (setE S Y p v == 0) = true := by rw [h]; rfl
 have h1 : setSu S Y p v = setF S v p.toNat := by unfold setSu; rw [hb]; rfl
 have h2 : setYs S Y p v = Y := by unfold setYs; rw [hb]; rfl
 have h3 : setN S Y p v N = N := by unfold setN; rw [hb]; rfl
 have hm : missS S Y p = 0 := by
  by_cases hm : missS S Y p = 0
  ·exact hm
  ·exfalso
   unfold setE at h
   rw [beq_eq_false_iff_ne.2 hm] at h
   exact hm h
 refine ⟨hm, ?_, h1, h2, h3⟩
 unfold setE at h
 rw [hm] at h
 cases hr : rightS (setF S v p.toNat) Y with
 | true => rfl
 | false =>
  rw [hr] at h
  cases h
theorem set_ok2 (ho : okF3 N Y) (hg : S.g.size < 1000000000) : okF3 (setN S Y p v N) (setYs S Y p v) ∧ (setSu S Y p v).g.size < 1000000000 := by
 by_cases h : setE S Y p v = 0
 ·obtain ⟨-, -, h1, h2, h3⟩ := set0 (N := N) h
  rw [h1, h2, h3, setF_g]
  exact ⟨ho, hg⟩
 ·have hb : (setE S Y p v == 0) = false := beq_eq_false_iff_ne.2 h
  have h1 : setSu S Y p v = su0 := by unfold setSu; rw [hb]; rfl
  have h2 : setYs S Y p v = [] := by unfold setYs; rw [hb]; rfl
  have h3 : setN S Y p v N = 0 := by unfold setN; rw [hb]; rfl
  rw [h1, h2, h3]
  exact ⟨⟨by decide, by decide, rfl⟩, by decide⟩
end
end Go.Rd
namespace Go.Rd
open Go Go.Eng Go.Ar
structure PF where
 gS : Su → List Int → Int → Int
 mS : Su → List Int → Int → Int
 hB : Su → List Int → Int → Bool
 sF : Su → List Int → Int → Int → Su
 sY : Su → List Int → Int → Int → List Int
 sN : Su → List Int → Int → Int → Int → Int
 sE : Su → List Int → Int → Int → Int
 sm : Su → Su → List Int → List Int → Bool
 dS : Df → Su
 dY : Df → List Int → List Int
 dN : Df → List Int → Int
 bS : Bn → Su → Su
 bY : Bn → Int → List Int → List Int
 bN : Bn → Int → Int
def pf0 : PF := ⟨getS, missS, fun S Y q => rightS S Y && hasS S q, setSu, setYs, setN, setE, sameS, dsu, dys, fun d zs => (dnf d zs : Int), bsu, fun b n zs => bys b n.toNat zs, fun b n => (bnf b n.toNat : Int)⟩
section
variable (S : Su) (Y : List Int) (N v : Int)
def paE : Prop := S.kd = S.kd ∧ S.c = S.c ∧ S.k = S.k ∧ S.l = S.l ∧ S.m = S.m ∧ S.a0 = S.a0 ∧ S.a1 = S.a1 ∧ S.a2 = S.a2 ∧ S.a3 = S.a3 ∧ S.f0 = S.f0 ∧ S.f1 = S.f1 ∧ S.o = S.o ∧ S.th = S.th ∧ S.g = S.g ∧ S.se = S.se ∧ S.ho = S.ho ∧ S.dx = S.dx ∧ S.dy = S.dy ∧ S.ax = S.ax ∧ S.ay = S.ay ∧ S.az = S.az ∧ N = N
def paG : Prop := okF3 N Y ∧ S.g.size < 1000000000 ∧ True
def paF : Prop := okF3 N Y ∧ S.g.size < 1000000000
variable (F : PF)
def paT (q v : Int) : Prop := paF S Y N ∧ paF S Y N ∧ (F.sE S Y q v != F.sE S Y q v) = false ∧ (okF3 (F.sN S Y q v N) (F.sY S Y q v) ∧ okF3 (F.sN S Y q v N) (F.sY S Y q v) ∧ F.sN S Y q v N = F.sN S Y q v N) ∧ (!F.sm (F.sF S Y q v) (F.sF S Y q v) (F.sY S Y q v) (F.sY S Y q v)) = false
def paS (q : Int) : Prop := paG S Y N ∧ paG S Y N ∧ (paG S Y N ∧ paE S N ∧ paG S Y N ∧ (!F.hB S Y q == F.hB S Y q) = false ∧ (F.gS S Y q != F.gS S Y q) = false ∧ (F.mS S Y q != F.mS S Y q) = false) ∧ paT S Y N F q v ∧ paT S Y N F q (v.tmod 1000) ∧ paT S Y N F q 0
def paC : List Int → Prop
 | [] => True
 | [q] => paS S Y N v F q
 | q :: r => paS S Y N v F q ∧ paC r
end
def paL (p : Int) : List Int := [-1, 0, 1, 2, 3, 4, 5, 6, 7, 8, 9, 10, 11, 12, 13, 14, 15, 16, 17, 18, p]
section
variable {S : Su} {Y : List Int} {N v : Int}
theorem paT_t (ho : okF3 N Y) (hg : S.g.size < 1000000000) (q v : Int) : paT S Y N pf0 q v := by
 refine ⟨⟨ho, hg⟩, ⟨ho, hg⟩, bne_self_eq_false _, ⟨(set_ok2 ho hg).1, (set_ok2 ho hg).1, rfl⟩, ?_⟩
 show (!sameS (setSu S Y q v) (setSu S Y q v) (setYs S Y q v) (setYs S Y q v)) = false
 rw [sameS_refl]; rfl
theorem paS_t (ho : okF3 N Y) (hg : S.g.size < 1000000000) (v q : Int) : paS S Y N v pf0 q := by
 have g : paG S Y N := ⟨ho, hg, trivial⟩
 refine ⟨g, g, ⟨g, ?_, g, ?_, bne_self_eq_false _, bne_self_eq_false _⟩, paT_t ho hg _ _, paT_t ho hg _ _, paT_t ho hg _ _⟩
 ·unfold paE
  simp only [and_self]
 ·simp only [beq_self_eq_true, Bool.not_true]
theorem paC_t (ho : okF3 N Y) (hg : S.g.size < 1000000000) (v : Int) : ∀ l, paC S Y N v pf0 l
 | [] => trivial
 | [q] => paS_t ho hg v q
 | q :: a :: r => ⟨paS_t ho hg v q, paC_t ho hg v (a :: r)⟩
end
section
variable (d : Df) (n : Int) (zs : List Int) (b : Bn) (p v : Int)
variable (F : PF)
def paY : List Int := F.bY b (F.dN d zs) (F.dY d zs)
def paM : Int := F.bN b (F.dN d zs)
def paN : Prop := (n = zs.length ∧ 0 ≤ d.gl ∧ d.gl ≤ 255) ∧ ((b.ok ∧ okF3 (F.dN d zs) (F.dY d zs) ∧ F.dN d zs ≤ 3) ∧ paE (F.dS d) (F.dN d zs)) ∧ paC (F.dS d) (F.dY d zs) (F.dN d zs) v F (paL p) ∧ paC (F.bS b (F.dS d)) (paY d zs b F) (paM d zs b F) v F (paL p)
theorem paN_t (hD : n = zs.length ∧ 0 ≤ d.gl ∧ d.gl ≤ 255) (hb : b.ok) : paN d n zs b p v pf0 := by
 have hy := dys_ok d zs
 have h1 : okF3 (dnf d zs : Int) (dys d zs) := ⟨by omega, by omega, by rw [Int.toNat_natCast]; exact hy.1⟩
 have g1 := dsu_g d
 have hy2 := bys_ok b (dnf d zs) (dys d zs) hy.1 (by omega) hb
 have g2 := bsu_g b (dsu d)
 have h2 : okF3 (paM d zs b pf0) (paY d zs b pf0) := by
  show okF3 (bnf b (dnf d zs : Int).toNat : Int) (bys b (dnf d zs : Int).toNat (dys d zs))
  rw [Int.toNat_natCast]
  exact ⟨by omega, by omega, by rw [Int.toNat_natCast]; exact hy2.1⟩
 refine ⟨hD, ⟨⟨hb, h1, ?_⟩, ?_⟩, paC_t h1 ?_ v _, paC_t h2 ?_ v _⟩
 ·show (dnf d zs : Int) ≤ 3
  omega
 rotate_left
 ·show (dsu d).g.size < 1000000000
  omega
 ·show (bsu b (dsu d)).g.size < 1000000000
  omega
 unfold paE
 simp only [and_self]
end
end Go.Rd
namespace Go.Proofs.YtiigkjnhmipnfaaGreatDoor.K
open Go Go.Eng Go.Ar Go.Rd
noncomputable section
def setVF (F : PF) (sz : Nat) (s : Su) (n : Int) (ys : List Int) (p v : Int) : AV × List ABody := (.tuple [.agg ((F.sF s ys p v).ini ++ [.lslice sz (F.sN s ys p v n)]), .int true .i64 (F.sE s ys p v)], [.rows .i64 (F.sY s ys p v)])
def getVF (F : PF) (s : Su) (ys : List Int) (p : Int) : AV := .tuple [.int true .i64 (F.gS s ys p), .int true .i64 (F.mS s ys p)]
def sameVF (F : PF) : Nat → List Itm → Option (Prop × AV × List ABody) := fun _ its => match its with
 | [.s xs n ys, .s us m zs] => match suOf xs, suOf us with
  | some s, some t => some (okF3 n ys ∧ okF3 m zs ∧ n = m, .bool true (F.sm s t ys zs), [])
  | _, _ => none
 | _ => none
def draftVF (F : PF) : Nat → List Itm → Option (Prop × AV × List ABody) := fun sz its => match its with
 | [.s xs n zs] => match drOf xs with
  | some d => some (n = zs.length ∧ 0 ≤ d.gl ∧ d.gl ≤ 255, .agg ((F.dS d).ini ++ [.lslice sz (F.dN d zs)]), [.rows .i64 (F.dY d zs)])
  | none => none
 | _ => none
def bendVF (F : PF) : Nat → List Itm → Option (Prop × AV × List ABody) := fun sz its => match its with
 | [.n xs, .s ys n zs] => match bnOf xs, suOf ys with
  | some b, some s => some (b.ok ∧ okF3 n zs ∧ n ≤ 3, .agg ((F.bS b s).ini ++ [.lslice sz (F.bN b n)]), [.rows .i64 (F.bY b n zs)])
  | _, _ => none
 | _ => none
theorem sameVF_0 : sameVF pf0 = sameV := by kernel_rfl
theorem draftVF_0 : draftVF pf0 = draftV := by kernel_rfl
theorem bendVF_0 : bendVF pf0 = bendV := by kernel_rfl
theorem setVF_0 : setVF pf0 = setV := by kernel_rfl
theorem getVF_0 : getVF pf0 = getV := by kernel_rfl
def tblPar (F : PF) : List (FuncId × NSpec) := [(26, lSpec hG gP2 (suV3 (setVF F))), (27, lSpec hG gP2 (suV3 (setVF F))), (21, lSpec hG smPa (sameVF F)), (22, lSpec hG gP (suV1 (fun _ => True) (getVF F))), (23, lSpec hG gP (suV1 (fun _ => True) (getVF F))), (24, lSpec hG gP (suV1 (fun _ => True) fun s ys p => .bool true (F.hB s ys p))), (25, lSpec hG gP (suV1 (fun _ => True) fun s ys p => .bool true (F.hB s ys p))), (14, hN (gH (memoSpec [] (.bool false true)))), (15, lSpec hG [.s drI .u8] (draftVF F)), (16, lSpec hG bnP (bendVF F))]
theorem tblPar_g : ∀ x ∈ tblPar pf0, NOk Tryz.prog glob hG x.1 x.2 := by
 intro x hx
 simp only [tblPar, setVF_0, getVF_0, sameVF_0, draftVF_0, bendVF_0, List.mem_cons, List.not_mem_nil, or_false] at hx
 rcases hx with rfl | rfl | rfl | rfl | rfl | rfl | rfl | rfl | rfl | rfl
 ·exact set_ok
 ·exact rset_ok
 ·exact rsame_ok
 ·exact get_ok
 ·exact rget_ok
 ·exact hasG_ok
 ·exact rhas_ok
 ·exact call77.g.h.n
 ·exact draft_ok
 ·exact bend_ok
def paP (r : Nat) : Option (Nat × AV) := match Nat.beq r 7 with
 | true => some (62, bA false)
 | false => match Nat.beq r 11 with
  | true => some (66, bA false)
  | false => match Nat.beq r 16 with
   | true => some (71, bA false)
   | false => none
def paH (c : Nat) : Option (Nat × AV) := match Nat.ble 3317 c with
 | true => match Nat.ble 6419 c with
  | true => paP (c - 6419)
  | false => paP ((c - 3317) % 155)
 | false => match Nat.ble 3151 c with
  | true => paP (c - 3151)
  | false => paP ((c - 49) % 155)
def cPar (F : PF) (l : List (Nat × Nat × Bool)) : Ctx := { hinting (mkN Tryz.prog glob hG (tblPar F) [] ext) (hT l) with hintT := paH }
theorem cPar_ok (l : List (Nat × Nat × Bool)) : CtxOk (cPar pf0 l) := by
 have co : CtxOk (mkN Tryz.prog glob hG (tblPar pf0) [] ext) := mkN_ok prog_ok ext_ok tblPar_g fun _ h => by cases h
 exact ⟨co.prog, co.con, co.ext, co.loop, co.two⟩
def runP (F : PF) (l : List (Nat × Nat × Bool)) (d : Df) (n : Int) (zs : List Int) (rest : List AV) : Option (Nd × AV) :=
 oneG (hL0 zs).size (hL0 zs).clock ((run (cPar F l) 100000).call 4 (.agg (d.cells ++ [.lslice hG.size n]) :: rest) (hL0 zs))
def rest11 (b : Bn) (p v : Int) : List AV := [.agg b.cells, .int true .i64 p, .int true .i64 v]
end
end Go.Proofs.YtiigkjnhmipnfaaGreatDoor.K
