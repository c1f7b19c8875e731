/- What is proved: SurfaceSets returns true, whatever the input (part 30 of 31). No conditions beyond those of the row. -/
import Derived.Test.YtiigkjnhmipnfaaGreatDoorPI
import Derived.Test.YtiigkjnhmipnfaaGreatDoorPJ
import Derived.Test.YtiigkjnhmipnfaaGreatDoorPU
import Derived.Test.YtiigkjnhmipnfaaGreatDoorPV
import Derived.Test.YtiigkjnhmipnfaaGreatDoorPX
import Derived.Test.YtiigkjnhmipnfaaGreatDoorPc
import Derived.Test.YtiigkjnhmipnfaaGreatDoorRows
import Derived.WideKeyElems2
import Derived.ChangeSlices
import Derived.MakeChecks
import Derived.WalkKit
import Derived.ProofKit
set_option linter.unusedVariables false
set_option linter.unusedSimpArgs false
set_option linter.unusedSectionVars false
namespace Go.Proofs.YtiigkjnhmipnfaaGreatDoor
open Go Go.Eng
theorem call77 : MemoOk Tryz.prog glob hG (14, [], (.bool false true)) := known table5_ok (by kernel_rfl) (by kernel_rfl) (by kernel_rfl)
end Go.Proofs.YtiigkjnhmipnfaaGreatDoor
namespace Go.Proofs.YtiigkjnhmipnfaaGreatDoor.K
open Go Go.Eng Go.Ar Go.Rd
noncomputable section
theorem hasG_run (s : Su) (n p : Int) (ys : List Int) : rg1v cGet 24 s.ini n ys [.int true .i64 p] = some (.p ((okF3 n ys ∧ s.g.size < 1000000000) ∧ ((mQ s ys == 0) = true → okF3 n ys ∧ s.g.size < 1000000000 ∧ (1 ≤ s.kd ∧ s.kd ≤ 4))), .bool true (bif mQ s ys == 0 then hasS s p else false)) := by kernel_rfl
def hasGB (s : Su) (ys : List Int) (p : Int) : Bool := rightS s ys && hasS s p
theorem hasG_ok : NOk Tryz.prog glob hG 24 (lSpec hG gP (suV1 (fun _ => True) fun s ys p => .bool true (hasGB s ys p))) := by
 refine su1_ok ⟨_, Tryz.func24, rfl⟩ fun s n ys p ho hg _ => ?_
 refine ⟨cGet, s.ini, .int true .i64 p, _, _, cGet_ok, rfl, rfl, tell_ini s, ⟨rfl, rfl⟩, hasG_run s n p ys, rfl, ⟨⟨ho, hg⟩, fun h => ⟨ho, hg, ?_⟩⟩, ?_⟩
 ·unfold mQ at h
  cases hr : rightS s ys with
  | true => exact right_rng hr
  | false => rw [hr] at h; cases h
 ·show (bif mQ s ys == 0 then hasS s p else false) = hasGB s ys p
  unfold hasGB mQ
  cases rightS s ys <;> rfl
def tblSets : List (FuncId × NSpec) := [(14, hN (gH (memoSpec [] (.bool false true)))), (15, lSpec hG [.s drI .u8] draftV), (26, lSpec hG gP2 (suV3 setV)), (22, lSpec hG gP (suV1 (fun _ => True) getV)), (24, lSpec hG gP (suV1 (fun _ => True) fun s ys p => .bool true (hasGB s ys p))), (18, lSpec hG [.s suI .i64] (suV chkA)), (20, lSpec hG smPa sameV)]
theorem tblSets_g : ∀ x ∈ tblSets, NOk Tryz.prog glob hG x.1 x.2 := by
 intro x hx
 simp only [tblSets, List.mem_cons, List.not_mem_nil, or_false] at hx
 rcases hx with rfl | rfl | rfl | rfl | rfl | rfl | rfl
 ·exact call77.g.h.n
 ·exact draft_ok
 ·exact set_ok
 ·exact get_ok
 ·exact hasG_ok
 ·exact chkA_ok
 ·exact same_ok
def cSets : Ctx := mkN Tryz.prog glob hG tblSets [] ext
theorem cSets_ok : CtxOk cSets := mkN_ok prog_ok ext_ok tblSets_g fun _ h => by cases h
def hL0 (zs : List Int) : Hp := hG.push0 (.rows .u8 zs)
def runL0 (C : Ctx) (f : FuncId) (d : Df) (n : Int) (zs : List Int) (rest : List AV) : Option (Nd × AV) :=
 oneG (hL0 zs).size (hL0 zs).clock ((run C 2000).call f (.agg (d.cells ++ [.lslice hG.size n]) :: rest) (hL0 zs))
end
end Go.Proofs.YtiigkjnhmipnfaaGreatDoor.K
namespace Go.Rd
open Go Go.Eng Go.Ar
def chN (G : Prop) (f : Int → Bool) : Nat → Int → Prop
 | 0, _ => G
 | k + 1, q => G ∧ (f q = true → chN G f k (q + 1))
def allN (f : Int → Bool) : Nat → Int → Bool
 | 0, q => f q
 | k + 1, q => f q && allN f k (q + 1)
theorem chN_of {G : Prop} {f : Int → Bool} (h : G) : ∀ k q, chN G f k q
 | 0, _ => h
 | k + 1, q => ⟨h, fun _ => chN_of h k (q + 1)⟩
theorem allN_of {f : Int → Bool} : ∀ (k : Nat) (q : Int), (∀ i : Int, q ≤ i → i ≤ q + k → f i = true) → allN f k q = true
 | 0, q, h => h q (Int.le_refl _) (by omega)
 | k + 1, q, h => by
  show (f q && allN f k (q + 1)) = true
  rw [h q (Int.le_refl _) (by omega), allN_of k (q + 1) fun i h1 h2 => h i (by omega) (by omega)]
  rfl
theorem setF_kd (s : Su) (v : Int) (k : Nat) : (setF s v k).kd = s.kd ∧ (setF s v k).o = s.o := by
 unfold setF
 split <;> exact ⟨rfl, rfl⟩
theorem getF_setF (s : Su) (v : Int) : ∀ k q : Nat, 1 ≤ k → k < 18 → q < 18 → getF (setF s v k) q = if q = k then v else getF s q := by
 intro k q h1 h2 h3
 rcases k with _ | _ | _ | _ | _ | _ | _ | _ | _ | _ | _ | _ | _ | _ | _ | _ | _ | _ | k
 ·omega
 all_goals first
  | omega
  | (rcases q with _ | _ | _ | _ | _ | _ | _ | _ | _ | _ | _ | _ | _ | _ | _ | _ | _ | _ | q <;> first | rfl | omega)
theorem setF_getF (s : Su) : ∀ k : Nat, setF s (getF s k) k = s := by
 intro k
 unfold setF
 split <;> rfl
theorem hasS_set (s : Su) (v q : Int) (k : Nat) : hasS (setF s v k) q = hasS s q := by
 unfold hasS
 rw [(setF_kd s v k).1, (setF_kd s v k).2]
section
variable (S : Su) (Y : List Int) (N p v : Int)
def qE (q : Int) : Bool := !bif missS (setSu S Y p v) (setYs S Y p v) q != missS S Y q then true else getS (setSu S Y p v) (setYs S Y p v) q != bif q == p then v else getS S Y q
def stS : Bool := !(setE S Y p v != 0) && (allN (qE S Y p v) 16 1 && !((bif rightS (setSu S Y p v) (setYs S Y p v) then (0 : Int) else 110) != 0)) || setE S Y p v != 0
def gtS : Prop := okF3 N Y ∧ S.g.size < 1000000000
def stN : Prop := gtS S Y N ∧ ((!(setE S Y p v != 0)) = true → chN ((okF3 (setN S Y p v N) (setYs S Y p v) ∧ (setSu S Y p v).g.size < 1000000000 ∧ True) ∧ okF3 N Y ∧ S.g.size < 1000000000 ∧ True) (qE S Y p v) 16 1 ∧ (allN (qE S Y p v) 16 1 = true → okF3 (setN S Y p v N) (setYs S Y p v) ∧ (setSu S Y p v).g.size < 1000000000))
def stE : Bool := stS S Y p v && stS S Y p (v.tmod 100000)
def stL : Prop := (okF3 N Y ∧ S.g.size < 1000000000 ∧ True) ∧ ((missS S Y p != 0) = true → okF3 N Y ∧ S.g.size < 1000000000 ∧ True) ∧ ((!(missS S Y p != 0)) = true → gtS S Y N ∧ ((setE S Y p (getS S Y p) == 0) = true → okF3 (setN S Y p (getS S Y p) N) (setYs S Y p (getS S Y p)) ∧ okF3 N Y ∧ setN S Y p (getS S Y p) N = N))
def stV : Bool := bif stE S Y p v then bif missS S Y p != 0 then !(rightS S Y && hasS S p) else bif setE S Y p (getS S Y p) == 0 then sameS (setSu S Y p (getS S Y p)) S (setYs S Y p (getS S Y p)) Y else false else false
def stNd : Prop := (stN S Y N p v ∧ (stS S Y p v = true → stN S Y N p (v.tmod 100000))) ∧ (stE S Y p v = true → stL S Y N p)
end
section
variable {S : Su} {Y : List Int} {N p v : Int}
theorem set0 (h : setE S Y p v = 0) : missS S Y p = 0 ∧ rightS (setF S v p.toNat) Y = true ∧ setSu S Y p v = setF S v p.toNat ∧ setYs S Y p v = Y ∧ setN S Y p v N = N := by
 have hb : (setE S Y p v == 0) = true := by rw [h]; rfl
 have h1 : setSu S Y p v = setF S v p.toNat := by unfold setSu; rw [hb]; rfl
 have h2 : setYs S Y p v = Y := by unfold setYs; rw [hb]; rfl
 have h3 : setN S Y p v N = N := by unfold setN; rw [hb]; rfl
 have hm : missS S Y p = 0 := by
  by_cases hm : missS S Y p = 0
  ·exact hm
  ·exfalso
   unfold setE at h
   rw [beq_eq_false_iff_ne.2 hm] at h
   exact hm h
 refine ⟨hm, ?_, h1, h2, h3⟩
 unfold setE at h
 rw [hm] at h
 cases hr : rightS (setF S v p.toNat) Y with
 | true => rfl
 | false =>
  rw [hr] at h
  cases h
theorem set_ok2 (ho : okF3 N Y) (hg : S.g.size < 1000000000) : okF3 (setN S Y p v N) (setYs S Y p v) ∧ (setSu S Y p v).g.size < 1000000000 := by
 by_cases h : setE S Y p v = 0
 ·obtain ⟨-, -, h1, h2, h3⟩ := set0 (N := N) h
  rw [h1, h2, h3, setF_g]
  exact ⟨ho, hg⟩
 ·have hb : (setE S Y p v == 0) = false := beq_eq_false_iff_ne.2 h
  have h1 : setSu S Y p v = su0 := by unfold setSu; rw [hb]; rfl
  have h2 : setYs S Y p v = [] := by unfold setYs; rw [hb]; rfl
  have h3 : setN S Y p v N = 0 := by unfold setN; rw [hb]; rfl
  rw [h1, h2, h3]
  exact ⟨⟨by decide, by decide, rfl⟩, by decide⟩
theorem qE_t (h : setE S Y p v = 0) {q : Int} (q1 : 1 ≤ q) (q2 : q ≤ 17) : qE S Y p v q = true := by
 obtain ⟨hm, hr, h1, h2, -⟩ := set0 (N := 0) h
 obtain ⟨hS, hH, p1, p2⟩ := miss_0 hm
 have em : missS (setSu S Y p v) (setYs S Y p v) q = missS S Y q := by
  rw [h1, h2]
  unfold missS
  rw [hr, hS, hasS_set]
 unfold qE
 rw [em, bne_self_eq_false]
 show (!(getS (setSu S Y p v) (setYs S Y p v) q != bif q == p then v else getS S Y q)) = true
 have eg : getS (setSu S Y p v) (setYs S Y p v) q = bif q == p then v else getS S Y q := by
  unfold getS
  rw [em, h1, getF_setF S v p.toNat q.toNat (by omega) (by omega) (by omega)]
  by_cases hq : q = p
  ·subst hq
   rw [hm, if_pos rfl]
   simp only [beq_self_eq_true, cond_true]
  ·rw [beq_eq_false_iff_ne.2 hq, if_neg (by omega)]
   rfl
 rw [eg, bne_self_eq_false]
 rfl
theorem stS_t : stS S Y p v = true := by
 unfold stS
 by_cases h : setE S Y p v = 0
 ·obtain ⟨hm, hr, h1, h2, -⟩ := set0 (N := 0) h
  rw [allN_of 16 1 fun i a b => qE_t h a (by omega), h1, h2, hr, h]
  rfl
 ·rw [bne_iff_ne.2 h, Bool.or_true]
theorem stN_t (ho : okF3 N Y) (hg : S.g.size < 1000000000) : stN S Y N p v :=
 ⟨⟨ho, hg⟩, fun _ => ⟨chN_of ⟨⟨(set_ok2 ho hg).1, (set_ok2 ho hg).2, trivial⟩, ho, hg, trivial⟩ _ _, fun _ => set_ok2 ho hg⟩⟩
theorem stNd_t (ho : okF3 N Y) (hg : S.g.size < 1000000000) : stNd S Y N p v := by
 refine ⟨⟨stN_t ho hg, fun _ => stN_t ho hg⟩, fun _ => ⟨⟨ho, hg, trivial⟩, fun _ => ⟨ho, hg, trivial⟩, fun _ => ⟨⟨ho, hg⟩, fun h => ?_⟩⟩⟩
 have h0 : setE S Y p (getS S Y p) = 0 := beq_iff_eq.1 h
 exact ⟨(set_ok2 ho hg).1, ho, (set0 (N := N) h0).2.2.2.2⟩
theorem stV_t : stV S Y p v = true := by
 unfold stV stE
 rw [stS_t, stS_t]
 show (bif missS S Y p != 0 then _ else _) = true
 by_cases hm : missS S Y p = 0
 ·obtain ⟨hS, hH, p1, p2⟩ := miss_0 hm
  have eg : getS S Y p = getF S p.toNat := by unfold getS; rw [hm]; rfl
  have ef : setF S (getS S Y p) p.toNat = S := by rw [eg]; exact setF_getF S _
  have e0 : setE S Y p (getS S Y p) = 0 := by
   unfold setE
   rw [hm, ef, hS]
   rfl
  obtain ⟨-, -, h1, h2, -⟩ := set0 (N := 0) e0
  rw [hm, e0, h1, h2, ef, sameS_refl]
  rfl
 ·rw [bne_iff_ne.2 hm]
  show (!(rightS S Y && hasS S p)) = true
  unfold missS at hm
  cases hr : rightS S Y with
  | false => rfl
  | true =>
   rw [hr] at hm
   cases hh : hasS S p with
   | false => rfl
   | true => rw [hh] at hm; exact absurd rfl hm
end
end Go.Rd
namespace Go.Proofs.YtiigkjnhmipnfaaGreatDoor.K
open Go Go.Eng Go.Ar Go.Rd
noncomputable section
def pSt (p : Int) : Int := W64 (1 + W64 (p.tmod 17))
theorem st_run (d : Df) (n : Int) (zs : List Int) (p v : Int) : runL0 cSets 12 d n zs [.int true .u8 p, .int true .i64 v] = some (.p ((n = zs.length ∧ 0 ≤ d.gl ∧ d.gl ≤ 255) ∧ stNd (dsu d) (dys d zs) (dnf d zs : Int) (pSt p) v), .bool true (stV (dsu d) (dys d zs) (pSt p) v)) := by kernel_rfl
def dst : List Sh := [.i .u8, .i .i64]
theorem st_true : ∀ xs ys, xs.map Nu.isN = Sh.kindsL drI → inRange (Sh.leavesL drI) xs → ys.map Nu.isN = Sh.kindsL dst → inRange (Sh.leavesL dst) ys → ∀ (n : Int) (zs : List Int), n = zs.length → (∀ z ∈ zs, 0 ≤ z ∧ z ≤ 255) → LawTrueH Tryz.prog glob (hG.push0 (.rows .u8 zs)) 12 (.agg ((Sh.mkL drI xs).1 ++ [.lslice hG.size n]) :: (Sh.mkL dst ys).1) := by
 intro xs ys hx rx hy ry n zs hn _
 obtain ⟨z0, _, rfl, h0⟩ := kn hx
 obtain ⟨z1, _, rfl, h1⟩ := kn h0
 obtain ⟨z2, _, rfl, h2⟩ := kn h1
 obtain ⟨z3, _, rfl, h3⟩ := kn h2
 obtain ⟨z4, _, rfl, h4⟩ := kn h3
 obtain ⟨z5, _, rfl, h5⟩ := kn h4
 obtain ⟨z6, _, rfl, h6⟩ := kn h5
 obtain ⟨z7, _, rfl, h7⟩ := kn h6
 obtain ⟨z8, _, rfl, h8⟩ := kn h7
 obtain ⟨z9, _, rfl, h9⟩ := kn h8
 obtain ⟨z10, _, rfl, h10⟩ := kn h9
 obtain ⟨z11, _, rfl, h11⟩ := kn h10
 obtain ⟨z12, _, rfl, h12⟩ := kn h11
 obtain ⟨z13, _, rfl, h13⟩ := kn h12
 obtain ⟨z14, _, rfl, h14⟩ := kn h13
 obtain ⟨z15, _, rfl, h15⟩ := kn h14
 obtain ⟨z16, _, rfl, h16⟩ := kn h15
 obtain ⟨z17, _, rfl, h17⟩ := kn h16
 obtain ⟨z18, _, rfl, h18⟩ := kn h17
 obtain ⟨z19, _, rfl, h19⟩ := kn h18
 obtain ⟨z20, _, rfl, h20⟩ := kn h19
 obtain rfl := k0 h20
 obtain ⟨p, _, rfl, j0⟩ := kn hy
 obtain ⟨v, _, rfl, j1⟩ := kn j0
 obtain rfl := k0 j1
 obtain ⟨-, -, -, -, -, -, -, -, -, -, -, -, -, g13, -⟩ := rx
 have hy := dys_ok ⟨z0, z1, z2, z3, z4, z5, z6, z7, z8, z9, z10, z11, z12, z13, z14, z15, z16, z17, z18, z19, z20⟩ zs
 have hg := dsu_g ⟨z0, z1, z2, z3, z4, z5, z6, z7, z8, z9, z10, z11, z12, z13, z14, z15, z16, z17, z18, z19, z20⟩
 exact ⟨cSets, 2000, _, _, _, cSets_ok, rfl, rfl, st_run ⟨z0, z1, z2, z3, z4, z5, z6, z7, z8, z9, z10, z11, z12, z13, z14, z15, z16, z17, z18, z19, z20⟩ n zs p v, ⟨⟨hn, g13.1, g13.2⟩, stNd_t ⟨by omega, by omega, by rw [Int.toNat_natCast]; exact hy.1⟩ (by omega)⟩, stV_t⟩
end
end Go.Proofs.YtiigkjnhmipnfaaGreatDoor.K
namespace Go.Proofs.YtiigkjnhmipnfaaGreatDoor
open Go Go.Eng
theorem gOne : Tryz.prog.globalNamed "monocle/surface.one" = some 2 := by kernel_rfl
theorem gPlaces : Tryz.prog.globalNamed "monocle/surface.places" = some 0 := by kernel_rfl
theorem tOne : (Tryz.prog.globals[2]?).map (·.type) = some 56 := by kernel_rfl
theorem tPlaces : (Tryz.prog.globals[0]?).map (·.type) = some 135 := by kernel_rfl
def tab : List (Int × List Int) := [(1, [1, 2, 5, 6, 7, 8, 10]), (2, [1, 2, 3, 4, 10]), (3, [11, 12, 13, 14, 15]), (4, [1, 10])]
theorem var_block {W : World} {n : String} {g : Nat} {cs : Array Value} (hg : Tryz.prog.globalNamed n = some g) (h : W.var? Tryz.prog n = some cs) : ∃ e fr, W.heap[g]? = some (.cells cs e fr) := by
 simp only [World.var?, hg, Option.bind_some] at h
 split at h
 ·cases h; rename_i e fr hh; exact ⟨_, _, hh⟩
 ·cases h
theorem cell_row {W : World} {B o : Nat} {v : Value} (h : W.cell? ⟨B, o, none⟩ = some v) : ∃ K e fr, W.heap[B]? = some (.cells K e fr) ∧ K[o]? = some v := by
 unfold World.cell? at h
 split at h
 ·rename_i K e fr hh
  exact ⟨K, e, fr, hh, by simpa using h⟩
 ·cases h
def At (W : World) (B o : Nat) (zs : List Int) : Prop := ∀ i, i < zs.length → W.cell? ⟨B, o + i, none⟩ = some (.int .i64 (zs.getD i 0))
theorem slice_at {W : World} {fuel : Nat} {v : Value} {zs : List Int} {p : List MemPlace} (hne : 0 < zs.length) (hf : v.formed Tryz.prog 68 = true)
  (h : DataW.trod (fun _ => ()) Tryz.prog W 0 (fun _ => true) false fuel 68 v.cells.toList = some (.slice (ChangeShapes.lits .i64 zs) [], p)) :
  ∃ B o c, v = .slice (some ⟨B, o, none⟩) zs.length c ∧ At W B o zs ∧ ∀ i, i < zs.length → MemPlace.cell B (o + i) ∈ p := by
 rcases ChangeShapes.open_ints (k := .i64) Tryz.underlying68 Tryz.underlying3 (by kernel_rfl) h with ⟨_, hx⟩ | ⟨a, len, cap, ys, hcs, _, hl, _, hlen, hx, hcell, _⟩
 ·simp at hx
 ·simp only [Prod.mk.injEq, DataW.slice.injEq, if_true] at hx hlen
  obtain ⟨⟨h1, h2⟩, h3⟩ := hx
  have inj : ∀ l m : List Int, (ChangeShapes.lits (H := Unit) .i64 l) = ChangeShapes.lits .i64 m → l = m := by
   intro l
   induction l with
   | nil => intro m e; cases m with
    | nil => rfl
    | cons => simp [ChangeShapes.lits] at e
   | cons x l ih => intro m e; cases m with
    | nil => simp [ChangeShapes.lits] at e
    | cons y m =>
     simp only [ChangeShapes.lits, List.map_cons, List.cons.injEq, DataW.lit.injEq, Lit.int.injEq, true_and] at e
     rw [e.1, ih m e.2]
  have hd : ys.drop len = [] := (inj [] _ h2).symm
  have ht := inj _ _ h1
  have hle : ys.length ≤ len := by simpa using hd
  have e1 : ys.take len = ys := List.take_of_length_le hle
  rw [e1] at ht
  subst ht
  have hlen2 : len = zs.length := by omega
  subst hlen2
  obtain ⟨B, o, spot⟩ := a
  have c0 := hcell 0 hne
  have hs : spot = none := by
   simp only [Addr.add, if_true, World.cell?] at c0
   split at c0
   ·cases spot with
    | none => rfl
    | some s => simp at c0
   ·cases c0
  subst hs
  refine ⟨B, o, cap, ?_, fun i hi => ?_, fun i hi => ?_⟩
  ·cases v with
   | agg c => simp [Value.formed, Tryz.underlying68] at hf
   | tuple c => simp [Value.formed] at hf
   | _ => exact (List.cons.inj (show [_] = [_] from hcs)).1
  ·have := hcell i hi
   simp only [Addr.add] at this
   split at this
   ·rename_i h0; subst h0; exact this
   ·exact this
  ·rw [h3]
   exact MemPlace.mem_row.2 ⟨i, hi, rfl⟩
theorem entry_at {W : World} {n : Nat} {x : MapEntry} {y : Lit × DataW Unit} (h : WideElems.rd Tryz.prog 3 (WideElems.elemAt (fun _ => ()) Tryz.prog W 0 (fun _ => true) false n 68) x = some y) {k : Int} {zs : List Int}
  (hy : y = (.int .i64 k, .slice (ChangeShapes.lits .i64 zs) [])) (hne : 0 < zs.length) :
  x.key = .int .i64 k ∧ ∃ B o c, x.val = .slice (some ⟨B, o, none⟩) zs.length c ∧ At W B o zs ∧ ∀ i, i < zs.length → MemPlace.cell B (o + i) ∈ WideElems.pl (WideElems.elemAt (fun _ => ()) Tryz.prog W 0 (fun _ => true) false n 68) x := by
 subst hy
 have hk := WideElems.rd_key h
 unfold WideElems.rd at h
 simp only [Option.bind_eq_some_iff, Option.map_eq_some_iff] at h
 obtain ⟨key, h1, z, h2, h3⟩ := h
 simp only [Prod.mk.injEq] at h3
 refine ⟨?_, ?_⟩
 ·have e0 : keyOf Tryz.prog 3 x.key = mapKey Tryz.prog 3 x.key := by
   unfold keyOf
   rw [Tryz.underlying3]
  have e1 : ∀ v, mapKey Tryz.prog 3 v = match v with
    | .int q' n => if q' = .i64 ∧ (Lit.int .i64 n).wf = true then some (.int .i64 n) else none
    | _ => none := by
   intro v
   unfold mapKey
   rw [Tryz.underlying3]
   cases v <;> rfl
  rw [e0, e1] at hk
  split at hk
  ·rename_i q' m hq
   split at hk
   ·rename_i hc
    rw [hq]
    cases hk
    rw [hc.1]
   ·cases hk
  ·cases hk
 ·have h2' := h2
  unfold WideElems.elemAt at h2
  split at h2
  ·rename_i hf
   obtain ⟨d, p⟩ := z
   simp only at h3
   rw [h3.2] at h2
   obtain ⟨B, o, c, e1, e2, e3⟩ := slice_at hne hf h2
   refine ⟨B, o, c, e1, e2, fun i hi => ?_⟩
   unfold WideElems.pl
   rw [h2']
   exact e3 i hi
  ·cases h2
end Go.Proofs.YtiigkjnhmipnfaaGreatDoor
namespace Go.Proofs.YtiigkjnhmipnfaaGreatDoor
open Go Go.Eng
theorem rels_map {α : Type} {σ : Sg} {f : α → AV} {g : α → Value} : ∀ {l : List α}, (∀ x ∈ l, VRel σ (f x) (g x)) → VRels σ (l.map f) (l.map g)
 | [], _ => rfl
 | a :: l, h => ⟨g a, l.map g, rfl, h a (by simp), rels_map fun x hx => h x (by simp [hx])⟩
theorem view_rel {σ : Sg} {W : World} {B o : Nat} {zs : List Int} {K : Array Value} {e : TypeId} {fr : Nat × Nat} (hK : W.heap[B]? = some (.cells K e fr)) (h : At W B o zs) :
  VRels σ (zs.map fun n => .int false .i64 n) ((K.toList.drop o).take (zs.map fun n => AV.int false .i64 n).length) := by
 have : (K.toList.drop o).take (zs.map fun n => AV.int false .i64 n).length = zs.map (Value.int .i64) := by
  apply List.ext_getElem?
  intro i
  rw [List.getElem?_take, List.length_map]
  by_cases hi : i < zs.length
  ·rw [if_pos hi, List.getElem?_drop]
   obtain ⟨K', e', fr', h1, h2⟩ := cell_row (h i hi)
   rw [hK] at h1; cases h1
   rw [Array.getElem?_toList, h2]
   simp [List.getD_eq_getElem?_getD, hi]
  ·rw [if_neg hi, List.getElem?_eq_none (by simpa using hi)]
 rw [this]
 exact rels_map fun x _ => rfl
def absK (k : Int) : AV × AV :=
 if k = 1 then (.int false .i64 1, .vslice 3 7) else if k = 2 then (.int false .i64 2, .vslice 4 5) else if k = 3 then (.int false .i64 3, .vslice 5 5) else (.int false .i64 4, .vslice 6 2)
def esA : List (AV × AV) := [(.int false .i64 1, .vslice 3 7), (.int false .i64 2, .vslice 4 5), (.int false .i64 3, .vslice 5 5), (.int false .i64 4, .vslice 6 2)]
def sg (bm B1 o1 B2 o2 B3 o3 B4 o4 : Nat) : Sg
 | 0 => some (2, 2)
 | 1 => some (0, 1)
 | 2 => some (bm, 0)
 | 3 => some (B1, o1)
 | 4 => some (B2, o2)
 | 5 => some (B3, o3)
 | 6 => some (B4, o4)
 | _ => none
theorem nodup_es : (esA.map (·.1)).Nodup := by
 simp [esA]
theorem build_rel {W : World} {cs0 cs1 K1 K2 K3 K4 : Array Value} {e0 e1 d1 d2 d3 d4 : TypeId} {bm clock B1 o1 B2 o2 B3 o3 B4 o4 : Nat} {es : Array MapEntry}
  (h0 : W.heap[2]? = some (.cells cs0 e0 (0, 0))) (one : cs0.toList = [.int .i64 4294967296, .int .i64 4294967296]) (h1 : W.heap[0]? = some (.cells cs1 e1 (0, 0))) (hcs : cs1.toList = [.map (some bm)]) (hbm : W.heap[bm]? = some (.map es clock))
  (H1 : W.heap[B1]? = some (.cells K1 d1 (0, 0))) (H2 : W.heap[B2]? = some (.cells K2 d2 (0, 0))) (H3 : W.heap[B3]? = some (.cells K3 d3 (0, 0))) (H4 : W.heap[B4]? = some (.cells K4 d4 (0, 0)))
  (a1 : At W B1 o1 [1, 2, 5, 6, 7, 8, 10]) (a2 : At W B2 o2 [1, 2, 3, 4, 10]) (a3 : At W B3 o3 [11, 12, 13, 14, 15]) (a4 : At W B4 o4 [1, 10])
  (n1 : B1 ≠ 2 ∧ B1 ≠ 0) (n2 : B2 ≠ 2 ∧ B2 ≠ 0) (n3 : B3 ≠ 2 ∧ B3 ≠ 0) (n4 : B4 ≠ 2 ∧ B4 ≠ 0)
  (kk : MapEntry → Int) (perm : (es.toList.map fun x => absK (kk x)).Perm esA)
  (ent : ∀ x ∈ es.toList, (∃ c, x.key = .int .i64 1 ∧ kk x = 1 ∧ x.val = .slice (some ⟨B1, o1, none⟩) 7 c) ∨ (∃ c, x.key = .int .i64 2 ∧ kk x = 2 ∧ x.val = .slice (some ⟨B2, o2, none⟩) 5 c) ∨
   (∃ c, x.key = .int .i64 3 ∧ kk x = 3 ∧ x.val = .slice (some ⟨B3, o3, none⟩) 5 c) ∨ (∃ c, x.key = .int .i64 4 ∧ kk x = 4 ∧ x.val = .slice (some ⟨B4, o4, none⟩) 2 c)) :
  HRel (sg bm B1 o1 B2 o2 B3 o3 B4 o4) hG W := by
 have lt : ∀ {B : Nat} {o : Obj}, W.heap[B]? = some o → B < W.heap.size := fun h => (Array.getElem?_eq_some_iff.1 h).1
 have hm : ∀ {B : Nat} {K : Array Value} {e : TypeId}, W.heap[B]? = some (.cells K e (0, 0)) → B ≠ bm := fun h e => by rw [e, hbm] at h; cases h
 have b0 := hm h0; have b1 := hm h1; have b2 := hm H1; have b3 := hm H2; have b4 := hm H3; have b5 := hm H4
 refine ⟨rfl, fun i b hb hd => ?_, fun i B N e => ?_, fun i j b c B N M hb hc hbd hcd e f => ?_⟩
 ·have hi := Hp.get_lt hb
  match i, hi with
  | 0, _ =>
   cases hb
   exact ⟨2, 2, _, rfl, h0, cs0, e0, rfl, by rw [one]; exact ⟨_, _, rfl, rfl, _, _, rfl, rfl, rfl⟩, by rw [← Array.length_toList, one]; rfl⟩
  | 1, _ =>
   cases hb
   exact ⟨0, 1, _, rfl, h1, cs1, e1, rfl, by rw [hcs]; exact ⟨_, _, rfl, ⟨bm, 0, rfl, rfl⟩, rfl⟩, by rw [← Array.length_toList, hcs]; rfl⟩
  | 2, _ =>
   cases hb
   refine ⟨bm, 0, _, rfl, hbm, es, clock, es.toList.map fun x => absK (kk x), rfl, perm, nodup_es, ?_, ?_⟩
   ·rw [List.map_map]
    refine rels_map fun x hx => ?_
    rcases ent x hx with ⟨c, e1, e2, _⟩ | ⟨c, e1, e2, _⟩ | ⟨c, e1, e2, _⟩ | ⟨c, e1, e2, _⟩ <;> (rw [e1]; simp only [Function.comp_apply, e2]; rfl)
   ·rw [List.map_map]
    refine rels_map fun x hx => ?_
    rcases ent x hx with ⟨c, _, e2, e3⟩ | ⟨c, _, e2, e3⟩ | ⟨c, _, e2, e3⟩ | ⟨c, _, e2, e3⟩ <;> (rw [e3]; simp only [Function.comp_apply, e2])
    ·exact ⟨B1, o1, c, rfl, rfl⟩
    ·exact ⟨B2, o2, c, rfl, rfl⟩
    ·exact ⟨B3, o3, c, rfl, rfl⟩
    ·exact ⟨B4, o4, c, rfl, rfl⟩
  | 3, _ => cases hb; exact ⟨B1, o1, _, rfl, H1, K1, d1, _, rfl, view_rel H1 a1⟩
  | 4, _ => cases hb; exact ⟨B2, o2, _, rfl, H2, K2, d2, _, rfl, view_rel H2 a2⟩
  | 5, _ => cases hb; exact ⟨B3, o3, _, rfl, H3, K3, d3, _, rfl, view_rel H3 a3⟩
  | 6, _ => cases hb; exact ⟨B4, o4, _, rfl, H4, K4, d4, _, rfl, view_rel H4 a4⟩
 ·match i, e with
  | 0, e => cases e; exact ⟨by decide, lt h0⟩
  | 1, e => cases e; exact ⟨by decide, lt h1⟩
  | 2, e => cases e; exact ⟨by decide, lt hbm⟩
  | 3, e => cases e; exact ⟨by decide, lt H1⟩
  | 4, e => cases e; exact ⟨by decide, lt H2⟩
  | 5, e => cases e; exact ⟨by decide, lt H3⟩
  | 6, e => cases e; exact ⟨by decide, lt H4⟩
 ·have hi := Hp.get_lt hb
  have hj := Hp.get_lt hc
  match i, hi, j, hj with
  | 0, _, 0, _ => exact .inl rfl
  | 1, _, 1, _ => exact .inl rfl
  | 2, _, 2, _ => exact .inl rfl
  | 0, _, 1, _ | 0, _, 2, _ | 0, _, 3, _ | 0, _, 4, _ | 0, _, 5, _ | 0, _, 6, _
  | 1, _, 0, _ | 1, _, 2, _ | 1, _, 3, _ | 1, _, 4, _ | 1, _, 5, _ | 1, _, 6, _
  | 2, _, 0, _ | 2, _, 1, _ | 2, _, 3, _ | 2, _, 4, _ | 2, _, 5, _ | 2, _, 6, _
  | 3, _, 0, _ | 4, _, 0, _ | 5, _, 0, _ | 6, _, 0, _
  | 3, _, 1, _ | 4, _, 1, _ | 5, _, 1, _ | 6, _, 1, _
  | 3, _, 2, _ | 4, _, 2, _ | 5, _, 2, _ | 6, _, 2, _ =>
   exfalso
   simp only [sg, Option.some.injEq, Prod.mk.injEq] at e f
   omega
  | 3, _, 3, _ | 3, _, 4, _ | 3, _, 5, _ | 3, _, 6, _ | 4, _, 3, _ | 4, _, 4, _ | 4, _, 5, _ | 4, _, 6, _
  | 5, _, 3, _ | 5, _, 4, _ | 5, _, 5, _ | 5, _, 6, _ | 6, _, 3, _ | 6, _, 4, _ | 6, _, 5, _ | 6, _, 6, _ =>
   cases hb; cases hc; exact .inr ⟨rfl, rfl⟩
end Go.Proofs.YtiigkjnhmipnfaaGreatDoor
namespace Go.Proofs.YtiigkjnhmipnfaaGreatDoor
open Go Go.Eng
def litK : Lit → Int
 | .int _ n => n
 | _ => 0
theorem pw_eq : ∀ {l : List MapEntry}, l.Pairwise (fun a b => a.key ≠ b.key) → ∀ {x y : MapEntry}, x ∈ l → y ∈ l → x.key = y.key → x = y
 | [], _, x, _, h, _, _ => by cases h
 | a :: l, hp, x, y, hx, hy, hk => by
  rw [List.pairwise_cons] at hp
  rcases List.mem_cons.1 hx with hx1 | hx1 <;> rcases List.mem_cons.1 hy with hy1 | hy1
  ·rw [hx1, hy1]
  ·rw [hx1] at hk; exact absurd hk (hp.1 y hy1)
  ·rw [hy1] at hk; exact absurd hk.symm (hp.1 x hx1)
  ·exact pw_eq hp.2 hx1 hy1 hk
theorem two_of_len {α : Type} : ∀ {l : List α}, l.length = 2 → ∃ a b, l = [a, b]
 | [a, b], _ => ⟨a, b, rfl⟩
 | [], h => by cases h
 | [_], h => by cases h
 | _ :: _ :: _ :: _, h => by simp at h
def numD : DataW Unit → Int
 | .lit (.int _ n) => n
 | _ => 0
def partsD : DataW Unit → List Int
 | .agg l => l.map numD
 | _ => []
set_option maxRecDepth 100000 in
theorem of_laid {W : World} (h : laidMetH Tryz.prog [("monocle/surface.one", Rows.laid_monocle_surface_one), ("monocle/surface.places", Rows.laid_monocle_surface_places)] W) :
  ∃ σ : Sg, (∀ gl i, glob gl = some i → ∃ N, σ i = some (gl, N)) ∧ HRel σ hG W := by
 rw [MakeChecks.laidMetH_plain _ _ _ (by kernel_rfl)] at h
 obtain ⟨ps, ⟨g0, t0, cs0, f0, p0, q0, hg0, ht0, hv0, hd0, ⟨g1, t1, cs1, f1, p1, q1, hg1, ht1, hv1, hd1, hq1, hps1⟩, hps0⟩, hnd, hfr⟩ := h
 obtain rfl := Option.some.inj (gOne.symm.trans hg0)
 obtain rfl := Option.some.inj (gPlaces.symm.trans hg1)
 obtain rfl := Option.some.inj (tOne.symm.trans ht0)
 obtain rfl := Option.some.inj (tPlaces.symm.trans ht1)
 have q1e : q1 = [] := hq1
 subst q1e
 rw [List.append_nil] at hps1
 subst hps1 hps0
 obtain ⟨e0, r0, hb0⟩ := var_block gOne hv0
 obtain ⟨e1, r1, hb1⟩ := var_block gPlaces hv1
 have one : cs0.toList = [.int .i64 4294967296, .int .i64 4294967296] := by
  obtain ⟨y0, y1, n, hx, hl, h0, h1⟩ := ChangeShapes.trod_struct2 Tryz.underlying56 hd0
  have c3 : Tryz.prog.cellsOf 3 = 1 := by kernel_rfl
  have c56 : Tryz.prog.cellsOf 56 = 2 := by kernel_rfl
  rw [c56] at hl
  obtain ⟨a, b, hab⟩ := two_of_len hl
  rw [hab] at h0 h1 ⊢
  obtain ⟨n0, m1, m2, _⟩ := DataW.trod_int (k := .i64) Tryz.underlying3 h0
  obtain ⟨n1, m3, m4, _⟩ := DataW.trod_int (k := .i64) Tryz.underlying3 h1
  rw [c3] at m1 m3
  have m1 : [a] = [.int .i64 n0] := m1
  have m3 : [b] = [.int .i64 n1] := m3
  have hx1 : DataW.agg [.lit (.int .i64 4294967296), .lit (.int .i64 4294967296)] = DataW.agg [y0.1, y1.1] := (Prod.mk.inj hx).1
  have hk := congrArg partsD hx1
  rw [m2, m4] at hk
  have hk : [4294967296, 4294967296] = [n0, n1] := hk
  have j1 := (List.cons.inj hk).1
  have j2 := (List.cons.inj (List.cons.inj hk).2).1
  rw [(List.cons.inj m1).1, (List.cons.inj m3).1, ← j1, ← j2]
 rcases WideElems.open_map Tryz.underlying135 hd1 with ⟨_, hx⟩ | ⟨bm, es, clock, n, _, hcs, hbm, _, F, hx⟩
 ·cases (Prod.mk.inj hx).1
 obtain ⟨hx1, hx2⟩ := Prod.mk.inj hx
 have hL : (es.toList.map (WideElems.rg Tryz.prog 3 (WideElems.elemAt (fun _ => ()) Tryz.prog W 0 (fun _ => true) false n 68))).foldr DataW.insert [] = tab.map fun kz => ((.int .i64 kz.1, .slice (ChangeShapes.lits .i64 kz.2) []) : Lit × DataW Unit) := by
  have hx1 : DataW.map (tab.map fun kz => ((.int .i64 kz.1, .slice (ChangeShapes.lits .i64 kz.2) []) : Lit × DataW Unit)) = DataW.map _ := hx1
  injection hx1 with hx1
  exact hx1.symm
 have perm := WideShapes.sorted_perm (es.toList.map (WideElems.rg Tryz.prog 3 (WideElems.elemAt (fun _ => ()) Tryz.prog W 0 (fun _ => true) false n 68)))
 rw [hL] at perm
 generalize hR : WideElems.elemAt (fun _ => ()) Tryz.prog W 0 (fun _ => true) false n 68 = R at *
 have ent : ∀ x ∈ es.toList, ∀ kz : Int × List Int, 0 < kz.2.length → WideElems.rg Tryz.prog 3 R x = (.int .i64 kz.1, .slice (ChangeShapes.lits .i64 kz.2) []) →
   x.key = .int .i64 kz.1 ∧ ∃ B o c, x.val = .slice (some ⟨B, o, none⟩) kz.2.length c ∧ At W B o kz.2 ∧ ∀ i, i < kz.2.length → MemPlace.cell B (o + i) ∈ p1 := by
  intro x hxm kz hne hrg
  obtain ⟨y, hy⟩ := F.reads x hxm
  rw [WideElems.rg_of hy] at hrg
  subst hR
  obtain ⟨h1, B, o, c, h2, h3, h4⟩ := entry_at hy hrg hne
  refine ⟨h1, B, o, c, h2, h3, fun i hi => ?_⟩
  rw [hx2]
  exact List.mem_cons_of_mem _ (List.mem_flatMap.2 ⟨x, hxm, h4 i hi⟩)
 have pick : ∀ kz ∈ tab, ∃ x ∈ es.toList, WideElems.rg Tryz.prog 3 R x = (.int .i64 kz.1, .slice (ChangeShapes.lits .i64 kz.2) []) := by
  intro kz hkz
  have h1 := perm.mem_iff.1 (List.mem_map.2 ⟨kz, hkz, rfl⟩)
  obtain ⟨x, h2, h3⟩ := List.mem_map.1 h1
  exact ⟨x, h2, h3⟩
 obtain ⟨x1, hm1, hr1⟩ := pick (1, [1, 2, 5, 6, 7, 8, 10]) (by simp [tab])
 obtain ⟨x2, hm2, hr2⟩ := pick (2, [1, 2, 3, 4, 10]) (by simp [tab])
 obtain ⟨x3, hm3, hr3⟩ := pick (3, [11, 12, 13, 14, 15]) (by simp [tab])
 obtain ⟨x4, hm4, hr4⟩ := pick (4, [1, 10]) (by simp [tab])
 obtain ⟨k1, B1, o1, c1, v1, a1, m1⟩ := ent x1 hm1 (1, [1, 2, 5, 6, 7, 8, 10]) (by decide) hr1
 obtain ⟨k2, B2, o2, c2, v2, a2, m2⟩ := ent x2 hm2 (2, [1, 2, 3, 4, 10]) (by decide) hr2
 obtain ⟨k3, B3, o3, c3, v3, a3, m3⟩ := ent x3 hm3 (3, [11, 12, 13, 14, 15]) (by decide) hr3
 obtain ⟨k4, B4, o4, c4, v4, a4, m4⟩ := ent x4 hm4 (4, [1, 10]) (by decide) hr4
 have at0 : ∀ {zs : List Int} {B o : Nat}, 0 < zs.length → At W B o zs → (∀ i, i < zs.length → MemPlace.cell B (o + i) ∈ p1) → ∃ K d, W.heap[B]? = some (.cells K d (0, 0)) ∧ o < K.size ∧ MemPlace.cell B o ∈ p1 := by
  intro zs B o hne ha hm
  have hp := hm 0 hne
  obtain ⟨K, e, fr, h1, h2⟩ := cell_row (ha 0 hne)
  obtain ⟨⟨K', d, h3⟩, _⟩ := hfr B (o + 0) (List.mem_append_right _ (List.mem_append_right _ hp))
  rw [h1] at h3; cases h3
  exact ⟨K, _, h1, (Array.getElem?_eq_some_iff.1 h2).1, hp⟩
 obtain ⟨K1, d1, H1, l1, u1⟩ := at0 (by decide) a1 m1
 obtain ⟨K2, d2, H2, l2, u2⟩ := at0 (by decide) a2 m2
 obtain ⟨K3, d3, H3, l3, u3⟩ := at0 (by decide) a3 m3
 obtain ⟨K4, d4, H4, l4, u4⟩ := at0 (by decide) a4 m4
 have z0 : cs0.size = 2 := by rw [← Array.length_toList, one]; rfl
 have z1 : cs1.size = 1 := by rw [← Array.length_toList, hcs]; rfl
 have f2 : W.heap[2]? = some (.cells cs0 e0 (0, 0)) := by
  obtain ⟨⟨c, t, h3⟩, _⟩ := hfr 2 0 (by
   refine List.mem_append_left _ (List.mem_append_left _ (MemPlace.mem_row.2 ⟨0, by omega, rfl⟩)))
  rw [hb0] at h3; cases h3; exact hb0
 have f0 : W.heap[0]? = some (.cells cs1 e1 (0, 0)) := by
  obtain ⟨⟨c, t, h3⟩, _⟩ := hfr 0 0 (by
   refine List.mem_append_right _ (List.mem_append_left _ (MemPlace.mem_row.2 ⟨0, by omega, rfl⟩)))
  rw [hb1] at h3; cases h3; exact hb1
 have apart : ∀ {B o : Nat} {K : Array Value} {d : TypeId}, W.heap[B]? = some (.cells K d (0, 0)) → o < K.size → MemPlace.cell B o ∈ p1 → B ≠ 2 ∧ B ≠ 0 := by
  intro B o K d hB ho hp
  constructor
  ·rintro rfl
   rw [f2] at hB; cases hB
   have := (List.nodup_append.1 hnd).2.2 (.cell 2 o) (List.mem_append_left _ (MemPlace.mem_row.2 ⟨o, ho, by simp⟩)) (.cell 2 o) (List.mem_append_right _ hp)
   exact this rfl
  ·rintro rfl
   rw [f0] at hB; cases hB
   have := (List.nodup_append.1 (List.nodup_append.1 hnd).2.1).2.2 (.cell 0 o) (MemPlace.mem_row.2 ⟨o, ho, by simp⟩) (.cell 0 o) hp
   exact this rfl
 have keys : ∀ x ∈ es.toList, ∀ y ∈ es.toList, x.key = y.key → x = y := by
  intro x hx y hy hk
  have hpw := ((MapKept.stamped_iff es clock).1 F.stamped).2.2
  exact pw_eq hpw hx hy hk
 refine ⟨sg bm B1 o1 B2 o2 B3 o3 B4 o4, fun gl i hgi => ?_, build_rel f2 one f0 hcs hbm H1 H2 H3 H4 a1 a2 a3 a4 (apart H1 l1 u1) (apart H2 l2 u2) (apart H3 l3 u3) (apart H4 l4 u4) (fun x => litK (WideElems.rg Tryz.prog 3 R x).1) ?_ ?_⟩
 ·unfold glob at hgi
  split at hgi
  ·rename_i hg
   cases hgi
   rw [Nat.eq_of_beq_eq_true hg]
   exact ⟨2, rfl⟩
  ·split at hgi
   ·rename_i hg
    cases hgi
    rw [Nat.eq_of_beq_eq_true hg]
    exact ⟨1, rfl⟩
   ·cases hgi
 ·have := (perm.map fun y => absK (litK y.1)).symm
  rw [List.map_map] at this
  exact this
 ·intro x hx
  have hx0 : WideElems.rg Tryz.prog 3 R x ∈ tab.map fun kz => ((.int .i64 kz.1, .slice (ChangeShapes.lits .i64 kz.2) []) : Lit × DataW Unit) := perm.mem_iff.2 (List.mem_map.2 ⟨x, hx, rfl⟩)
  obtain ⟨kz, hkz, hrg⟩ := List.mem_map.1 hx0
  simp only [tab, List.mem_cons, List.not_mem_nil, or_false] at hkz
  rcases hkz with rfl | rfl | rfl | rfl
  ·obtain ⟨k, _⟩ := ent x hx _ (by decide) hrg.symm
   have := keys x hx x1 hm1 (k.trans k1.symm)
   subst this
   exact .inl ⟨c1, k, by rw [hr1]; rfl, v1⟩
  ·obtain ⟨k, _⟩ := ent x hx _ (by decide) hrg.symm
   have := keys x hx x2 hm2 (k.trans k2.symm)
   subst this
   exact .inr (.inl ⟨c2, k, by rw [hr2]; rfl, v2⟩)
  ·obtain ⟨k, _⟩ := ent x hx _ (by decide) hrg.symm
   have := keys x hx x3 hm3 (k.trans k3.symm)
   subst this
   exact .inr (.inr (.inl ⟨c3, k, by rw [hr3]; rfl, v3⟩))
  ·obtain ⟨k, _⟩ := ent x hx _ (by decide) hrg.symm
   have := keys x hx x4 hm4 (k.trans k4.symm)
   subst this
   exact .inr (.inr (.inr ⟨c4, k, by rw [hr4]; rfl, v4⟩))
end Go.Proofs.YtiigkjnhmipnfaaGreatDoor
namespace Go.Proofs.YtiigkjnhmipnfaaGreatDoor
def laidL : List (String × DataW Unit) := [("monocle/surface.one", Rows.laid_monocle_surface_one), ("monocle/surface.places", Rows.laid_monocle_surface_places)]
end Go.Proofs.YtiigkjnhmipnfaaGreatDoor
namespace Go.Eng
open Go
theorem agg_of_cells {v : Value} (h : 1 < v.cells.toList.length) : v = .agg v.cells.toList.toArray := by
 cases v <;> simp_all [Value.cells]
theorem draft_films {H : Type} {enc : TypeId × Value → H} {P : Program} {W : World} {base : Nat} {spare : Nat → Bool} {held : Bool} {t e i : Nat} {fs : Array Field} {f : Field} (ht : P.underlying t = some (.struct fs)) (hf : fs[i]? = some f) (hs : P.underlying f.type = some (.slice e)) (he : P.underlying e = some (.int .u8)) (off : f.offset + 1 = P.cellsOf t) (many : 0 < f.offset) (ce : P.cellsOf e = 1) (cf : P.cellsOf f.type = 1)
  {ts : List TypeId} {v : Value} {vs : List Value} {ds : List (DataW H)} {p : List MemPlace} (hA : DataW.TrodAll enc P W base spare held (t :: ts) (v :: vs) ds p) : ∃ cs last, v = .agg (cs ++ [last]).toArray ∧ ∃ n zs, Bytes W last n zs := by
 cases ds with
 | nil => simp [DataW.TrodAll] at hA
 | cons d ds =>
  obtain ⟨_, _, ⟨fuel, h⟩, _, _⟩ := hA
  obtain ⟨xs, n, _, _, hl, hxl, hff⟩ := DataW.trod_struct ht h
  have h1 := hff i f hf
  have hi : i < fs.size := (Array.getElem?_eq_some_iff.1 hf).1
  rw [List.getElem?_eq_getElem (by omega), cf] at h1
  have hlen : ((v.cells.toList.drop f.offset).take 1).length = 1 := by simp only [List.length_take, List.length_drop]; omega
  obtain ⟨last, hlast⟩ : ∃ last, (v.cells.toList.drop f.offset).take 1 = [last] := by
   match hq : (v.cells.toList.drop f.offset).take 1, hlen with
   | [a], _ => exact ⟨a, rfl⟩
  rw [hlast] at h1
  refine ⟨v.cells.toList.take f.offset, last, ?_, bytes_of hs he ce h1⟩
  have h2 : v.cells.toList.take f.offset ++ [last] = v.cells.toList := by
   rw [← hlast, List.take_of_length_le (l := v.cells.toList.drop f.offset) (by simp only [List.length_drop]; omega), List.take_append_drop]
  rw [h2]
  exact agg_of_cells (by omega)
end Go.Eng
