/- What is proved: SurfaceChecks returns true, whatever the input (part 26 of 28). No conditions beyond those of the row. -/
import Derived.Test.YtiigkjnhmipnfaaGreatDoorPF
import Derived.Test.YtiigkjnhmipnfaaGreatDoorPY
set_option linter.unusedVariables false
set_option linter.unusedSimpArgs false
set_option linter.unusedSectionVars false
namespace Go.Proofs.YtiigkjnhmipnfaaGreatDoor.K
open Go Go.Eng Go.Ar Go.Rd
noncomputable section
theorem ck_run (F : CF) (s : Su) (k : Int) (qs : List Int) (d : Df) (n : Int) (zs : List Int) (b e : Bn) : runL2 (cCk F) 3 s k qs d n zs [.agg (b.cells ++ e.cells)] = some (.p (ckP F s k qs d n zs b e), .bool true (ckW F s k qs d zs b e)) := by kernel_rfl
theorem ckP_t {s : Su} {k : Int} {qs : List Int} {d : Df} {n : Int} {zs : List Int} {b e : Bn} (hD : n = zs.length ∧ 0 ≤ d.gl ∧ d.gl ≤ 255) (hb : b.ok) (he : e.ok) (hk : 0 ≤ k ∧ qs.length = 3 * k.toNat) : ckP cf0 s k qs d n zs b e := by
 have hy := dys_ok d zs
 have g0 := dsu_g d
 have h0 : ckZ (tr0 cf0 d zs) := by
  show okF3 (dnf d zs : Int) (dys d zs) ∧ (dsu d).g.size < 1000000000
  exact ⟨⟨by omega, by omega, by rw [Int.toNat_natCast]; exact hy.1⟩, by omega⟩
 have n1 : bnf b (dnf d zs) ≤ 9 := bnf9 hb (by omega)
 have hy1 := bys_ok b (dnf d zs) (dys d zs) hy.1 (by omega) hb
 have g1 := bsu_g b (dsu d)
 have h1 : ckZ (trB cf0 b (tr0 cf0 d zs)) := by
  show okF3 (bnf b (dnf d zs : Int).toNat : Int) (bys b (dnf d zs : Int).toNat (dys d zs)) ∧ (bsu b (dsu d)).g.size < 1000000000
  rw [Int.toNat_natCast]
  exact ⟨⟨by omega, by omega, by rw [Int.toNat_natCast]; exact hy1.1⟩, by omega⟩
 have hy2 := bys_ok e (bnf b (dnf d zs)) (bys b (dnf d zs) (dys d zs)) hy1.1 n1 he
 have g2 := bsu_g e (bsu b (dsu d))
 have h2 : ckZ (trB cf0 e (trB cf0 b (tr0 cf0 d zs))) := by
  show okF3 (bnf e (bnf b (dnf d zs : Int).toNat : Int).toNat : Int) (bys e (bnf b (dnf d zs : Int).toNat : Int).toNat (bys b (dnf d zs : Int).toNat (dys d zs))) ∧ (bsu e (bsu b (dsu d))).g.size < 1000000000
  rw [Int.toNat_natCast, Int.toNat_natCast]
  exact ⟨⟨by omega, by omega, by rw [Int.toNat_natCast]; exact hy2.1⟩, by omega⟩
 have g3 := fwS_g s
 have h3 : ckZ (trF cf0 s k qs) := ⟨fwY_ok hk.1 hk.2, by show (fwS s).g.size < 1000000000; omega⟩
 refine ⟨hD, ⟨hb, h0.1, ?_⟩, ⟨⟨he, h1.1, ?_⟩, ⟨paE_t _ _, paE_t _ _, paE_t _ _⟩, hk, paE_t _ _, paE_t _ _⟩, ckN_t cf0 h0 h1 h2 h3⟩
 ·show (dnf d zs : Int) ≤ 9
  omega
 ·show (bnf b (dnf d zs : Int).toNat : Int) ≤ 9
  rw [Int.toNat_natCast]
  omega
def dck : List Sh := [.a (bnI ++ bnI)]
theorem ck_true : ∀ ws xs ys, ws.map Nu.isN = Sh.kindsL suI → inRange (Sh.leavesL suI) ws → xs.map Nu.isN = Sh.kindsL drI → inRange (Sh.leavesL drI) xs → ys.map Nu.isN = Sh.kindsL dck → inRange (Sh.leavesL dck) ys → ∀ (k : Int) (qs : List Int) (n : Int) (zs : List Int), 0 ≤ k → qs.length = 3 * k.toNat → n = zs.length → (∀ z ∈ zs, 0 ≤ z ∧ z ≤ 255) →
  LawTrueH Tryz.prog glob ((hG.push0 (.rows .i64 qs)).push0 (.rows .u8 zs)) 3 (.agg ((Sh.mkL suI ws).1 ++ [.lslice hG.size k]) :: .agg ((Sh.mkL drI xs).1 ++ [.lslice (hG.size + 1) n]) :: (Sh.mkL dck ys).1) := by
 intro ws xs ys hw rw0 hx rx hy ry k qs n zs hk hq hn _
 obtain ⟨s0, _, rfl, i0⟩ := kn hw
 obtain ⟨s1, _, rfl, i1⟩ := kn i0
 obtain ⟨s2, _, rfl, i2⟩ := kn i1
 obtain ⟨s3, _, rfl, i3⟩ := kn i2
 obtain ⟨s4, _, rfl, i4⟩ := kn i3
 obtain ⟨s5, _, rfl, i5⟩ := kn i4
 obtain ⟨s6, _, rfl, i6⟩ := kn i5
 obtain ⟨s7, _, rfl, i7⟩ := kn i6
 obtain ⟨s8, _, rfl, i8⟩ := kn i7
 obtain ⟨s9, _, rfl, i9⟩ := kn i8
 obtain ⟨s10, _, rfl, i10⟩ := kn i9
 obtain ⟨s11, _, rfl, i11⟩ := kn i10
 obtain ⟨s12, _, rfl, i12⟩ := kn i11
 obtain ⟨s13, _, rfl, i13⟩ := ks i12
 obtain ⟨s14, _, rfl, i14⟩ := kn i13
 obtain ⟨s15, _, rfl, i15⟩ := kn i14
 obtain ⟨s16, _, rfl, i16⟩ := kn i15
 obtain ⟨s17, _, rfl, i17⟩ := kn i16
 obtain ⟨s18, _, rfl, i18⟩ := kn i17
 obtain ⟨s19, _, rfl, i19⟩ := kn i18
 obtain ⟨s20, _, rfl, i20⟩ := kn i19
 obtain rfl := k0 i20
 obtain ⟨z0, _, rfl, h0⟩ := kn hx
 obtain ⟨z1, _, rfl, h1⟩ := kn h0
 obtain ⟨z2, _, rfl, h2⟩ := kn h1
 obtain ⟨z3, _, rfl, h3⟩ := kn h2
 obtain ⟨z4, _, rfl, h4⟩ := kn h3
 obtain ⟨z5, _, rfl, h5⟩ := kn h4
 obtain ⟨z6, _, rfl, h6⟩ := kn h5
 obtain ⟨z7, _, rfl, h7⟩ := kn h6
 obtain ⟨z8, _, rfl, h8⟩ := kn h7
 obtain ⟨z9, _, rfl, h9⟩ := kn h8
 obtain ⟨z10, _, rfl, h10⟩ := kn h9
 obtain ⟨z11, _, rfl, h11⟩ := kn h10
 obtain ⟨z12, _, rfl, h12⟩ := kn h11
 obtain ⟨z13, _, rfl, h13⟩ := kn h12
 obtain ⟨z14, _, rfl, h14⟩ := kn h13
 obtain ⟨z15, _, rfl, h15⟩ := kn h14
 obtain ⟨z16, _, rfl, h16⟩ := kn h15
 obtain ⟨z17, _, rfl, h17⟩ := kn h16
 obtain ⟨z18, _, rfl, h18⟩ := kn h17
 obtain ⟨z19, _, rfl, h19⟩ := kn h18
 obtain ⟨z20, _, rfl, h20⟩ := kn h19
 obtain rfl := k0 h20
 obtain ⟨y0, _, rfl, j0⟩ := kn hy
 obtain ⟨y1, _, rfl, j1⟩ := kn j0
 obtain ⟨y2, _, rfl, j2⟩ := kn j1
 obtain ⟨y3, _, rfl, j3⟩ := ks j2
 obtain ⟨y4, _, rfl, j4⟩ := kn j3
 obtain ⟨y5, _, rfl, j5⟩ := kn j4
 obtain ⟨y6, _, rfl, j6⟩ := kn j5
 obtain ⟨y7, _, rfl, j7⟩ := ks j6
 obtain rfl := k0 j7
 obtain ⟨-, -, -, -, -, -, -, -, -, -, -, -, -, g13, -⟩ := rx
 obtain ⟨w0, w1, w2, w3, w4, -⟩ := ry
 have hb : (⟨y0, y1, y2, y3⟩ : Bn).ok := ⟨w0.1, w0.2, w1.1, w1.2⟩
 have he : (⟨y4, y5, y6, y7⟩ : Bn).ok := ⟨w3.1, w3.2, w4.1, w4.2⟩
 exact ⟨cCk cf0, 10000, _, _, _, cCk_ok, rfl, rfl, ck_run cf0 ⟨s0, s1, s2, s3, s4, s5, s6, s7, s8, s9, s10, s11, s12, s13, s14, s15, s16, s17, s18, s19, s20⟩ k qs ⟨z0, z1, z2, z3, z4, z5, z6, z7, z8, z9, z10, z11, z12, z13, z14, z15, z16, z17, z18, z19, z20⟩ n zs ⟨y0, y1, y2, y3⟩ ⟨y4, y5, y6, y7⟩, ckP_t ⟨hn, g13.1, g13.2⟩ hb he ⟨hk, hq⟩, ckV_t _ _ _ _ _⟩
end
end Go.Proofs.YtiigkjnhmipnfaaGreatDoor.K
