/- What is proved: SurfaceParams returns true, whatever the input (part 26 of 28). No conditions beyond those of the row. -/
import Derived.Test.YtiigkjnhmipnfaaGreatDoorPY
set_option linter.unusedVariables false
set_option linter.unusedSimpArgs false
set_option linter.unusedSectionVars false
namespace Go.Proofs.YtiigkjnhmipnfaaGreatDoor.K
open Go Go.Eng Go.Ar Go.Rd
noncomputable section
theorem pa_run (F : PF) (d : Df) (n : Int) (zs : List Int) (b : Bn) (p v : Int) : runP F [(0, 96, false), (0, 102, false)] d n zs (rest11 b p v) = some (.p (paN d n zs b p v F), .bool false true) := by kernel_rfl
def dpa : List Sh := [.a bnI, .i .i64, .i .i64]
theorem pa_true : ∀ xs ys, xs.map Nu.isN = Sh.kindsL drI → inRange (Sh.leavesL drI) xs → ys.map Nu.isN = Sh.kindsL dpa → inRange (Sh.leavesL dpa) ys → ∀ (n : Int) (zs : List Int), n = zs.length → (∀ z ∈ zs, 0 ≤ z ∧ z ≤ 255) → LawTrueH Tryz.prog glob (hG.push0 (.rows .u8 zs)) 4 (.agg ((Sh.mkL drI xs).1 ++ [.lslice hG.size n]) :: (Sh.mkL dpa ys).1) := by
 intro xs ys hx rx hy ry n zs hn _
 obtain ⟨z0, _, rfl, h0⟩ := kn hx
 obtain ⟨z1, _, rfl, h1⟩ := kn h0
 obtain ⟨z2, _, rfl, h2⟩ := kn h1
 obtain ⟨z3, _, rfl, h3⟩ := kn h2
 obtain ⟨z4, _, rfl, h4⟩ := kn h3
 obtain ⟨z5, _, rfl, h5⟩ := kn h4
 obtain ⟨z6, _, rfl, h6⟩ := kn h5
 obtain ⟨z7, _, rfl, h7⟩ := kn h6
 obtain ⟨z8, _, rfl, h8⟩ := kn h7
 obtain ⟨z9, _, rfl, h9⟩ := kn h8
 obtain ⟨z10, _, rfl, h10⟩ := kn h9
 obtain ⟨z11, _, rfl, h11⟩ := kn h10
 obtain ⟨z12, _, rfl, h12⟩ := kn h11
 obtain ⟨z13, _, rfl, h13⟩ := kn h12
 obtain ⟨z14, _, rfl, h14⟩ := kn h13
 obtain ⟨z15, _, rfl, h15⟩ := kn h14
 obtain ⟨z16, _, rfl, h16⟩ := kn h15
 obtain ⟨z17, _, rfl, h17⟩ := kn h16
 obtain ⟨z18, _, rfl, h18⟩ := kn h17
 obtain ⟨z19, _, rfl, h19⟩ := kn h18
 obtain ⟨z20, _, rfl, h20⟩ := kn h19
 obtain rfl := k0 h20
 obtain ⟨y0, _, rfl, j0⟩ := kn hy
 obtain ⟨y1, _, rfl, j1⟩ := kn j0
 obtain ⟨y2, _, rfl, j2⟩ := kn j1
 obtain ⟨y3, _, rfl, j3⟩ := ks j2
 obtain ⟨y4, _, rfl, j4⟩ := kn j3
 obtain ⟨y5, _, rfl, j5⟩ := kn j4
 obtain rfl := k0 j5
 obtain ⟨-, -, -, -, -, -, -, -, -, -, -, -, -, g13, -⟩ := rx
 obtain ⟨w0, w1, -⟩ := ry
 have hb : (⟨y0, y1, y2, y3⟩ : Bn).ok := ⟨w0.1, w0.2, w1.1, w1.2⟩
 exact ⟨cPar pf0 [(0, 96, false), (0, 102, false)], 100000, _, _, _, cPar_ok _, rfl, rfl, pa_run pf0 ⟨z0, z1, z2, z3, z4, z5, z6, z7, z8, z9, z10, z11, z12, z13, z14, z15, z16, z17, z18, z19, z20⟩ n zs ⟨y0, y1, y2, y3⟩ y4 y5, paN_t _ _ _ _ _ _ ⟨hn, g13.1, g13.2⟩ hb, rfl⟩
end
end Go.Proofs.YtiigkjnhmipnfaaGreatDoor.K
