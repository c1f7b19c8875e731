/- What is proved: SurfaceSets returns true, whatever the input (part 21 of 31). No conditions beyond those of the row. -/
import Derived.Test.YtiigkjnhmipnfaaGreatDoorPP
set_option linter.unusedVariables false
set_option linter.unusedSimpArgs false
set_option linter.unusedSectionVars false
namespace Go.Rd
open Go Go.Eng Go.Ar
def neL : List Int → List Int → List Bool
 | i :: p :: q :: r, j :: u :: v :: w => (!(i == j && (p == u && (q == v && true)))) :: neL r w
 | _, _ => []
section
variable (s t : Su)
def nP : Bool := s.kd == t.kd && (s.c == t.c && (s.k == t.k && (s.l == t.l && (s.m == t.m && (s.o == t.o && (s.th == t.th && (s.se == t.se && (s.ho == t.ho && (s.dx == t.dx && (s.dy == t.dy && (s.ax == t.ax && (s.ay == t.ay && (s.az == t.az && ((0 : Int) == 0 && ((0 : Int) == 0 && (s.a0 == t.a0 && (s.a1 == t.a1 && (s.a2 == t.a2 && (s.a3 == t.a3 && (s.f0 == t.f0 && (s.f1 == t.f1 && (eqBytes s.g t.g && true))))))))))))))))))))))
def sameS (ys zs : List Int) : Bool := nP s t && (decide (ys.length = zs.length) && !anyB (neL ys zs))
def suQ : Prop := t.kd = t.kd ∧ t.c = t.c ∧ t.k = t.k ∧ t.l = t.l ∧ t.m = t.m ∧ t.a0 = t.a0 ∧ t.a1 = t.a1 ∧ t.a2 = t.a2 ∧ t.a3 = t.a3 ∧ t.f0 = t.f0 ∧ t.f1 = t.f1 ∧ t.o = t.o ∧ t.th = t.th ∧ t.g = t.g ∧ t.se = t.se ∧ t.ho = t.ho ∧ t.dx = t.dx ∧ t.dy = t.dy ∧ t.ax = t.ax ∧ t.ay = t.ay ∧ t.az = t.az
theorem suQ_t : suQ t := by unfold suQ; simp only [and_self]
def smP (ys zs : List Int) : Bool := bif nP s t then sel (neL ys zs) false true else false
theorem smP_eq {ys zs : List Int} (h : ys.length = zs.length) : smP s t ys zs = sameS s t ys zs := by
 unfold smP sameS
 rw [sel_eq, decide_eq_true h]
 cases nP s t <;> cases anyB (neL ys zs) <;> rfl
end
theorem neL_refl : ∀ ys : List Int, anyB (neL ys ys) = false
 | [] => rfl
 | [_] => rfl
 | [_, _] => rfl
 | i :: p :: q :: r => by
  simp only [neL, anyB, neL_refl r]
  simp
theorem eqB_refl (g : ByteArray) : eqBytes g g = true := (eqBytes_iff g g).2 rfl
theorem sameS_refl (s : Su) (ys : List Int) : sameS s s ys ys = true := by
 unfold sameS nP
 have hb : eqBytes s.g s.g = true := eqB_refl _
 simp only [neL_refl, hb, beq_self_eq_true, Bool.and_true, decide_true, Bool.not_false, Bool.true_and]
end Go.Rd
