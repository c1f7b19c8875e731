/- What is proved: SurfaceEven returns true, whatever the input (part 21 of 24). No conditions beyond those of the row. -/
import Derived.Test.YtiigkjnhmipnfaaGreatDoorPT
set_option linter.unusedVariables false
set_option linter.unusedSimpArgs false
set_option linter.unusedSectionVars false
namespace Go.Proofs.YtiigkjnhmipnfaaGreatDoor
open Go Go.Eng
theorem call77 : MemoOk Tryz.prog glob hG (14, [], (.bool false true)) := known table5_ok (by kernel_rfl) (by kernel_rfl) (by kernel_rfl)
end Go.Proofs.YtiigkjnhmipnfaaGreatDoor
namespace Go.Proofs.YtiigkjnhmipnfaaGreatDoor.K
open Go Go.Eng Go.Ar Go.Rd
noncomputable section
def hintL : List (Nat × Nat × Bool) → Nat → Nat → Option AV
  | [], _, _ => none
  | (c, d, b) :: l, x, y => match Nat.beq c x && Nat.beq d y with
    | true => (match b with | true => some (.bool false true) | false => some (.bool false false))
    | false => hintL l x y
def dNu (z0 z1 z2 z3 z4 z5 z6 z7 z8 z9 z10 z11 z12 z13 z14 z15 z16 z17 z18 z19 z20 : Int) : List Nu := [.n z0, .n z1, .n z2, .n z3, .n z4, .n z5, .n z6, .n z7, .n z8, .n z9, .n z10, .n z11, .n z12, .n z13, .n z14, .n z15, .n z16, .n z17, .n z18, .n z19, .n z20]
def drI : List Sh := [.i .u8, .i .i16, .i .i16, .i .i16, .i .i16, .i .i8, .i .i8, .i .i8, .i .i8, .i .i8, .i .i8, .i .i8, .i .i16, .i .u8, .i .u8, .i .u8, .i .i8, .i .i8, .i .i8, .i .i8, .i .i8]
def at4 (x0 x1 x2 x3 : Int) : AV := .agg [.int true .i16 x0, .int true .i16 x1, .int true .i16 x2, .int true .i16 x3]
end
end Go.Proofs.YtiigkjnhmipnfaaGreatDoor.K
namespace Go.Proofs.YtiigkjnhmipnfaaGreatDoor.K
open Go Go.Eng Go.Ar Go.Rd
noncomputable section
def tblA : List (FuncId × HSpec) := [(14, gH (memoSpec [] (.bool false true))), (29, sagA), (31, slopeA)]
theorem tblA_g : ∀ x ∈ tblA, HOk Tryz.prog glob hG x.1 x.2 := by
  intro x hx
  simp only [tblA, List.mem_cons, List.not_mem_nil, or_false] at hx
  rcases hx with rfl | rfl | rfl
  · exact call77.g.h
  · exact sagA_ok
  · exact slopeA_ok
def cA (hs : List (Nat × Nat × Bool)) (t d g : Nat) : Ctx := { mkH Tryz.prog glob hG tblA ext with hint := hintL hs, hintT := fun k => match Nat.beq t k with | true => some (d, .int false .i64 g) | false => none }
theorem cA_ok (hs : List (Nat × Nat × Bool)) (t d g : Nat) : CtxOk (cA hs t d g) :=
  have co := mkH_ok prog_ok ext_ok tblA_g
  ⟨co.prog, co.con, co.ext, fun fr a s q e => co.loop fr a s q e, co.two⟩
def spA (a b : Int) : AV := .agg [.int true .i64 a, .int true .i64 b]
def lawA (f : FuncId) (hs : List (Nat × Nat × Bool)) (t g : Nat) (fs : List Int) (z : List Nu) (n : Int) (rest : List AV) : Option (Nd × AV) :=
  oneG (filmH hG fs).size (filmH hG fs).clock ((run (cA hs t 25 g) 1000).call f (.agg ((Sh.mkL drI z).1 ++ [filmV hG fs n]) :: rest) (filmH hG fs))
end
end Go.Proofs.YtiigkjnhmipnfaaGreatDoor.K
