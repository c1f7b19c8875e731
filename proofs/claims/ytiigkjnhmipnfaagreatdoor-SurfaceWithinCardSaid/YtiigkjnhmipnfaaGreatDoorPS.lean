/- What is proved: SurfaceWithin returns true, whatever the input (part 19 of 22). No conditions beyond those of the row. -/
import Derived.Test.YtiigkjnhmipnfaaGreatDoorPR
set_option linter.unusedVariables false
set_option linter.unusedSimpArgs false
set_option linter.unusedSectionVars false
namespace Go.Proofs.YtiigkjnhmipnfaaGreatDoor
open Go Go.Eng

/-- monocle/monoclelaw11.wakes (208 steps) -/
theorem call77 : MemoOk Tryz.prog glob hG (14, [], (.bool false true)) := known table5_ok (by kernel_rfl) (by kernel_rfl) (by kernel_rfl)

end Go.Proofs.YtiigkjnhmipnfaaGreatDoor

/- What is proved: the contexts of laws of drafted surfaces' sags and slopes, at this seat. No conditions. -/
namespace Go.Proofs.YtiigkjnhmipnfaaGreatDoor.K
open Go Go.Eng Go.Ar Go.Rd
noncomputable section

def tblW : List (FuncId × HSpec) := [(14, gH (memoSpec [] (.bool false true))), (29, sagH), (31, slopeH)]
theorem tblW_g : ∀ x ∈ tblW, HOk Tryz.prog glob hG x.1 x.2 := by
  intro x hx
  simp only [tblW, List.mem_cons, List.not_mem_nil, or_false] at hx
  rcases hx with rfl | rfl | rfl
  · exact call77.g.h
  · exact sagH_ok
  · exact slopeH_ok
def hintL : List (Nat × Nat × Bool) → Nat → Nat → Option AV
  | [], _, _ => none
  | (c, d, b) :: l, x, y => match Nat.beq c x && Nat.beq d y with
    | true => (match b with | true => some (.bool false true) | false => some (.bool false false))
    | false => hintL l x y
/-- A context with hints: tests (clock, temporary, answer), and one number (clock, temporary, number). -/
def cW (hs : List (Nat × Nat × Bool)) (t d g : Nat) : Ctx := { mkH Tryz.prog glob hG tblW ext with hint := hintL hs, hintT := fun k => match Nat.beq t k with | true => some (d, .int false .i64 g) | false => none }
theorem cW_ok (hs : List (Nat × Nat × Bool)) (t d g : Nat) : CtxOk (cW hs t d g) :=
  have co := mkH_ok prog_ok ext_ok tblW_g
  ⟨co.prog, co.con, co.ext, fun fr a s q e => co.loop fr a s q e, co.two⟩
def dNu (z0 z1 z2 z3 z4 z5 z6 z7 z8 z9 z10 z11 z12 z13 z14 z15 z16 z17 z18 z19 z20 : Int) : List Nu := [.n z0, .n z1, .n z2, .n z3, .n z4, .n z5, .n z6, .n z7, .n z8, .n z9, .n z10, .n z11, .n z12, .n z13, .n z14, .n z15, .n z16, .n z17, .n z18, .n z19, .n z20]
/-- A draft, but for its films. -/
def drI : List Sh := [.i .u8, .i .i16, .i .i16, .i .i16, .i .i16, .i .i8, .i .i8, .i .i8, .i .i8, .i .i8, .i .i8, .i .i8, .i .i16, .i .u8, .i .u8, .i .u8, .i .i8, .i .i8, .i .i8, .i .i8, .i .i8]
def at4 (x0 x1 x2 x3 : Int) : AV := .agg [.int true .i16 x0, .int true .i16 x1, .int true .i16 x2, .int true .i16 x3]
/-- The run of a law over a draft. -/
def lawR (f : FuncId) (hs : List (Nat × Nat × Bool)) (g : Nat) (fs : List Int) (z : List Nu) (n : Int) (rest : List AV) : Option (Nd × AV) :=
  oneG (filmH hG fs).size (filmH hG fs).clock ((run (cW hs 42 25 g) 1000).call f (.agg ((Sh.mkL drI z).1 ++ [filmV hG fs n]) :: rest) (filmH hG fs))
end
end Go.Proofs.YtiigkjnhmipnfaaGreatDoor.K
