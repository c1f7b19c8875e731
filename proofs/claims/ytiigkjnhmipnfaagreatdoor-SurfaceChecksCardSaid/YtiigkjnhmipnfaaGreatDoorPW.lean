/- What is proved: SurfaceChecks returns true, whatever the input (part 23 of 28). No conditions beyond those of the row. -/
import Derived.Test.YtiigkjnhmipnfaaGreatDoorPL
set_option linter.unusedVariables false
set_option linter.unusedSimpArgs false
set_option linter.unusedSectionVars false
namespace Go.Proofs.YtiigkjnhmipnfaaGreatDoor.K
open Go Go.Eng Go.Ar Go.Rd
noncomputable section
def bHint (w : Int) (a : Int) (_ t : Nat) : Option AV := match Nat.beq t 18 with
 | true => some (.int false .u8 w)
 | false => match Nat.beq t 47 || (Nat.beq t 55 || Nat.beq t 132) with
  | true => some (.int false .i64 a)
  | false => none
def bHintT (a : Int) (c : Nat) : Option (Nat × AV) := match Nat.beq c 56 with
 | true => some (99, .int false .i64 a)
 | false => match Nat.beq c 64 with
  | true => some (120, .int false .i64 a)
  | false => none
noncomputable def cBn (w a : Int) : Ctx := { mkG Tryz.prog glob hG [] ext with hint := bHint w a, hintT := bHintT a }
theorem cBn_ok (w a : Int) : CtxOk (cBn w a) := by
 have co : CtxOk (mkG Tryz.prog glob hG [] ext) := mkG_ok prog_ok ext_ok fun _ h => by cases h
 exact ⟨co.prog, co.con, co.ext, co.loop, co.two⟩
def rb1 (C : Ctx) (b : Bn) (s : Su) (n : Nat) (zs : List Int) : Option (Nd × List AV × Nat × List Int) := outL (hG.size + 1) hG.clock 2 .i64 ((run C 1000).call 16 [.agg b.cells, .agg (s.ini ++ [co n])] (viewsH false hG [(.i64, zs)]))
end
end Go.Proofs.YtiigkjnhmipnfaaGreatDoor.K
