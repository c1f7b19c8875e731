/- What is proved: FrameKnown returns true (part 14 of 14). No conditions beyond those of the row. -/
import Derived.Test.YtlbabiemgageaaaGreatDoorPM
import Derived.Test.YtlbabiemgageaaaGreatDoorCards
import Derived.Test.YtlbabiemgageaaaGreatDoorTie
import Derived.LaidMore
import Derived.OpenShut
import Derived.Stop.Joined
set_option linter.unusedVariables false
set_option linter.unusedSimpArgs false
set_option linter.unusedSectionVars false
/- What is proved: FrameKnown returns true, whatever the input. No conditions beyond those of the row. -/
namespace Go.Proofs.YtlbabiemgageaaaGreatDoor.frameKnown
open Go.ChangeShapes Go.WideShapes Go.ChangeAt Go.WideMaps Go.WideElems Go.RowKit

set_option maxHeartbeats 40000000 in
theorem card_holds : Rows.FrameKnownCardSaid :=
  Claim7.holds_tied_plain_at .later [] [.data, .mappedDeep, .data] true (true, "fd1ef2a7bd2258c69a40e24e772bf79c8210adb13ff29989c837666bece598f1") false
    over (fun _ h => by cases h) (by as_aux_lemma => kernel_rfl) (fun _ h => by cases h) frameKnown_row_tie rfl ⟨rfl, rfl⟩ (by as_aux_lemma => kernel_rfl) rfl
    (fun f fn hf hfn => by
      obtain rfl : f = 11 := Option.some.inj ((show Tryz.prog.funcNamed "monocle/monoclelaw14.FrameKnown" = some 11 by kernel_rfl).symm.trans hf) |>.symm
      obtain rfl : fn = Tryz.f11 := (Option.some.inj (Tryz.func11.symm.trans hfn)).symm
      exact ⟨by kernel_rfl, fun j t ht => by
        rw [Tryz.params11] at ht
        simp at ht⟩)
    (by as_aux_lemma => kernel_rfl)

end Go.Proofs.YtlbabiemgageaaaGreatDoor.frameKnown
