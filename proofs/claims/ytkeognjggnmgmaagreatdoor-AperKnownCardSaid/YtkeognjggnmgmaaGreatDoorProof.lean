/- What is proved: that AperKnown returns true: a part of the proof (part 10 of 10). No conditions beyond those of the row. -/
import Derived.Test.YtkeognjggnmgmaaGreatDoorPI
import Derived.Test.YtkeognjggnmgmaaGreatDoorCards
import Derived.Test.YtkeognjggnmgmaaGreatDoorTie
import Derived.LaidMore
import Derived.OpenShut
import Derived.Stop.Joined
set_option linter.unusedVariables false
set_option linter.unusedSimpArgs false
set_option linter.unusedSectionVars false
/- What is proved: calls of the law AperKnown, of which the answers are known (level 6). No conditions. -/
namespace Go.Proofs.YtkeognjggnmgmaaGreatDoor
open Go Go.Eng

/-- monocle/monoclelaw15.wakes (3570 steps) -/
theorem call85 : MemoOk Tryz.prog glob hG (10, [], (.bool false true)) := known table5_ok (by kernel_rfl) (by kernel_rfl) (by kernel_rfl)

def table6 : List (FuncId × List AV × AV) :=
  (10, [], (.bool false true)) ::
  table5
theorem table6_ok : ∀ x ∈ table6, MemoOk Tryz.prog glob hG x :=
  more call85 (table5_ok)

end Go.Proofs.YtkeognjggnmgmaaGreatDoor

/- What is proved: calls of the law AperKnown, of which the answers are known (level 7). No conditions. -/
namespace Go.Proofs.YtkeognjggnmgmaaGreatDoor
open Go Go.Eng

/-- monocle/monoclelaw15.AperKnown (9401 steps) -/
theorem call86 : MemoOk Tryz.prog glob hG (9, [], (.bool false true)) := known table6_ok (by kernel_rfl) (by kernel_rfl) (by kernel_rfl)

def table7 : List (FuncId × List AV × AV) :=
  (9, [], (.bool false true)) ::
  table6
theorem table7_ok : ∀ x ∈ table7, MemoOk Tryz.prog glob hG x :=
  more call86 (table6_ok)

end Go.Proofs.YtkeognjggnmgmaaGreatDoor

/- What is proved: AperKnown returns true, whatever the input. No conditions beyond those of the row. -/
namespace Go.Proofs.YtkeognjggnmgmaaGreatDoor.aperKnown
open Go.ChangeShapes Go.WideShapes Go.ChangeAt Go.WideMaps Go.WideElems Go.RowKit

theorem own : ownKnob Tryz.prog.godebug = none := by kernel_rfl

theorem walk (W : World) (h : laidMetH Tryz.prog laidL W) : Calls Tryz.prog 9 #[] W fun e w' => e = .returned (.bool true) ∧ Grown W w' := by
  obtain ⟨σ, g, r⟩ := of_laid h
  exact Go.Eng.memo_true call86 g r (by kernel_rfl) (by kernel_rfl)

theorem door_met (os : Os) (args : Array Value) : laidMetH Tryz.prog laidL ((World.doorLaid Tryz.prog 400 os).forCall (fun _ _ => 0) ⟨#[], args, []⟩).memory :=
  laidMetH_of_parts3 (fuel := 8) (laidMet_of_run' 8 (by kernel_rfl) (by kernel_rfl)) (by kernel_rfl) (by kernel_rfl)

set_option maxRecDepth 100000 in
theorem lifted (os : Os) (started : os.Started) (H : Type) (enc : TypeId × Value → H) :
    ReturnsInHanded {} Tryz.checked os 9 .any (fun w args => (Rows.aperKnownSpec.pre enc Tryz.prog Tryz.f9 [] false w args ∧ laidMetH Tryz.prog laidL w) ∧ sizedMet enc Tryz.prog Tryz.f9 (OpenSpec.ofChange Rows.aperKnownSpec) false w args)
      (Rows.aperKnownSpec.post enc Tryz.prog Tryz.f9 false true false false) := by
  refine returnsInHanded_of_change_and (C := Tryz.checked) (X := fun w _ => laidMetH Tryz.prog laidL w) (fun _ _ _ hh h => h.of_heap hh) own started (by kernel_rfl) Tryz.func9
    (ChangeSpec.witness_shaped (enc := enc) (C := Tryz.checked) (os := os) (X := fun w _ => laidMetH Tryz.prog laidL w) false (World.doorLaid Tryz.prog 400 os) #[] 8 rfl (World.shaped_of_RefB (by kernel_rfl) (by kernel_rfl)) (by kernel_rfl) (by kernel_rfl) (by kernel_rfl) (door_met os _)) ?_
  intro W base args ds gs before hval0 hW _ _ hL _
  have hval : ∀ (j : Nat) t v, Tryz.f9.params[j]? = some t → args[j]? = some v → Value.okWide Tryz.prog W .any base t v := hval0
  have hW' := hW
  obtain ⟨p, q, hA0, hV, rfl, hfz, hnd⟩ := hW
  have hA : DataW.TrodAll enc Tryz.prog W 0 (fun _ => true) true Tryz.f9.params.toList args.toList ds p := hA0
  rw [Tryz.params9] at hA hval
  obtain ⟨rfl, rfl, rfl⟩ := trodAll_none hA
  obtain ⟨rfl, rfl⟩ := trodVars_none hV
  clear hA0 hval0
  simp only [List.append_nil] at hW'
  refine (walk W hL).mono fun e W' ⟨he, hg⟩ => ?_
  subst he
  exact ⟨_, rfl, post_of_same (pa := []) (pv := []) hW' (fun _ _ _ => (trodAll_cons_mk (shut_bool Tryz.underlying4 _) trodAll_mk0)) (fun sp _ => rfl) (fun _ _ => rfl) rfl
    (hg.frame _) hg.2.1 (ok_one (by kernel_rfl) rfl (okWide_bool_mk Tryz.underlying4 _))⟩

theorem over : Rows.AperKnownSaid :=
  OpenClaim.holds_of_wide 9 Tryz.f9 rfl rfl rfl rfl rfl rfl rfl ⟨rfl, rfl, rfl, rfl, rfl⟩ rfl rfl rfl rfl rfl (by kernel_rfl) Tryz.func9 (by kernel_rfl)
    (of_decide_eq_true (by kernel_rfl)) (by unfold Func.isWrapper; first | (rw [if_pos (by decide +kernel)]; kernel_rfl) | (rw [if_neg (by decide +kernel)]; exact ⟨rfl, rfl⟩))
    (fun os started H enc _ => lifted os started H enc)

theorem card_holds : Rows.AperKnownCardSaid :=
  Claim7.holds_tied_plain_at .later [] [.data, .data, .mappedDeep, .data] true (true, "d9670bc5e3d8d9555967d5528892bdd8478a83c5c1623dcfc6b9692e720f517d") false
    over (fun _ h => by cases h) (by kernel_rfl) (fun _ h => by cases h) aperKnown_row_tie rfl ⟨rfl, rfl⟩ (by kernel_rfl) rfl
    (fun f fn hf hfn => by
      obtain rfl : f = 9 := Option.some.inj ((show Tryz.prog.funcNamed "monocle/monoclelaw15.AperKnown" = some 9 by kernel_rfl).symm.trans hf) |>.symm
      obtain rfl : fn = Tryz.f9 := (Option.some.inj (Tryz.func9.symm.trans hfn)).symm
      exact ⟨by kernel_rfl, fun j t ht => by
        rw [Tryz.params9] at ht
        simp at ht⟩)
    (by kernel_rfl)

end Go.Proofs.YtkeognjggnmgmaaGreatDoor.aperKnown
