/- What is proved: a law of surfaces returns true, whatever the input (part 21 of 21). No conditions beyond those of the row. -/
import Derived.Test.YtiigkjnhmipnfaaGreatDoorPT
import Derived.Test.YtiigkjnhmipnfaaGreatDoorCards
import Derived.Test.YtiigkjnhmipnfaaGreatDoorTie
import Derived.LaidMore
import Derived.OpenShut
import Derived.Stop.Joined
import Derived.WideKeyArgs
set_option linter.unusedVariables false
set_option linter.unusedSimpArgs false
set_option linter.unusedSectionVars false
namespace Go.Proofs.YtiigkjnhmipnfaaGreatDoor.K
open Go Go.Eng Go.Ar Go.Rd
noncomputable section
theorem lawSp_run (F : Su → List Int → Int → Int → Int → Int → Nat → Int) (d : Df) (n : Int) (zs : List Int) (b : Bn) (q : Pls) : runL (cLP F) 6 d n zs (rest9 b q.a0 q.a1 q.b0 q.b1 q.p0 q.p1 q.p2 q.p3) = some (.p (lawN q (fun a c x y => sm5 (F (dsu d) (dys d zs) a c x y)) (fun a c x y => sm5 (F (bsu b (dsu d)) (bys b (dnf d zs : Int).toNat (dys d zs)) a c x y)) d n zs b), .bool true (lawV q (fun a c x y => sm5 (F (dsu d) (dys d zs) a c x y)) (fun a c x y => sm5 (F (bsu b (dsu d)) (bys b (dnf d zs : Int).toNat (dys d zs)) a c x y)))) := by kernel_rfl
theorem lawSp_true : Law9 6 := law9_true cLP_ok rfl rfl _ _ (fun _ _ _ _ _ _ _ => ⟨sm5_t _, sm5_t _⟩) (lawSp_run slpF)
end
end Go.Proofs.YtiigkjnhmipnfaaGreatDoor.K
namespace Go.Proofs.YtiigkjnhmipnfaaGreatDoor.surfaceSlopes
open Go.ChangeShapes Go.WideShapes Go.ChangeAt Go.WideMaps Go.WideElems Go.RowKit
open Go.Proofs.YtiigkjnhmipnfaaGreatDoor.K
theorem own : ownKnob Tryz.prog.godebug = none := by kernel_rfl
theorem shapes : Eng.shapesT Tryz.prog [35, 37, 56, 56, 57] = some (.a (Go.Rd.drI ++ [.c (.any true)]) :: dsh) := by kernel_rfl
theorem old_ok : Eng.allOld hG8.clock hG8.blks = true := by kernel_rfl
theorem noK_ok : (hG8.blks.all fun b => Eng.noK .u8 b.body) = true := by kernel_rfl
set_option maxRecDepth 100000 in
theorem walk (W : World) {base : Nat} {A : Array Value} {v : Value} {vs : List Value} {cs : List Value} {last : Value} (hA : A.toList = v :: vs) (hl : vs.length = ([37, 56, 56, 57] : List TypeId).length) (hc : v = .agg (cs ++ [last]).toArray) (hlast : ∃ n zs, Eng.Bytes W last n zs) (hv : ∀ (j : Nat) t v, ([35, 37, 56, 56, 57] : List TypeId)[j]? = some t → A.toList[j]? = some v → Value.okWide Tryz.prog W .any base t v) (h : laidMetH Tryz.prog laidL8 W) :
  Calls Tryz.prog 6 A W fun e w' => e = .returned (.bool true) ∧ Grown W w' ∧ ∀ B, B < W.heap.size → w'.heap[B]? = W.heap[B]? := by
 obtain ⟨σ, g, r⟩ := of_laid8 h
 exact @Eng.law_walkL Tryz.prog glob8 hG8 noK_ok old_ok (by decide) 6 35 [37, 56, 56, 57] Go.Rd.drI dsh shapes lawSp_true W base σ A g r v vs hA hl cs last hc hlast hv
theorem door_met (os : Os) (args : Array Value) : laidMetH Tryz.prog laidL8 ((World.doorLaid Tryz.prog 400 os).forCall (fun _ _ => 0) ⟨#[], args, []⟩).memory :=
 laidMetH_of_parts3 (fuel := 8) (laidMet_of_run' 8 (by kernel_rfl) (by kernel_rfl)) (by kernel_rfl) (by kernel_rfl)
def wArgs : Array Value := #[.agg #[.int .u8 0, .int .i16 0, .int .i16 0, .int .i16 0, .int .i16 0, .int .i8 0, .int .i8 0, .int .i8 0, .int .i8 0, .int .i8 0, .int .i8 0, .int .i8 0, .int .i16 0, .int .u8 0, .int .u8 0, .int .u8 0, .int .i8 0, .int .i8 0, .int .i8 0, .int .i8 0, .int .i8 0, .slice none 0 0], .agg #[.int .u8 0, .int .u8 0, .int .i64 0, .string ⟨#[]⟩], .agg #[.int .i64 0, .int .i64 0], .agg #[.int .i64 0, .int .i64 0], .agg #[.int .i16 0, .int .i16 0, .int .i16 0, .int .i16 0]]
theorem laidOut : laidOutB Tryz.prog = true := by kernel_rfl
theorem recs : (([35, 37, 56, 56, 57] : List TypeId).all fun t => Tryz.prog.readableRec t && decide (t < Tryz.prog.types.size)) = true := by kernel_rfl
set_option maxRecDepth 100000 in
theorem lifted (os : Os) (started : os.Started) (H : Type) (enc : TypeId × Value → H) :
  ReturnsInHanded {} Tryz.checked os 6 .any (fun w args => (Rows.surfaceSlopesSpec.pre enc Tryz.prog Tryz.f6 [] false w args ∧ laidMetH Tryz.prog laidL8 w) ∧ sizedMet enc Tryz.prog Tryz.f6 (OpenSpec.ofChange Rows.surfaceSlopesSpec) false w args)
   (Rows.surfaceSlopesSpec.post enc Tryz.prog Tryz.f6 false true false false) := by
 refine returnsInHanded_of_change_and (C := Tryz.checked) (X := fun w _ => laidMetH Tryz.prog laidL8 w) (fun _ _ _ hh h => h.of_heap hh) own started (by kernel_rfl) Tryz.func6
  (ChangeSpec.witness_shaped (enc := enc) (C := Tryz.checked) (os := os) (X := fun w _ => laidMetH Tryz.prog laidL8 w) false (World.doorLaid Tryz.prog 400 os) wArgs 8 rfl (World.shaped_of_RefB (by kernel_rfl) (by kernel_rfl)) (by kernel_rfl) (by kernel_rfl) (by kernel_rfl) (door_met os _)) ?_
 intro W base args ds gs before hval0 hW _ _ hL _
 have hval : ∀ (j : Nat) t v, Tryz.f6.params[j]? = some t → args[j]? = some v → Value.okWide Tryz.prog W .any base t v := hval0
 have hW' := hW
 obtain ⟨p, q, hA0, hV, rfl, hfz, hnd⟩ := hW
 have hA : DataW.TrodAll enc Tryz.prog W 0 (fun _ => true) true Tryz.f6.params.toList args.toList ds p := hA0
 rw [Tryz.params6] at hA hval
 obtain ⟨l1, l2⟩ := Eng.trod_lens hA
 have hA0' := hA
 obtain ⟨d0, d1, d2, d3, d4, rfl⟩ : ∃ d0 d1 d2 d3 d4, ds = [d0, d1, d2, d3, d4] := by
  match ds, l2 with
  | [d0, d1, d2, d3, d4], _ => exact ⟨d0, d1, d2, d3, d4, rfl⟩
 obtain ⟨rfl, rfl⟩ := trodVars_none hV
 clear hA0 hval0
 simp only [List.append_nil] at hW'
 obtain ⟨v0, vs, hvs⟩ : ∃ v0 vs, args.toList = v0 :: vs := by
  cases he : args.toList with
  | nil => rw [he] at l1; cases l1
  | cons a l => exact ⟨a, l, rfl⟩
 rw [hvs] at hA l1
 have hd : ∃ cs last, v0 = .agg (cs ++ [last]).toArray ∧ ∃ n zs, Eng.Bytes W last n zs := Eng.draft_films (P := Tryz.prog) Tryz.underlying35 (i := 11) rfl Tryz.underlying33 Tryz.underlying5 (by kernel_rfl) (by decide) (by kernel_rfl) (by kernel_rfl) hA
 obtain ⟨cs, last, hc, hlast⟩ := hd
 refine (walk W hvs (by simpa using l1) hc hlast (fun j t v h1 h2 => hval j t v (by rw [← h1]; exact (Array.getElem?_toList ..).symm) (by rw [← h2]; exact (Array.getElem?_toList ..).symm)) hL).mono fun e W' ⟨he, hg, hk⟩ => ?_
 subst he
 have lt : ∀ x ∈ p, x.block < W.heap.size := fun x hx => hW'.lt x hx
 exact ⟨_, rfl, post_of_same (pa := p) (pv := []) hW' (fun _ _ _ => (trodAll_cons_mk (shut_bool Tryz.underlying4 _) trodAll_mk0))
  (fun sp hs => Eng.trodAll_stays laidOut recs hA0' (fun x hx => Eng.same_at hk (lt x hx)) (fun x hx => hs x hx)) (fun _ _ => rfl) (by simp)
  (hg.frame _) hg.2.1 (ok_one (by kernel_rfl) rfl (okWide_bool_mk Tryz.underlying4 _))⟩
theorem over : Rows.SurfaceSlopesSaid :=
 OpenClaim.holds_of_wide 6 Tryz.f6 rfl rfl rfl rfl rfl rfl rfl ⟨rfl, rfl, rfl, rfl, rfl⟩ rfl rfl rfl rfl rfl (by kernel_rfl) Tryz.func6 (by kernel_rfl)
  (of_decide_eq_true (by kernel_rfl)) (by unfold Func.isWrapper; first | (rw [if_pos (by decide +kernel)]; kernel_rfl) | (rw [if_neg (by decide +kernel)]; exact ⟨rfl, rfl⟩))
  (fun os started H enc _ => lifted os started H enc)
theorem want35 : Tryz.prog.wantsStandIn 35 = false := by kernel_rfl
theorem want37 : Tryz.prog.wantsStandIn 37 = false := by kernel_rfl
theorem want56 : Tryz.prog.wantsStandIn 56 = false := by kernel_rfl
theorem want57 : Tryz.prog.wantsStandIn 57 = false := by kernel_rfl
theorem card_holds : Rows.SurfaceSlopesCardSaid :=
 Claim7.holds_tied_plain_at .later [] [.data, .data, .mappedDeep] true (true, "3c2fcfda3a7021e0e71f23a05ba0e96cfda05f3aadc2b71d27ef5767ab2e0ada") false
  over (fun _ h => by cases h) (by kernel_rfl) (fun _ h => by cases h) surfaceSlopes_row_tie rfl ⟨rfl, rfl⟩ (by kernel_rfl) rfl
  (fun f fn hf hfn => by
   obtain rfl : f = 6 := Option.some.inj ((show Tryz.prog.funcNamed "monocle/monoclelaw11.SurfaceSlopes" = some 6 by kernel_rfl).symm.trans hf) |>.symm
   obtain rfl : fn = Tryz.f6 := (Option.some.inj (Tryz.func6.symm.trans hfn)).symm
   exact ⟨by kernel_rfl, fun j t ht => by
    rw [Tryz.params6] at ht
    match j, ht with
    | 0, ht => obtain rfl : 35 = t := Option.some.inj ht; exact want35
    | 1, ht => obtain rfl : 37 = t := Option.some.inj ht; exact want37
    | 2, ht => obtain rfl : 56 = t := Option.some.inj ht; exact want56
    | 3, ht => obtain rfl : 56 = t := Option.some.inj ht; exact want56
    | 4, ht => obtain rfl : 57 = t := Option.some.inj ht; exact want57
    | n + 5, ht => simp at ht⟩)
  (by kernel_rfl)
end Go.Proofs.YtiigkjnhmipnfaaGreatDoor.surfaceSlopes
