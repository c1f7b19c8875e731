/- What is proved: BendBends returns true, whatever the input (part 18 of 18). No conditions beyond those of the row. -/
import Derived.Test.YtooloakdmdbnaaaGreatDoorPQ
import Derived.Test.YtooloakdmdbnaaaGreatDoorCards
import Derived.Test.YtooloakdmdbnaaaGreatDoorTie
import Derived.LaidMore
import Derived.OpenShut
import Derived.Stop.Joined
import Derived.WideKeyArgs
namespace Go.Proofs.YtooloakdmdbnaaaGreatDoor.bendBends
open Go.ChangeShapes Go.WideShapes Go.ChangeAt Go.WideMaps Go.WideElems Go.RowKit
open Go.Proofs.YtooloakdmdbnaaaGreatDoor.K
theorem own : ownKnob Tryz.prog.godebug = none := by kernel_rfl
theorem shapes : Eng.shapeT Tryz.prog 35 = some (.a (Go.Rd.suI ++ [.c (.any true)])) := by kernel_rfl
theorem shapes1 : Eng.shapesT Tryz.prog [27, 55, 30] = some preBB := by kernel_rfl
theorem shapes2 : Eng.shapesT Tryz.prog [44, 56] = some postBB := by kernel_rfl
theorem old_ok : Eng.allOld hG.clock hG.blks = true := by kernel_rfl
theorem noM_ok : (hG.blks.all fun b => Eng.noM .i64 3 b.body) = true := by kernel_rfl
set_option maxRecDepth 100000 in
theorem walk (W : World) {base : Nat} {A : Array Value} {us vs : List Value} {v : Value} {cs : List Value} {last : Value} (hA : A.toList = us ++ v :: vs) (hu : us.length = ([27, 55, 30] : List TypeId).length) (hl : vs.length = ([44, 56] : List TypeId).length) (hc : v = .agg (cs ++ [last]).toArray) (hlast : ∃ k qs, Eng.Lst W .i64 3 last k qs) (hv : ∀ (j : Nat) t v, ([27, 55, 30] ++ 35 :: [44, 56] : List TypeId)[j]? = some t -> A.toList[j]? = some v -> Value.okWide Tryz.prog W .any base t v) (h : laidMetH Tryz.prog laidL W) :
  Calls Tryz.prog 4 A W fun e w' => e = .returned (.bool true) /\ Grown W w' /\ ∀ B, B < W.heap.size -> w'.heap[B]? = W.heap[B]? := by
 obtain ⟨σ, g, r⟩ := of_laid h
 exact @Eng.law_walkM Tryz.prog glob hG .i64 3 (by decide) noM_ok old_ok (by decide) 4 [27, 55, 30] [44, 56] 35 Go.Rd.suI preBB postBB shapes1 shapes shapes2 bb_true W base σ A g r us vs v hA hu hl cs last hc hlast hv
theorem door_met (os : Os) (args : Array Value) : laidMetH Tryz.prog laidL ((World.doorLaid Tryz.prog 400 os).forCall (fun _ _ => 0) ⟨#[], args, []⟩).memory :=
 laidMetH_of_parts3 (fuel := 8) (laidMet_of_run' 8 (by kernel_rfl) (by kernel_rfl)) (by kernel_rfl) (by kernel_rfl)
def wArgs : Array Value := #[.agg #[.int .u8 0, .int .i16 0, .int .i16 0, .int .i16 0, .int .i16 0, .int .i8 0, .int .i8 0, .int .i8 0, .int .i8 0, .bool false], .agg #[.int .u16 0, .int .u16 0, .int .u16 0, .int .i8 0, .int .i8 0, .int .i8 0], .agg #[.int .i16 0, .int .i16 0, .int .i16 0, .int .i16 0, .int .i16 0, .int .i16 0, .int .u8 0, .bool false], .agg #[.int .i64 0, .int .i64 0, .int .i64 0, .int .i64 0, .int .i64 0, .int .i64 0, .int .i64 0, .int .i64 0, .int .i64 0, .int .i64 0, .int .i64 0, .int .i64 0, .int .i64 0, .string ⟨#[]⟩, .int .i64 0, .int .i64 0, .int .i64 0, .int .i64 0, .int .i64 0, .int .i64 0, .int .i64 0, .slice none 0 0], .agg #[.int .i64 0, .int .i64 0, .int .i64 0, .int .i64 0, .int .i64 0, .int .i64 0, .int .i64 0, .int .i64 0, .int .i64 0, .int .i64 0, .int .i64 0, .int .i64 0], .agg #[.int .i64 0, .int .i64 0, .int .i64 0]]
theorem laidOut : laidOutB Tryz.prog = true := by kernel_rfl
theorem recs : (([27, 55, 30, 35, 44, 56] : List TypeId).all fun t => Tryz.prog.readableRec t && decide (t < Tryz.prog.types.size)) = true := by kernel_rfl
set_option maxRecDepth 100000 in
theorem lifted (os : Os) (started : os.Started) (H : Type) (enc : TypeId × Value -> H) :
  ReturnsInHanded {} Tryz.checked os 4 .any (fun w args => (Rows.bendBendsSpec.pre enc Tryz.prog Tryz.f4 [] false w args /\ laidMetH Tryz.prog laidL w) /\ sizedMet enc Tryz.prog Tryz.f4 (OpenSpec.ofChange Rows.bendBendsSpec) false w args)
   (Rows.bendBendsSpec.post enc Tryz.prog Tryz.f4 false true false false) := by
 refine returnsInHanded_of_change_and (C := Tryz.checked) (X := fun w _ => laidMetH Tryz.prog laidL w) (fun _ _ _ hh h => h.of_heap hh) own started (by kernel_rfl) Tryz.func4
  (ChangeSpec.witness_shaped (enc := enc) (C := Tryz.checked) (os := os) (X := fun w _ => laidMetH Tryz.prog laidL w) false (World.doorLaid Tryz.prog 400 os) wArgs 8 rfl (World.shaped_of_RefB (by kernel_rfl) (by kernel_rfl)) (by kernel_rfl) (by kernel_rfl) (by kernel_rfl) (door_met os _)) ?_
 intro W base args ds gs before hval0 hW _ _ hL _
 have hval : ∀ (j : Nat) t v, Tryz.f4.params[j]? = some t -> args[j]? = some v -> Value.okWide Tryz.prog W .any base t v := hval0
 have hW' := hW
 obtain ⟨p, q, hA0, hV, rfl, hfz, hnd⟩ := hW
 have hA : DataW.TrodAll enc Tryz.prog W 0 (fun _ => true) true Tryz.f4.params.toList args.toList ds p := hA0
 rw [Tryz.params4] at hA hval
 obtain ⟨l1, l2⟩ := Eng.trod_lens hA
 have hA0' := hA
 obtain ⟨d0, d1, d2, d3, d4, d5, rfl⟩ : ∃ d0 d1 d2 d3 d4 d5, ds = [d0, d1, d2, d3, d4, d5] := by
  match ds, l2 with
  | [d0, d1, d2, d3, d4, d5], _ => exact ⟨d0, d1, d2, d3, d4, d5, rfl⟩
 obtain ⟨rfl, rfl⟩ := trodVars_none hV
 clear hA0 hval0
 simp only [List.append_nil] at hW'
 obtain ⟨v0, v1, v2, v3, v4, v5, hvs⟩ : ∃ v0 v1 v2 v3 v4 v5, args.toList = [v0, v1, v2] ++ v3 :: [v4, v5] := by
  match he : args.toList, l1 with
  | [v0, v1, v2, v3, v4, v5], _ => exact ⟨v0, v1, v2, v3, v4, v5, rfl⟩
 rw [hvs] at hA
 obtain ⟨ds', p', hA1⟩ := Eng.trod_drop (us := [v0, v1, v2]) (ps := [27, 55, 30]) (ts := 35 :: [44, 56]) (vs := v3 :: [v4, v5]) rfl hA
 obtain ⟨cs, last, hc, hlast⟩ : ∃ cs last, v3 = .agg (cs ++ [last]).toArray /\ ∃ k qs, Eng.Lst W .i64 3 last k qs := Eng.raw_films (P := Tryz.prog) Tryz.underlying35 (i := 17) rfl Tryz.underlying33 Tryz.underlying94 (by kernel_rfl) Tryz.underlying3 Tryz.underlying3 Tryz.underlying3 (by kernel_rfl) (by kernel_rfl) (by kernel_rfl) rfl rfl rfl (by kernel_rfl) (by decide) (by kernel_rfl) hA1
 refine (walk W hvs rfl rfl hc hlast (fun j t v h1 h2 => hval j t v (by rw [<- Array.getElem?_toList]; exact h1) (by rw [<- h2]; exact (Array.getElem?_toList ..).symm)) hL).mono fun e W' ⟨he, hg, hk⟩ => ?_
 subst he
 have lt : ∀ x ∈ p, x.block < W.heap.size := fun x hx => hW'.lt x hx
 exact ⟨_, rfl, post_of_same (pa := p) (pv := []) hW' (fun _ _ _ => (trodAll_cons_mk (shut_bool Tryz.underlying4 _) trodAll_mk0))
  (fun sp hs => Eng.trodAll_stays laidOut recs hA0' (fun x hx => Eng.same_at hk (lt x hx)) (fun x hx => hs x hx)) (fun _ _ => rfl) (by simp)
  (hg.frame _) hg.2.1 (ok_one (by kernel_rfl) rfl (okWide_bool_mk Tryz.underlying4 _))⟩
theorem over : Rows.BendBendsSaid :=
 OpenClaim.holds_of_wide 4 Tryz.f4 rfl rfl rfl rfl rfl rfl rfl ⟨rfl, rfl, rfl, rfl, rfl⟩ rfl rfl rfl rfl rfl (by kernel_rfl) Tryz.func4 (by kernel_rfl)
  (of_decide_eq_true (by kernel_rfl)) (by unfold Func.isWrapper; first | (rw [if_pos (by decide +kernel)]; kernel_rfl) | (rw [if_neg (by decide +kernel)]; exact ⟨rfl, rfl⟩))
  (fun os started H enc _ => lifted os started H enc)
theorem want27 : Tryz.prog.wantsStandIn 27 = false := by kernel_rfl
theorem want30 : Tryz.prog.wantsStandIn 30 = false := by kernel_rfl
theorem want35 : Tryz.prog.wantsStandIn 35 = false := by kernel_rfl
theorem want44 : Tryz.prog.wantsStandIn 44 = false := by kernel_rfl
theorem want55 : Tryz.prog.wantsStandIn 55 = false := by kernel_rfl
theorem want56 : Tryz.prog.wantsStandIn 56 = false := by kernel_rfl
theorem card_holds : Rows.BendBendsCardSaid :=
 Claim7.holds_tied_plain_at .later [] [.data, .data] true (true, "2ead54abf711d94ae38a7ff3950ea31d7bd9b8902a6fd8097645bc2381ac04c2") true
  over (fun _ h => by cases h) (by kernel_rfl) (fun _ h => by cases h) bendBends_row_tie rfl ⟨rfl, rfl⟩ (by kernel_rfl) rfl
  (fun f fn hf hfn => by
   obtain rfl : f = 4 := Option.some.inj ((show Tryz.prog.funcNamed "monocle/monoclelaw26.BendBends" = some 4 by kernel_rfl).symm.trans hf) |>.symm
   obtain rfl : fn = Tryz.f4 := (Option.some.inj (Tryz.func4.symm.trans hfn)).symm
   exact ⟨by kernel_rfl, fun j t ht => by
    rw [Tryz.params4] at ht
    match j, ht with
    | 0, ht => obtain rfl : 27 = t := Option.some.inj ht; exact want27
    | 1, ht => obtain rfl : 55 = t := Option.some.inj ht; exact want55
    | 2, ht => obtain rfl : 30 = t := Option.some.inj ht; exact want30
    | 3, ht => obtain rfl : 35 = t := Option.some.inj ht; exact want35
    | 4, ht => obtain rfl : 44 = t := Option.some.inj ht; exact want44
    | 5, ht => obtain rfl : 56 = t := Option.some.inj ht; exact want56
    | n + 6, ht => simp at ht⟩)
  (by kernel_rfl)
end Go.Proofs.YtooloakdmdbnaaaGreatDoor.bendBends
