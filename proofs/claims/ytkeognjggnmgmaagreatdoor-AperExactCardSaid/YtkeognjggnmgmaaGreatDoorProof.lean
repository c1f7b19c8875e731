/- What is proved: that AperExact returns true: a part of the proof (part 11 of 11). No conditions beyond those of the row. -/
import Derived.Test.YtkeognjggnmgmaaGreatDoorPJ
import Derived.Test.YtkeognjggnmgmaaGreatDoorCards
import Derived.Test.YtkeognjggnmgmaaGreatDoorTie
import Derived.LaidMore
import Derived.OpenShut
import Derived.Stop.Joined
import Derived.WideKeyArgs
set_option linter.unusedVariables false
set_option linter.unusedSimpArgs false
set_option linter.unusedSectionVars false
/- What is proved: calls of the law AperKnown, of which the answers are known (level 6). No conditions. -/
namespace Go.Proofs.YtkeognjggnmgmaaGreatDoor
open Go Go.Eng

/-- monocle/monoclelaw15.wakes (3570 steps) -/
theorem call85 : MemoOk Tryz.prog glob hG (10, [], (.bool false true)) := known table5_ok (by kernel_rfl) (by kernel_rfl) (by kernel_rfl)

def table6 : List (FuncId × List AV × AV) :=
  (10, [], (.bool false true)) ::
  table5
theorem table6_ok : ∀ x ∈ table6, MemoOk Tryz.prog glob hG x :=
  more call85 (table5_ok)

end Go.Proofs.YtkeognjggnmgmaaGreatDoor

/- What is proved: contracts that the law AperExact meets, at this seat. No conditions. -/
namespace Go.Proofs.YtkeognjggnmgmaaGreatDoor.K
open Go Go.Eng Go.Ar
noncomputable section

theorem hG_ok : hG.ok := rfl
/-- A standard surface with Semi and Hole alone. -/
def exSh : Sh := .a [.c (.int false .i64 1), z64, z64, z64, z64, z64, z64, z64, z64, z64, z64, z64, z64, .c (.str false ⟨#[]⟩), .i .i64, .i .i64, z64, z64, z64, z64, z64, .c .nilslice]
def exE (a b : Int) : Int := bif !bif ((1 : Int) == 1 && ((0 : Int) == 0 && ((0 : Int) == 0 && ((0 : Int) == 0 && ((0 : Int) == 0 && ((0 : Int) == 0 && ((0 : Int) == 0 && (a == a && (b == b && ((0 : Int) == 0 && ((0 : Int) == 0 && ((0 : Int) == 0 && ((0 : Int) == 0 && ((0 : Int) == 0 && ((0 : Int) == 0 && ((0 : Int) == 0 && ((0 : Int) == 0 && ((0 : Int) == 0 && ((0 : Int) == 0 && ((0 : Int) == 0 && ((0 : Int) == 0 && ((0 : Int) == 0 && (eqBytes ⟨#[]⟩ ⟨#[]⟩ && true))))))))))))))))))))))) then true else false then 110
  else bif !!decide ((bif !(bif decide (a < 0) then true else decide (a > 1000000000)) && !(bif decide (b < 0) then true else decide (b > 1000000000)) then -1 else bif (bif decide (a < 0) then true else decide (a > 1000000000)) then 0 else 1 : Int) ≥ 0) then 110 else bif !bif a == 0 then true else decide (b < a) then 110 else 0
theorem ex_run (a b : Int) : oneG hG.size hG.clock ((run cS 1000).call 27 (Sh.mkL [exSh] [.n a, .n b]).1 hG) = some (.p (((b = b ∧ a = a) ∧ (b = b ∧ a = a) ∧ (b = b ∧ a = a) ∧ b = b) ∧ (a = a ∧ b = b) ∧ a = a ∧ b = b), .int true .i64 (exE a b)) := by kernel_rfl
def exIn (a b : Int) : Prop := 0 ≤ b ∧ b < a ∧ a ≤ 1000000000
theorem exE_0 {a b : Int} (h : exIn a b) : exE a b = 0 := by
  obtain ⟨h1, h2, h3⟩ := h
  unfold exE
  rw [decide_eq_false (show ¬ a < 0 by omega), decide_eq_false (show ¬ a > 1000000000 by omega), decide_eq_false (show ¬ b < 0 by omega), decide_eq_false (show ¬ b > 1000000000 by omega), decide_eq_true h2, show (a == a) = true from beq_self_eq_true a, show (b == b) = true from beq_self_eq_true b]
  cases a == 0 <;> rfl
def cEx : PSpec := fun args => match Sh.readL [exSh] args with
  | some (_, [.n a, .n b]) => some (.p (exIn a b), .int false .i64 0)
  | _ => none
def numEx : PSpec := numSpec [exSh] none fun
  | [.n a, .n b] => .n .i64 (exE a b)
  | _ => .u []
theorem numEx_ok : GOk Tryz.prog glob hG 27 numEx := by
  refine gnum_ok hG_ok hG_plain glob_lt (fun xs hk _ => ?_) ⟨_, Tryz.func27, rfl⟩
  obtain ⟨c, _, rfl, h1⟩ := kn hk; obtain ⟨k, _, rfl, h2⟩ := kn h1; obtain rfl := k0 h2
  exact ⟨cS, 1000, _, cS_ok, rfl, rfl, rfl, ex_run c k, ⟨⟨rfl, rfl⟩, ⟨rfl, rfl⟩, ⟨rfl, rfl⟩, rfl⟩, ⟨rfl, rfl⟩, rfl, rfl⟩
theorem cEx_ok : GOk Tryz.prog glob hG 27 cEx := by
  refine numEx_ok.weaken fun args nd v h => ?_
  unfold cEx at h
  split at h
  · rename_i s a b hr
    cases h
    refine ⟨.tt, mkInt s .i64 (exE a b), ?_, fun hn => ⟨trivial, fun σ W hW => ?_⟩⟩
    · unfold numEx numSpec
      rw [hr]; rfl
    · have := (Go.Eng.mkInt_rel _ _ _ _).1 hW
      rw [exE_0 hn] at this
      exact this
  · cases h
def tblE : List (FuncId × PSpec) := (10, memoSpec [] (.bool false true)) :: (27, cEx) :: (159, mulSpec) :: tblGood
theorem tblE_g : ∀ x ∈ tblE, GOk Tryz.prog glob hG x.1 x.2 := by
  intro x hx
  simp only [tblE, List.mem_cons] at hx
  rcases hx with rfl | rfl | rfl | hx
  · exact call85.g
  · exact cEx_ok
  · exact mul_ok.g glob hG
  · exact tblGood_g x hx
def cE : Ctx := mkG Tryz.prog glob hG tblE ext
theorem cE_ok : CtxOk cE := mkG_ok prog_ok ext_ok tblE_g
end
end Go.Proofs.YtkeognjggnmgmaaGreatDoor.K

/- What is proved: what the law AperExact reckons, and that it is true. No conditions. -/
namespace Go.Proofs.YtkeognjggnmgmaaGreatDoor.K
open Go Go.Eng Go.Ar
noncomputable section
def shs : List Sh := [.i .u32, .i .u32, .a [.i .i8, .i .i8]]
theorem law_run (a b x y : Int) : oneG hG.size hG.clock ((run cE 1000).call 6 [.int true .u32 a, .int true .u32 b, .agg [.int true .i8 x, .int true .i8 y]] hG) = some (.p (Go.Rd.axN a b x y), .bool true (Go.Rd.axV a b x y)) := by kernel_rfl
theorem law_true : ∀ xs, xs.map Nu.isN = Sh.kindsL shs → inRange (Sh.leavesL shs) xs → LawTrue Tryz.prog glob hG 6 (Sh.mkL shs xs).1 := by
  intro xs h r
  obtain ⟨a, _, rfl, h1⟩ := kn h; obtain ⟨b, _, rfl, h2⟩ := kn h1; obtain ⟨x, _, rfl, h3⟩ := kn h2; obtain ⟨y, _, rfl, h4⟩ := kn h3; obtain rfl := k0 h4
  obtain ⟨⟨a0, a1⟩, ⟨b0, b1⟩, ⟨x0, x1⟩, ⟨y0, y1⟩, _⟩ := r
  have l := Go.Rd.exact_law (a := a) (b := b) (x := x) (y := y) ⟨a0, a1, b0, b1, x0, x1, y0, y1⟩
  exact ⟨cE, 1000, _, true, _, cE_ok, rfl, rfl, law_run a b x y, l.1, l.2⟩
end
end Go.Proofs.YtkeognjggnmgmaaGreatDoor.K

/- What is proved: AperExact returns true, whatever the input. No conditions beyond those of the row. -/
namespace Go.Proofs.YtkeognjggnmgmaaGreatDoor.aperExact
open Go.ChangeShapes Go.WideShapes Go.ChangeAt Go.WideMaps Go.WideElems Go.RowKit
open Go.Proofs.YtkeognjggnmgmaaGreatDoor.K

theorem own : ownKnob Tryz.prog.godebug = none := by kernel_rfl
theorem shapes : Eng.shapesT Tryz.prog [75, 75, 26] = some shs := by kernel_rfl
theorem old_ok : Eng.allOld hG.clock hG.blks = true := by kernel_rfl

set_option maxRecDepth 100000 in
theorem walk (W : World) {base : Nat} {A : Array Value} (hl : A.toList.length = ([75, 75, 26] : List TypeId).length) (hv : ∀ (j : Nat) t v, ([75, 75, 26] : List TypeId)[j]? = some t → A.toList[j]? = some v → Value.okWide Tryz.prog W .any base t v) (h : laidMetH Tryz.prog laidL W) :
    Calls Tryz.prog 6 A W fun e w' => e = .returned (.bool true) ∧ Grown W w' ∧ ∀ B, B < W.heap.size → w'.heap[B]? = W.heap[B]? := by
  obtain ⟨σ, g, r⟩ := of_laid h
  exact @Eng.law_walk Tryz.prog glob hG old_ok 6 [75, 75, 26] shs shapes law_true W base σ A g r hl hv

theorem door_met (os : Os) (args : Array Value) : laidMetH Tryz.prog laidL ((World.doorLaid Tryz.prog 400 os).forCall (fun _ _ => 0) ⟨#[], args, []⟩).memory :=
  laidMetH_of_parts3 (fuel := 8) (laidMet_of_run' 8 (by kernel_rfl) (by kernel_rfl)) (by kernel_rfl) (by kernel_rfl)

def wArgs : Array Value := #[.int .u32 0, .int .u32 0, .agg #[.int .i8 0, .int .i8 0]]

theorem laidOut : laidOutB Tryz.prog = true := by kernel_rfl
theorem recs : (([75, 75, 26] : List TypeId).all fun t => Tryz.prog.readableRec t && decide (t < Tryz.prog.types.size)) = true := by kernel_rfl

set_option maxRecDepth 100000 in
theorem lifted (os : Os) (started : os.Started) (H : Type) (enc : TypeId × Value → H) :
    ReturnsInHanded {} Tryz.checked os 6 .any (fun w args => (Rows.aperExactSpec.pre enc Tryz.prog Tryz.f6 [] false w args ∧ laidMetH Tryz.prog laidL w) ∧ sizedMet enc Tryz.prog Tryz.f6 (OpenSpec.ofChange Rows.aperExactSpec) false w args)
      (Rows.aperExactSpec.post enc Tryz.prog Tryz.f6 false true false false) := by
  refine returnsInHanded_of_change_and (C := Tryz.checked) (X := fun w _ => laidMetH Tryz.prog laidL w) (fun _ _ _ hh h => h.of_heap hh) own started (by kernel_rfl) Tryz.func6
    (ChangeSpec.witness_shaped (enc := enc) (C := Tryz.checked) (os := os) (X := fun w _ => laidMetH Tryz.prog laidL w) false (World.doorLaid Tryz.prog 400 os) wArgs 8 rfl (World.shaped_of_RefB (by kernel_rfl) (by kernel_rfl)) (by kernel_rfl) (by kernel_rfl) (by kernel_rfl) (door_met os _)) ?_
  intro W base args ds gs before hval0 hW _ _ hL _
  have hval : ∀ (j : Nat) t v, Tryz.f6.params[j]? = some t → args[j]? = some v → Value.okWide Tryz.prog W .any base t v := hval0
  have hW' := hW
  obtain ⟨p, q, hA0, hV, rfl, hfz, hnd⟩ := hW
  have hA : DataW.TrodAll enc Tryz.prog W 0 (fun _ => true) true Tryz.f6.params.toList args.toList ds p := hA0
  rw [Tryz.params6] at hA hval
  obtain ⟨l1, l2⟩ := Eng.trod_lens hA
  obtain ⟨d0, d1, d2, rfl⟩ : ∃ d0 d1 d2, ds = [d0, d1, d2] := by
    match ds, l2 with
    | [d0, d1, d2], _ => exact ⟨d0, d1, d2, rfl⟩
  obtain ⟨rfl, rfl⟩ := trodVars_none hV
  clear hA0 hval0
  simp only [List.append_nil] at hW'
  refine (walk W l1 (fun j t v h1 h2 => hval j t v (by rw [← h1]; exact (Array.getElem?_toList ..).symm) (by rw [← h2]; exact (Array.getElem?_toList ..).symm)) hL).mono fun e W' ⟨he, hg, hk⟩ => ?_
  subst he
  have lt : ∀ x ∈ p, x.block < W.heap.size := fun x hx => hW'.lt x hx
  exact ⟨_, rfl, post_of_same (pa := p) (pv := []) hW' (fun _ _ _ => (trodAll_cons_mk (shut_bool Tryz.underlying4 _) trodAll_mk0))
    (fun sp hs => Eng.trodAll_stays laidOut recs hA (fun x hx => Eng.same_at hk (lt x hx)) (fun x hx => hs x hx)) (fun _ _ => rfl) (by simp)
    (hg.frame _) hg.2.1 (ok_one (by kernel_rfl) rfl (okWide_bool_mk Tryz.underlying4 _))⟩

theorem over : Rows.AperExactSaid :=
  OpenClaim.holds_of_wide 6 Tryz.f6 rfl rfl rfl rfl rfl rfl rfl ⟨rfl, rfl, rfl, rfl, rfl⟩ rfl rfl rfl rfl rfl (by kernel_rfl) Tryz.func6 (by kernel_rfl)
    (of_decide_eq_true (by kernel_rfl)) (by unfold Func.isWrapper; first | (rw [if_pos (by decide +kernel)]; kernel_rfl) | (rw [if_neg (by decide +kernel)]; exact ⟨rfl, rfl⟩))
    (fun os started H enc _ => lifted os started H enc)

theorem want26 : Tryz.prog.wantsStandIn 26 = false := by kernel_rfl
theorem want75 : Tryz.prog.wantsStandIn 75 = false := by kernel_rfl

theorem card_holds : Rows.AperExactCardSaid :=
  Claim7.holds_tied_plain_at .later [] [.data, .data, .mappedDeep, .data] true (true, "d9670bc5e3d8d9555967d5528892bdd8478a83c5c1623dcfc6b9692e720f517d") false
    over (fun _ h => by cases h) (by kernel_rfl) (fun _ h => by cases h) aperExact_row_tie rfl ⟨rfl, rfl⟩ (by kernel_rfl) rfl
    (fun f fn hf hfn => by
      obtain rfl : f = 6 := Option.some.inj ((show Tryz.prog.funcNamed "monocle/monoclelaw15.AperExact" = some 6 by kernel_rfl).symm.trans hf) |>.symm
      obtain rfl : fn = Tryz.f6 := (Option.some.inj (Tryz.func6.symm.trans hfn)).symm
      exact ⟨by kernel_rfl, fun j t ht => by
        rw [Tryz.params6] at ht
        match j, ht with
        | 0, ht => obtain rfl : 75 = t := Option.some.inj ht; exact want75
        | 1, ht => obtain rfl : 75 = t := Option.some.inj ht; exact want75
        | 2, ht => obtain rfl : 26 = t := Option.some.inj ht; exact want26
        | n + 3, ht => simp at ht⟩)
    (by kernel_rfl)

end Go.Proofs.YtkeognjggnmgmaaGreatDoor.aperExact
