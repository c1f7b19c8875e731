/- What is proved: BendBends returns true, whatever the input (part 10 of 18). No conditions beyond those of the row. -/
import Derived.Test.YtooloakdmdbnaaaGreatDoorPH
import Derived.Test.YtooloakdmdbnaaaGreatDoorPI
set_option linter.unusedVariables false
set_option linter.unusedSimpArgs false
set_option linter.unusedSectionVars false
namespace Go.Proofs.YtooloakdmdbnaaaGreatDoor.K
open Go Go.Eng Go.Ar Go.Rd
noncomputable section
noncomputable def cE : Ctx := mkC Tryz.prog [] ext
theorem cE_ok : CtxOk cE := mkC_ok prog_ok (fun _ h => by cases h) ext_ok
def nmFr : AFr := ⟨42, none⟩
noncomputable def nmA : Code := loopOf Tryz.prog 42 0
def nmS (b : ByteArray) : St := ⟨[⟨0, .str true b⟩, ⟨0, .tuple []⟩, ⟨3, .bool false false⟩, ⟨0, .tuple []⟩, ⟨4, .str true b⟩, ⟨5, .int true .i64 b.size⟩, ⟨6, .int false .i64 0⟩] ++ blankT 16, [], ⟨[], 0, 7⟩⟩
def nmD : List (Nat × AV) := (3, .any false) :: deadT 7 8
def nmP (i : Int) : Patch := ⟨nmD ++ [(6, .int true .i64 i)], [], []⟩
def nmO : Patch := ⟨nmD ++ [(6, .any false)], [], []⟩
def nmT : Patch := ⟨nmD ++ [(6, .any false), (2, .bool false false)], [], []⟩
def nmU (b : ByteArray) : Sum Int :=
 {
  S := nmP
  I := fun y => 0 <= y /\ y <= b.size
  μ := fun y => (b.size - y).toNat
  F := fun y => bif nmAll letP b (b.size - y).toNat y then (.exit 0, nmO) else (.ret, nmT)
  next := fun y => IntKind.i64.wrap (y + 1)
  ids := []
  X := fun _ x => match x with
   | .ret => some (nmT, [])
   | _ => some (nmO, []) }
def rmFr : AFr := ⟨100, none⟩
noncomputable def rmA : Code := loopOf Tryz.prog 100 0
def rmS (b : ByteArray) : St := ⟨[⟨0, .str true b⟩, ⟨0, .tuple []⟩, ⟨3, .bool false false⟩, ⟨4, .int false .i64 0⟩] ++ blankT 49, [], ⟨[], 0, 5⟩⟩
def rmD : List (Nat × AV) := deadT 4 41
def rmP (i : Int) : Patch := ⟨rmD ++ [(3, .int true .i64 i)], [], []⟩
def rmO : Patch := ⟨rmD ++ [(3, .any false)], [], []⟩
def rmT : Patch := ⟨rmD ++ [(3, .any false), (2, .bool false false)], [], []⟩
def rmU (b : ByteArray) : Sum Int :=
 {
  S := rmP
  I := fun y => 0 <= y /\ y <= b.size
  μ := fun y => (b.size - y).toNat
  F := fun y => bif nmAll letP b (b.size - y).toNat y then (.exit 0, rmO) else (.ret, rmT)
  next := fun y => IntKind.i64.wrap (y + 1)
  ids := []
  X := fun _ x => match x with
   | .ret => some (rmT, [])
   | _ => some (rmO, []) }
end
end Go.Proofs.YtooloakdmdbnaaaGreatDoor.K
namespace Go.Proofs.YtooloakdmdbnaaaGreatDoor.K
open Go Go.Eng Go.Ar Go.Rd
noncomputable section
def nmL (b : ByteArray) (i : Int) : Bool := letP (cAt b i)
def nmI (b : ByteArray) (i : Int) : Bool := decide (i < (b.size : Int))
def nmNd (U : Sum Int) (x y : Ex × Patch) (go stop : Bool) (b : ByteArray) (i : Int) : Prop :=
 (nmI b i = true -> 0 <= i /\ i < (b.size : Int)) /\
 ((!nmI b i) = true -> U.F i = x) /\
 ((nmI b i && go) = true -> IntKind.i64.wrap (i + 1) = IntKind.i64.wrap (i + 1) /\ U.I (U.next i) /\ U.μ (U.next i) < U.μ i /\ U.F (U.next i) = U.F i) /\
 ((nmI b i && stop) = true -> U.F i = y)
theorem nm_run (b : ByteArray) (i : Int) : chkR (nmS b) ((nmU b).way i) ((run cE 300).code nmFr nmA (patch (nmS b) ((nmU b).S i))) = some (.p (nmNd (nmU b) (.exit 0, nmO) (.ret, nmT) (!!nmL b i) (!nmL b i) b i)) := by kernel_rfl
theorem rm_run (b : ByteArray) (i : Int) : chkR (rmS b) ((rmU b).way i) ((run cE 300).code rmFr rmA (patch (rmS b) ((rmU b).S i))) = some (.p (nmNd (rmU b) (.exit 0, rmO) (.ret, rmT) (!letN (cAt b i)) (letN (cAt b i)) b i)) := by kernel_rfl
theorem nm_start (b : ByteArray) : fit (nmS b) (nmS b) (patch (nmS b) ((nmU b).S 0)) [] = some (.p ((0 : Int) = 0)) := by kernel_rfl
theorem rm_start (b : ByteArray) : fit (rmS b) (rmS b) (patch (rmS b) ((rmU b).S 0)) [] = some (.p ((0 : Int) = 0)) := by kernel_rfl
theorem nm_step {b : ByteArray} (hb : b.size < 1000000000) {i : Int} (h0 : 0 <= i) (h1 : i <= b.size) {x y : Ex × Patch} {U : Sum Int} (hI : U.I = fun y : Int => 0 <= y /\ y <= (b.size : Int)) (hm : U.μ = fun y : Int => ((b.size : Int) - y).toNat) (hF : U.F = fun y' : Int => bif nmAll letP b ((b.size : Int) - y').toNat y' then x else y) (hn : U.next = fun y : Int => IntKind.i64.wrap (y + 1)) {go stop : Bool} (hg : go = nmL b i) (hs : stop = !nmL b i) : nmNd U x y go stop b i := by
 have w : IntKind.i64.wrap (i + 1) = i + 1 := i64w (by omega) (by omega)
 subst hg hs
 unfold nmNd nmI
 rw [hI, hm, hF, hn]
 simp only [w, decide_eq_true_eq, Bool.and_eq_true, Bool.not_eq_true', decide_eq_false_iff_not, Bool.not_not]
 have step : i < b.size -> ((b.size : Int) - i).toNat = ((b.size : Int) - (i + 1)).toNat + 1 := fun h => by omega
 refine ⟨fun h => ⟨h0, h⟩, fun h => ?_, fun h => ⟨trivial, ⟨by omega, by omega⟩, by omega, ?_⟩, fun h => ?_⟩
 .rw [show ((b.size : Int) - i).toNat = 0 by omega]; rfl
 .rw [step h.1, nmAll, show letP (cAt b i) = true from h.2, w, Bool.true_and]
 .rw [step h.1, nmAll, show letP (cAt b i) = false from h.2, Bool.false_and]; rfl
theorem nm_loop {b : ByteArray} (hb : b.size < 1000000000) : CodeOk cE nmFr (.loop nmA) (nmS b) ⟨.tt, [⟨.b (nmAll letP b b.size 0), .exit 0, patch (nmS b) nmO⟩, ⟨.b (!nmAll letP b b.size 0), .ret, patch (nmS b) nmT⟩]⟩ :=
 sum_two (run_sound cE_ok 300) (nmU b) (y0 := 0) (show (0 : Int) <= 0 /\ (0 : Int) <= b.size by omega) ⟨_, nm_start b, rfl⟩ (by kernel_rfl) (fun y hy => ⟨_, nm_run b y, nm_step hb hy.1 hy.2 rfl rfl rfl rfl (Bool.not_not _) rfl⟩) (show (bif nmAll letP b ((b.size : Int) - 0).toNat 0 then _ else _) = _ by rw [show ((b.size : Int) - 0).toNat = b.size by omega])
theorem rm_loop {b : ByteArray} (hb : b.size < 1000000000) : CodeOk cE rmFr (.loop rmA) (rmS b) ⟨.tt, [⟨.b (nmAll letP b b.size 0), .exit 0, patch (rmS b) rmO⟩, ⟨.b (!nmAll letP b b.size 0), .ret, patch (rmS b) rmT⟩]⟩ :=
 sum_two (run_sound cE_ok 300) (rmU b) (y0 := 0) (show (0 : Int) <= 0 /\ (0 : Int) <= b.size by omega) ⟨_, rm_start b, rfl⟩ (by kernel_rfl) (fun y hy => ⟨_, rm_run b y, nm_step hb hy.1 hy.2 rfl rfl rfl rfl (by rw [letN_eq, Bool.not_not]; rfl) (letN_eq _)⟩) (show (bif nmAll letP b ((b.size : Int) - 0).toNat 0 then _ else _) = _ by rw [show ((b.size : Int) - 0).toNat = b.size by omega])
noncomputable def cNa (b : ByteArray) : Ctx := withLoops cE [twoLoop 42 7 nmFr nmA (nmS b) (nmAll letP b b.size 0) (.exit 0) nmO .ret nmT]
theorem cNa_ok {b : ByteArray} (hb : b.size < 1000000000) : CtxOk (cNa b) := withTwo_ok cE_ok (nm_loop hb) (withNone_ok cE_ok)
noncomputable def cRa (b : ByteArray) : Ctx := withLoops cE [twoLoop 100 5 rmFr rmA (rmS b) (nmAll letP b b.size 0) (.exit 0) rmO .ret rmT]
theorem cRa_ok {b : ByteArray} (hb : b.size < 1000000000) : CtxOk (cRa b) := withTwo_ok cE_ok (rm_loop hb) (withNone_ok cE_ok)
def nmV2 (b : ByteArray) : Bool := bif !nmAll letP b b.size 0 then false else nmLen b.size
theorem name_run (b : ByteArray) : oneV ((run (cNa b) 300).call 42 [.str true b] ⟨[], 0, 1⟩) = some (.p (At nmFr nmFr nmA nmA (nmS b) (nmS b)), .bool true (nmV2 b)) := by kernel_rfl
theorem rname_run (b : ByteArray) : oneV ((run (cRa b) 300).call 100 [.str true b] ⟨[], 0, 1⟩) = some (.p (At rmFr rmFr rmA rmA (rmS b) (rmS b)), .bool true (nmV2 b)) := by kernel_rfl
end
end Go.Proofs.YtooloakdmdbnaaaGreatDoor.K
namespace Go.Proofs.YtooloakdmdbnaaaGreatDoor.K
open Go Go.Eng Go.Ar Go.Rd
noncomputable section
theorem nmV2_eq (b : ByteArray) : nmV2 b = nameB b := by
 unfold nmV2 nameB
 cases nmAll letP b b.size 0 <;> rfl
def nameS : PSpec := fun args => match args with
 | [.str _ b] => some (.p (b.size < 1000000000), .bool true (nameB b))
 | _ => none
theorem gname_ok : PureOk Tryz.prog 42 nameS := by
 refine pure_runs (fun args nd v e hn => ?_) ⟨_, Tryz.func42, rfl⟩
 unfold nameS at e
 split at e
 .rename_i s b
  cases e
  have := name_run b
  rw [nmV2_eq] at this
  exact ⟨cNa b, 300, [.str true b], _, _, cNa_ok hn, rfl, fun _ => rfl, fun σ L h => h, this, ⟨rfl, rfl, rfl⟩, fun τ V h σ => h⟩
 .cases e
theorem rname_ok : PureOk Tryz.prog 100 nameS := by
 refine pure_runs (fun args nd v e hn => ?_) ⟨_, Tryz.func100, rfl⟩
 unfold nameS at e
 split at e
 .rename_i s b
  cases e
  have := rname_run b
  rw [nmV2_eq] at this
  exact ⟨cRa b, 300, [.str true b], _, _, cRa_ok hn, rfl, fun _ => rfl, fun σ L h => h, this, ⟨rfl, rfl, rfl⟩, fun τ V h σ => h⟩
 .cases e
def tblNm : List (FuncId × PSpec) := [(42, nameS), (100, nameS)]
theorem tblNm_g : ∀ x ∈ tblNm, GOk Tryz.prog glob hG x.1 x.2 := by
 intro x hx
 simp only [tblNm, List.mem_cons, List.not_mem_nil, or_false] at hx
 rcases hx with rfl | rfl
 .exact gname_ok.g glob hG
 .exact rname_ok.g glob hG
def cNm : Ctx := mkG Tryz.prog glob hG tblNm ext
theorem cNm_ok : CtxOk cNm := mkG_ok prog_ok ext_ok tblNm_g
def suA (s : Su) (kd : AV) (n : Nat) : AV := .agg (s.cells kd ++ [.pslice hG.size n false n])
def suH (n : Nat) (x : Nat -> Int) : Hp := viewsH false hG [(.i64, spinF (3 * n) 0 x)]
end
end Go.Proofs.YtooloakdmdbnaaaGreatDoor.K
namespace Go.Proofs.YtooloakdmdbnaaaGreatDoor.K
open Go Go.Eng Go.Ar Go.Rd
noncomputable section
def cNk : Ctx := { cNm with hintT := fun c => match Nat.beq c 79 with | true => some (5, .bool false false) | false => none }
theorem cNk_ok : CtxOk cNk := ⟨cNm_ok.prog, cNm_ok.con, cNm_ok.ext, cNm_ok.loop, cNm_ok.two⟩
def rn (C : Ctx) (f : FuncId) (s : Su) (kd : AV) (n : Nat) (x : Nat -> Int) : Option (Nd × AV) := oneG (hG.size + 1) hG.clock ((run C 1000).call f [suA s kd n] (suH n x))
def fz (n : Nat) (x : Nat -> Int) : List Int := spinF (3 * n) 0 x
end
end Go.Proofs.YtooloakdmdbnaaaGreatDoor.K
