/- What is proved: SurfaceEven returns true, whatever the input (part 8 of 24). No conditions beyond those of the row. -/
import Derived.Test.YtiigkjnhmipnfaaGreatDoorPG
import Derived.Shelf.Small.Bits
import Derived.Shelf.Strconv.Itoa0
import Derived.Shelf.Bits.Mul64
import Derived.Test.YtiigkjnhmipnfaaGreatDoorProg
import Derived.Laws.Externs
import Derived.KernelRfl
set_option linter.unusedVariables false
set_option linter.unusedSimpArgs false
set_option linter.unusedSectionVars false
/-
  DERIVED: THE SHELF's CONTRACTS AT THIS DUMP, IN PLAIN WORDS (tools/lay-plain.mjs out of 'TryzShelf.lean', which tools/lay-shelf.mjs wrote): THE SAME DECLARATIONS UNDER THE SAME NAMES: 'import', 'namespace', 'open', 'def', 'theorem' AND NOTHING ELSE: no command of the shelf's: FOR A HAND-IN. Each laying: the table of numbers ('.._ren') and one theorem, a field a fact of the dump's own or the kernel's comparison; each contract: ONE APPLICATION.
-/
namespace Go.Proofs
open Go.Shelf
def Tryz.lays134_ren : Go.Shelf.Ren := ⟨fun | 134 => 212 | 129 => 216 | n => n, fun | 53 => 186 | 3 => 3 | 4 => 4 | 46 => 207 | 5 => 5 | 9 => 9 | n => n, fun | n => n⟩
theorem Tryz.lays134 : Go.Proofs.Lays.n134 Tryz.prog Tryz.lays134_ren := {
  mixed := by kernel_rfl
  f129 := Tryz.func216.trans (congrArg some (by kernel_rfl))
  f134 := Tryz.func212.trans (congrArg some (by kernel_rfl))
  t3 := Tryz.underlying3
  a3 := Tryz.isAgg3
  z3 := Tryz.sizeOf3
  v3 := Tryz.zeroValue3
  t4 := Tryz.underlying4
  a4 := Tryz.isAgg4
  z4 := Tryz.sizeOf4
  v4 := Tryz.zeroValue4
  t5 := Tryz.underlying5
  a5 := Tryz.isAgg5
  z5 := Tryz.sizeOf5
  v5 := Tryz.zeroValue5
  t9 := Tryz.underlying9
  a9 := Tryz.isAgg9
  z9 := Tryz.sizeOf9
  v9 := Tryz.zeroValue9
  t46 := Tryz.underlying207
  a46 := Tryz.isAgg207
  z46 := Tryz.sizeOf207
  v46 := Tryz.zeroValue207
  t53 := Tryz.underlying186
  a53 := Tryz.isAgg186
  z53 := Tryz.sizeOf186
  v53 := Tryz.zeroValue186 }
theorem Tryz.bits_LeadingZeros64 (x : Int) (w : World) (h0 : 0 ≤ x) (h1 : x ≤ 18446744073709551615) :
    Calls Tryz.prog 212 #[.int .u64 x] w fun e w' => e = .returned (.int .i64 (64 - (Lib.bitLen x.toNat : Int))) ∧ w' = w := Any.bits_LeadingZeros64 Tryz.lays134 x w h0 h1
def Tryz.lays264_ren : Go.Shelf.Ren := ⟨fun | 264 => 203 | n => n, fun | 53 => 186 | 46 => 207 | n => n, fun | n => n⟩
theorem Tryz.lays264 : Go.Proofs.Lays.n264 Tryz.prog Tryz.lays264_ren := {
  mixed := by kernel_rfl
  f264 := Tryz.func203.trans (congrArg some (by kernel_rfl))
  t46 := Tryz.underlying207
  a46 := Tryz.isAgg207
  z46 := Tryz.sizeOf207
  v46 := Tryz.zeroValue207
  t53 := Tryz.underlying186
  a53 := Tryz.isAgg186
  z53 := Tryz.sizeOf186
  v53 := Tryz.zeroValue186 }
open Go.RowKit Go.Lib in
theorem Tryz.bits_Mul64 (x y : Nat) (hx : x < 18446744073709551616) (hy : y < 18446744073709551616) (w : World) :
    Calls Tryz.prog 203 #[.int .u64 x, .int .u64 y] w fun e w' => e = .returned (.tuple #[.int .u64 ((x * y / 18446744073709551616 : Nat) : Int), .int .u64 ((x * y % 18446744073709551616 : Nat) : Int)]) ∧ w' = w := Any.bits_Mul64 Tryz.lays264 x y hx hy w
end Go.Proofs
namespace Go.Proofs.YtiigkjnhmipnfaaGreatDoor.K
open Go Go.Eng
theorem all_names : (Tryz.prog.funcs.toList.all fun fn => !(fn.name == "runtime.NumGoroutine")) = true := by kernel_rfl
theorem prog_ok : ProgOk Tryz.prog := by
  refine ⟨fun f fn h _ => ?_, by kernel_rfl⟩
  have h1 : fn ∈ Tryz.prog.funcs.toList := by
    rw [Array.mem_toList_iff]
    exact Array.mem_of_getElem? h
  have := List.all_eq_true.1 all_names fn h1
  simpa using this
theorem mkInt_rel {σ : Sg} {s : Bool} {k : IntKind} {n : Int} : VRel σ (mkInt s k n) (.int k n) := by
  cases s with
  | true => rfl
  | false =>
    unfold mkInt forceInt
    cases n with
    | ofNat m => cases m <;> rfl
    | negSucc m => cases m <;> rfl
def asked (s b : Bool) (v : AV) : Option (Nd × AV) :=
  match s with
  | true => some (.p (b = true), v)
  | false => match b with
    | true => some (.tt, v)
    | false => none
theorem asked_some {s b : Bool} {v w : AV} {nd : Nd} (e : asked s b v = some (nd, w)) (hn : nd.val) : w = v ∧ b = true := by
  unfold asked at e
  split at e
  · cases e; exact ⟨rfl, hn⟩
  · split at e
    · cases e; exact ⟨rfl, rfl⟩
    · cases e
def ext (f : FuncId) (args : List AV) : Option (Nd × AV) :=
  match Nat.beq f 214 with
  | true => match args with
    | [.int s .u64 x, .int s' .u64 y, .int s'' .u64 c] => asked (s || s' || s'') (decide (0 ≤ x ∧ 0 ≤ y ∧ 0 ≤ c ∧ c ≤ 1)) (.tuple [mkInt (s || s' || s'') .u64 ((x + y + c) % 18446744073709551616), mkInt (s || s' || s'') .u64 ((x + y + c) / 18446744073709551616)])
    | _ => none
  | false => none
theorem add64_run (x y c : Int) (hx : 0 ≤ x) (hy : 0 ≤ y) (hc0 : 0 ≤ c) (hc : c ≤ 1) (w : World) :
    (callFunc 214 #[.int .u64 x, .int .u64 y, .int .u64 c]).run Tryz.prog w = .ok (.value (.tuple #[.int .u64 ((x + y + c) % 18446744073709551616), .int .u64 ((x + y + c) / 18446744073709551616)])) w := by
  rw [run_callFunc_extern Tryz.func214 (by kernel_rfl) (by kernel_rfl) (by kernel_rfl) (e := add64Entry) (by kernel_rfl), run_add64 x y c hx hy hc0 hc]
  rfl
theorem ext_ok : ExtOk Tryz.prog ext := by
  intro f args nd v e hn σ A W ha
  unfold ext at e
  split at e
  · rename_i hf
    have := Nat.eq_of_beq_eq_true hf
    subst this
    split at e
    · rename_i s x s' y s'' c
      obtain ⟨rfl, hd⟩ := asked_some e hn
      have hd := of_decide_eq_true hd
      obtain ⟨V, L, hL, rfl, V2, L2, hL2, rfl, V3, L3, hL3, rfl, hL4⟩ := ha
      rw [hL2, hL3, show L3 = [] from hL4] at hL
      have hA : A = #[.int .u64 x, .int .u64 y, .int .u64 c] := by
        apply Array.toList_inj.1; simpa using hL
      subst hA
      exact ⟨_, ⟨_, rfl, _, _, rfl, mkInt_rel, _, _, rfl, mkInt_rel, rfl⟩, add64_run x y c hd.1 hd.2.1 hd.2.2.1 hd.2.2.2 W⟩
    · cases e
  · cases e
def lzSpec : List AV → Option (Nd × AV)
  | [.int s .u64 x] => some (.p (0 ≤ x ∧ x ≤ 18446744073709551615), mkInt s .i64 (64 - (Lib.bitLen x.toNat : Int)))
  | _ => none
def two64 : Int := 18446744073709551616
def mulSpec : List AV → Option (Nd × AV)
  | [.int s .u64 x, .int s' .u64 y] => asked (s || s') (decide (0 ≤ x ∧ x < 18446744073709551616 ∧ 0 ≤ y ∧ y < 18446744073709551616)) (.tuple [mkInt (s || s') .u64 (x * y / two64), mkInt (s || s') .u64 (x * y % two64)])
  | _ => none
theorem lz_ok : PureOk Tryz.prog 212 lzSpec := by
  refine pure_calls ⟨_, Tryz.func212, rfl⟩ fun args nd v e hn σ A W ha => ?_
  unfold lzSpec at e
  split at e
  · rename_i s x
    cases e
    have hd := hn
    obtain ⟨V, L, hL, rfl, hL2⟩ := ha
    rw [show L = [] from hL2] at hL
    have hA : A = #[.int .u64 x] := by
      apply Array.toList_inj.1; simpa using hL
    subst hA
    exact ⟨_, mkInt_rel, Tryz.bits_LeadingZeros64 x W hd.1 hd.2⟩
  · cases e
theorem mul_ok : PureOk Tryz.prog 203 mulSpec := by
  refine pure_calls ⟨_, Tryz.func203, rfl⟩ fun args nd v e hn σ A W ha => ?_
  unfold mulSpec at e
  split at e
  · rename_i s x s' y
    obtain ⟨rfl, hd⟩ := asked_some e hn
    obtain ⟨h1, h2, h3, h4⟩ := of_decide_eq_true hd
    obtain ⟨V, L, hL, rfl, V2, L2, hL2, rfl, hL3⟩ := ha
    rw [hL2, show L2 = [] from hL3] at hL
    have hA : A = #[.int .u64 x, .int .u64 y] := by
      apply Array.toList_inj.1; simpa using hL
    subst hA
    refine ⟨.tuple #[.int .u64 (x * y / two64), .int .u64 (x * y % two64)], ⟨_, rfl, _, _, rfl, mkInt_rel, _, _, rfl, mkInt_rel, rfl⟩, ?_⟩
    have := Tryz.bits_Mul64 x.toNat y.toNat (by omega) (by omega) W
    rw [Int.toNat_of_nonneg h1, Int.toNat_of_nonneg h3] at this
    have e1 : ((x.toNat * y.toNat / 18446744073709551616 : Nat) : Int) = x * y / two64 := by
      rw [Int.natCast_ediv, Int.natCast_mul, Int.toNat_of_nonneg h1, Int.toNat_of_nonneg h3]; rfl
    have e2 : ((x.toNat * y.toNat % 18446744073709551616 : Nat) : Int) = x * y % two64 := by
      rw [Int.natCast_emod, Int.natCast_mul, Int.toNat_of_nonneg h1, Int.toNat_of_nonneg h3]; rfl
    rw [e1, e2] at this
    exact this
  · cases e
noncomputable def tbl0 : List (FuncId × PSpec) := [(212, lzSpec), (203, mulSpec)]
theorem tbl0_ok : TblOk Tryz.prog tbl0 := by
  intro x hx
  simp only [tbl0, List.mem_cons, List.not_mem_nil, or_false] at hx
  rcases hx with rfl | rfl
  · exact lz_ok
  · exact mul_ok
noncomputable def cD0 : Ctx := mkC Tryz.prog tbl0 noExt
theorem cD0_ok : CtxOk cD0 := mkC_ok prog_ok tbl0_ok (noExt_ok _)
noncomputable def cD : Ctx := { cD0 with loop := fun fr a s => match Nat.beq fr.fn 202 with | true => unroll (run cD0 60) fr a 3 s | false => none }
theorem cD_ok : CtxOk cD := by
  refine ⟨cD0_ok.prog, cD0_ok.con, cD0_ok.ext, fun fr a s q e => ?_, fun _ _ _ _ _ _ _ e => (by cases e)⟩
  have e : (match Nat.beq fr.fn 202 with | true => unroll (run cD0 60) fr a 3 s | false => none) = some q := e
  split at e
  · exact unroll_ok (run_sound cD0_ok 60) 3 s q e
  · cases e
theorem div_run (hi lo y : Int) : oneV ((run cD 100).call 202 [.int true .u64 hi, .int true .u64 lo, .int true .u64 y] ⟨[], 0, 1⟩) = some (.p (dNeed hi lo y), .tuple [.int true .u64 (dQuo hi lo y), .int true .u64 (dRem hi lo y)]) := by kernel_rfl
def divSpec : List AV → Option (Nd × AV)
  | [.int s .u64 hi, .int s' .u64 lo, .int s'' .u64 y] => asked (s || s' || s'') (decide (0 ≤ hi ∧ hi < y ∧ y < 18446744073709551616 ∧ 0 ≤ lo ∧ lo < 18446744073709551616))
      (.tuple [mkInt (s || s' || s'') .u64 ((hi * two64 + lo) / y), mkInt (s || s' || s'') .u64 ((hi * two64 + lo) % y)])
  | _ => none
theorem div_ok : PureOk Tryz.prog 202 divSpec := by
  refine pure_run (C := cD) cD_ok (fun _ => rfl) (n := 100) (fun args nd v e hn => ?_) ⟨_, Tryz.func202, rfl⟩
  unfold divSpec at e
  split at e
  · rename_i s hi s' lo s'' y
    obtain ⟨rfl, hb⟩ := asked_some e hn
    obtain ⟨h1, h2, h3, h4, h5⟩ := of_decide_eq_true hb
    refine ⟨[.int true .u64 hi, .int true .u64 lo, .int true .u64 y], _, _, fun σ L h => h, div_run hi lo y, ?_⟩
    obtain ⟨p1, p2, p3⟩ := div_spec hi.toNat lo.toNat y.toNat (by omega) (by omega) (by omega)
    rw [Int.toNat_of_nonneg h1, Int.toNat_of_nonneg h4, Int.toNat_of_nonneg (show 0 ≤ y by omega)] at p1 p2 p3
    refine ⟨p1, fun τ V hV σ => ?_⟩
    obtain ⟨K, rfl, V1, L1, e1, rfl, V2, L2, e2, rfl, e3⟩ := hV
    rw [show L2 = [] from e3] at e2
    rw [e2] at e1
    refine ⟨K, rfl, _, _, e1, ?_, _, _, rfl, ?_, rfl⟩
    · rw [p2]; exact mkInt_rel
    · rw [p3]; exact mkInt_rel
  · cases e
end Go.Proofs.YtiigkjnhmipnfaaGreatDoor.K
namespace Go.Proofs.YtiigkjnhmipnfaaGreatDoor.K
open Go Go.Eng Go.Ar
noncomputable def tbl1 : List (FuncId × PSpec) := [(203, mulSpec), (202, divSpec)]
theorem tbl1_ok : TblOk Tryz.prog tbl1 := by
  intro x hx
  simp only [tbl1, List.mem_cons, List.not_mem_nil, or_false] at hx
  rcases hx with rfl | rfl
  · exact mul_ok
  · exact div_ok
noncomputable def c1 : Ctx := mkC Tryz.prog tbl1 ext
theorem c1_ok : CtxOk c1 := mkC_ok prog_ok tbl1_ok ext_ok
theorem mulDown_run (a b : Int) : oneV ((run c1 300).call 129 [.int true .i64 a, .int true .i64 b] ⟨[], 0, 1⟩) = some (.p (xMulN a b), .tuple [.int true .i64 (xMulV a b false), .int true .i64 (xMulE a b false)]) := by kernel_rfl
theorem mulUp_run (a b : Int) : oneV ((run c1 300).call 130 [.int true .i64 a, .int true .i64 b] ⟨[], 0, 1⟩) = some (.p (xMulN a b), .tuple [.int true .i64 (xMulV a b true), .int true .i64 (xMulE a b true)]) := by kernel_rfl
theorem divDown_run (a b : Int) : oneV ((run c1 300).call 144 [.int true .i64 a, .int true .i64 b] ⟨[], 0, 1⟩) = some (.p (xDivN a b), .tuple [.int true .i64 (xDivV a b false), .int true .i64 (xDivE a b false)]) := by kernel_rfl
theorem divUp_run (a b : Int) : oneV ((run c1 300).call 145 [.int true .i64 a, .int true .i64 b] ⟨[], 0, 1⟩) = some (.p (xDivN a b), .tuple [.int true .i64 (xDivV a b true), .int true .i64 (xDivE a b true)]) := by kernel_rfl
theorem scaleDown_run (a n d : Int) : oneV ((run c1 300).call 173 [.int true .i64 a, .int true .i64 n, .int true .i64 d] ⟨[], 0, 1⟩) = some (.p (xScN a n d), .tuple [.int true .i64 (xScV a n d false), .int true .i64 (xScE a n d false)]) := by kernel_rfl
theorem scaleUp_run (a n d : Int) : oneV ((run c1 300).call 174 [.int true .i64 a, .int true .i64 n, .int true .i64 d] ⟨[], 0, 1⟩) = some (.p (xScN a n d), .tuple [.int true .i64 (xScV a n d true), .int true .i64 (xScE a n d true)]) := by kernel_rfl
end Go.Proofs.YtiigkjnhmipnfaaGreatDoor.K
namespace Go.Proofs.YtiigkjnhmipnfaaGreatDoor.K
open Go Go.Eng Go.Ar
noncomputable section
def sqS (up : Bool) (H L : Int) : St := ⟨[⟨0, .bool false up⟩, ⟨0, .ptr 0 0⟩, ⟨0, .tuple []⟩, ⟨61, .int false .u64 0⟩, ⟨62, .bool false false⟩, ⟨63, .int false .u64 0⟩, ⟨0, .tuple []⟩, ⟨0, .tuple []⟩, ⟨64, .int false .i64 0⟩,
  ⟨0, .tuple []⟩, ⟨0, .tuple []⟩, ⟨0, .tuple []⟩, ⟨0, .tuple []⟩, ⟨0, .tuple []⟩, ⟨0, .tuple []⟩, ⟨0, .tuple []⟩, ⟨0, .tuple []⟩, ⟨0, .tuple []⟩, ⟨0, .tuple []⟩, ⟨0, .tuple []⟩, ⟨0, .tuple []⟩, ⟨0, .tuple []⟩, ⟨0, .tuple []⟩, ⟨0, .tuple []⟩, ⟨0, .tuple []⟩, ⟨0, .tuple []⟩, ⟨0, .tuple []⟩, ⟨0, .tuple []⟩, ⟨0, .tuple []⟩, ⟨0, .tuple []⟩, ⟨0, .tuple []⟩, ⟨0, .tuple []⟩, ⟨0, .tuple []⟩, ⟨0, .tuple []⟩], [],
  ⟨[⟨48, .cells [.int true .u64 H, .int true .u64 L]⟩], 1, 65⟩⟩
def sqP (i r : Int) : Patch := ⟨[(5, .int true .u64 r), (8, .int true .i64 i), (6, .any false), (7, .any false), (9, .any false), (10, .any false), (11, .any false), (12, .any false), (13, .any false), (14, .any false), (15, .any false), (16, .any false), (17, .any false), (18, .any false), (19, .any false), (20, .any false), (21, .any false), (22, .any false)], [], []⟩
def sqO (r : Int) : Patch := ⟨[(5, .int true .u64 r), (8, .any false), (6, .any false), (7, .any false), (9, .any false), (10, .any false), (11, .any false), (12, .any false), (13, .any false), (14, .any false), (15, .any false), (16, .any false), (17, .any false), (18, .any false), (19, .any false), (20, .any false), (21, .any false), (22, .any false)], [], []⟩
def sqFr : AFr := ⟨199, none⟩
noncomputable def sqA : Code := loopOf Tryz.prog 199 0
def sqU (H L : Int) : Sum (Int × Int) :=
  { S := fun y => sqP y.1 y.2
    I := fun y => 0 ≤ y.1 ∧ y.1 ≤ 43
    μ := fun y => (43 - y.1).toNat
    F := fun y => (.exit 0, sqO (sqFin H L (43 - y.1).toNat y.1 y.2))
    next := fun y => (IntKind.i64.wrap (y.1 + 1), sqStep H L y.1 y.2)
    ids := []
    X := fun y _ => some (sqO y.2, []) }
def sqNd (H L i r : Int) : Prop :=
  (decide (i < 43) = true → 0 ≤ IntKind.i64.wrap (42 - i) ∧ xIn (sqQ i r) (sqQ i r) ∧ H = H ∧ L = L) ∧
  ((!decide (i < 43)) = true → r = r ∧ (sqU H L).F (i, r) = (.exit 0, sqO r)) ∧
  (decide (i < 43) = true → (sqStep H L i r = sqStep H L i r ∧ IntKind.i64.wrap (i + 1) = IntKind.i64.wrap (i + 1)) ∧
    (sqU H L).I ((sqU H L).next (i, r)) ∧ (sqU H L).μ ((sqU H L).next (i, r)) < (sqU H L).μ (i, r) ∧ (sqU H L).F ((sqU H L).next (i, r)) = (sqU H L).F (i, r))
theorem sq_run (up : Bool) (H L i r : Int) : chkR (sqS up H L) ((sqU H L).way (i, r)) ((run c1 300).code sqFr sqA (patch (sqS up H L) ((sqU H L).S (i, r)))) = some (.p (sqNd H L i r)) := by kernel_rfl
end
end Go.Proofs.YtiigkjnhmipnfaaGreatDoor.K
namespace Go.Proofs.YtiigkjnhmipnfaaGreatDoor.K
open Go Go.Eng Go.Ar
noncomputable section
theorem sq_start (up : Bool) (H L : Int) : fit (sqS up H L) (sqS up H L) (patch (sqS up H L) ((sqU H L).S (0, 0))) [] = some (.p ((0 : Int) = 0 ∧ (0 : Int) = 0)) := by kernel_rfl
theorem sq_nd (H L i r : Int) (h : 0 ≤ i ∧ i ≤ 43) : sqNd H L i r := by
  refine ⟨fun hi => ?_, fun hi => ⟨rfl, ?_⟩, fun hi => ⟨⟨rfl, rfl⟩, ?_⟩⟩
  · have hi := of_decide_eq_true hi
    refine ⟨by rw [i64w (by omega) (by omega)]; omega, ?_, rfl, rfl⟩
    have := u64_range (↑(BitVec.ofInt IntKind.u64.bits r ||| BitVec.ofInt IntKind.u64.bits (IntKind.u64.wrap (1 * 2 ^ min (IntKind.i64.wrap (42 - i)).toNat IntKind.u64.bits))).toNat)
    exact xIn_of this.1 this.2 this.1 this.2
  · have : i = 43 := by simp at hi; omega
    subst this
    rfl
  · have hi := of_decide_eq_true hi
    have e : IntKind.i64.wrap (i + 1) = i + 1 := i64w (by omega) (by omega)
    have e2 : (43 - i).toNat = (43 - (i + 1)).toNat + 1 := by omega
    refine ⟨?_, ?_, ?_⟩
    · show 0 ≤ IntKind.i64.wrap (i + 1) ∧ IntKind.i64.wrap (i + 1) ≤ 43
      rw [e]; omega
    · show (43 - IntKind.i64.wrap (i + 1)).toNat < (43 - i).toNat
      rw [e]; omega
    · show (Ex.exit 0, sqO (sqFin H L (43 - IntKind.i64.wrap (i + 1)).toNat (IntKind.i64.wrap (i + 1)) (sqStep H L i r))) = (Ex.exit 0, sqO (sqFin H L (43 - i).toNat i r))
      rw [e2, sqFin, e]
theorem sq_loop (up : Bool) (H L : Int) : CodeOk c1 sqFr (.loop sqA) (sqS up H L) ⟨.tt, [⟨.tt, .exit 0, patch (sqS up H L) (sqO (sqFin H L 43 0 0))⟩]⟩ := by
  have hF : (sqU H L).F (0, 0) = (.exit 0, sqO (sqFin H L 43 0 0)) := by
    show (Ex.exit 0, sqO (sqFin H L (43 - (0 : Int)).toNat 0 0)) = _
    rw [show (43 - (0 : Int)).toNat = 43 from by decide]
  have h0 : oldsOk (sqS up H L).hp ((sqU H L).S (0, 0)).old = true := by kernel_rfl
  have h1 : (sqU H L).I (0, 0) := ⟨by decide, by decide⟩
  exact sum_one (run_sound c1_ok 300) (sqU H L) h1 ⟨_, sq_start up H L, rfl, rfl⟩ h0 (fun y hy => ⟨_, sq_run up H L y.1 y.2, sq_nd H L y.1 y.2 hy⟩) hF
noncomputable def c1s (up : Bool) (a : Int) : Ctx := withLoops c1 [oneLoop 199 65 sqFr sqA (sqS up (xHi (sqP2 a)) (xLo (sqP2 a))) (.exit 0) (sqO (sqFin (xHi (sqP2 a)) (xLo (sqP2 a)) 43 0 0))]
theorem c1s_ok (up : Bool) (a : Int) : CtxOk (c1s up a) := withLoop_ok c1_ok (sq_loop up _ _) (withNone_ok c1_ok)
def sqAt (up : Bool) (a : Int) : Prop := At sqFr sqFr sqA sqA (sqS up (xHi (sqP2 a)) (xLo (sqP2 a))) (sqS up (xHi (sqP2 a)) (xLo (sqP2 a)))
def sqNd2 (a : Int) : Prop := (!sqBad a) = true → xIn (IntKind.u64.wrap a) 4294967296 ∧ sqAt false a
def sqNd3 (a : Int) : Prop := (!sqBad a) = true → xIn (IntKind.u64.wrap a) 4294967296 ∧ sqAt true a ∧ xIn (sqR a) (sqR a) ∧ xHi (sqP2 a) = xHi (sqP2 a) ∧ xLo (sqP2 a) = xLo (sqP2 a)
theorem sqDown_run (a : Int) : oneV ((run (c1s false a) 300).call 156 [.int true .i64 a] ⟨[], 0, 1⟩) = some (.p (sqNd2 a), .tuple [.int true .i64 (xSqV a false), .int true .i64 (xSqE a false)]) := by kernel_rfl
theorem sqUp_run (a : Int) : oneV ((run (c1s true a) 300).call 157 [.int true .i64 a] ⟨[], 0, 1⟩) = some (.p (sqNd3 a), .tuple [.int true .i64 (xSqV a true), .int true .i64 (xSqE a true)]) := by kernel_rfl
theorem sqNd3_all (a : Int) : sqNd3 a := by
  intro h
  rw [sqBad_eq, Bool.not_not] at h
  obtain ⟨r0, r1, r2, r3⟩ := sqR_spec h
  simp only [sqOk, Bool.and_eq_true, decide_eq_true_eq] at h
  have h1 := okF_iff.1 h.1
  rw [u64w (n := a) (by omega) (by omega)]
  exact ⟨xIn_of (by omega) (by omega) (by decide) (by decide), ⟨rfl, rfl, rfl⟩, xIn_of (by omega) (by omega) (by omega) (by omega), rfl, rfl⟩
theorem sqNd2_all (a : Int) : sqNd2 a := fun h => ⟨(sqNd3_all a h).1, rfl, rfl, rfl⟩
theorem mulDown_ok : PureOk Tryz.prog 129 (sMul false) := by
  refine num_ok (fun xs hk _ => ?_) ⟨_, Tryz.func129, rfl⟩
  obtain ⟨a, _, rfl, h1⟩ := kn hk; obtain ⟨b, _, rfl, h2⟩ := kn h1; obtain rfl := k0 h2
  exact ⟨c1, 300, _, c1_ok, rfl, fun _ => rfl, rfl, mulDown_run a b, xMul_need a b⟩
theorem mulUp_ok : PureOk Tryz.prog 130 (sMul true) := by
  refine num_ok (fun xs hk _ => ?_) ⟨_, Tryz.func130, rfl⟩
  obtain ⟨a, _, rfl, h1⟩ := kn hk; obtain ⟨b, _, rfl, h2⟩ := kn h1; obtain rfl := k0 h2
  exact ⟨c1, 300, _, c1_ok, rfl, fun _ => rfl, rfl, mulUp_run a b, xMul_need a b⟩
theorem divDown_ok : PureOk Tryz.prog 144 (sDiv false) := by
  refine num_ok (fun xs hk _ => ?_) ⟨_, Tryz.func144, rfl⟩
  obtain ⟨a, _, rfl, h1⟩ := kn hk; obtain ⟨b, _, rfl, h2⟩ := kn h1; obtain rfl := k0 h2
  exact ⟨c1, 300, _, c1_ok, rfl, fun _ => rfl, rfl, divDown_run a b, xDiv_need a b⟩
theorem divUp_ok : PureOk Tryz.prog 145 (sDiv true) := by
  refine num_ok (fun xs hk _ => ?_) ⟨_, Tryz.func145, rfl⟩
  obtain ⟨a, _, rfl, h1⟩ := kn hk; obtain ⟨b, _, rfl, h2⟩ := kn h1; obtain rfl := k0 h2
  exact ⟨c1, 300, _, c1_ok, rfl, fun _ => rfl, rfl, divUp_run a b, xDiv_need a b⟩
theorem scaleDown_ok : PureOk Tryz.prog 173 (sScale false) := by
  refine num_ok (fun xs hk _ => ?_) ⟨_, Tryz.func173, rfl⟩
  obtain ⟨a, _, rfl, h1⟩ := kn hk; obtain ⟨n, _, rfl, h2⟩ := kn h1; obtain ⟨d, _, rfl, h3⟩ := kn h2; obtain rfl := k0 h3
  exact ⟨c1, 300, _, c1_ok, rfl, fun _ => rfl, rfl, scaleDown_run a n d, xSc_need a n d⟩
theorem scaleUp_ok : PureOk Tryz.prog 174 (sScale true) := by
  refine num_ok (fun xs hk _ => ?_) ⟨_, Tryz.func174, rfl⟩
  obtain ⟨a, _, rfl, h1⟩ := kn hk; obtain ⟨n, _, rfl, h2⟩ := kn h1; obtain ⟨d, _, rfl, h3⟩ := kn h2; obtain rfl := k0 h3
  exact ⟨c1, 300, _, c1_ok, rfl, fun _ => rfl, rfl, scaleUp_run a n d, xSc_need a n d⟩
theorem sqrtDown_ok : PureOk Tryz.prog 156 (sSqrt false) := by
  refine num_ok (fun xs hk _ => ?_) ⟨_, Tryz.func156, rfl⟩
  obtain ⟨a, _, rfl, h1⟩ := kn hk; obtain rfl := k0 h1
  exact ⟨c1s false a, 300, _, c1s_ok false a, rfl, fun _ => rfl, rfl, sqDown_run a, sqNd2_all a⟩
theorem sqrtUp_ok : PureOk Tryz.prog 157 (sSqrt true) := by
  refine num_ok (fun xs hk _ => ?_) ⟨_, Tryz.func157, rfl⟩
  obtain ⟨a, _, rfl, h1⟩ := kn hk; obtain rfl := k0 h1
  exact ⟨c1s true a, 300, _, c1s_ok true a, rfl, fun _ => rfl, rfl, sqUp_run a, sqNd3_all a⟩
end
end Go.Proofs.YtiigkjnhmipnfaaGreatDoor.K
namespace Go.Proofs.YtiigkjnhmipnfaaGreatDoor.K
open Go Go.Eng Go.Ar
noncomputable section
noncomputable def tbl2 : List (FuncId × PSpec) := [(129, sMul false), (130, sMul true), (144, sDiv false), (145, sDiv true), (173, sScale false), (174, sScale true), (156, sSqrt false), (157, sSqrt true), (203, mulSpec)]
theorem tbl2_ok : TblOk Tryz.prog tbl2 := by
  intro x hx
  simp only [tbl2, List.mem_cons, List.not_mem_nil, or_false] at hx
  rcases hx with rfl | rfl | rfl | rfl | rfl | rfl | rfl | rfl | rfl
  · exact mulDown_ok
  · exact mulUp_ok
  · exact divDown_ok
  · exact divUp_ok
  · exact scaleDown_ok
  · exact scaleUp_ok
  · exact sqrtDown_ok
  · exact sqrtUp_ok
  · exact mul_ok
noncomputable def c2 : Ctx := mkC Tryz.prog tbl2 ext
theorem c2_ok : CtxOk c2 := mkC_ok prog_ok tbl2_ok ext_ok
end
end Go.Proofs.YtiigkjnhmipnfaaGreatDoor.K
namespace Go.Proofs.YtiigkjnhmipnfaaGreatDoor.K
open Go Go.Eng Go.Ar
noncomputable section
theorem chk_run (a b : Int) : oneV ((run c2 300).call 88 [.agg [.int true .i64 a, .int true .i64 b]] ⟨[], 0, 1⟩) = some (.tt, .int true .i64 (xCS a b)) := by kernel_rfl
theorem add_run (a b c d : Int) : oneV ((run c2 300).call 92 [.agg [.int true .i64 a, .int true .i64 b], .agg [.int true .i64 c, .int true .i64 d]] ⟨[], 0, 1⟩) = some (.tt, (outS (xAddS a b c d)).av true) := by kernel_rfl
theorem sub_run (a b c d : Int) : oneV ((run c2 300).call 122 [.agg [.int true .i64 a, .int true .i64 b], .agg [.int true .i64 c, .int true .i64 d]] ⟨[], 0, 1⟩) = some (.tt, (outS (xSubS a b c d)).av true) := by kernel_rfl
theorem mul_run (a b c d : Int) : oneV ((run c2 300).call 93 [.agg [.int true .i64 a, .int true .i64 b], .agg [.int true .i64 c, .int true .i64 d]] ⟨[], 0, 1⟩) = some (.tt, (outS (xMulS a b c d)).av true) := by kernel_rfl
theorem sdiv_run (a b c d : Int) : oneV ((run c2 300).call 107 [.agg [.int true .i64 a, .int true .i64 b], .agg [.int true .i64 c, .int true .i64 d]] ⟨[], 0, 1⟩) = some (.tt, (outS (xDivS a b c d)).av true) := by kernel_rfl
theorem sqrt_run (a b : Int) : oneV ((run c2 300).call 124 [.agg [.int true .i64 a, .int true .i64 b]] ⟨[], 0, 1⟩) = some (.tt, (outS (xSqrtS a b)).av true) := by kernel_rfl
theorem scale_run (a b n d : Int) : oneV ((run c2 300).call 143 [.agg [.int true .i64 a, .int true .i64 b], .int true .i64 n, .int true .i64 d] ⟨[], 0, 1⟩) = some (.tt, (outS (xScaleS a b n d)).av true) := by kernel_rfl
theorem pow_run (v : Int) : oneV ((run c2 300).call 191 [.int true .i64 v, .int false .i64 2] ⟨[], 0, 1⟩) = some (.p (pwN v), .tuple [.int true .i64 (pwD v), .int true .i64 (pwU v), .int true .i64 (pwE v)]) := by kernel_rfl
theorem pow_ok : PureOk Tryz.prog 191 sPow := by
  refine num_ok (fun xs hk hN => ?_) ⟨_, Tryz.func191, rfl⟩
  obtain ⟨v, _, rfl, h1⟩ := kn hk; obtain rfl := k0 h1
  obtain ⟨e1, e2, e3, hn⟩ := pw_law hN
  have := pow_run v
  rw [e1, e2, e3] at this
  exact ⟨c2, 300, _, c2_ok, rfl, fun _ => rfl, rfl, this, hn⟩
noncomputable def tbl3 : List (FuncId × PSpec) := (191, sPow) :: tbl2
theorem tbl3_ok : TblOk Tryz.prog tbl3 := fun x hx => by
  rcases List.mem_cons.1 hx with rfl | hx
  · exact pow_ok
  · exact tbl2_ok x hx
noncomputable def c3 : Ctx := mkC Tryz.prog tbl3 ext
theorem c3_ok : CtxOk c3 := mkC_ok prog_ok tbl3_ok ext_ok
theorem sqr_run (a b : Int) : oneV ((run c3 300).call 131 [.agg [.int true .i64 a, .int true .i64 b]] ⟨[], 0, 1⟩) = some (.p (xSqrN a b), (outS (xSqrS a b)).av true) := by kernel_rfl
theorem schk_ok : PureOk Tryz.prog 88 sChk := by
  refine num_ok (fun xs hk _ => ?_) ⟨_, Tryz.func88, rfl⟩
  obtain ⟨a, _, rfl, h1⟩ := kn hk; obtain ⟨b, _, rfl, h2⟩ := kn h1; obtain rfl := k0 h2
  have := chk_run a b
  rw [xCS_eq] at this
  exact ⟨c2, 300, _, c2_ok, rfl, fun _ => rfl, rfl, this, trivial⟩
theorem sadd_ok : PureOk Tryz.prog 92 (sBin addS) := by
  refine num_ok (fun xs hk _ => ?_) ⟨_, Tryz.func92, rfl⟩
  obtain ⟨a, _, rfl, h1⟩ := kn hk; obtain ⟨b, _, rfl, h2⟩ := kn h1; obtain ⟨c, _, rfl, h3⟩ := kn h2; obtain ⟨d, _, rfl, h4⟩ := kn h3; obtain rfl := k0 h4
  exact ⟨c2, 300, _, c2_ok, rfl, fun _ => rfl, rfl, (add_run a b c d).trans (by rw [xAddS_eq]), trivial⟩
theorem ssub_ok : PureOk Tryz.prog 122 (sBin subS) := by
  refine num_ok (fun xs hk _ => ?_) ⟨_, Tryz.func122, rfl⟩
  obtain ⟨a, _, rfl, h1⟩ := kn hk; obtain ⟨b, _, rfl, h2⟩ := kn h1; obtain ⟨c, _, rfl, h3⟩ := kn h2; obtain ⟨d, _, rfl, h4⟩ := kn h3; obtain rfl := k0 h4
  exact ⟨c2, 300, _, c2_ok, rfl, fun _ => rfl, rfl, (sub_run a b c d).trans (by rw [xSubS_eq]), trivial⟩
theorem smul_ok : PureOk Tryz.prog 93 (sBin mulS) := by
  refine num_ok (fun xs hk _ => ?_) ⟨_, Tryz.func93, rfl⟩
  obtain ⟨a, _, rfl, h1⟩ := kn hk; obtain ⟨b, _, rfl, h2⟩ := kn h1; obtain ⟨c, _, rfl, h3⟩ := kn h2; obtain ⟨d, _, rfl, h4⟩ := kn h3; obtain rfl := k0 h4
  exact ⟨c2, 300, _, c2_ok, rfl, fun _ => rfl, rfl, (mul_run a b c d).trans (by rw [xMulS_eq]), trivial⟩
theorem sdiv_ok : PureOk Tryz.prog 107 (sBin divS) := by
  refine num_ok (fun xs hk _ => ?_) ⟨_, Tryz.func107, rfl⟩
  obtain ⟨a, _, rfl, h1⟩ := kn hk; obtain ⟨b, _, rfl, h2⟩ := kn h1; obtain ⟨c, _, rfl, h3⟩ := kn h2; obtain ⟨d, _, rfl, h4⟩ := kn h3; obtain rfl := k0 h4
  exact ⟨c2, 300, _, c2_ok, rfl, fun _ => rfl, rfl, (sdiv_run a b c d).trans (by rw [xDivS_eq]), trivial⟩
theorem ssqrt_ok : PureOk Tryz.prog 124 (sUn sqrtS) := by
  refine num_ok (fun xs hk _ => ?_) ⟨_, Tryz.func124, rfl⟩
  obtain ⟨a, _, rfl, h1⟩ := kn hk; obtain ⟨b, _, rfl, h2⟩ := kn h1; obtain rfl := k0 h2
  exact ⟨c2, 300, _, c2_ok, rfl, fun _ => rfl, rfl, (sqrt_run a b).trans (by rw [xSqrtS_eq]), trivial⟩
theorem ssqr_ok : PureOk Tryz.prog 131 (sUn sqrS) := by
  refine num_ok (fun xs hk _ => ?_) ⟨_, Tryz.func131, rfl⟩
  obtain ⟨a, _, rfl, h1⟩ := kn hk; obtain ⟨b, _, rfl, h2⟩ := kn h1; obtain rfl := k0 h2
  exact ⟨c3, 300, _, c3_ok, rfl, fun _ => rfl, rfl, (sqr_run a b).trans (by rw [xSqrS_eq]), xSqrN_all a b⟩
theorem sscale_ok : PureOk Tryz.prog 143 (sSc xScaleS) := by
  refine num_ok (fun xs hk _ => ?_) ⟨_, Tryz.func143, rfl⟩
  obtain ⟨a, _, rfl, h1⟩ := kn hk; obtain ⟨b, _, rfl, h2⟩ := kn h1; obtain ⟨n, _, rfl, h3⟩ := kn h2; obtain ⟨d, _, rfl, h4⟩ := kn h3; obtain rfl := k0 h4
  exact ⟨c2, 300, _, c2_ok, rfl, fun _ => rfl, rfl, scale_run a b n d, trivial⟩
end
end Go.Proofs.YtiigkjnhmipnfaaGreatDoor.K
namespace Go.Proofs.YtiigkjnhmipnfaaGreatDoor
open Go Go.Eng
theorem all_names : (Tryz.prog.funcs.toList.all fun fn => !(fn.name == "runtime.NumGoroutine")) = true := by kernel_rfl
theorem prog_ok : ProgOk Tryz.prog := by
  refine ⟨fun f fn h _ => ?_, by kernel_rfl⟩
  have h1 : fn ∈ Tryz.prog.funcs.toList := by
    rw [Array.mem_toList_iff]
    exact Array.mem_of_getElem? h
  have := List.all_eq_true.1 all_names fn h1
  simpa using this
def ext (f : FuncId) (args : List AV) : Option (Nd × AV) :=
  match Nat.beq f 214 with
  | true => match args with
    | [.int false .u64 x, .int false .u64 y, .int false .u64 c] => match decide (0 ≤ x ∧ 0 ≤ y ∧ 0 ≤ c ∧ c ≤ 1) with
      | true => some (.tt, .tuple [mkInt false .u64 ((x + y + c) % 18446744073709551616), mkInt false .u64 ((x + y + c) / 18446744073709551616)])
      | false => none
    | _ => none
  | false => none
theorem mkInt_rel {σ : Sg} {s : Bool} {k : IntKind} {n : Int} : VRel σ (mkInt s k n) (.int k n) := by
  cases s with
  | true => rfl
  | false =>
    unfold mkInt forceInt
    cases n with
    | ofNat m => cases m <;> rfl
    | negSucc m => cases m <;> rfl
theorem add64_run (x y c : Int) (hx : 0 ≤ x) (hy : 0 ≤ y) (hc0 : 0 ≤ c) (hc : c ≤ 1) (w : World) :
    (callFunc 214 #[.int .u64 x, .int .u64 y, .int .u64 c]).run Tryz.prog w = .ok (.value (.tuple #[.int .u64 ((x + y + c) % 18446744073709551616), .int .u64 ((x + y + c) / 18446744073709551616)])) w := by
  rw [run_callFunc_extern Tryz.func214 (by kernel_rfl) (by kernel_rfl) (by kernel_rfl) (e := add64Entry) (by kernel_rfl), run_add64 x y c hx hy hc0 hc]
  rfl
theorem ext_ok : ExtOk Tryz.prog ext := by
  intro f args nd v e hn σ A W ha
  unfold ext at e
  split at e
  · rename_i hf
    have := Nat.eq_of_beq_eq_true hf
    subst this
    split at e
    · rename_i x y c
      split at e
      · rename_i hd
        have hd := of_decide_eq_true hd
        cases e
        obtain ⟨V, L, hL, rfl, V2, L2, hL2, rfl, V3, L3, hL3, rfl, hL4⟩ := ha
        rw [hL2, hL3, show L3 = [] from hL4] at hL
        have hA : A = #[.int .u64 x, .int .u64 y, .int .u64 c] := by
          apply Array.toList_inj.1; simpa using hL
        subst hA
        exact ⟨_, ⟨_, rfl, _, _, rfl, mkInt_rel, _, _, rfl, mkInt_rel, rfl⟩, add64_run x y c hd.1 hd.2.1 hd.2.2.1 hd.2.2.2 W⟩
      · cases e
    · cases e
  · cases e
def glob (g : Nat) : Option Nat :=
  match Nat.beq g 2 with
  | true => some 0
  | false => match Nat.beq g 0 with
    | true => some 1
    | false => none
def hG : Hp := ⟨[⟨0, .view [.int false .i64 1, .int false .i64 10]⟩, ⟨0, .view [.int false .i64 11, .int false .i64 12, .int false .i64 13, .int false .i64 14, .int false .i64 15]⟩, ⟨0, .view [.int false .i64 1, .int false .i64 2, .int false .i64 3, .int false .i64 4, .int false .i64 10]⟩,
  ⟨0, .view [.int false .i64 1, .int false .i64 2, .int false .i64 5, .int false .i64 6, .int false .i64 7, .int false .i64 8, .int false .i64 10]⟩,
  ⟨0, .map [(.int false .i64 1, .vslice 3 7), (.int false .i64 2, .vslice 4 5), (.int false .i64 3, .vslice 5 5), (.int false .i64 4, .vslice 6 2)]⟩, ⟨0, .cells [.map 2]⟩, ⟨0, .cells [.int false .i64 4294967296, .int false .i64 4294967296]⟩], 7, 1⟩
theorem glob_lt : ∀ g i, glob g = some i → i < hG.size := by
  intro g i h
  unfold glob at h
  split at h
  · cases h; decide
  · split at h
    · cases h; decide
    · cases h
theorem known {tbl : List (FuncId × List AV × AV)} (ht : ∀ x ∈ tbl, MemoOk Tryz.prog glob hG x) {f : FuncId} {args : List AV} {v : AV} (ha : AV.underL 7 args = true) (hv : v.under 7 = true)
    (e : memoV 7 1 ((run (mkM Tryz.prog glob hG tbl ext) 3000).call f args hG) = some v) : MemoOk Tryz.prog glob hG (f, args, v) :=
  memo_ok prog_ok ext_ok ht rfl (by kernel_rfl) glob_lt ha hv e
theorem none_known : ∀ x ∈ ([] : List (FuncId × List AV × AV)), MemoOk Tryz.prog glob hG x := fun _ h => by cases h
theorem more {x : FuncId × List AV × AV} {l : List (FuncId × List AV × AV)} (h : MemoOk Tryz.prog glob hG x) (k : ∀ y ∈ l, MemoOk Tryz.prog glob hG y) : ∀ y ∈ x :: l, MemoOk Tryz.prog glob hG y := fun y hy => by
  rcases List.mem_cons.1 hy with rfl | hy
  · exact h
  · exact k y hy
end Go.Proofs.YtiigkjnhmipnfaaGreatDoor
namespace Go.Proofs.YtiigkjnhmipnfaaGreatDoor.K
open Go Go.Eng Go.Ar
noncomputable section
noncomputable def tblP : List (FuncId × PSpec) := [(88, sChk), (92, sBin addS), (122, sBin subS), (93, sBin mulS), (107, sBin divS), (131, sUn sqrS), (124, sUn sqrtS), (143, sSc xScaleS)]
theorem tblP_ok : TblOk Tryz.prog tblP := by
  intro x hx
  simp only [tblP, List.mem_cons, List.not_mem_nil, or_false] at hx
  rcases hx with rfl | rfl | rfl | rfl | rfl | rfl | rfl | rfl
  · exact schk_ok
  · exact sadd_ok
  · exact ssub_ok
  · exact smul_ok
  · exact sdiv_ok
  · exact ssqr_ok
  · exact ssqrt_ok
  · exact sscale_ok
theorem tblP_g : ∀ x ∈ tblP, GOk Tryz.prog glob hG x.1 x.2 := fun x hx => (tblP_ok x hx).g glob hG
theorem hG_plain : blksPlain hG.size hG.blks = true := by kernel_rfl
end
end Go.Proofs.YtiigkjnhmipnfaaGreatDoor.K
namespace Go.Proofs.YtiigkjnhmipnfaaGreatDoor.K
open Go Go.Eng Go.Ar
noncomputable section
def goodV (s : Sp) : AV := .tuple [.agg [.int true .i64 s.lo, .int true .i64 s.hi], .int false .i64 0]
def good4 (ss : List Sh) (F : Int → Int → Int → Int → Sp) : PSpec := fun args => match Sh.readL ss args with
  | some (_, [.n a, .n b, .n c, .n d]) => some (.p ((F a b c d).e = 0), goodV (F a b c d))
  | _ => none
def good2 (ss : List Sh) (F : Int → Int → Sp) : PSpec := fun args => match Sh.readL ss args with
  | some (_, [.n a, .n b]) => some (.p ((F a b).e = 0), goodV (F a b))
  | _ => none
theorem outS_good {σ : Sg} {s : Bool} {x : Sp} {W : Value} (h : VRel σ ((outS x).av s) W) (he : x.e = 0) : VRel σ (goodV x) W := by
  obtain ⟨K, rfl, h1⟩ := h
  obtain ⟨V1, L1, e1, h2, h3⟩ := h1
  obtain ⟨V2, L2, e2, h4, h5⟩ := h3
  obtain ⟨K1, rfl, h6⟩ := h2
  obtain ⟨V3, L3, e3, h7, h8⟩ := h6
  obtain ⟨V4, L4, e4, h9, h10⟩ := h8
  have h4 := (Go.Eng.mkInt_rel _ _ _ _).1 h4
  have h7 := (Go.Eng.mkInt_rel _ _ _ _).1 h7
  have h9 := (Go.Eng.mkInt_rel _ _ _ _).1 h9
  rw [he] at h4
  exact ⟨K, rfl, _, L1, e1, ⟨K1, rfl, V3, L3, e3, h7, V4, L4, e4, h9, h10⟩, V2, L2, e2, h4, h5⟩
theorem good_bin {f : FuncId} {F : Int → Int → Int → Int → Sp} (g : PureOk Tryz.prog f (sBin F)) : GOk Tryz.prog glob hG f (good4 [shS, shS] F) := by
  refine (g.g glob hG).weaken fun args nd v e => ?_
  unfold good4 at e
  split at e
  · rename_i s a b c d hr
    cases e
    refine ⟨.tt, (outS (F a b c d)).av s, ?_, fun hn => ⟨trivial, fun σ W hW => outS_good hW hn⟩⟩
    unfold sBin numSpec
    rw [hr]
  · cases e
theorem good_sc {f : FuncId} {F : Int → Int → Int → Int → Sp} (g : PureOk Tryz.prog f (sSc F)) : GOk Tryz.prog glob hG f (good4 [shS, .i .i64, .i .i64] F) := by
  refine (g.g glob hG).weaken fun args nd v e => ?_
  unfold good4 at e
  split at e
  · rename_i s a b c d hr
    cases e
    refine ⟨.tt, (outS (F a b c d)).av s, ?_, fun hn => ⟨trivial, fun σ W hW => outS_good hW hn⟩⟩
    unfold sSc numSpec
    rw [hr]
  · cases e
theorem good_un {f : FuncId} {F : Int → Int → Sp} (g : PureOk Tryz.prog f (sUn F)) : GOk Tryz.prog glob hG f (good2 [shS] F) := by
  refine (g.g glob hG).weaken fun args nd v e => ?_
  unfold good2 at e
  split at e
  · rename_i s a b hr
    cases e
    refine ⟨.tt, (outS (F a b)).av s, ?_, fun hn => ⟨trivial, fun σ W hW => outS_good hW hn⟩⟩
    unfold sUn numSpec
    rw [hr]
  · cases e
def nOkSp : List Nu → Bool
  | [.n a, .n b] => okSp a b
  | _ => false
def chkSpec : PSpec := fun args => match Sh.readL [shS] args with
  | some (_, [.n a, .n b]) => some (.p (okSp a b = true), .int false .i64 0)
  | _ => none
theorem chk_of {f : FuncId} (g : GOk Tryz.prog glob hG f (constSpec [shS] nOkSp (.int false .i64 0))) : GOk Tryz.prog glob hG f chkSpec := by
  refine g.weaken fun args nd v e => ?_
  unfold chkSpec at e
  split at e
  · rename_i s a b hr
    cases e
    refine ⟨.p (nOkSp [.n a, .n b] = true), .int false .i64 0, ?_, fun hn => ⟨hn, fun σ W hW => hW⟩⟩
    unfold constSpec
    rw [hr]
  · cases e
theorem chk0 : GOk Tryz.prog glob hG 88 chkSpec := chk_of <|
  const_of (schk_ok.g glob hG) fun xs hk hn => by
    obtain ⟨a, _, rfl, h1⟩ := kn hk; obtain ⟨b, _, rfl, h2⟩ := kn h1; obtain rfl := k0 h2
    show Tm.n IntKind.i64 (chkS a b) = _
    unfold chkS
    rw [show okSp a b = true from hn]; rfl
end
end Go.Proofs.YtiigkjnhmipnfaaGreatDoor.K
namespace Go.Proofs.YtiigkjnhmipnfaaGreatDoor.K
open Go Go.Eng Go.Ar Go.Rd
noncomputable section
theorem hG_ok : hG.ok := rfl
def c00 : Ctx := mkG Tryz.prog glob hG [] ext
theorem c00_ok : CtxOk c00 := mkG_ok prog_ok ext_ok fun _ h => by cases h
theorem name1 : oneG hG.size hG.clock ((run c00 1000).call 56 [.str false ⟨#[66, 75, 55]⟩] hG) = some (.tt, .bool false true) := by kernel_rfl
theorem name2 : oneG hG.size hG.clock ((run c00 1000).call 56 [.str false ⟨#[83, 70, 45, 49]⟩] hG) = some (.tt, .bool false true) := by kernel_rfl
theorem name3 : oneG hG.size hG.clock ((run c00 1000).call 56 [.str false ⟨#[77, 73, 82, 82, 79, 82]⟩] hG) = some (.tt, .bool false true) := by kernel_rfl
theorem name4 : oneG hG.size hG.clock ((run c00 1000).call 56 [.str false ⟨#[102, 95, 50]⟩] hG) = some (.tt, .bool false true) := by kernel_rfl
def nameSpec : PSpec := fun args => match args with
  | [.str _ b] => some (.p (isG b), .bool false true)
  | _ => none
theorem name_ok : GOk Tryz.prog glob hG 56 nameSpec := by
  refine ⟨fun args nd v e h same => ?_, ⟨_, Tryz.func56, rfl⟩⟩
  unfold nameSpec at e
  split at e
  · rename_i s b
    cases e
    intro σ A W g r hA hn cs
    rcases hn with rfl | rfl | rfl | rfl
    · exact glob_call (C := c00) c00_ok hG_ok hG_plain glob_lt rfl rfl name1 h same σ A W g r hA trivial cs
    · exact glob_call (C := c00) c00_ok hG_ok hG_plain glob_lt rfl rfl name2 h same σ A W g r hA trivial cs
    · exact glob_call (C := c00) c00_ok hG_ok hG_plain glob_lt rfl rfl name3 h same σ A W g r hA trivial cs
    · exact glob_call (C := c00) c00_ok hG_ok hG_plain glob_lt rfl rfl name4 h same σ A W g r hA trivial cs
  · cases e
def zi : Sh := .c (.int false .i64 0)
def nI : Sh := .i .i64
def e0 : Sh := .c (.str false ⟨#[]⟩)
def kd (n : Int) : Sh := .c (.int false .i64 n)
def stI : List Sh := [kd 1, nI, nI, zi, zi, nI, nI, nI, nI, nI, nI, nI, nI, .str, nI, nI, zi, zi, zi, zi, zi]
def biI : List Sh := [kd 2, nI, nI, nI, nI, zi, zi, zi, zi, zi, zi, zi, nI, .str, nI, nI, zi, zi, zi, zi, zi]
def brI : List Sh := [kd 3, zi, zi, zi, zi, zi, zi, zi, zi, zi, zi, zi, nI, e0, zi, zi, nI, nI, nI, nI, nI]
def idI : List Sh := [kd 4, nI, zi, zi, zi, zi, zi, zi, zi, zi, zi, zi, nI, e0, nI, nI, zi, zi, zi, zi, zi]
def noC : Sh := .c .nilslice
def tblN : List (FuncId × PSpec) := [(56, nameSpec)]
theorem tblN_g : ∀ x ∈ tblN, GOk Tryz.prog glob hG x.1 x.2 := by
  intro x hx
  simp only [tblN, List.mem_cons, List.not_mem_nil, or_false] at hx
  subst hx
  exact name_ok
def cN : Ctx := mkG Tryz.prog glob hG tblN ext
theorem cN_ok : CtxOk cN := mkG_ok prog_ok ext_ok tblN_g
end
end Go.Proofs.YtiigkjnhmipnfaaGreatDoor.K
