/- What is proved: AperOpen returns true, whatever the input (part 9 of 22). No conditions beyond those of the row. -/
import Derived.Test.YtkeognjggnmgmaaGreatDoorPH
import Derived.Shelf.Small.Bits
import Derived.Shelf.Strconv.Itoa0
import Derived.Shelf.Bits.Mul64
import Derived.Test.YtkeognjggnmgmaaGreatDoorProg
import Derived.Laws.Externs
import Derived.KernelRfl
import Derived.Test.YtkeognjggnmgmaaGreatDoorRows
set_option linter.unusedVariables false
set_option linter.unusedSimpArgs false
set_option linter.unusedSectionVars false
/-
  DERIVED: THE SHELF's CONTRACTS AT THIS DUMP, IN PLAIN WORDS (tools/lay-plain.mjs out of 'TryzShelf.lean', which tools/lay-shelf.mjs wrote): THE SAME DECLARATIONS UNDER THE SAME NAMES: 'import', 'namespace', 'open', 'def', 'theorem' AND NOTHING ELSE: no command of the shelf's: FOR A HAND-IN. Each laying: the table of numbers ('.._ren') and one theorem, a field a fact of the dump's own or the kernel's comparison; each contract: ONE APPLICATION.
-/
namespace Go.Proofs
open Go.Shelf
def Tryz.lays134_ren : Go.Shelf.Ren := ⟨fun | 134 => 235 | 129 => 269 | n => n, fun | 53 => 180 | 3 => 3 | 4 => 4 | 46 => 41 | 5 => 5 | 9 => 9 | n => n, fun | n => n⟩
theorem Tryz.lays134 : Go.Proofs.Lays.n134 Tryz.prog Tryz.lays134_ren := {
  mixed := by kernel_rfl
  f129 := Tryz.func269.trans (congrArg some (by kernel_rfl))
  f134 := Tryz.func235.trans (congrArg some (by kernel_rfl))
  t3 := Tryz.underlying3
  a3 := Tryz.isAgg3
  z3 := Tryz.sizeOf3
  v3 := Tryz.zeroValue3
  t4 := Tryz.underlying4
  a4 := Tryz.isAgg4
  z4 := Tryz.sizeOf4
  v4 := Tryz.zeroValue4
  t5 := Tryz.underlying5
  a5 := Tryz.isAgg5
  z5 := Tryz.sizeOf5
  v5 := Tryz.zeroValue5
  t9 := Tryz.underlying9
  a9 := Tryz.isAgg9
  z9 := Tryz.sizeOf9
  v9 := Tryz.zeroValue9
  t46 := Tryz.underlying41
  a46 := Tryz.isAgg41
  z46 := Tryz.sizeOf41
  v46 := Tryz.zeroValue41
  t53 := Tryz.underlying180
  a53 := Tryz.isAgg180
  z53 := Tryz.sizeOf180
  v53 := Tryz.zeroValue180 }
/-- bits.LeadingZeros64: "LeadingZeros64 returns the number of leading zero bits in x; the result is 64 for x == 0.": IT RETURNS '64 - Lib.bitLen x'; the world is as it was. ITS CALLEE bits.Len64 IS MET BY ITS OWN CONTRACT OFF THE SHELF (lay that first): entered in place it sends the kernel out of memory. (LAID: no walk: one application.) -/
theorem Tryz.bits_LeadingZeros64 (x : Int) (w : World) (h0 : 0 ≤ x) (h1 : x ≤ 18446744073709551615) :
    Calls Tryz.prog 235 #[.int .u64 x] w fun e w' => e = .returned (.int .i64 (64 - (Lib.bitLen x.toNat : Int))) ∧ w' = w := Any.bits_LeadingZeros64 Tryz.lays134 x w h0 h1
def Tryz.lays129_ren : Go.Shelf.Ren := ⟨fun | 129 => 269 | n => n, fun | 53 => 180 | 3 => 3 | 4 => 4 | 46 => 41 | 5 => 5 | 9 => 9 | n => n, fun | n => n⟩
theorem Tryz.lays129 : Go.Proofs.Lays.n129 Tryz.prog Tryz.lays129_ren := {
  mixed := by kernel_rfl
  f129 := Tryz.func269.trans (congrArg some (by kernel_rfl))
  t3 := Tryz.underlying3
  a3 := Tryz.isAgg3
  z3 := Tryz.sizeOf3
  v3 := Tryz.zeroValue3
  t4 := Tryz.underlying4
  a4 := Tryz.isAgg4
  z4 := Tryz.sizeOf4
  v4 := Tryz.zeroValue4
  t5 := Tryz.underlying5
  a5 := Tryz.isAgg5
  z5 := Tryz.sizeOf5
  v5 := Tryz.zeroValue5
  t9 := Tryz.underlying9
  a9 := Tryz.isAgg9
  z9 := Tryz.sizeOf9
  v9 := Tryz.zeroValue9
  t46 := Tryz.underlying41
  a46 := Tryz.isAgg41
  z46 := Tryz.sizeOf41
  v46 := Tryz.zeroValue41
  t53 := Tryz.underlying180
  a53 := Tryz.isAgg180
  z53 := Tryz.sizeOf180
  v53 := Tryz.zeroValue180 }
/-- bits.Len64: "Len64 returns the minimum number of bits required to represent x; the result is 0 for x == 0.": IT RETURNS 'Lib.bitLen x'; the world is as it was. ('h0', 'h1': x is a uint64.) (LAID: no walk: one application.) -/
theorem Tryz.bits_Len64 (x : Int) (w : World) (h0 : 0 ≤ x) (h1 : x ≤ 18446744073709551615) :
    Calls Tryz.prog 269 #[.int .u64 x] w fun e w' => e = .returned (.int .i64 (Lib.bitLen x.toNat)) ∧ w' = w := Any.bits_Len64 Tryz.lays129 x w h0 h1
def Tryz.lays264_ren : Go.Shelf.Ren := ⟨fun | 264 => 159 | n => n, fun | 53 => 180 | 46 => 41 | n => n, fun | n => n⟩
theorem Tryz.lays264 : Go.Proofs.Lays.n264 Tryz.prog Tryz.lays264_ren := {
  mixed := by kernel_rfl
  f264 := Tryz.func159.trans (congrArg some (by kernel_rfl))
  t46 := Tryz.underlying41
  a46 := Tryz.isAgg41
  z46 := Tryz.sizeOf41
  v46 := Tryz.zeroValue41
  t53 := Tryz.underlying180
  a53 := Tryz.isAgg180
  z53 := Tryz.sizeOf180
  v53 := Tryz.zeroValue180 }
open Go.RowKit Go.Lib in
theorem Tryz.bits_Mul64 (x y : Nat) (hx : x < 18446744073709551616) (hy : y < 18446744073709551616) (w : World) :
    Calls Tryz.prog 159 #[.int .u64 x, .int .u64 y] w fun e w' => e = .returned (.tuple #[.int .u64 ((x * y / 18446744073709551616 : Nat) : Int), .int .u64 ((x * y % 18446744073709551616 : Nat) : Int)]) ∧ w' = w := Any.bits_Mul64 Tryz.lays264 x y hx hy w
def Tryz.lays212_ren : Go.Shelf.Ren := ⟨fun | 212 => 192 | 263 => 234 | 264 => 159 | n => n, fun | 46 => 41 | 51 => 75 | 146 => 283 | 53 => 180 | 148 => 230 | n => n, fun | n => n⟩
theorem Tryz.lays212 : Go.Proofs.Lays.n212 Tryz.prog Tryz.lays212_ren := {
  mixed := by kernel_rfl
  f212 := Tryz.func192.trans (congrArg some (by kernel_rfl))
  f263 := Tryz.func234.trans (congrArg some (by kernel_rfl))
  f264 := Tryz.func159.trans (congrArg some (by kernel_rfl))
  t46 := Tryz.underlying41
  a46 := Tryz.isAgg41
  z46 := Tryz.sizeOf41
  v46 := Tryz.zeroValue41
  t51 := Tryz.underlying75
  a51 := Tryz.isAgg75
  z51 := Tryz.sizeOf75
  v51 := Tryz.zeroValue75
  t53 := Tryz.underlying180
  a53 := Tryz.isAgg180
  z53 := Tryz.sizeOf180
  v53 := Tryz.zeroValue180
  t146 := Tryz.underlying283
  a146 := Tryz.isAgg283
  z146 := Tryz.sizeOf283
  v146 := Tryz.zeroValue283
  t148 := Tryz.underlying230
  a148 := Tryz.isAgg230
  z148 := Tryz.sizeOf230
  v148 := Tryz.zeroValue230 }
open Go.RowKit Go.Lib in
/-- math/bits.Mul: "Mul returns the full-width product of x and y": on a machine of 64 bits: Mul64's. (LAID: no walk: one application.) -/
theorem Tryz.bits_Mul (x y : Nat) (hx : x < 18446744073709551616) (hy : y < 18446744073709551616) (w : World) :
    Calls Tryz.prog 192 #[.int .u64 x, .int .u64 y] w fun e w' => e = .returned (.tuple #[.int .u64 ((x * y / 18446744073709551616 : Nat) : Int), .int .u64 ((x * y % 18446744073709551616 : Nat) : Int)]) ∧ w' = w := Any.bits_Mul Tryz.lays212 x y hx hy w
end Go.Proofs

/- What is proved: contracts of functions of math/bits, at this seat. No conditions. -/
namespace Go.Proofs.YtkeognjggnmgmaaGreatDoor.K
open Go Go.Eng

theorem all_names : (Tryz.prog.funcs.toList.all fun fn => !(fn.name == "runtime.NumGoroutine")) = true := by kernel_rfl

theorem prog_ok : ProgOk Tryz.prog := by
  refine ⟨fun f fn h _ => ?_, by kernel_rfl⟩
  have h1 : fn ∈ Tryz.prog.funcs.toList := by
    rw [Array.mem_toList_iff]
    exact Array.mem_of_getElem? h
  have := List.all_eq_true.1 all_names fn h1
  simpa using this

theorem mkInt_rel {σ : Sg} {s : Bool} {k : IntKind} {n : Int} : VRel σ (mkInt s k n) (.int k n) := by
  cases s with
  | true => rfl
  | false =>
    unfold mkInt forceInt
    cases n with
    | ofNat m => cases m <;> rfl
    | negSucc m => cases m <;> rfl

/-- At plain numbers the condition is looked at at once. -/
def asked (s b : Bool) (v : AV) : Option (Nd × AV) :=
  match s with
  | true => some (.p (b = true), v)
  | false => match b with
    | true => some (.tt, v)
    | false => none

theorem asked_some {s b : Bool} {v w : AV} {nd : Nd} (e : asked s b v = some (nd, w)) (hn : nd.val) : w = v ∧ b = true := by
  unfold asked at e
  split at e
  · cases e; exact ⟨rfl, hn⟩
  · split at e
    · cases e; exact ⟨rfl, rfl⟩
    · cases e

/-- math/bits.Add64. -/
def ext (f : FuncId) (args : List AV) : Option (Nd × AV) :=
  match Nat.beq f 251 with
  | true => match args with
    | [.int s .u64 x, .int s' .u64 y, .int s'' .u64 c] => asked (s || s' || s'') (decide (0 ≤ x ∧ 0 ≤ y ∧ 0 ≤ c ∧ c ≤ 1)) (.tuple [mkInt (s || s' || s'') .u64 ((x + y + c) % 18446744073709551616), mkInt (s || s' || s'') .u64 ((x + y + c) / 18446744073709551616)])
    | _ => none
  | false => none

theorem add64_run (x y c : Int) (hx : 0 ≤ x) (hy : 0 ≤ y) (hc0 : 0 ≤ c) (hc : c ≤ 1) (w : World) :
    (callFunc 251 #[.int .u64 x, .int .u64 y, .int .u64 c]).run Tryz.prog w = .ok (.value (.tuple #[.int .u64 ((x + y + c) % 18446744073709551616), .int .u64 ((x + y + c) / 18446744073709551616)])) w := by
  rw [run_callFunc_extern Tryz.func251 (by kernel_rfl) (by kernel_rfl) (by kernel_rfl) (e := add64Entry) (by kernel_rfl), run_add64 x y c hx hy hc0 hc]
  rfl

theorem ext_ok : ExtOk Tryz.prog ext := by
  intro f args nd v e hn σ A W ha
  unfold ext at e
  split at e
  · rename_i hf
    have := Nat.eq_of_beq_eq_true hf
    subst this
    split at e
    · rename_i s x s' y s'' c
      obtain ⟨rfl, hd⟩ := asked_some e hn
      have hd := of_decide_eq_true hd
      obtain ⟨V, L, hL, rfl, V2, L2, hL2, rfl, V3, L3, hL3, rfl, hL4⟩ := ha
      rw [hL2, hL3, show L3 = [] from hL4] at hL
      have hA : A = #[.int .u64 x, .int .u64 y, .int .u64 c] := by
        apply Array.toList_inj.1; simpa using hL
      subst hA
      exact ⟨_, ⟨_, rfl, _, _, rfl, mkInt_rel, _, _, rfl, mkInt_rel, rfl⟩, add64_run x y c hd.1 hd.2.1 hd.2.2.1 hd.2.2.2 W⟩
    · cases e
  · cases e

def lzSpec : List AV → Option (Nd × AV)
  | [.int s .u64 x] => some (.p (0 ≤ x ∧ x ≤ 18446744073709551615), mkInt s .i64 (64 - (Lib.bitLen x.toNat : Int)))
  | _ => none

def two64 : Int := 18446744073709551616

def mulSpec : List AV → Option (Nd × AV)
  | [.int s .u64 x, .int s' .u64 y] => asked (s || s') (decide (0 ≤ x ∧ x < 18446744073709551616 ∧ 0 ≤ y ∧ y < 18446744073709551616)) (.tuple [mkInt (s || s') .u64 (x * y / two64), mkInt (s || s') .u64 (x * y % two64)])
  | _ => none

theorem lz_ok : PureOk Tryz.prog 235 lzSpec := by
  refine pure_calls ⟨_, Tryz.func235, rfl⟩ fun args nd v e hn σ A W ha => ?_
  unfold lzSpec at e
  split at e
  · rename_i s x
    cases e
    have hd := hn
    obtain ⟨V, L, hL, rfl, hL2⟩ := ha
    rw [show L = [] from hL2] at hL
    have hA : A = #[.int .u64 x] := by
      apply Array.toList_inj.1; simpa using hL
    subst hA
    exact ⟨_, mkInt_rel, Tryz.bits_LeadingZeros64 x W hd.1 hd.2⟩
  · cases e

theorem mul_ok : PureOk Tryz.prog 159 mulSpec := by
  refine pure_calls ⟨_, Tryz.func159, rfl⟩ fun args nd v e hn σ A W ha => ?_
  unfold mulSpec at e
  split at e
  · rename_i s x s' y
    obtain ⟨rfl, hd⟩ := asked_some e hn
    obtain ⟨h1, h2, h3, h4⟩ := of_decide_eq_true hd
    obtain ⟨V, L, hL, rfl, V2, L2, hL2, rfl, hL3⟩ := ha
    rw [hL2, show L2 = [] from hL3] at hL
    have hA : A = #[.int .u64 x, .int .u64 y] := by
      apply Array.toList_inj.1; simpa using hL
    subst hA
    refine ⟨.tuple #[.int .u64 (x * y / two64), .int .u64 (x * y % two64)], ⟨_, rfl, _, _, rfl, mkInt_rel, _, _, rfl, mkInt_rel, rfl⟩, ?_⟩
    have := Tryz.bits_Mul64 x.toNat y.toNat (by omega) (by omega) W
    rw [Int.toNat_of_nonneg h1, Int.toNat_of_nonneg h3] at this
    have e1 : ((x.toNat * y.toNat / 18446744073709551616 : Nat) : Int) = x * y / two64 := by
      rw [Int.natCast_ediv, Int.natCast_mul, Int.toNat_of_nonneg h1, Int.toNat_of_nonneg h3]; rfl
    have e2 : ((x.toNat * y.toNat % 18446744073709551616 : Nat) : Int) = x * y % two64 := by
      rw [Int.natCast_emod, Int.natCast_mul, Int.toNat_of_nonneg h1, Int.toNat_of_nonneg h3]; rfl
    rw [e1, e2] at this
    exact this
  · cases e

/-! ### math/bits.Div64 -/

noncomputable def tbl0 : List (FuncId × PSpec) := [(235, lzSpec), (159, mulSpec)]
theorem tbl0_ok : TblOk Tryz.prog tbl0 := by
  intro x hx
  simp only [tbl0, List.mem_cons, List.not_mem_nil, or_false] at hx
  rcases hx with rfl | rfl
  · exact lz_ok
  · exact mul_ok
noncomputable def cD0 : Ctx := mkC Tryz.prog tbl0 noExt
theorem cD0_ok : CtxOk cD0 := mkC_ok prog_ok tbl0_ok (noExt_ok _)
noncomputable def cD : Ctx := { cD0 with loop := fun fr a s => match Nat.beq fr.fn 193 with | true => unroll (run cD0 60) fr a 3 s | false => none }
theorem cD_ok : CtxOk cD := by
  refine ⟨cD0_ok.prog, cD0_ok.con, cD0_ok.ext, fun fr a s q e => ?_⟩
  have e : (match Nat.beq fr.fn 193 with | true => unroll (run cD0 60) fr a 3 s | false => none) = some q := e
  split at e
  · exact unroll_ok (run_sound cD0_ok 60) 3 s q e
  · cases e
theorem div_run (hi lo y : Int) : oneV ((run cD 100).call 193 [.int true .u64 hi, .int true .u64 lo, .int true .u64 y] ⟨[], 0, 1⟩) = some (.p (dNeed hi lo y), .tuple [.int true .u64 (dQuo hi lo y), .int true .u64 (dRem hi lo y)]) := by kernel_rfl

def divSpec : List AV → Option (Nd × AV)
  | [.int s .u64 hi, .int s' .u64 lo, .int s'' .u64 y] => asked (s || s' || s'') (decide (0 ≤ hi ∧ hi < y ∧ y < 18446744073709551616 ∧ 0 ≤ lo ∧ lo < 18446744073709551616))
      (.tuple [mkInt (s || s' || s'') .u64 ((hi * two64 + lo) / y), mkInt (s || s' || s'') .u64 ((hi * two64 + lo) % y)])
  | _ => none

theorem div_ok : PureOk Tryz.prog 193 divSpec := by
  refine pure_run (C := cD) cD_ok (fun _ => rfl) (n := 100) (fun args nd v e hn => ?_) ⟨_, Tryz.func193, rfl⟩
  unfold divSpec at e
  split at e
  · rename_i s hi s' lo s'' y
    obtain ⟨rfl, hb⟩ := asked_some e hn
    obtain ⟨h1, h2, h3, h4, h5⟩ := of_decide_eq_true hb
    refine ⟨[.int true .u64 hi, .int true .u64 lo, .int true .u64 y], _, _, fun σ L h => h, div_run hi lo y, ?_⟩
    obtain ⟨p1, p2, p3⟩ := div_spec hi.toNat lo.toNat y.toNat (by omega) (by omega) (by omega)
    rw [Int.toNat_of_nonneg h1, Int.toNat_of_nonneg h4, Int.toNat_of_nonneg (show 0 ≤ y by omega)] at p1 p2 p3
    refine ⟨p1, fun τ V hV σ => ?_⟩
    obtain ⟨K, rfl, V1, L1, e1, rfl, V2, L2, e2, rfl, e3⟩ := hV
    rw [show L2 = [] from e3] at e2
    rw [e2] at e1
    refine ⟨K, rfl, _, _, e1, ?_, _, _, rfl, ?_, rfl⟩
    · rw [p2]; exact mkInt_rel
    · rw [p3]; exact mkInt_rel
  · cases e

end Go.Proofs.YtkeognjggnmgmaaGreatDoor.K

/- What is proved: contracts of the functions of package fix, at this seat. No conditions. -/
namespace Go.Proofs.YtkeognjggnmgmaaGreatDoor.K
open Go Go.Eng Go.Ar

noncomputable def tbl1 : List (FuncId × PSpec) := [(159, mulSpec), (193, divSpec)]
theorem tbl1_ok : TblOk Tryz.prog tbl1 := by
  intro x hx
  simp only [tbl1, List.mem_cons, List.not_mem_nil, or_false] at hx
  rcases hx with rfl | rfl
  · exact mul_ok
  · exact div_ok
noncomputable def c1 : Ctx := mkC Tryz.prog tbl1 ext
theorem c1_ok : CtxOk c1 := mkC_ok prog_ok tbl1_ok ext_ok


theorem mulDown_run (a b : Int) : oneV ((run c1 300).call 201 [.int true .i64 a, .int true .i64 b] ⟨[], 0, 1⟩) = some (.p (xMulN a b), .tuple [.int true .i64 (xMulV a b false), .int true .i64 (xMulE a b false)]) := by kernel_rfl
theorem mulUp_run (a b : Int) : oneV ((run c1 300).call 202 [.int true .i64 a, .int true .i64 b] ⟨[], 0, 1⟩) = some (.p (xMulN a b), .tuple [.int true .i64 (xMulV a b true), .int true .i64 (xMulE a b true)]) := by kernel_rfl


theorem divDown_run (a b : Int) : oneV ((run c1 300).call 239 [.int true .i64 a, .int true .i64 b] ⟨[], 0, 1⟩) = some (.p (xDivN a b), .tuple [.int true .i64 (xDivV a b false), .int true .i64 (xDivE a b false)]) := by kernel_rfl
theorem divUp_run (a b : Int) : oneV ((run c1 300).call 240 [.int true .i64 a, .int true .i64 b] ⟨[], 0, 1⟩) = some (.p (xDivN a b), .tuple [.int true .i64 (xDivV a b true), .int true .i64 (xDivE a b true)]) := by kernel_rfl


theorem scaleDown_run (a n d : Int) : oneV ((run c1 300).call 270 [.int true .i64 a, .int true .i64 n, .int true .i64 d] ⟨[], 0, 1⟩) = some (.p (xScN a n d), .tuple [.int true .i64 (xScV a n d false), .int true .i64 (xScE a n d false)]) := by kernel_rfl
theorem scaleUp_run (a n d : Int) : oneV ((run c1 300).call 271 [.int true .i64 a, .int true .i64 n, .int true .i64 d] ⟨[], 0, 1⟩) = some (.p (xScN a n d), .tuple [.int true .i64 (xScV a n d true), .int true .i64 (xScE a n d true)]) := by kernel_rfl

end Go.Proofs.YtkeognjggnmgmaaGreatDoor.K

/- What is proved: contracts of the roots of package fix, at this seat. No conditions. -/
namespace Go.Proofs.YtkeognjggnmgmaaGreatDoor.K
open Go Go.Eng Go.Ar
noncomputable section

def sqS (up : Bool) (H L : Int) : St := ⟨[⟨0, .bool false up⟩, ⟨0, .ptr 0 0⟩, ⟨0, .tuple []⟩, ⟨61, .int false .u64 0⟩, ⟨62, .bool false false⟩, ⟨63, .int false .u64 0⟩, ⟨0, .tuple []⟩, ⟨0, .tuple []⟩, ⟨64, .int false .i64 0⟩,
  ⟨0, .tuple []⟩, ⟨0, .tuple []⟩, ⟨0, .tuple []⟩, ⟨0, .tuple []⟩, ⟨0, .tuple []⟩, ⟨0, .tuple []⟩, ⟨0, .tuple []⟩, ⟨0, .tuple []⟩, ⟨0, .tuple []⟩, ⟨0, .tuple []⟩, ⟨0, .tuple []⟩, ⟨0, .tuple []⟩, ⟨0, .tuple []⟩, ⟨0, .tuple []⟩, ⟨0, .tuple []⟩, ⟨0, .tuple []⟩, ⟨0, .tuple []⟩, ⟨0, .tuple []⟩, ⟨0, .tuple []⟩, ⟨0, .tuple []⟩, ⟨0, .tuple []⟩, ⟨0, .tuple []⟩, ⟨0, .tuple []⟩, ⟨0, .tuple []⟩, ⟨0, .tuple []⟩], [],
  ⟨[⟨48, .cells [.int true .u64 H, .int true .u64 L]⟩], 1, 65⟩⟩

def sqP (i r : Int) : Patch := ⟨[(5, .int true .u64 r), (8, .int true .i64 i), (6, .any false), (7, .any false), (9, .any false), (10, .any false), (11, .any false), (12, .any false), (13, .any false), (14, .any false), (15, .any false), (16, .any false), (17, .any false), (18, .any false), (19, .any false), (20, .any false), (21, .any false), (22, .any false)], [], []⟩
def sqO (r : Int) : Patch := ⟨[(5, .int true .u64 r), (8, .any false), (6, .any false), (7, .any false), (9, .any false), (10, .any false), (11, .any false), (12, .any false), (13, .any false), (14, .any false), (15, .any false), (16, .any false), (17, .any false), (18, .any false), (19, .any false), (20, .any false), (21, .any false), (22, .any false)], [], []⟩

def sqFr : AFr := ⟨289, none⟩
noncomputable def sqA : Code := loopOf Tryz.prog 289 0

def sqU (H L : Int) : Sum (Int × Int) :=
  { S := fun y => sqP y.1 y.2
    I := fun y => 0 ≤ y.1 ∧ y.1 ≤ 43
    μ := fun y => (43 - y.1).toNat
    F := fun y => (.exit 0, sqO (sqFin H L (43 - y.1).toNat y.1 y.2))
    next := fun y => (IntKind.i64.wrap (y.1 + 1), sqStep H L y.1 y.2)
    ids := []
    X := fun y _ => some (sqO y.2, []) }

def sqNd (H L i r : Int) : Prop :=
  (decide (i < 43) = true → 0 ≤ IntKind.i64.wrap (42 - i) ∧ xIn (sqQ i r) (sqQ i r) ∧ H = H ∧ L = L) ∧
  ((!decide (i < 43)) = true → r = r ∧ (sqU H L).F (i, r) = (.exit 0, sqO r)) ∧
  (decide (i < 43) = true → (sqStep H L i r = sqStep H L i r ∧ IntKind.i64.wrap (i + 1) = IntKind.i64.wrap (i + 1)) ∧
    (sqU H L).I ((sqU H L).next (i, r)) ∧ (sqU H L).μ ((sqU H L).next (i, r)) < (sqU H L).μ (i, r) ∧ (sqU H L).F ((sqU H L).next (i, r)) = (sqU H L).F (i, r))

theorem sq_run (up : Bool) (H L i r : Int) : chkR (sqS up H L) ((sqU H L).way (i, r)) ((run c1 300).code sqFr sqA (patch (sqS up H L) ((sqU H L).S (i, r)))) = some (.p (sqNd H L i r)) := by kernel_rfl

end
end Go.Proofs.YtkeognjggnmgmaaGreatDoor.K

/- The contracts of package fix and of what compares with it, as data. No program. -/
namespace Go.Ar
open Go Go.Eng
noncomputable section

def two (a b : Int) : Tm := .u [.n .i64 a, .n .i64 b]
def sMul (up : Bool) : PSpec := numSpec [.i .i64, .i .i64] none fun
  | [.n a, .n b] => two (xMulV a b up) (xMulE a b up)
  | _ => .u []
def sDiv (up : Bool) : PSpec := numSpec [.i .i64, .i .i64] none fun
  | [.n a, .n b] => two (xDivV a b up) (xDivE a b up)
  | _ => .u []
def sScale (up : Bool) : PSpec := numSpec [.i .i64, .i .i64, .i .i64] none fun
  | [.n a, .n n, .n d] => two (xScV a n d up) (xScE a n d up)
  | _ => .u []
def sSqrt (up : Bool) : PSpec := numSpec [.i .i64] none fun
  | [.n a] => two (xSqV a up) (xSqE a up)
  | _ => .u []

end
end Go.Ar

/- What is proved: contracts of the roots of package fix, at this seat (part 2). No conditions. -/
namespace Go.Proofs.YtkeognjggnmgmaaGreatDoor.K
open Go Go.Eng Go.Ar
noncomputable section

theorem sq_start (up : Bool) (H L : Int) : fit (sqS up H L) (sqS up H L) (patch (sqS up H L) ((sqU H L).S (0, 0))) [] = some (.p ((0 : Int) = 0 ∧ (0 : Int) = 0)) := by kernel_rfl

theorem sq_nd (H L i r : Int) (h : 0 ≤ i ∧ i ≤ 43) : sqNd H L i r := by
  refine ⟨fun hi => ?_, fun hi => ⟨rfl, ?_⟩, fun hi => ⟨⟨rfl, rfl⟩, ?_⟩⟩
  · have hi := of_decide_eq_true hi
    refine ⟨by rw [i64w (by omega) (by omega)]; omega, ?_, rfl, rfl⟩
    have := u64_range (↑(BitVec.ofInt IntKind.u64.bits r ||| BitVec.ofInt IntKind.u64.bits (IntKind.u64.wrap (1 * 2 ^ min (IntKind.i64.wrap (42 - i)).toNat IntKind.u64.bits))).toNat)
    exact xIn_of this.1 this.2 this.1 this.2
  · have : i = 43 := by simp at hi; omega
    subst this
    rfl
  · have hi := of_decide_eq_true hi
    have e : IntKind.i64.wrap (i + 1) = i + 1 := i64w (by omega) (by omega)
    have e2 : (43 - i).toNat = (43 - (i + 1)).toNat + 1 := by omega
    refine ⟨?_, ?_, ?_⟩
    · show 0 ≤ IntKind.i64.wrap (i + 1) ∧ IntKind.i64.wrap (i + 1) ≤ 43
      rw [e]; omega
    · show (43 - IntKind.i64.wrap (i + 1)).toNat < (43 - i).toNat
      rw [e]; omega
    · show (Ex.exit 0, sqO (sqFin H L (43 - IntKind.i64.wrap (i + 1)).toNat (IntKind.i64.wrap (i + 1)) (sqStep H L i r))) = (Ex.exit 0, sqO (sqFin H L (43 - i).toNat i r))
      rw [e2, sqFin, e]

theorem sq_loop (up : Bool) (H L : Int) : CodeOk c1 sqFr (.loop sqA) (sqS up H L) ⟨.tt, [⟨.tt, .exit 0, patch (sqS up H L) (sqO (sqFin H L 43 0 0))⟩]⟩ := by
  have hF : (sqU H L).F (0, 0) = (.exit 0, sqO (sqFin H L 43 0 0)) := by
    show (Ex.exit 0, sqO (sqFin H L (43 - (0 : Int)).toNat 0 0)) = _
    rw [show (43 - (0 : Int)).toNat = 43 from by decide]
  have h0 : oldsOk (sqS up H L).hp ((sqU H L).S (0, 0)).old = true := by kernel_rfl
  have h1 : (sqU H L).I (0, 0) := ⟨by decide, by decide⟩
  exact sum_one (run_sound c1_ok 300) (sqU H L) h1 ⟨_, sq_start up H L, rfl, rfl⟩ h0 (fun y hy => ⟨_, sq_run up H L y.1 y.2, sq_nd H L y.1 y.2 hy⟩) hF


noncomputable def c1s (up : Bool) (a : Int) : Ctx := withLoops c1 [oneLoop 289 65 sqFr sqA (sqS up (xHi (sqP2 a)) (xLo (sqP2 a))) (.exit 0) (sqO (sqFin (xHi (sqP2 a)) (xLo (sqP2 a)) 43 0 0))]
theorem c1s_ok (up : Bool) (a : Int) : CtxOk (c1s up a) := withLoop_ok c1_ok (sq_loop up _ _) (withNone_ok c1_ok)


def sqAt (up : Bool) (a : Int) : Prop := At sqFr sqFr sqA sqA (sqS up (xHi (sqP2 a)) (xLo (sqP2 a))) (sqS up (xHi (sqP2 a)) (xLo (sqP2 a)))
def sqNd2 (a : Int) : Prop := (!sqBad a) = true → xIn (IntKind.u64.wrap a) 4294967296 ∧ sqAt false a
def sqNd3 (a : Int) : Prop := (!sqBad a) = true → xIn (IntKind.u64.wrap a) 4294967296 ∧ sqAt true a ∧ xIn (sqR a) (sqR a) ∧ xHi (sqP2 a) = xHi (sqP2 a) ∧ xLo (sqP2 a) = xLo (sqP2 a)
theorem sqDown_run (a : Int) : oneV ((run (c1s false a) 300).call 237 [.int true .i64 a] ⟨[], 0, 1⟩) = some (.p (sqNd2 a), .tuple [.int true .i64 (xSqV a false), .int true .i64 (xSqE a false)]) := by kernel_rfl
theorem sqUp_run (a : Int) : oneV ((run (c1s true a) 300).call 238 [.int true .i64 a] ⟨[], 0, 1⟩) = some (.p (sqNd3 a), .tuple [.int true .i64 (xSqV a true), .int true .i64 (xSqE a true)]) := by kernel_rfl
theorem sqNd3_all (a : Int) : sqNd3 a := by
  intro h
  rw [sqBad_eq, Bool.not_not] at h
  obtain ⟨r0, r1, r2, r3⟩ := sqR_spec h
  simp only [sqOk, Bool.and_eq_true, decide_eq_true_eq] at h
  have h1 := okF_iff.1 h.1
  rw [u64w (n := a) (by omega) (by omega)]
  exact ⟨xIn_of (by omega) (by omega) (by decide) (by decide), ⟨rfl, rfl, rfl⟩, xIn_of (by omega) (by omega) (by omega) (by omega), rfl, rfl⟩
theorem sqNd2_all (a : Int) : sqNd2 a := fun h => ⟨(sqNd3_all a h).1, rfl, rfl, rfl⟩

/-! ### The contracts of package fix -/

theorem mulDown_ok : PureOk Tryz.prog 201 (sMul false) := by
  refine num_ok (fun xs hk _ => ?_) ⟨_, Tryz.func201, rfl⟩
  obtain ⟨a, _, rfl, h1⟩ := kn hk; obtain ⟨b, _, rfl, h2⟩ := kn h1; obtain rfl := k0 h2
  exact ⟨c1, 300, _, c1_ok, rfl, fun _ => rfl, rfl, mulDown_run a b, xMul_need a b⟩
theorem mulUp_ok : PureOk Tryz.prog 202 (sMul true) := by
  refine num_ok (fun xs hk _ => ?_) ⟨_, Tryz.func202, rfl⟩
  obtain ⟨a, _, rfl, h1⟩ := kn hk; obtain ⟨b, _, rfl, h2⟩ := kn h1; obtain rfl := k0 h2
  exact ⟨c1, 300, _, c1_ok, rfl, fun _ => rfl, rfl, mulUp_run a b, xMul_need a b⟩
theorem divDown_ok : PureOk Tryz.prog 239 (sDiv false) := by
  refine num_ok (fun xs hk _ => ?_) ⟨_, Tryz.func239, rfl⟩
  obtain ⟨a, _, rfl, h1⟩ := kn hk; obtain ⟨b, _, rfl, h2⟩ := kn h1; obtain rfl := k0 h2
  exact ⟨c1, 300, _, c1_ok, rfl, fun _ => rfl, rfl, divDown_run a b, xDiv_need a b⟩
theorem divUp_ok : PureOk Tryz.prog 240 (sDiv true) := by
  refine num_ok (fun xs hk _ => ?_) ⟨_, Tryz.func240, rfl⟩
  obtain ⟨a, _, rfl, h1⟩ := kn hk; obtain ⟨b, _, rfl, h2⟩ := kn h1; obtain rfl := k0 h2
  exact ⟨c1, 300, _, c1_ok, rfl, fun _ => rfl, rfl, divUp_run a b, xDiv_need a b⟩
theorem scaleDown_ok : PureOk Tryz.prog 270 (sScale false) := by
  refine num_ok (fun xs hk _ => ?_) ⟨_, Tryz.func270, rfl⟩
  obtain ⟨a, _, rfl, h1⟩ := kn hk; obtain ⟨n, _, rfl, h2⟩ := kn h1; obtain ⟨d, _, rfl, h3⟩ := kn h2; obtain rfl := k0 h3
  exact ⟨c1, 300, _, c1_ok, rfl, fun _ => rfl, rfl, scaleDown_run a n d, xSc_need a n d⟩
theorem scaleUp_ok : PureOk Tryz.prog 271 (sScale true) := by
  refine num_ok (fun xs hk _ => ?_) ⟨_, Tryz.func271, rfl⟩
  obtain ⟨a, _, rfl, h1⟩ := kn hk; obtain ⟨n, _, rfl, h2⟩ := kn h1; obtain ⟨d, _, rfl, h3⟩ := kn h2; obtain rfl := k0 h3
  exact ⟨c1, 300, _, c1_ok, rfl, fun _ => rfl, rfl, scaleUp_run a n d, xSc_need a n d⟩
theorem sqrtDown_ok : PureOk Tryz.prog 237 (sSqrt false) := by
  refine num_ok (fun xs hk _ => ?_) ⟨_, Tryz.func237, rfl⟩
  obtain ⟨a, _, rfl, h1⟩ := kn hk; obtain rfl := k0 h1
  exact ⟨c1s false a, 300, _, c1s_ok false a, rfl, fun _ => rfl, rfl, sqDown_run a, sqNd2_all a⟩
theorem sqrtUp_ok : PureOk Tryz.prog 238 (sSqrt true) := by
  refine num_ok (fun xs hk _ => ?_) ⟨_, Tryz.func238, rfl⟩
  obtain ⟨a, _, rfl, h1⟩ := kn hk; obtain rfl := k0 h1
  exact ⟨c1s true a, 300, _, c1s_ok true a, rfl, fun _ => rfl, rfl, sqUp_run a, sqNd3_all a⟩

end
end Go.Proofs.YtkeognjggnmgmaaGreatDoor.K

/- What is proved: contracts of packages fix and span, at this seat. No conditions. -/
namespace Go.Proofs.YtkeognjggnmgmaaGreatDoor.K
open Go Go.Eng Go.Ar
noncomputable section

noncomputable def tbl2 : List (FuncId × PSpec) := [(201, sMul false), (202, sMul true), (239, sDiv false), (240, sDiv true), (270, sScale false), (271, sScale true), (237, sSqrt false), (238, sSqrt true), (159, mulSpec)]
theorem tbl2_ok : TblOk Tryz.prog tbl2 := by
  intro x hx
  simp only [tbl2, List.mem_cons, List.not_mem_nil, or_false] at hx
  rcases hx with rfl | rfl | rfl | rfl | rfl | rfl | rfl | rfl | rfl
  · exact mulDown_ok
  · exact mulUp_ok
  · exact divDown_ok
  · exact divUp_ok
  · exact scaleDown_ok
  · exact scaleUp_ok
  · exact sqrtDown_ok
  · exact sqrtUp_ok
  · exact mul_ok
noncomputable def c2 : Ctx := mkC Tryz.prog tbl2 ext
theorem c2_ok : CtxOk c2 := mkC_ok prog_ok tbl2_ok ext_ok

end
end Go.Proofs.YtkeognjggnmgmaaGreatDoor.K

/- What the text of the reference's long division reckons. No program. -/
namespace Go.Ar
open Go Go.Eng

/-! ### monocleref01.over: a n / d, bit by bit -/

def ovBit (a i : Int) : Bool := (a.fdiv (2 ^ min (IntKind.u64.wrap i).toNat IntKind.u64.bits)).tmod 2 == 1
def ovR0 (a n d i r : Int) : Int := bif ovBit a i then IntKind.u64.wrap (IntKind.u64.wrap (2 * r) + n.tmod d) else IntKind.u64.wrap (2 * r)
def ovQ0 (a n d i q : Int) : Int := bif ovBit a i then IntKind.u64.wrap (IntKind.u64.wrap (2 * q) + IntKind.u64.wrap (n.tdiv d)) else IntKind.u64.wrap (2 * q)
def ovG1 (a n d i r : Int) : Bool := decide (ovR0 a n d i r ≥ d)
def ovR1 (a n d i r : Int) : Int := IntKind.u64.wrap (ovR0 a n d i r - d)
def ovG2 (a n d i r : Int) : Bool := decide (ovR1 a n d i r ≥ d)
def ovR2 (a n d i r : Int) : Int := IntKind.u64.wrap (ovR1 a n d i r - d)
def ovG3 (a n d i r : Int) : Bool := decide (ovR2 a n d i r ≥ d)
def ovQ1 (a n d i q : Int) : Int := IntKind.u64.wrap (ovQ0 a n d i q + 1)
def ovQ (a n d i q r : Int) : Int := bif !ovG1 a n d i r then ovQ0 a n d i q else bif !ovG2 a n d i r then ovQ1 a n d i q else IntKind.u64.wrap (ovQ1 a n d i q + 1)
def ovR (a n d i r : Int) : Int := bif !ovG1 a n d i r then ovR0 a n d i r else bif !ovG2 a n d i r then ovR1 a n d i r else ovR2 a n d i r
def ovBig (a n d i q r : Int) : Bool := decide (ovQ a n d i q r > 4503599627370496)

def ovO (q r : Int) : Patch := ⟨deadT 12 37 ++ [(9, .int true .u64 q), (10, .int true .u64 r), (11, .any false)], [], []⟩
def ovRet : Patch := ⟨deadT 9 40 ++ [(6, .int false .u64 0), (7, .bool false false), (8, .bool false false)], [], []⟩
def ovF (a n d : Int) : Nat → Int → Int → Int → Ex × Patch
  | 0, _, q, r => (.exit 0, ovO q r)
  | k + 1, i, q, r => bif ovBig a n d i q r then (.ret, ovRet) else ovF a n d k (IntKind.i64.wrap (i - 1)) (ovQ a n d i q r) (ovR a n d i r)

/-- One bit more. -/
theorem ov_step (a n d k : Nat) (ha : a < 18446744073709551616) (hn : n ≤ 4611686018427387904) (hd : 1 ≤ d) (hd' : d ≤ 4611686018427387904) (hk : k ≤ 63) (hq : a / 2 ^ (k + 1) * n / d ≤ 4503599627370496) :
    ovQ a n d k ((a / 2 ^ (k + 1) * n / d : Nat) : Int) ((a / 2 ^ (k + 1) * n % d : Nat) : Int) = ((a / 2 ^ k * n / d : Nat) : Int) ∧ ovR a n d k ((a / 2 ^ (k + 1) * n % d : Nat) : Int) = ((a / 2 ^ k * n % d : Nat) : Int) ∧
    0 ≤ IntKind.u64.wrap (k : Int) ∧ (ovG1 a n d k ((a / 2 ^ (k + 1) * n % d : Nat) : Int) = true → ovG2 a n d k ((a / 2 ^ (k + 1) * n % d : Nat) : Int) = true → ovG3 a n d k ((a / 2 ^ (k + 1) * n % d : Nat) : Int) = true → False) := by
  have hA : a / 2 ^ k = 2 * (a / 2 ^ (k + 1)) + a / 2 ^ k % 2 := by
    rw [Nat.pow_succ, ← Nat.div_div_eq_div_mul]; omega
  have bit : ovBit a k = decide (a / 2 ^ k % 2 = 1) := by
    unfold ovBit
    rw [u64w (by omega) (by omega), Int.toNat_natCast, Nat.min_eq_left (Nat.le_trans hk (by decide))]
    rw [show (2 : Int) ^ k = ((2 ^ k : Nat) : Int) from (Int.natCast_pow 2 k).symm, Int.fdiv_eq_ediv_of_nonneg _ (Int.natCast_nonneg _), ← Int.natCast_ediv]
    rw [Int.tmod_eq_emod_of_nonneg (Int.natCast_nonneg _), Bool.eq_iff_iff, beq_iff_eq, decide_eq_true_eq]
    omega
  generalize hA1 : a / 2 ^ (k + 1) = A at *
  generalize hA0 : a / 2 ^ k = B at *
  have hd0 : 0 < d := by omega
  have r0 : A * n % d < d := Nat.mod_lt _ hd0
  have m0 : n % d < d := Nat.mod_lt _ hd0
  have n0 : n / d ≤ n := Nat.div_le_self n d
  have e1 := Nat.div_add_mod (A * n) d
  have e2 := Nat.div_add_mod n d
  generalize hqq : A * n / d = q at *
  generalize hrr : A * n % d = r at *
  have tq : (n : Int).tdiv d = ((n / d : Nat) : Int) := by rw [Int.tdiv_eq_ediv_of_nonneg (Int.natCast_nonneg _), ← Int.natCast_ediv]
  have tr : (n : Int).tmod d = ((n % d : Nat) : Int) := by rw [Int.tmod_eq_emod_of_nonneg (Int.natCast_nonneg _), ← Int.natCast_emod]
  generalize hnd : n / d = u at *
  generalize hnm : n % d = w at *
  -- the rest and the quotient ahead of the subtractions
  obtain ⟨R, hR⟩ : ∃ R, R = 2 * r + (if B % 2 = 1 then w else 0) := ⟨_, rfl⟩
  obtain ⟨Q, hQ⟩ : ∃ Q, Q = 2 * q + (if B % 2 = 1 then u else 0) := ⟨_, rfl⟩
  have hR3 : R < 3 * d := by rw [hR]; split <;> omega
  have hBn : B * n = d * Q + R := by
    rcases Nat.mod_two_eq_zero_or_one B with h | h
    · rw [h] at hA
      rw [hQ, hR, h, hA]
      simp only [Nat.zero_ne_one, if_false, Nat.add_zero]
      rw [Nat.mul_assoc, ← e1, Nat.mul_add, Nat.mul_left_comm]
    · rw [h] at hA
      rw [hQ, hR, h, hA]
      simp only [if_true]
      rw [Nat.add_mul, Nat.mul_assoc, ← e1, Nat.mul_add, Nat.mul_left_comm 2 d q, Nat.mul_add, Nat.one_mul]
      omega
  have eR : ovR0 a n d k (r : Int) = (R : Int) := by
    unfold ovR0
    rw [bit, tr, u64w (n := 2 * (r : Int)) (by omega) (by omega)]
    rcases Nat.mod_two_eq_zero_or_one B with h | h
    · simp only [h, Nat.zero_ne_one, decide_false, cond_false]; rw [hR, h]; simp
    · simp only [h, decide_true, cond_true]; rw [u64w (by omega) (by omega), hR, h]; simp
  have eQ : ovQ0 a n d k (q : Int) = (Q : Int) := by
    unfold ovQ0
    rw [bit, tq, u64w (n := 2 * (q : Int)) (by omega) (by omega), u64w (n := (u : Int)) (by omega) (by omega)]
    rcases Nat.mod_two_eq_zero_or_one B with h | h
    · simp only [h, Nat.zero_ne_one, decide_false, cond_false]; rw [hQ, h]; simp
    · simp only [h, decide_true, cond_true]; rw [u64w (by omega) (by omega), hQ, h]; simp
  have hQ2 : Q ≤ 4611686018427387904 + 9007199254740992 := by rw [hQ]; split <;> omega
  have g1 : ovG1 a n d k (r : Int) = decide (d ≤ R) := by
    unfold ovG1; rw [eR, Bool.eq_iff_iff, decide_eq_true_eq, decide_eq_true_eq]; omega
  have q1 : ovQ1 a n d k (q : Int) = ((Q + 1 : Nat) : Int) := by unfold ovQ1; rw [eQ, u64w (by omega) (by omega)]; omega
  have uniq : ∀ j s : Nat, s < d → R = j * d + s → B * n / d = Q + j ∧ B * n % d = s := by
    intro j s hs hj
    have : B * n = s + d * (Q + j) := by rw [hBn, hj, Nat.mul_add, Nat.mul_comm j d]; omega
    rw [this, Nat.add_mul_div_left _ _ hd0, Nat.add_mul_mod_self_left, Nat.div_eq_of_lt hs, Nat.mod_eq_of_lt hs]
    omega
  by_cases c1 : d ≤ R
  · have r1 : ovR1 a n d k (r : Int) = ((R - d : Nat) : Int) := by unfold ovR1; rw [eR, u64w (by omega) (by omega)]; omega
    have g2 : ovG2 a n d k (r : Int) = decide (d ≤ R - d) := by
      unfold ovG2; rw [r1, Bool.eq_iff_iff, decide_eq_true_eq, decide_eq_true_eq]; omega
    by_cases c2 : d ≤ R - d
    · have r2 : ovR2 a n d k (r : Int) = ((R - d - d : Nat) : Int) := by unfold ovR2; rw [r1, u64w (by omega) (by omega)]; omega
      obtain ⟨u1, u2⟩ := uniq 2 (R - d - d) (by omega) (by omega)
      refine ⟨?_, ?_, by rw [u64w (by omega) (by omega)]; omega, fun _ _ h => ?_⟩
      · unfold ovQ; rw [g1, g2, decide_eq_true c1, decide_eq_true c2, q1, u1]
        simp only [Bool.not_true, cond_false]
        rw [u64w (by omega) (by omega)]; omega
      · unfold ovR; rw [g1, g2, decide_eq_true c1, decide_eq_true c2, r2, u2]; rfl
      · unfold ovG3 at h; rw [r2, decide_eq_true_eq] at h; omega
    · obtain ⟨u1, u2⟩ := uniq 1 (R - d) (by omega) (by omega)
      refine ⟨?_, ?_, by rw [u64w (by omega) (by omega)]; omega, fun _ h _ => ?_⟩
      · unfold ovQ; rw [g1, g2, decide_eq_true c1, decide_eq_false c2, q1, u1]; rfl
      · unfold ovR; rw [g1, g2, decide_eq_true c1, decide_eq_false c2, r1, u2]; rfl
      · rw [g2, decide_eq_true_eq] at h; omega
  · obtain ⟨u1, u2⟩ := uniq 0 R (by omega) (by omega)
    refine ⟨?_, ?_, by rw [u64w (by omega) (by omega)]; omega, fun h _ _ => ?_⟩
    · unfold ovQ; rw [g1, decide_eq_false c1, eQ, u1]; rfl
    · unfold ovR; rw [g1, decide_eq_false c1, eR, u2]; rfl
    · rw [g1, decide_eq_true_eq] at h; omega

/-- All of them. -/
theorem ov_spec (a n d : Nat) (ha : a < 18446744073709551616) (hn : n ≤ 4611686018427387904) (hd : 1 ≤ d) (hd' : d ≤ 4611686018427387904) : ∀ k, k ≤ 64 → a / 2 ^ k * n / d ≤ 4503599627370496 →
    ovF a n d k ((k : Int) - 1) ((a / 2 ^ k * n / d : Nat) : Int) ((a / 2 ^ k * n % d : Nat) : Int) = bif decide (a * n / d ≤ 4503599627370496) then (.exit 0, ovO ((a * n / d : Nat) : Int) ((a * n % d : Nat) : Int)) else (.ret, ovRet)
  | 0, _, hq => by
    rw [Nat.pow_zero, Nat.div_one] at hq ⊢
    rw [decide_eq_true hq]; rfl
  | k + 1, hk, hq => by
    obtain ⟨s1, s2, _, _⟩ := ov_step a n d k ha hn hd hd' (by omega) hq
    have e : ((k + 1 : Nat) : Int) - 1 = (k : Int) := by omega
    rw [e]
    simp only [ovF]
    unfold ovBig
    rw [s1, s2]
    have mono : a / 2 ^ k * n / d ≤ a * n / d := Nat.div_le_div_right (Nat.mul_le_mul_right n (Nat.div_le_self a _))
    by_cases h : a / 2 ^ k * n / d ≤ 4503599627370496
    · rw [decide_eq_false (by omega), cond_false, show IntKind.i64.wrap ((k : Int) - 1) = (k : Int) - 1 from i64w (by omega) (by omega)]
      exact ov_spec a n d ha hn hd hd' k (by omega) h
    · rw [decide_eq_true (by omega), cond_true, decide_eq_false (by omega)]; rfl

end Go.Ar

/- What the texts of the reference's fixed-point numbers reckon, and what it is. No program. -/
namespace Go.Ar
open Go Go.Eng

theorem rd_sign {p d : Int} (hd : 0 < d) (up neg : Bool) : rd (bif neg then -p else p) d up = bif neg then -(p / d + (if (!(up == neg)) = true ∧ 0 < p % d then 1 else 0)) else p / d + (if (!(up == neg)) = true ∧ 0 < p % d then 1 else 0) := by
  unfold rd
  cases neg <;> cases up <;> simp [neg_div hd] <;> split <;> omega

/-! ### Behind the long division -/

def oNo (p d : Int) : Bool := !decide (p / d ≤ 4503599627370496)
def oQ (p d : Int) : Int := bif oNo p d then 0 else p / d
def oRest (p d : Int) : Bool := bif oNo p d then false else decide (p % d > 0)
def oK (p d : Int) (up neg : Bool) : Int := bif bif oRest p d then !(up == neg) else false then IntKind.u64.wrap (oQ p d + 1) else oQ p d
def oV (p d : Int) (up neg : Bool) : Int := bif !(bif oNo p d then false else true) then 0 else bif decide (oK p d up neg > 4503599627370496) then 0 else bif neg then IntKind.i64.wrap (0 - IntKind.i64.wrap (oK p d up neg)) else IntKind.i64.wrap (oK p d up neg)
def oB (p d : Int) (up neg : Bool) : Bool := bif !(bif oNo p d then false else true) then false else bif decide (oK p d up neg > 4503599627370496) then false else true

theorem put_law {k : Int} (h0 : 0 ≤ k) (h1 : k ≤ 9223372036854775807) (neg : Bool) (v : Int) (hv : v = bif neg then -k else k) :
    (bif decide (k > 4503599627370496) then 0 else bif neg then IntKind.i64.wrap (0 - IntKind.i64.wrap k) else IntKind.i64.wrap k) = fitV v ∧ (bif decide (k > 4503599627370496) then false else true) = okF v := by
  subst hv
  by_cases hb : k > 4503599627370496
  · have hf : okF (bif neg then -k else k) = false := by
      rw [okF_false]; cases neg <;> simp <;> omega
    simp [hb, fitV, hf]
  · have hf : okF (bif neg then -k else k) = true := by
      rw [okF_iff]; cases neg <;> simp <;> omega
    simp only [hb, decide_false, cond_false, fitV, hf, cond_true]
    refine ⟨?_, trivial⟩
    rw [i64w (n := k) (by omega) (by omega), i64w (n := 0 - k) (by omega) (by omega)]
    cases neg <;> simp

theorem o_law {p d : Int} (hp : 0 ≤ p) (hd : 0 < d) (up neg : Bool) (n : Int) (hn : n = bif neg then -p else p) : oV p d up neg = fitV (rd n d up) ∧ oB p d up neg = okF (rd n d up) := by
  have q0 : 0 ≤ p / d := Int.ediv_nonneg hp (by omega)
  have rv := rd_sign (p := p) hd up neg
  rw [← hn] at rv
  by_cases hno : p / d ≤ 4503599627370496
  · have e : oNo p d = false := by simp [oNo, hno]
    have hk : oK p d up neg = p / d + (if (!(up == neg)) = true ∧ 0 < p % d then 1 else 0) := by
      unfold oK oRest oQ
      rw [e]
      simp only [cond_false]
      cases hu : !(up == neg) with
      | false => cases decide (p % d > 0) <;> simp
      | true =>
        by_cases hr : p % d > 0
        · rw [decide_eq_true hr]
          simp only [cond_true, true_and]
          rw [if_pos (by omega), u64w (by omega) (by omega)]
        · rw [decide_eq_false hr]
          simp only [cond_false, true_and]
          rw [if_neg (by omega)]; omega
    have hb : 0 ≤ oK p d up neg ∧ oK p d up neg ≤ 9223372036854775807 := by rw [hk]; split <;> omega
    have := put_law hb.1 hb.2 neg (rd n d up) (by rw [rv, hk])
    unfold oV oB
    rw [e]
    exact this
  · have e : oNo p d = true := by simp [oNo, hno]
    have hf : okF (rd n d up) = false := by rw [okF_false, rv]; cases neg <;> simp <;> split <;> omega
    unfold oV oB fitV
    rw [e, hf]; exact ⟨rfl, rfl⟩

/-! ### The product in four parts -/

def rmA (x : Int) : Int := IntKind.u64.wrap (x.tdiv 67108864)
def rmL (x : Int) : Int := x.tmod 67108864
def rmH (x y : Int) : Int := IntKind.u64.wrap (rmA x * rmA y)
def rmM (x y : Int) : Int := IntKind.u64.wrap (IntKind.u64.wrap (rmA x * rmL y) + IntKind.u64.wrap (rmL x * rmA y))
def rmR (x y : Int) : Int := IntKind.u64.wrap (IntKind.u64.wrap ((rmM x y).tmod 64 * 67108864) + IntKind.u64.wrap (rmL x * rmL y))
def rmN (x y : Int) : Int := IntKind.u64.wrap (IntKind.u64.wrap (IntKind.u64.wrap (rmH x y * 1048576) + IntKind.u64.wrap ((rmM x y).tdiv 64)) + IntKind.u64.wrap ((rmR x y).tdiv 4294967296))
def rmK (x y : Int) (up neg : Bool) : Int := bif bif decide ((rmR x y).tmod 4294967296 > 0) then !(up == neg) else false then IntKind.u64.wrap (rmN x y + 1) else rmN x y
def rMulV (a b : Int) (up : Bool) : Int := bif decide (rmH (xSz a) (xSz b) ≥ 8589934592) then 0 else bif decide (rmK (xSz a) (xSz b) up (xNeg a b) > 4503599627370496) then 0 else
  bif xNeg a b then IntKind.i64.wrap (0 - IntKind.i64.wrap (rmK (xSz a) (xSz b) up (xNeg a b))) else IntKind.i64.wrap (rmK (xSz a) (xSz b) up (xNeg a b))
def rMulB (a b : Int) (up : Bool) : Bool := bif decide (rmH (xSz a) (xSz b) ≥ 8589934592) then false else bif decide (rmK (xSz a) (xSz b) up (xNeg a b) > 4503599627370496) then false else true

theorem rMul_law {a b : Int} (ha : okF a = true) (hb : okF b = true) (up : Bool) : rMulV a b up = fitV (mF a b up) ∧ rMulB a b up = okF (mF a b up) := by
  obtain ⟨a1, a2, a3⟩ := sz_of ha
  obtain ⟨b1, b2, b3⟩ := sz_of hb
  have hs := xNeg_mul a b
  unfold rMulV rMulB mF
  rw [a1, b1]
  generalize sg a a = x at *
  generalize sg b b = y at *
  -- the parts
  have tx : x.tdiv 67108864 = x / 67108864 := Int.tdiv_eq_ediv_of_nonneg a2
  have ty : y.tdiv 67108864 = y / 67108864 := Int.tdiv_eq_ediv_of_nonneg b2
  have mx' : x.tmod 67108864 = x % 67108864 := Int.tmod_eq_emod_of_nonneg a2
  have my' : y.tmod 67108864 = y % 67108864 := Int.tmod_eq_emod_of_nonneg b2
  obtain ⟨xh, hxh⟩ : ∃ xh, xh = x / 67108864 := ⟨_, rfl⟩
  obtain ⟨xl, hxl⟩ : ∃ xl, xl = x % 67108864 := ⟨_, rfl⟩
  obtain ⟨yh, hyh⟩ : ∃ yh, yh = y / 67108864 := ⟨_, rfl⟩
  obtain ⟨yl, hyl⟩ : ∃ yl, yl = y % 67108864 := ⟨_, rfl⟩
  have eAx : rmA x = xh := by unfold rmA; rw [tx, u64w (by omega) (by omega)]; exact hxh.symm
  have eAy : rmA y = yh := by unfold rmA; rw [ty, u64w (by omega) (by omega)]; exact hyh.symm
  have eLx : rmL x = xl := by unfold rmL; rw [mx']; exact hxl.symm
  have eLy : rmL y = yl := by unfold rmL; rw [my']; exact hyl.symm
  have bx : 0 ≤ xh ∧ xh ≤ 67108864 := by omega
  have by' : 0 ≤ yh ∧ yh ≤ 67108864 := by omega
  have bxl : 0 ≤ xl ∧ xl ≤ 67108863 := by omega
  have byl : 0 ≤ yl ∧ yl ≤ 67108863 := by omega
  have p1 : xh * yh ≤ 67108864 * 67108864 := Int.mul_le_mul bx.2 by'.2 by'.1 (by decide)
  have p2 : xh * yl ≤ 67108864 * 67108863 := Int.mul_le_mul bx.2 byl.2 byl.1 (by decide)
  have p3 : xl * yh ≤ 67108863 * 67108864 := Int.mul_le_mul bxl.2 by'.2 by'.1 (by decide)
  have p4 : xl * yl ≤ 67108863 * 67108863 := Int.mul_le_mul bxl.2 byl.2 byl.1 (by decide)
  have z1 : 0 ≤ xh * yh := Int.mul_nonneg bx.1 by'.1
  have z2 : 0 ≤ xh * yl := Int.mul_nonneg bx.1 byl.1
  have z3 : 0 ≤ xl * yh := Int.mul_nonneg bxl.1 by'.1
  have z4 : 0 ≤ xl * yl := Int.mul_nonneg bxl.1 byl.1
  have hP : x * y = xh * yh * 4503599627370496 + (xh * yl + xl * yh) * 67108864 + xl * yl := by
    have ex : x = xh * 67108864 + xl := by omega
    have ey : y = yh * 67108864 + yl := by omega
    rw [ex, ey, Int.add_mul, Int.mul_add, Int.mul_add]
    have c1 : xh * 67108864 * (yh * 67108864) = xh * yh * 4503599627370496 := by
      rw [Int.mul_assoc, Int.mul_left_comm 67108864 yh, ← Int.mul_assoc]
      rfl
    have c2 : xh * 67108864 * yl = xh * yl * 67108864 := by rw [Int.mul_assoc, Int.mul_comm 67108864 yl, ← Int.mul_assoc]
    have c3 : xl * (yh * 67108864) = xl * yh * 67108864 := by rw [Int.mul_assoc]
    rw [c1, c2, c3, Int.add_mul]
    omega
  have eH : rmH x y = xh * yh := by unfold rmH; rw [eAx, eAy, u64w (by omega) (by omega)]
  have eM : rmM x y = xh * yl + xl * yh := by
    unfold rmM; rw [eAx, eAy, eLx, eLy, u64w (n := xh * yl) (by omega) (by omega), u64w (n := xl * yh) (by omega) (by omega), u64w (by omega) (by omega)]
  obtain ⟨hi, hhi⟩ : ∃ hi, hi = xh * yh := ⟨_, rfl⟩
  obtain ⟨mid, hmid⟩ : ∃ mid, mid = xh * yl + xl * yh := ⟨_, rfl⟩
  obtain ⟨low, hlow⟩ : ∃ low, low = xl * yl := ⟨_, rfl⟩
  rw [← hhi, ← hmid, ← hlow] at hP
  rw [← hhi] at eH p1 z1
  rw [← hmid] at eM
  have bm : 0 ≤ mid ∧ mid ≤ 67108864 * 67108863 + 67108863 * 67108864 := by omega
  have bl : 0 ≤ low ∧ low ≤ 67108863 * 67108863 := by omega
  have eR : rmR x y = mid % 64 * 67108864 + low := by
    unfold rmR
    rw [eM, eLx, eLy, ← hlow, Int.tmod_eq_emod_of_nonneg bm.1, u64w (n := mid % 64 * 67108864) (by omega) (by omega), u64w (n := low) (by omega) (by omega), u64w (by omega) (by omega)]
  obtain ⟨left, hleft⟩ : ∃ left, left = mid % 64 * 67108864 + low := ⟨_, rfl⟩
  rw [← hleft] at eR
  have bleft : 0 ≤ left ∧ left < 9007199254740992 := by omega
  have hp0 : 0 ≤ x * y := by omega
  have hdiv : x * y / 4294967296 = hi * 1048576 + mid / 64 + left / 4294967296 := by omega
  have hmod : x * y % 4294967296 = left % 4294967296 := by omega
  have rv := rd_sign (p := x * y) (d := 4294967296) (by decide) up (xNeg a b)
  rw [← hs] at rv
  rw [eH]
  by_cases hbig : hi ≥ 8589934592
  · have hf : okF (rd (a * b) 4294967296 up) = false := by
      rw [okF_false, rv, hdiv]
      cases xNeg a b <;> simp <;> split <;> omega
    rw [decide_eq_true hbig]
    simp [fitV, hf]
  · rw [decide_eq_false hbig]
    simp only [cond_false]
    have eN : rmN x y = hi * 1048576 + mid / 64 + left / 4294967296 := by
      unfold rmN
      rw [eH, eM, eR, Int.tdiv_eq_ediv_of_nonneg bm.1, Int.tdiv_eq_ediv_of_nonneg bleft.1]
      rw [u64w (n := hi * 1048576) (by omega) (by omega), u64w (n := mid / 64) (by omega) (by omega), u64w (n := left / 4294967296) (by omega) (by omega), u64w (n := hi * 1048576 + mid / 64) (by omega) (by omega), u64w (by omega) (by omega)]
    have hk : rmK x y up (xNeg a b) = x * y / 4294967296 + (if (!(up == xNeg a b)) = true ∧ 0 < x * y % 4294967296 then 1 else 0) := by
      unfold rmK
      rw [eN, eR, hdiv, hmod, Int.tmod_eq_emod_of_nonneg bleft.1]
      cases hu : !(up == xNeg a b) with
      | false => cases decide (left % 4294967296 > 0) <;> simp
      | true =>
        by_cases hr : left % 4294967296 > 0
        · rw [decide_eq_true hr]
          simp only [cond_true, true_and]
          rw [if_pos (by omega), u64w (by omega) (by omega)]
        · rw [decide_eq_false hr]
          simp only [cond_false, true_and]
          rw [if_neg (by omega)]; omega
    have hb : 0 ≤ rmK x y up (xNeg a b) ∧ rmK x y up (xNeg a b) ≤ 9223372036854775807 := by rw [hk, hdiv]; split <;> omega
    exact put_law hb.1 hb.2 (xNeg a b) _ (by rw [rv, hk])

/-! ### The root, two bits at a time -/

def rs2 (a i : Int) : Int := bif decide (IntKind.i64.wrap (2 * i) ≥ 32) then (a.fdiv (2 ^ min (IntKind.u64.wrap (IntKind.i64.wrap (IntKind.i64.wrap (2 * i) - 32))).toNat IntKind.i64.bits)).tmod 4 else 0
def rs6 (a i rest : Int) : Int := IntKind.i64.wrap (IntKind.i64.wrap (4 * rest) + rs2 a i)
def rs8 (root : Int) : Int := IntKind.i64.wrap (IntKind.i64.wrap (4 * root) + 1)
def rsG (a i root rest : Int) : Bool := decide (rs6 a i rest ≥ rs8 root)
def rsRoot (a i root rest : Int) : Int := bif rsG a i root rest then IntKind.i64.wrap (IntKind.i64.wrap (2 * root) + 1) else IntKind.i64.wrap (2 * root)
def rsRest (a i root rest : Int) : Int := bif rsG a i root rest then IntKind.i64.wrap (rs6 a i rest - rs8 root) else rs6 a i rest
def rsO (root rest : Int) : Patch := ⟨deadT 7 43 ++ [(5, .int true .i64 root), (6, .int true .i64 rest)], [], []⟩
def rsF (a : Int) : Nat → Int → Int → Int → Int × Int
  | 0, _, root, rest => (root, rest)
  | k + 1, i, root, rest => rsF a k (IntKind.i64.wrap (i - 1)) (rsRoot a i root rest) (rsRest a i root rest)

theorem rs_two (a k : Nat) (ha : a ≤ 4503599627370496) (hk : k ≤ 42) : rs2 a k = ((a * 4294967296 / 4 ^ k % 4 : Nat) : Int) := by
  unfold rs2
  rw [i64w (n := 2 * (k : Int)) (by omega) (by omega)]
  by_cases h : 16 ≤ k
  · rw [decide_eq_true (by omega), cond_true, i64w (n := 2 * (k : Int) - 32) (by omega) (by omega), u64w (by omega) (by omega)]
    rw [show (2 * (k : Int) - 32).toNat = 2 * (k - 16) by omega, Nat.min_eq_left (Nat.le_trans (show 2 * (k - 16) ≤ 64 by omega) (by decide))]
    rw [show (2 : Int) ^ (2 * (k - 16)) = ((4 ^ (k - 16) : Nat) : Int) from (Int.natCast_pow 2 (2 * (k - 16))).symm.trans (by rw [Nat.pow_mul])]
    rw [Int.fdiv_eq_ediv_of_nonneg _ (Int.natCast_nonneg _), ← Int.natCast_ediv, Int.tmod_eq_emod_of_nonneg (Int.natCast_nonneg _)]
    have : a * 4294967296 / 4 ^ k = a / 4 ^ (k - 16) := by
      rw [show 4 ^ k = 4294967296 * 4 ^ (k - 16) by rw [show (4294967296 : Nat) = 4 ^ 16 by decide, ← Nat.pow_add]; congr 1; omega]
      rw [← Nat.div_div_eq_div_mul, Nat.mul_div_cancel _ (by decide)]
    rw [this]
    omega
  · rw [decide_eq_false (by omega), cond_false]
    have : a * 4294967296 / 4 ^ k = a * 4 ^ (16 - k) := by
      rw [show (4294967296 : Nat) = 4 ^ (16 - k) * 4 ^ k by rw [← Nat.pow_add, show 16 - k + k = 16 by omega]]
      rw [← Nat.mul_assoc, Nat.mul_div_cancel _ (Nat.pow_pos (by decide))]
    rw [this, show 16 - k = (15 - k) + 1 by omega, Nat.pow_succ, ← Nat.mul_assoc, Nat.mul_mod_left]
    rfl

theorem rs_step (a k P root : Nat) (ha : a ≤ 4503599627370496) (hk : k ≤ 42) (hP : P = a * 4294967296 / 4 ^ (k + 1)) (h1 : root * root ≤ P) (h2 : P < (root + 1) * (root + 1)) (h3 : root ≤ 8796093022208) :
    ∃ root' : Nat, rsRoot a k root ((P - root * root : Nat) : Int) = (root' : Int) ∧ rsRest a k root ((P - root * root : Nat) : Int) = ((a * 4294967296 / 4 ^ k - root' * root' : Nat) : Int) ∧ root' * root' ≤ a * 4294967296 / 4 ^ k ∧ a * 4294967296 / 4 ^ k < (root' + 1) * (root' + 1) := by
  have hQ : a * 4294967296 / 4 ^ k = 4 * P + a * 4294967296 / 4 ^ k % 4 := by
    rw [hP, Nat.pow_succ, ← Nat.div_div_eq_div_mul]; omega
  have t2 := rs_two a k ha hk
  generalize a * 4294967296 / 4 ^ k = Q at *
  have hrest : P - root * root ≤ 2 * root := by
    rw [Nat.add_mul, Nat.mul_add] at h2; omega
  generalize hR : P - root * root = R at *
  have e6 : rs6 a k (R : Int) = ((4 * R + Q % 4 : Nat) : Int) := by
    unfold rs6; rw [t2, i64w (n := 4 * (R : Int)) (by omega) (by omega), i64w (by omega) (by omega)]; omega
  have e8 : rs8 (root : Int) = ((4 * root + 1 : Nat) : Int) := by
    unfold rs8; rw [i64w (n := 4 * (root : Int)) (by omega) (by omega), i64w (by omega) (by omega)]; omega
  have g : rsG a k root (R : Int) = decide (4 * root + 1 ≤ 4 * R + Q % 4) := by
    unfold rsG; rw [e6, e8, Bool.eq_iff_iff, decide_eq_true_eq, decide_eq_true_eq]; omega
  have sq0 : (2 * root) * (2 * root) = 4 * (root * root) := by rw [Nat.mul_mul_mul_comm]
  have sq1 : (2 * root + 1) * (2 * root + 1) = 4 * (root * root) + 4 * root + 1 := by rw [Nat.add_mul, Nat.mul_add, sq0]; omega
  have sq2 : (2 * root + 1 + 1) * (2 * root + 1 + 1) = 4 * (root * root) + 8 * root + 4 := by rw [Nat.add_mul, Nat.mul_add, sq1]; omega
  have exp : (root + 1) * (root + 1) = root * root + 2 * root + 1 := by rw [Nat.add_mul, Nat.mul_add]; omega
  rw [exp] at h2
  generalize root * root = S at *
  by_cases c : 4 * root + 1 ≤ 4 * R + Q % 4
  · refine ⟨2 * root + 1, ?_, ?_, by omega, by omega⟩
    · unfold rsRoot; rw [g, decide_eq_true c, cond_true, i64w (n := 2 * (root : Int)) (by omega) (by omega), i64w (by omega) (by omega)]; omega
    · unfold rsRest; rw [g, decide_eq_true c, cond_true, e6, e8, i64w (by omega) (by omega)]; omega
  · refine ⟨2 * root, ?_, ?_, by omega, by omega⟩
    · unfold rsRoot; rw [g, decide_eq_false c, cond_false, i64w (by omega) (by omega)]; omega
    · unfold rsRest; rw [g, decide_eq_false c, cond_false, e6]; omega

/-- The reference's root is the root. -/
theorem rs_spec (a : Nat) (ha : a ≤ 4503599627370496) : ∀ k root : Nat, k ≤ 43 → root * root ≤ a * 4294967296 / 4 ^ k → a * 4294967296 / 4 ^ k < (root + 1) * (root + 1) →
    ∃ r : Nat, rsF a k ((k : Int) - 1) (root : Int) ((a * 4294967296 / 4 ^ k - root * root : Nat) : Int) = ((r : Int), ((a * 4294967296 - r * r : Nat) : Int)) ∧ r * r ≤ a * 4294967296 ∧ a * 4294967296 < (r + 1) * (r + 1)
  | 0, root, _, h1, h2 => by
    rw [Nat.pow_zero, Nat.div_one] at h1 h2 ⊢
    exact ⟨root, by rw [rsF], h1, h2⟩
  | k + 1, root, hk, h1, h2 => by
    have hr : root ≤ 8796093022208 := by
      rcases Nat.lt_or_ge 8796093022208 root with h | h
      · have h0 : 8796093022209 ≤ root := by omega
        have h3 : 8796093022209 * 8796093022209 ≤ root * root := Nat.mul_le_mul h0 h0
        have h4 : a * 4294967296 / 4 ^ (k + 1) ≤ a * 4294967296 := Nat.div_le_self _ _
        omega
      · exact h
    obtain ⟨root', s1, s2, s3, s4⟩ := rs_step a k _ root ha (by omega) rfl h1 h2 hr
    have e : ((k + 1 : Nat) : Int) - 1 = (k : Int) := by omega
    rw [e]
    rw [rsF]
    rw [s1, s2, show IntKind.i64.wrap ((k : Int) - 1) = (k : Int) - 1 from i64w (by omega) (by omega)]
    exact rs_spec a ha k root' (by omega) s3 s4

def rsV (a : Int) (up : Bool) : Int := bif bif up then decide ((rsF a 43 42 0 0).2 > 0) else false then IntKind.i64.wrap ((rsF a 43 42 0 0).1 + 1) else (rsF a 43 42 0 0).1
theorem z43 (n : Nat) (h : n ≤ 4503599627370496) : n * 4294967296 / 4 ^ 43 = 0 := Nat.div_eq_of_lt (by have : (4 : Nat) ^ 43 = 77371252455336267181195264 := by decide
                                                                                                       omega)
theorem rs_end (n : Nat) (h : n ≤ 4503599627370496) : ∃ r : Nat, rsF n 43 42 0 0 = ((r : Int), ((n * 4294967296 - r * r : Nat) : Int)) ∧ r * r ≤ n * 4294967296 ∧ n * 4294967296 < (r + 1) * (r + 1) := by
  have z := z43 n h
  obtain ⟨r, e, k1, k2⟩ := rs_spec n h 43 0 (by decide) (by rw [z]; decide) (by rw [z]; decide)
  rw [z, show ((43 : Nat) : Int) - 1 = 42 by decide, Nat.mul_zero, Nat.sub_zero, Int.natCast_zero] at e
  exact ⟨r, e, k1, k2⟩
theorem rs_law {a : Int} (h : sqOk a = true) (up : Bool) : rsV a up = rtV a up := by
  obtain ⟨r0, r1, r2, r3⟩ := sqR_spec h
  simp only [sqOk, Bool.and_eq_true, decide_eq_true_eq] at h
  have h1 := okF_iff.1 h.1
  obtain ⟨n, rfl⟩ := Int.eq_ofNat_of_zero_le h.2
  obtain ⟨r, e, k1, k2⟩ := rs_end n (by omega)
  obtain ⟨s, hs⟩ := Int.eq_ofNat_of_zero_le r0
  rw [hs] at r1 r2 r3
  have c1 : ((s * s : Nat) : Int) = (s : Int) * s := Int.natCast_mul s s
  have c2 : (((s + 1) * (s + 1) : Nat) : Int) = ((s : Int) + 1) * (s + 1) := by rw [Int.natCast_mul]; rfl
  have hrs : r = s := root_unique k1 k2 (by omega) (by omega)
  subst hrs
  obtain ⟨w, hw⟩ : ∃ w : Nat, w = n * 4294967296 - r * r := ⟨_, rfl⟩
  rw [← hw] at e
  have hw2 : decide ((w : Int) > 0) = !((r : Int) * r == (n : Int) * 4294967296) := by
    rw [Bool.eq_iff_iff, decide_eq_true_eq, Bool.not_eq_true', beq_eq_false_iff_ne]
    constructor
    · intro h5 h6; omega
    · intro h5; omega
  rw [rsV, rtV, e, hs]
  rw [hw2]
  cases up with
  | false => rfl
  | true =>
    cases hb : ((r : Int) * r == (n : Int) * 4294967296) with
    | true => rfl
    | false =>
      simp only [cond_true, Bool.true_and, Bool.not_false]
      exact i64w (by omega) (by omega)

/-! ### The functions of the reference -/

def rRt (x : Int) : Bool := bif decide (x ≥ -4503599627370496) then decide (x ≤ 4503599627370496) else false
def rOkS (a n d : Int) : Bool := bif !rRt a then true else bif decide (n < -4611686018427387904) then true else bif decide (n > 4611686018427387904) then true else bif decide (d < 1) then true else decide (d > 4611686018427387904)
def rScF (a n d : Int) (up : Bool) : Bool := bif !oB (xSz a * xSz n) (IntKind.u64.wrap d) up (xNeg a n) then true else !rRt (oV (xSz a * xSz n) (IntKind.u64.wrap d) up (xNeg a n))
def rScV (a n d : Int) (up : Bool) : Int := bif rOkS a n d then 0 else bif rScF a n d up then 0 else oV (xSz a * xSz n) (IntKind.u64.wrap d) up (xNeg a n)
def rScE (a n d : Int) (up : Bool) : Int := bif rOkS a n d then 2 else bif rScF a n d up then 6 else 0

theorem rRt_eq (x : Int) : rRt x = okF x := by
  unfold rRt okF
  by_cases h : x ≥ -4503599627370496
  · rw [decide_eq_true h]; rfl
  · rw [decide_eq_false h]; rfl

theorem rOkS_eq (a n d : Int) : rOkS a n d = !okS a n d := by
  have := xOkS_eq a n d
  unfold rOkS
  unfold xOkS at this
  rw [rRt_eq]
  rw [xC_eq] at this
  rw [← this]
  cases okF a <;> rfl

theorem okF_fitV (v : Int) : okF (fitV v) = true := by
  unfold fitV
  cases h : okF v with
  | true => exact h
  | false => rfl

theorem rSc_law (a n d : Int) (up : Bool) : rScV a n d up = scaleV a n d up ∧ rScE a n d up = scaleE a n d up := by
  unfold rScV rScE scaleV scaleE rScF
  rw [rOkS_eq]
  cases h : okS a n d with
  | false => exact ⟨rfl, rfl⟩
  | true =>
    simp only [okS, Bool.and_eq_true, decide_eq_true_eq] at h
    obtain ⟨ha, ⟨⟨n1, n2⟩, d1⟩, d2⟩ := h
    obtain ⟨a1, a2, a3⟩ := sz_of ha
    have e1 : xSz n = sg n n := xSz_eq (by omega) (by omega)
    have e2 := sg_nonneg n
    rw [a1, e1, u64w (n := d) (by omega) (by omega)]
    obtain ⟨v, b⟩ := o_law (p := sg a a * sg n n) (d := d) (Int.mul_nonneg a2 e2) (by omega) up (xNeg a n) (a * n) (xNeg_mul a n)
    rw [v, b, rRt_eq, okF_fitV]
    unfold fitV fitE
    cases okF (rd (a * n) d up) <;> exact ⟨rfl, rfl⟩

def rDivV (a b : Int) (up : Bool) : Int := oV (4294967296 * xSz a) (xSz b) up (xNeg a b)
def rDivB (a b : Int) (up : Bool) : Bool := oB (4294967296 * xSz a) (xSz b) up (xNeg a b)

theorem rDiv_law {a b : Int} (ha : okF a = true) (hb : okF b = true) (h0 : b ≠ 0) (up : Bool) : rDivV a b up = fitV (dF a b up) ∧ rDivB a b up = okF (dF a b up) := by
  obtain ⟨a1, a2, a3⟩ := sz_of ha
  obtain ⟨b1, b2, b3⟩ := sz_of hb
  have hpos : 0 < sg b b := by rcases sg_cases b with ⟨_, e⟩ | ⟨_, e⟩ <;> omega
  unfold rDivV rDivB
  rw [a1, b1, Int.mul_comm]
  exact o_law (by omega) hpos up (xNeg a b) _ (xNeg_div a b)

end Go.Ar

/- Squares in the reference: digits to the base 2^16. No program. -/
namespace Go.Ar
open Go Go.Eng

def pN (o x y c : Int) : Int := IntKind.i64.wrap (IntKind.i64.wrap (o + IntKind.i64.wrap (x * y)) + c)
/-- One row of a product, added to what is there. -/
def rowP (x : Int) : List Int → List Int → Int → List Int
  | y :: ys, o :: os, c => (pN o x y c).tmod 65536 :: rowP x ys os (IntKind.i64.wrap ((pN o x y c).tdiv 65536))
  | [], _ :: os, c => c :: os
  | _, [], _ => []
def prodP : List Int → List Int → List Int → List Int
  | x :: xs, ys, out => match rowP x ys out 0 with
    | o :: os => o :: prodP xs ys os
    | [] => []
  | [], _, out => out
def dgP : Nat → Int → List Int
  | 0, _ => []
  | k + 1, v => v.tmod 65536 :: dgP k (IntKind.i64.wrap (v.tdiv 65536))
def zeroP : Nat → List Int
  | 0 => []
  | k + 1 => 0 :: zeroP k
def pwL (k : Nat) (v : Int) : List Int := prodP (prodP [1] (dgP k v) (zeroP (1 + k))) (dgP k v) (zeroP (1 + k + k))
def nxP (o x : Int) : Int := IntKind.i64.wrap (IntKind.i64.wrap (o * 65536) + x)
def topV : List Int → Int → Int
  | [], o => o
  | x :: xs, o => topV xs (nxP o x)
def topG : List Int → Int → Bool
  | [], _ => true
  | x :: xs, o => match xs with
    | [] => !decide (o > 68719476736)
    | _ :: _ => !decide (o > 68719476736) && topG xs (nxP o x)
def topL (k : Nat) (v : Int) : List Int := ((pwL k v).drop 2).reverse
def lowP (l : List Int) : Bool := match l with
  | a :: b :: _ => bif decide (a > 0) then true else decide (b > 0)
  | _ => false
def outP (k : Nat) (v : Int) (up : Bool) : Int := match topL k v with
  | [] => 0
  | t :: r => bif (bif up then lowP (pwL k v) else false) then IntKind.i64.wrap (topV r (nxP 0 t) + 1) else topV r (nxP 0 t)
def fitP (k : Nat) (v : Int) : Bool := match topL k v with
  | [] => true
  | t :: r => topG r (nxP 0 t)

/-! ### Values -/

def valP : List Int → Int
  | [] => 0
  | x :: l => x + 65536 * valP l
def digP (l : List Int) : Prop := ∀ x ∈ l, 0 ≤ x ∧ x < 65536

theorem digP_cons {x : Int} {l : List Int} : digP (x :: l) ↔ (0 ≤ x ∧ x < 65536) ∧ digP l := by simp [digP]
theorem valP_nonneg : ∀ {l : List Int}, digP l → 0 ≤ valP l
  | [], _ => by simp [valP]
  | x :: l, h => by
    have h := digP_cons.1 h
    have := valP_nonneg h.2
    simp only [valP]; omega

theorem pN_eq {o x y c : Int} (ho : 0 ≤ o ∧ o < 65536) (hx : 0 ≤ x ∧ x < 65536) (hy : 0 ≤ y ∧ y < 65536) (hc : 0 ≤ c ∧ c < 65536) : pN o x y c = o + x * y + c ∧ 0 ≤ x * y ∧ x * y ≤ 65535 * 65535 := by
  have h1 : 0 ≤ x * y := Int.mul_nonneg hx.1 hy.1
  have h2 : x * y ≤ 65535 * 65535 := Int.mul_le_mul (by omega) (by omega) hy.1 (by decide)
  unfold pN
  rw [i64w (n := x * y) (by omega) (by omega), i64w (n := o + x * y) (by omega) (by omega), i64w (by omega) (by omega)]
  exact ⟨rfl, h1, h2⟩

theorem row_law {x : Int} (hx : 0 ≤ x ∧ x < 65536) : ∀ (ys out : List Int) (c : Int), digP ys → digP out → (0 ≤ c ∧ c < 65536) → ys.length < out.length → (∀ j, ys.length ≤ j → ∀ z, out[j]? = some z → z = 0) →
    digP (rowP x ys out c) ∧ (rowP x ys out c).length = out.length ∧ valP (rowP x ys out c) = valP out + x * valP ys + c ∧ ∀ j, ys.length + 1 ≤ j → ∀ z, (rowP x ys out c)[j]? = some z → z = 0
  | ys, [], c, _, _, _, h, _ => by simp at h
  | [], o :: os, c, _, ho, hc, _, hz => by
    have ho := digP_cons.1 ho
    have h0 : o = 0 := hz 0 (Nat.le_refl _) o rfl
    subst h0
    refine ⟨digP_cons.2 ⟨hc, ho.2⟩, rfl, by simp only [rowP, valP]; omega, fun j hj z hjz => ?_⟩
    cases j with
    | zero => simp at hj
    | succ j => exact hz (j + 1) (Nat.zero_le _) z hjz
  | y :: ys, o :: os, c, hy, ho, hc, hl, hz => by
    have hy := digP_cons.1 hy
    have ho := digP_cons.1 ho
    obtain ⟨e, p0, p1⟩ := pN_eq ho.1 hx hy.1 hc
    have n0 : 0 ≤ pN o x y c := by omega
    have n1 : pN o x y c < 4294967296 := by omega
    have em : (pN o x y c).tmod 65536 = pN o x y c % 65536 := Int.tmod_eq_emod_of_nonneg n0
    have ed : IntKind.i64.wrap ((pN o x y c).tdiv 65536) = pN o x y c / 65536 := by
      rw [Int.tdiv_eq_ediv_of_nonneg n0, i64w (by omega) (by omega)]
    obtain ⟨i1, i2, i3, i4⟩ := row_law hx ys os (pN o x y c / 65536) hy.2 ho.2 (by omega) (by simpa using hl) fun j hj z hjz => hz (j + 1) (by simp; omega) z (by simpa using hjz)
    simp only [rowP]
    rw [em, ed]
    refine ⟨digP_cons.2 ⟨by omega, i1⟩, by simp [i2], ?_, fun j hj z hjz => ?_⟩
    · simp only [valP]
      rw [i3, e]
      have h5 : x * (y + 65536 * valP ys) = x * y + 65536 * (x * valP ys) := by rw [Int.mul_add, Int.mul_left_comm]
      rw [h5]
      generalize x * valP ys = A
      omega
    · cases j with
      | zero => simp at hj
      | succ j => exact i4 j (by simp at hj; omega) z (by simpa using hjz)

theorem prod_law : ∀ (xs ys out : List Int), digP xs → digP ys → digP out → out.length = xs.length + ys.length → (∀ j, ys.length ≤ j → ∀ z, out[j]? = some z → z = 0) →
    digP (prodP xs ys out) ∧ (prodP xs ys out).length = out.length ∧ valP (prodP xs ys out) = valP out + valP xs * valP ys
  | [], ys, out, _, _, ho, _, _ => ⟨ho, rfl, by simp [prodP, valP]⟩
  | x :: xs, ys, out, hx, hy, ho, hl, hz => by
    have hx := digP_cons.1 hx
    obtain ⟨r1, r2, r3, r4⟩ := row_law hx.1 ys out 0 hy ho (by omega) (by simp at hl; omega) hz
    simp only [prodP]
    cases hr : rowP x ys out 0 with
    | nil => rw [hr] at r2; simp at r2 hl; omega
    | cons o os =>
      rw [hr] at r1 r2 r3 r4
      have r1 := digP_cons.1 r1
      obtain ⟨i1, i2, i3⟩ := prod_law xs ys os hx.2 hy r1.2 (by simp at r2 hl; omega) fun j hj z hjz => r4 (j + 1) (by omega) z (by simpa using hjz)
      refine ⟨digP_cons.2 ⟨r1.1, i1⟩, by simp at r2 ⊢; omega, ?_⟩
      simp only [valP] at r3 ⊢
      rw [i3, Int.add_mul, Int.mul_add, Int.mul_assoc]
      omega

theorem zero_law : ∀ k, digP (zeroP k) ∧ (zeroP k).length = k ∧ valP (zeroP k) = 0 ∧ ∀ (j : Nat) z, (zeroP k)[j]? = some z → z = 0
  | 0 => ⟨fun x h => (by cases h), rfl, rfl, fun j z h => (by simp [zeroP] at h)⟩
  | k + 1 => by
    obtain ⟨h1, h2, h3, h4⟩ := zero_law k
    refine ⟨digP_cons.2 ⟨by omega, h1⟩, by simp [zeroP, h2], by simp [zeroP, valP, h3], fun j z h => ?_⟩
    cases j with
    | zero => simp [zeroP] at h; exact h.symm
    | succ j => exact h4 j z (by simpa [zeroP] using h)

theorem dg_law : ∀ (k : Nat) (v : Int), 0 ≤ v → v < 9223372036854775808 → v < 65536 ^ k → digP (dgP k v) ∧ (dgP k v).length = k ∧ valP (dgP k v) = v
  | 0, v, h0, _, h1 => by
    rw [Int.pow_zero] at h1
    exact ⟨fun x h => (by cases h), rfl, by simp only [dgP, valP]; omega⟩
  | k + 1, v, h0, hb, h1 => by
    have ed : IntKind.i64.wrap (v.tdiv 65536) = v / 65536 := by rw [Int.tdiv_eq_ediv_of_nonneg h0, i64w (by omega) (by omega)]
    obtain ⟨i1, i2, i3⟩ := dg_law k (v / 65536) (by omega) (by omega) (by rw [Int.pow_succ] at h1; omega)
    simp only [dgP]
    rw [ed, Int.tmod_eq_emod_of_nonneg h0]
    exact ⟨digP_cons.2 ⟨by omega, i1⟩, by simp [i2], by simp only [valP, i3]; omega⟩

theorem pwL_law (k : Nat) (v : Int) (h0 : 0 ≤ v) (hb : v < 9223372036854775808) (h1 : v < 65536 ^ k) : digP (pwL k v) ∧ (pwL k v).length = 1 + k + k ∧ valP (pwL k v) = v * v := by
  obtain ⟨d1, d2, d3⟩ := dg_law k v h0 hb h1
  obtain ⟨z1, z2, z3, z4⟩ := zero_law (1 + k)
  obtain ⟨y1, y2, y3, y4⟩ := zero_law (1 + k + k)
  obtain ⟨p1, p2, p3⟩ := prod_law [1] (dgP k v) (zeroP (1 + k)) (digP_cons.2 ⟨by omega, fun x h => by cases h⟩) d1 z1 (by simp [z2, d2]) fun j _ z h => z4 j z h
  obtain ⟨q1, q2, q3⟩ := prod_law _ (dgP k v) (zeroP (1 + k + k)) p1 d1 y1 (by rw [p2, z2, d2, y2]) fun j _ z h => y4 j z h
  refine ⟨q1, by rw [pwL, q2, y2], ?_⟩
  rw [pwL, q3, p3, y3, z3, d3]
  simp [valP]

/-- From the top. -/
def tvP : List Int → Int → Int
  | [], o => o
  | x :: xs, o => tvP xs (o * 65536 + x)

theorem tv_mono : ∀ {l : List Int} {o : Int}, digP l → 0 ≤ o → o ≤ tvP l o ∧ (l ≠ [] → o ≤ tvP l o / 65536)
  | [], o, _, h => ⟨by simp [tvP], fun h => absurd rfl h⟩
  | x :: l, o, hd, h => by
    have hd := digP_cons.1 hd
    obtain ⟨i1, i2⟩ := tv_mono (l := l) (o := o * 65536 + x) hd.2 (by omega)
    simp only [tvP]
    exact ⟨by omega, fun _ => by omega⟩

theorem top_law : ∀ {l : List Int} {o : Int}, digP l → 0 ≤ o → l ≠ [] → topG l o = decide (tvP l o / 65536 ≤ 68719476736) ∧ (topG l o = true → topV l o = tvP l o)
  | [], o, _, _, h => absurd rfl h
  | [x], o, hd, h, _ => by
    have hd := digP_cons.1 hd
    have e : (o * 65536 + x) / 65536 = o := by omega
    have hs : topG [x] o = !decide (o > 68719476736) := rfl
    have ht : tvP [x] o = o * 65536 + x := rfl
    have hv : topV [x] o = nxP o x := rfl
    rw [hs, ht, hv]
    refine ⟨by rw [Bool.eq_iff_iff, Bool.not_eq_true', decide_eq_false_iff_not, decide_eq_true_eq]; omega, fun hg => ?_⟩
    rw [Bool.not_eq_true', decide_eq_false_iff_not] at hg
    unfold nxP
    rw [i64w (n := o * 65536) (by omega) (by omega), i64w (by omega) (by omega)]
  | x :: y :: l, o, hd, h, _ => by
    have hd := digP_cons.1 hd
    have m := tv_mono (l := x :: y :: l) (o := o) (digP_cons.2 hd) h
    have hstep : topG (x :: y :: l) o = (!decide (o > 68719476736) && topG (y :: l) (nxP o x)) := rfl
    have hv : topV (x :: y :: l) o = topV (y :: l) (nxP o x) := rfl
    have ht : tvP (x :: y :: l) o = tvP (y :: l) (o * 65536 + x) := rfl
    by_cases c : o > 68719476736
    · have m2 := m.2 (by simp)
      rw [hstep, decide_eq_true c]
      refine ⟨?_, fun hg => by simp at hg⟩
      rw [decide_eq_false (by omega)]; rfl
    · have e : nxP o x = o * 65536 + x := by
        unfold nxP; rw [i64w (n := o * 65536) (by omega) (by omega), i64w (by omega) (by omega)]
      obtain ⟨i1, i2⟩ := top_law (l := y :: l) (o := o * 65536 + x) hd.2 (by omega) (by simp)
      rw [hstep, hv, ht, e, decide_eq_false c]
      exact ⟨by rw [i1]; rfl, fun hg => i2 (by simpa using hg)⟩

theorem tv_append : ∀ (l : List Int) (x o : Int), tvP (l ++ [x]) o = tvP l o * 65536 + x
  | [], x, o => rfl
  | y :: l, x, o => by simp only [List.cons_append, tvP]; exact tv_append l x _

theorem tv_rev : ∀ l : List Int, tvP l.reverse 0 = valP l
  | [] => rfl
  | x :: l => by rw [List.reverse_cons, tv_append, tv_rev l]; simp only [valP]; omega

/-- The square of a number, as the reference has it. -/
def pEarly (v : Int) : Bool := decide (v * v / 4294967296 / 65536 > 68719476736)
def pV (v : Int) (up : Bool) : Int := bif pEarly v then 0 else rd (v * v) 4294967296 up
def pB (v : Int) (up : Bool) : Bool := bif pEarly v then false else decide (rd (v * v) 4294967296 up ≤ 4503599627370496)

theorem pw_core (k : Nat) (hk : 1 ≤ k) (v : Int) (h0 : 0 ≤ v) (hb : v ≤ 4503599627370496) (h1 : v < 65536 ^ k) : ∃ t r, topL k v = t :: r ∧ (r = [] → k = 1) ∧
    (2 ≤ k → topG r (nxP 0 t) = !pEarly v) ∧ (k = 1 → pEarly v = false ∧ r = []) ∧ (pEarly v = false → ∀ up, outP k v up = rd (v * v) 4294967296 up) := by
  obtain ⟨l1, l2, l3⟩ := pwL_law k v h0 (by omega) h1
  match hL : pwL k v, l1, l2, l3 with
  | [], _, l2, _ => simp at l2; omega
  | [_], _, l2, _ => simp at l2; omega
  | a :: b :: l, l1, l2, l3 =>
    have a1 := digP_cons.1 l1
    have b1 := digP_cons.1 a1.2
    simp only [valP] at l3
    have hl : l.length = 2 * k - 1 := by simp at l2; omega
    have hT : topL k v = l.reverse := by unfold topL; rw [hL]; rfl
    have hq : v * v / 4294967296 = valP l ∧ v * v % 4294967296 = a + 65536 * b := by
      have := valP_nonneg b1.2
      generalize v * v = P at l3 ⊢
      omega
    have hd : digP l.reverse := fun x hx => b1.2 x (List.mem_reverse.1 hx)
    cases hr : l.reverse with
    | nil =>
      have : l.length = 0 := by rw [← List.length_reverse, hr]; rfl
      omega
    | cons t r =>
      have hlen : r.length = 2 * k - 2 := by have := congrArg List.length hr; simp at this; omega
      rw [hr] at hd
      have hd := digP_cons.1 hd
      have tv := tv_rev l
      rw [hr] at tv
      simp only [tvP] at tv
      have e0 : nxP 0 t = 0 * 65536 + t := by
        unfold nxP; rw [i64w (n := 0 * 65536) (by omega) (by omega), i64w (by omega) (by omega)]
      have low : lowP (a :: b :: l) = decide (0 < v * v % 4294967296) := by
        have hlow : lowP (a :: b :: l) = (bif decide (a > 0) then true else decide (b > 0)) := rfl
        rw [hlow, hq.2]
        by_cases ha : a > 0
        · rw [decide_eq_true ha, cond_true, decide_eq_true (by omega)]
        · rw [decide_eq_false ha, cond_false, Bool.eq_iff_iff, decide_eq_true_eq, decide_eq_true_eq]; omega
      have out : (r ≠ [] → topG r (nxP 0 t) = true) → valP l / 65536 ≤ 68719476736 → ∀ up, outP k v up = rd (v * v) 4294967296 up := by
        intro hg hle up
        have ht : topV r (nxP 0 t) = valP l := by
          by_cases hn : r = []
          · subst hn
            rw [e0]; exact tv
          · have := (top_law (l := r) (o := nxP 0 t) hd.2 (by rw [e0]; omega) hn).2 (hg hn)
            rw [this, e0, tv]
        unfold outP
        rw [hT, hr]
        simp only
        rw [ht, hL, low]
        have hv := valP_nonneg b1.2
        unfold rd
        cases up with
        | false => simp [hq.1]
        | true =>
          simp only [cond_true]
          have := neg_div (p := v * v) (d := 4294967296) (by decide)
          rw [this, hq.1]
          by_cases hm : 0 < v * v % 4294967296
          · rw [decide_eq_true hm, cond_true, if_pos hm, i64w (by omega) (by omega)]; omega
          · rw [decide_eq_false hm, cond_false, if_neg hm]; omega
      refine ⟨t, r, by rw [hT, hr], fun h => ?_, fun h2 => ?_, fun h1 => ⟨?_, ?_⟩, fun he up => ?_⟩
      · subst h; simp at hlen; omega
      · have hn : r ≠ [] := by intro h; subst h; simp at hlen; omega
        have := (top_law (l := r) (o := nxP 0 t) hd.2 (by rw [e0]; omega) hn).1
        rw [this, e0, tv]
        unfold pEarly
        rw [hq.1, Bool.eq_iff_iff, decide_eq_true_eq, Bool.not_eq_true', decide_eq_false_iff_not]; omega
      · subst h1
        unfold pEarly
        rw [decide_eq_false]
        rw [Int.pow_one] at h1
        have : v * v ≤ 65535 * 65535 := Int.mul_le_mul (by omega) (by omega) h0 (by decide)
        generalize v * v = P at this ⊢
        omega
      · subst h1; exact List.length_eq_zero_iff.1 (by omega)
      · unfold pEarly at he
        rw [hq.1, decide_eq_false_iff_not] at he
        refine out (fun hn => ?_) (by omega) up
        have := (top_law (l := r) (o := nxP 0 t) hd.2 (by rw [e0]; omega) hn).1
        rw [this, e0, tv, decide_eq_true (by omega)]

end Go.Ar

/- The contracts of package span and of what compares with it, as data. No program. -/
namespace Go.Ar
open Go Go.Eng
noncomputable section

def shS : Sh := .a [.i .i64, .i .i64]
def outS (s : Sp) : Tm := .u [.a [.n .i64 s.lo, .n .i64 s.hi], .n .i64 s.e]
def sBin (F : Int → Int → Int → Int → Sp) : PSpec := numSpec [shS, shS] none fun
  | [.n a, .n b, .n c, .n d] => outS (F a b c d)
  | _ => .u []
def sUn (F : Int → Int → Sp) : PSpec := numSpec [shS] none fun
  | [.n a, .n b] => outS (F a b)
  | _ => .u []
def sSc (F : Int → Int → Int → Int → Sp) : PSpec := numSpec [shS, .i .i64, .i .i64] none fun
  | [.n a, .n b, .n n, .n d] => outS (F a b n d)
  | _ => .u []
def chkS (a b : Int) : Int := bif okSp a b then 0 else 20
def sChk : PSpec := numSpec [shS] none fun
  | [.n a, .n b] => .n .i64 (chkS a b)
  | _ => .u []
def sPow : PSpec := numSpec [.i .i64, .c (.int false .i64 2)] (some fun
  | [.n v] => okF v
  | _ => false) fun
  | [.n v] => .u [.n .i64 (sqD v), .n .i64 (sqU v), .n .i64 (sqE v)]
  | _ => .u []

/-! ### What the references do -/

def ovFit (a n d : Int) : Bool := decide (a * n / d ≤ 4503599627370496)
def sOver : PSpec := numSpec [.i .u64, .i .u64, .i .u64] (some fun
  | [.n a, .n n, .n d] => decide (0 ≤ a ∧ a < 18446744073709551616 ∧ 0 ≤ n ∧ n ≤ 4611686018427387904 ∧ 1 ≤ d ∧ d ≤ 4611686018427387904)
  | _ => false) fun
  | [.n a, .n n, .n d] => .u [.n .u64 (bif !ovFit a n d then 0 else a * n / d), .t (bif !ovFit a n d then false else decide (a * n % d > 0)), .t (bif !ovFit a n d then false else true)]
  | _ => .u []

def sRMul (up : Bool) : PSpec := numSpec [.i .i64, .i .i64, .c (.bool false up)] (some fun
  | [.n a, .n b] => okF a && okF b
  | _ => false) fun
  | [.n a, .n b] => .u [.n .i64 (fitV (mF a b up)), .t (okF (mF a b up))]
  | _ => .u []
def sRDiv (up : Bool) : PSpec := numSpec [.i .i64, .i .i64, .c (.bool false up)] (some fun
  | [.n a, .n b] => okF a && (okF b && !(b == 0))
  | _ => false) fun
  | [.n a, .n b] => .u [.n .i64 (fitV (dF a b up)), .t (okF (dF a b up))]
  | _ => .u []
def sRSqrt (up : Bool) : PSpec := numSpec [.i .i64, .c (.bool false up)] (some fun
  | [.n a] => sqOk a
  | _ => false) fun
  | [.n a] => .n .i64 (rtV a up)
  | _ => .u []
def sRScale (up : Bool) : PSpec := numSpec [.i .i64, .i .i64, .i .i64] none fun
  | [.n a, .n n, .n d] => two (scaleV a n d up) (scaleE a n d up)
  | _ => .u []

def sRPow (up : Bool) : PSpec := numSpec [.i .i64, .c (.int false .i64 2), .c (.bool false up)] (some fun
  | [.n v] => decide (0 ≤ v) && okF v
  | _ => false) fun
  | [.n v] => .u [.n .i64 (pV v up), .t (pB v up)]
  | _ => .u []

/-- One contract or another. -/
def orS (s t : PSpec) : PSpec := fun args => match s args with
  | some x => some x
  | none => t args
theorem orS_ok {P : Program} {f : FuncId} {s t : PSpec} (hs : PureOk P f s) (ht : PureOk P f t) : PureOk P f (orS s t) := by
  refine ⟨hs.fn, fun args nd v e => ?_⟩
  unfold orS at e
  split at e
  · rename_i x hx
    cases e
    exact hs.run args nd v hx
  · exact ht.run args nd v e

end
end Go.Ar

/- What is proved: contracts of package span, at this seat. No conditions. -/
namespace Go.Proofs.YtkeognjggnmgmaaGreatDoor.K
open Go Go.Eng Go.Ar
noncomputable section

theorem chk_run (a b : Int) : oneV ((run c2 300).call 28 [.agg [.int true .i64 a, .int true .i64 b]] ⟨[], 0, 1⟩) = some (.tt, .int true .i64 (xCS a b)) := by kernel_rfl
theorem add_run (a b c d : Int) : oneV ((run c2 300).call 52 [.agg [.int true .i64 a, .int true .i64 b], .agg [.int true .i64 c, .int true .i64 d]] ⟨[], 0, 1⟩) = some (.tt, (outS (xAddS a b c d)).av true) := by kernel_rfl
theorem sub_run (a b c d : Int) : oneV ((run c2 300).call 51 [.agg [.int true .i64 a, .int true .i64 b], .agg [.int true .i64 c, .int true .i64 d]] ⟨[], 0, 1⟩) = some (.tt, (outS (xSubS a b c d)).av true) := by kernel_rfl
theorem mul_run (a b c d : Int) : oneV ((run c2 300).call 145 [.agg [.int true .i64 a, .int true .i64 b], .agg [.int true .i64 c, .int true .i64 d]] ⟨[], 0, 1⟩) = some (.tt, (outS (xMulS a b c d)).av true) := by kernel_rfl
theorem sdiv_run (a b c d : Int) : oneV ((run c2 300).call 198 [.agg [.int true .i64 a, .int true .i64 b], .agg [.int true .i64 c, .int true .i64 d]] ⟨[], 0, 1⟩) = some (.tt, (outS (xDivS a b c d)).av true) := by kernel_rfl
theorem sqrt_run (a b : Int) : oneV ((run c2 300).call 197 [.agg [.int true .i64 a, .int true .i64 b]] ⟨[], 0, 1⟩) = some (.tt, (outS (xSqrtS a b)).av true) := by kernel_rfl
theorem scale_run (a b n d : Int) : oneV ((run c2 300).call 236 [.agg [.int true .i64 a, .int true .i64 b], .int true .i64 n, .int true .i64 d] ⟨[], 0, 1⟩) = some (.tt, (outS (xScaleS a b n d)).av true) := by kernel_rfl
theorem pow_run (v : Int) : oneV ((run c2 300).call 158 [.int true .i64 v, .int false .i64 2] ⟨[], 0, 1⟩) = some (.p (pwN v), .tuple [.int true .i64 (pwD v), .int true .i64 (pwU v), .int true .i64 (pwE v)]) := by kernel_rfl

theorem pow_ok : PureOk Tryz.prog 158 sPow := by
  refine num_ok (fun xs hk hN => ?_) ⟨_, Tryz.func158, rfl⟩
  obtain ⟨v, _, rfl, h1⟩ := kn hk; obtain rfl := k0 h1
  obtain ⟨e1, e2, e3, hn⟩ := pw_law hN
  have := pow_run v
  rw [e1, e2, e3] at this
  exact ⟨c2, 300, _, c2_ok, rfl, fun _ => rfl, rfl, this, hn⟩

noncomputable def tbl3 : List (FuncId × PSpec) := (158, sPow) :: tbl2
theorem tbl3_ok : TblOk Tryz.prog tbl3 := fun x hx => by
  rcases List.mem_cons.1 hx with rfl | hx
  · exact pow_ok
  · exact tbl2_ok x hx
noncomputable def c3 : Ctx := mkC Tryz.prog tbl3 ext
theorem c3_ok : CtxOk c3 := mkC_ok prog_ok tbl3_ok ext_ok
theorem sqr_run (a b : Int) : oneV ((run c3 300).call 69 [.agg [.int true .i64 a, .int true .i64 b]] ⟨[], 0, 1⟩) = some (.p (xSqrN a b), (outS (xSqrS a b)).av true) := by kernel_rfl

theorem schk_ok : PureOk Tryz.prog 28 sChk := by
  refine num_ok (fun xs hk _ => ?_) ⟨_, Tryz.func28, rfl⟩
  obtain ⟨a, _, rfl, h1⟩ := kn hk; obtain ⟨b, _, rfl, h2⟩ := kn h1; obtain rfl := k0 h2
  have := chk_run a b
  rw [xCS_eq] at this
  exact ⟨c2, 300, _, c2_ok, rfl, fun _ => rfl, rfl, this, trivial⟩
theorem sadd_ok : PureOk Tryz.prog 52 (sBin addS) := by
  refine num_ok (fun xs hk _ => ?_) ⟨_, Tryz.func52, rfl⟩
  obtain ⟨a, _, rfl, h1⟩ := kn hk; obtain ⟨b, _, rfl, h2⟩ := kn h1; obtain ⟨c, _, rfl, h3⟩ := kn h2; obtain ⟨d, _, rfl, h4⟩ := kn h3; obtain rfl := k0 h4
  exact ⟨c2, 300, _, c2_ok, rfl, fun _ => rfl, rfl, (add_run a b c d).trans (by rw [xAddS_eq]), trivial⟩
theorem ssub_ok : PureOk Tryz.prog 51 (sBin subS) := by
  refine num_ok (fun xs hk _ => ?_) ⟨_, Tryz.func51, rfl⟩
  obtain ⟨a, _, rfl, h1⟩ := kn hk; obtain ⟨b, _, rfl, h2⟩ := kn h1; obtain ⟨c, _, rfl, h3⟩ := kn h2; obtain ⟨d, _, rfl, h4⟩ := kn h3; obtain rfl := k0 h4
  exact ⟨c2, 300, _, c2_ok, rfl, fun _ => rfl, rfl, (sub_run a b c d).trans (by rw [xSubS_eq]), trivial⟩
theorem smul_ok : PureOk Tryz.prog 145 (sBin mulS) := by
  refine num_ok (fun xs hk _ => ?_) ⟨_, Tryz.func145, rfl⟩
  obtain ⟨a, _, rfl, h1⟩ := kn hk; obtain ⟨b, _, rfl, h2⟩ := kn h1; obtain ⟨c, _, rfl, h3⟩ := kn h2; obtain ⟨d, _, rfl, h4⟩ := kn h3; obtain rfl := k0 h4
  exact ⟨c2, 300, _, c2_ok, rfl, fun _ => rfl, rfl, (mul_run a b c d).trans (by rw [xMulS_eq]), trivial⟩
theorem sdiv_ok : PureOk Tryz.prog 198 (sBin divS) := by
  refine num_ok (fun xs hk _ => ?_) ⟨_, Tryz.func198, rfl⟩
  obtain ⟨a, _, rfl, h1⟩ := kn hk; obtain ⟨b, _, rfl, h2⟩ := kn h1; obtain ⟨c, _, rfl, h3⟩ := kn h2; obtain ⟨d, _, rfl, h4⟩ := kn h3; obtain rfl := k0 h4
  exact ⟨c2, 300, _, c2_ok, rfl, fun _ => rfl, rfl, (sdiv_run a b c d).trans (by rw [xDivS_eq]), trivial⟩
theorem ssqrt_ok : PureOk Tryz.prog 197 (sUn sqrtS) := by
  refine num_ok (fun xs hk _ => ?_) ⟨_, Tryz.func197, rfl⟩
  obtain ⟨a, _, rfl, h1⟩ := kn hk; obtain ⟨b, _, rfl, h2⟩ := kn h1; obtain rfl := k0 h2
  exact ⟨c2, 300, _, c2_ok, rfl, fun _ => rfl, rfl, (sqrt_run a b).trans (by rw [xSqrtS_eq]), trivial⟩
theorem ssqr_ok : PureOk Tryz.prog 69 (sUn sqrS) := by
  refine num_ok (fun xs hk _ => ?_) ⟨_, Tryz.func69, rfl⟩
  obtain ⟨a, _, rfl, h1⟩ := kn hk; obtain ⟨b, _, rfl, h2⟩ := kn h1; obtain rfl := k0 h2
  exact ⟨c3, 300, _, c3_ok, rfl, fun _ => rfl, rfl, (sqr_run a b).trans (by rw [xSqrS_eq]), xSqrN_all a b⟩
/-- (As the text has it: far above the limits it differs from scaleS.) -/
theorem sscale_ok : PureOk Tryz.prog 236 (sSc xScaleS) := by
  refine num_ok (fun xs hk _ => ?_) ⟨_, Tryz.func236, rfl⟩
  obtain ⟨a, _, rfl, h1⟩ := kn hk; obtain ⟨b, _, rfl, h2⟩ := kn h1; obtain ⟨n, _, rfl, h3⟩ := kn h2; obtain ⟨d, _, rfl, h4⟩ := kn h3; obtain rfl := k0 h4
  exact ⟨c2, 300, _, c2_ok, rfl, fun _ => rfl, rfl, scale_run a b n d, trivial⟩

end
end Go.Proofs.YtkeognjggnmgmaaGreatDoor.K

/- Package-level variables that are arrays of arrays or structs of plain numbers. -/
namespace Go.Eng
open Go

theorem chunks {f : Int → Value} {m : Nat} : ∀ (rs : List (List Int)) (cs : List Value), cs.length = rs.length * m → (∀ i x, rs[i]? = some x → (cs.drop (i * m)).take m = x.map f) → cs = rs.flatten.map f
  | [], cs, hl, _ => by
    simp at hl
    rw [hl]; rfl
  | r :: rs, cs, hl, h => by
    have h0 := h 0 r rfl
    simp only [Nat.zero_mul, List.drop_zero] at h0
    have ih := chunks (f := f) (m := m) rs (cs.drop m) (by simp only [List.length_drop, hl, List.length_cons, Nat.add_mul]; omega) (fun i x hx => by
      have := h (i + 1) x hx
      rw [Nat.add_mul, Nat.one_mul] at this
      rw [List.drop_drop, Nat.add_comm]; exact this)
    rw [List.flatten_cons, List.map_append, ← h0, ← ih, List.take_append_drop]

/-- An array of things of which each is so many numbers. -/
theorem arr_deep {P : Program} {w : World} {t e n m : Nat} {k : IntKind} (rs : List (DataW Unit × List Int)) (ht : P.underlying t = some (.array n e)) (ce : P.cellsOf e = m) (cn : P.cellsOf t = n * m) (hn : rs.length = n)
    (hr : ∀ x ∈ rs, ∀ fuel cs p, DataW.trod (fun _ => ()) P w 0 (fun _ => true) false fuel e cs = some (x.1, p) → cs = x.2.map (Value.int k)) {fuel : Nat} {cs : List Value} {p : List MemPlace}
    (h : DataW.trod (fun _ => ()) P w 0 (fun _ => true) false fuel t cs = some (.agg (rs.map (·.1)), p)) : cs = (rs.map (·.2)).flatten.map (Value.int k) := by
  obtain ⟨xs, _, _, hx, hl, hxl, hf⟩ := DataW.trod_array ht h
  obtain ⟨hx1, _⟩ := Prod.mk.inj hx
  injection hx1 with hx1
  rw [cn] at hl
  refine chunks (m := m) _ _ (by rw [hl, List.length_map, hn]) fun i x hx => ?_
  rw [List.getElem?_map] at hx
  cases hz : rs[i]? with
  | none => rw [hz] at hx; cases hx
  | some y =>
    rw [hz] at hx
    cases hx
    have hi : i < n := by rw [← hn]; exact (List.getElem?_eq_some_iff.1 hz).1
    have h1 := hf i hi
    rw [ce, List.getElem?_eq_getElem (by omega)] at h1
    have h3 := congrArg (fun l => l[i]?) hx1
    simp only [List.getElem?_map, List.getElem?_eq_getElem (show i < xs.length by omega), hz, Option.map_some, Option.some.injEq] at h3
    refine hr y (List.mem_of_getElem? hz) _ _ xs[i].2 (h1.trans ?_)
    exact congrArg some (Prod.ext h3.symm rfl)

end Go.Eng

/- What is proved: of AperKnown: the package-level variables and the functions without a body. No conditions. -/
namespace Go.Proofs.YtkeognjggnmgmaaGreatDoor
open Go Go.Eng

theorem all_names : (Tryz.prog.funcs.toList.all fun fn => !(fn.name == "runtime.NumGoroutine")) = true := by kernel_rfl

theorem prog_ok : ProgOk Tryz.prog := by
  refine ⟨fun f fn h _ => ?_, by kernel_rfl⟩
  have h1 : fn ∈ Tryz.prog.funcs.toList := by
    rw [Array.mem_toList_iff]
    exact Array.mem_of_getElem? h
  have := List.all_eq_true.1 all_names fn h1
  simpa using this

/-- math/bits.Add64, at plain numbers. -/
def ext (f : FuncId) (args : List AV) : Option (Nd × AV) :=
  match Nat.beq f 251 with
  | true => match args with
    | [.int false .u64 x, .int false .u64 y, .int false .u64 c] => match decide (0 ≤ x ∧ 0 ≤ y ∧ 0 ≤ c ∧ c ≤ 1) with
      | true => some (.tt, .tuple [mkInt false .u64 ((x + y + c) % 18446744073709551616), mkInt false .u64 ((x + y + c) / 18446744073709551616)])
      | false => none
    | _ => none
  | false => none

theorem add64_run (x y c : Int) (hx : 0 ≤ x) (hy : 0 ≤ y) (hc0 : 0 ≤ c) (hc : c ≤ 1) (w : World) :
    (callFunc 251 #[.int .u64 x, .int .u64 y, .int .u64 c]).run Tryz.prog w = .ok (.value (.tuple #[.int .u64 ((x + y + c) % 18446744073709551616), .int .u64 ((x + y + c) / 18446744073709551616)])) w := by
  rw [run_callFunc_extern Tryz.func251 (by kernel_rfl) (by kernel_rfl) (by kernel_rfl) (e := add64Entry) (by kernel_rfl), run_add64 x y c hx hy hc0 hc]
  rfl

theorem ext_ok : ExtOk Tryz.prog ext := by
  intro f args nd v e hn σ A W ha
  unfold ext at e
  split at e
  · rename_i hf
    have := Nat.eq_of_beq_eq_true hf
    subst this
    split at e
    · rename_i x y c
      split at e
      · rename_i hd
        have hd := of_decide_eq_true hd
        cases e
        obtain ⟨V, L, hL, rfl, V2, L2, hL2, rfl, V3, L3, hL3, rfl, hL4⟩ := ha
        rw [hL2, hL3, show L3 = [] from hL4] at hL
        have hA : A = #[.int .u64 x, .int .u64 y, .int .u64 c] := by
          apply Array.toList_inj.1; simpa using hL
        subst hA
        exact ⟨_, ⟨_, rfl, _, _, rfl, (mkInt_rel _ _ _ _).2 rfl, _, _, rfl, (mkInt_rel _ _ _ _).2 rfl, rfl⟩, add64_run x y c hd.1 hd.2.1 hd.2.2.1 hd.2.2.2 W⟩
      · cases e
    · cases e
  · cases e

def gl : List (Nat × IntKind × List Int) := [(3, .i64, [4294967296, 4294967296]), (2, .u64, [1, 10, 100, 1000, 10000, 100000, 1000000, 10000000, 100000000, 1000000000, 10000000000, 100000000000, 1000000000000]), (0, .i64, [1000000000000, 4294967296])]
def glob (g : Nat) : Option Nat :=
  match Nat.beq g 0 with
  | true => some 0
  | false => match Nat.beq g 2 with
    | true => some 1
    | false => match Nat.beq g 3 with
      | true => some 2
      | false => none
def hG : Hp := ⟨[⟨0, .cells [.int false .i64 4294967296, .int false .i64 4294967296]⟩, ⟨0, .cells [.int false .u64 1, .int false .u64 10, .int false .u64 100, .int false .u64 1000, .int false .u64 10000, .int false .u64 100000, .int false .u64 1000000, .int false .u64 10000000, .int false .u64 100000000, .int false .u64 1000000000, .int false .u64 10000000000, .int false .u64 100000000000, .int false .u64 1000000000000]⟩, ⟨0, .cells [.int false .i64 1000000000000, .int false .i64 4294967296]⟩], 3, 1⟩
theorem hG_eq : hG = ⟨intBlks gl, gl.length, 1⟩ := rfl
theorem glob_lt : ∀ g i, glob g = some i → i < hG.size := by
  intro g i h
  unfold glob at h
  repeat' (split at h; · cases h; decide)
  cases h

theorem known {tbl : List (FuncId × List AV × AV)} (ht : ∀ x ∈ tbl, MemoOk Tryz.prog glob hG x) {f : FuncId} {args : List AV} {v : AV} (ha : AV.underL 3 args = true) (hv : v.under 3 = true)
    (e : memoV 3 1 ((run (mkM Tryz.prog glob hG tbl ext) 3000).call f args hG) = some v) : MemoOk Tryz.prog glob hG (f, args, v) :=
  memo_ok prog_ok ext_ok ht rfl (by kernel_rfl) glob_lt ha hv e

theorem none_known : ∀ x ∈ ([] : List (FuncId × List AV × AV)), MemoOk Tryz.prog glob hG x := fun _ h => by cases h

theorem more {x : FuncId × List AV × AV} {l : List (FuncId × List AV × AV)} (h : MemoOk Tryz.prog glob hG x) (k : ∀ y ∈ l, MemoOk Tryz.prog glob hG y) : ∀ y ∈ x :: l, MemoOk Tryz.prog glob hG y := fun y hy => by
  rcases List.mem_cons.1 hy with rfl | hy
  · exact h
  · exact k y hy

def laidL : List (String × DataW Unit) := [("monocle/fix.powers", Rows.laid_monocle_fix_powers), ("monocle/surface.one", Rows.laid_monocle_surface_one), ("monocle/surface.places", Rows.laid_monocle_surface_places), ("monocle/aper.units", Rows.laid_monocle_aper_units)]

theorem of_laid {W : World} (h : laidMetH Tryz.prog laidL W) : ∃ σ : Sg, (∀ gl i, glob gl = some i → ∃ N, σ i = some (gl, N)) ∧ HRel σ hG W := by
  have hl : (laidL.all fun x => x.2.handleName?.isNone) = true := by kernel_rfl
  obtain ⟨cs0, e0, n0, p0, h0, d0⟩ := laid_cells h hl (n := "monocle/aper.units") (.tail _ (.tail _ (.tail _ (.head _)))) (g := 0) (t := 36) (by kernel_rfl) (by kernel_rfl) (of_decide_eq_true (by kernel_rfl)) (trod_len_arr Tryz.underlying36)
  have q0 := arr_ints (k := .i64) (ns := [1000000000000, 4294967296]) Tryz.underlying36 Tryz.underlying3 (by kernel_rfl) (by kernel_rfl) rfl d0
  obtain ⟨cs1, e1, n1, p1, h1, d1⟩ := laid_cells h hl (n := "monocle/fix.powers") (.head _) (g := 2) (t := 216) (by kernel_rfl) (by kernel_rfl) (of_decide_eq_true (by kernel_rfl)) (trod_len_arr Tryz.underlying216)
  have q1 := arr_ints (k := .u64) (ns := [1, 10, 100, 1000, 10000, 100000, 1000000, 10000000, 100000000, 1000000000, 10000000000, 100000000000, 1000000000000]) Tryz.underlying216 Tryz.underlying180 (by kernel_rfl) (by kernel_rfl) rfl d1
  obtain ⟨cs2, e2, n2, p2, h2, d2⟩ := laid_cells h hl (n := "monocle/surface.one") (.tail _ (.head _)) (g := 3) (t := 32) (by kernel_rfl) (by kernel_rfl) (of_decide_eq_true (by kernel_rfl)) (trod_len_struct Tryz.underlying32)
  have q2 := two_ints (k := .i64) Tryz.underlying32 rfl rfl rfl rfl Tryz.underlying3 (by kernel_rfl) (by kernel_rfl) d2
  refine ⟨intSg gl, fun g i hg => ?_, hG_eq ▸ int_rel (by decide) fun x hx => ?_⟩
  · unfold glob at hg
    split at hg
    · rename_i hb; cases hg; rw [Nat.eq_of_beq_eq_true hb]; exact ⟨_, rfl⟩
    · split at hg
      · rename_i hb; cases hg; rw [Nat.eq_of_beq_eq_true hb]; exact ⟨_, rfl⟩
      · split at hg
        · rename_i hb; cases hg; rw [Nat.eq_of_beq_eq_true hb]; exact ⟨_, rfl⟩
        · cases hg
  · simp only [gl, List.mem_cons, List.not_mem_nil, or_false] at hx
    rcases hx with rfl | rfl | rfl
    · exact ⟨cs2, e2, h2, q2⟩
    · exact ⟨cs1, e1, h1, q1⟩
    · exact ⟨cs0, e0, h0, q0⟩

end Go.Proofs.YtkeognjggnmgmaaGreatDoor

/- What is proved: a context for the laws of surfaces, at this seat. No conditions. -/
namespace Go.Proofs.YtkeognjggnmgmaaGreatDoor.K
open Go Go.Eng Go.Ar
noncomputable section

noncomputable def tblP : List (FuncId × PSpec) := [(28, sChk), (52, sBin addS), (51, sBin subS), (145, sBin mulS), (198, sBin divS), (69, sUn sqrS), (197, sUn sqrtS), (236, sSc xScaleS)]
theorem tblP_ok : TblOk Tryz.prog tblP := by
  intro x hx
  simp only [tblP, List.mem_cons, List.not_mem_nil, or_false] at hx
  rcases hx with rfl | rfl | rfl | rfl | rfl | rfl | rfl | rfl
  · exact schk_ok
  · exact sadd_ok
  · exact ssub_ok
  · exact smul_ok
  · exact sdiv_ok
  · exact ssqr_ok
  · exact ssqrt_ok
  · exact sscale_ok
theorem tblP_g : ∀ x ∈ tblP, GOk Tryz.prog glob hG x.1 x.2 := fun x hx => (tblP_ok x hx).g glob hG
noncomputable def cS : Ctx := mkG Tryz.prog glob hG tblP ext
theorem cS_ok : CtxOk cS := mkG_ok prog_ok ext_ok tblP_g
theorem hG_plain : blksPlain hG.size hG.blks = true := by kernel_rfl

def z64 : Sh := .c (.int false .i64 0)
/-- The cells of a standard surface without asphere, phase, glass and coating. -/
def stdSh : Sh := .a [.c (.int false .i64 1), .i .i64, .i .i64, z64, z64, z64, z64, z64, z64, z64, z64, z64, z64, .c (.str false ⟨#[]⟩), z64, z64, z64, z64, z64, z64, z64, .c .nilslice]
/-- Those of a biconic one. -/
def bicSh : Sh := .a [.c (.int false .i64 2), .i .i64, .i .i64, .i .i64, .i .i64, z64, z64, z64, z64, z64, z64, z64, z64, .c (.str false ⟨#[]⟩), z64, z64, z64, z64, z64, z64, z64, .c .nilslice]

def okC (c k : Int) : Bool := decide (-1000000000 ≤ c) && decide (c ≤ 1000000000) && (decide (-100000000 ≤ k) && decide (k ≤ 100000000))
def eqT (c k : Int) : Bool := c == c && (k == k && true)
def xChkE (c k : Int) : Int := bif !decide ((bif bif decide (c < -1000000000) then true else decide (c > 1000000000) then 0 else -1 : Int) ≥ 0) then (bif !decide ((bif bif decide (k < -100000000) then true else decide (k > 100000000) then 0 else -1 : Int) ≥ 0) then 0 else 110) else 110

end
end Go.Proofs.YtkeognjggnmgmaaGreatDoor.K

/- What is proved: contracts of package span that answer where there is no error; surface.Check of plain surfaces, at this seat. No conditions. -/
namespace Go.Proofs.YtkeognjggnmgmaaGreatDoor.K
open Go Go.Eng Go.Ar
noncomputable section

def goodV (s : Sp) : AV := .tuple [.agg [.int true .i64 s.lo, .int true .i64 s.hi], .int false .i64 0]
def good4 (ss : List Sh) (F : Int → Int → Int → Int → Sp) : PSpec := fun args => match Sh.readL ss args with
  | some (_, [.n a, .n b, .n c, .n d]) => some (.p ((F a b c d).e = 0), goodV (F a b c d))
  | _ => none
def good2 (ss : List Sh) (F : Int → Int → Sp) : PSpec := fun args => match Sh.readL ss args with
  | some (_, [.n a, .n b]) => some (.p ((F a b).e = 0), goodV (F a b))
  | _ => none

theorem outS_good {σ : Sg} {s : Bool} {x : Sp} {W : Value} (h : VRel σ ((outS x).av s) W) (he : x.e = 0) : VRel σ (goodV x) W := by
  obtain ⟨K, rfl, h1⟩ := h
  obtain ⟨V1, L1, e1, h2, h3⟩ := h1
  obtain ⟨V2, L2, e2, h4, h5⟩ := h3
  obtain ⟨K1, rfl, h6⟩ := h2
  obtain ⟨V3, L3, e3, h7, h8⟩ := h6
  obtain ⟨V4, L4, e4, h9, h10⟩ := h8
  have h4 := (Go.Eng.mkInt_rel _ _ _ _).1 h4
  have h7 := (Go.Eng.mkInt_rel _ _ _ _).1 h7
  have h9 := (Go.Eng.mkInt_rel _ _ _ _).1 h9
  rw [he] at h4
  exact ⟨K, rfl, _, L1, e1, ⟨K1, rfl, V3, L3, e3, h7, V4, L4, e4, h9, h10⟩, V2, L2, e2, h4, h5⟩

theorem good_bin {f : FuncId} {F : Int → Int → Int → Int → Sp} (g : PureOk Tryz.prog f (sBin F)) : GOk Tryz.prog glob hG f (good4 [shS, shS] F) := by
  refine (g.g glob hG).weaken fun args nd v e => ?_
  unfold good4 at e
  split at e
  · rename_i s a b c d hr
    cases e
    refine ⟨.tt, (outS (F a b c d)).av s, ?_, fun hn => ⟨trivial, fun σ W hW => outS_good hW hn⟩⟩
    unfold sBin numSpec
    rw [hr]
  · cases e
theorem good_sc {f : FuncId} {F : Int → Int → Int → Int → Sp} (g : PureOk Tryz.prog f (sSc F)) : GOk Tryz.prog glob hG f (good4 [shS, .i .i64, .i .i64] F) := by
  refine (g.g glob hG).weaken fun args nd v e => ?_
  unfold good4 at e
  split at e
  · rename_i s a b c d hr
    cases e
    refine ⟨.tt, (outS (F a b c d)).av s, ?_, fun hn => ⟨trivial, fun σ W hW => outS_good hW hn⟩⟩
    unfold sSc numSpec
    rw [hr]
  · cases e
theorem good_un {f : FuncId} {F : Int → Int → Sp} (g : PureOk Tryz.prog f (sUn F)) : GOk Tryz.prog glob hG f (good2 [shS] F) := by
  refine (g.g glob hG).weaken fun args nd v e => ?_
  unfold good2 at e
  split at e
  · rename_i s a b hr
    cases e
    refine ⟨.tt, (outS (F a b)).av s, ?_, fun hn => ⟨trivial, fun σ W hW => outS_good hW hn⟩⟩
    unfold sUn numSpec
    rw [hr]
  · cases e

/-- span.Check where it finds nothing. -/
def nOkSp : List Nu → Bool
  | [.n a, .n b] => okSp a b
  | _ => false
def chkSpec : PSpec := fun args => match Sh.readL [shS] args with
  | some (_, [.n a, .n b]) => some (.p (okSp a b = true), .int false .i64 0)
  | _ => none
theorem chk_of {f : FuncId} (g : GOk Tryz.prog glob hG f (constSpec [shS] nOkSp (.int false .i64 0))) : GOk Tryz.prog glob hG f chkSpec := by
  refine g.weaken fun args nd v e => ?_
  unfold chkSpec at e
  split at e
  · rename_i s a b hr
    cases e
    refine ⟨.p (nOkSp [.n a, .n b] = true), .int false .i64 0, ?_, fun hn => ⟨hn, fun σ W hW => hW⟩⟩
    unfold constSpec
    rw [hr]
  · cases e
theorem chk0 : GOk Tryz.prog glob hG 28 chkSpec := chk_of <|
  const_of (schk_ok.g glob hG) fun xs hk hn => by
    obtain ⟨a, _, rfl, h1⟩ := kn hk; obtain ⟨b, _, rfl, h2⟩ := kn h1; obtain rfl := k0 h2
    show Tm.n IntKind.i64 (chkS a b) = _
    unfold chkS
    rw [show okSp a b = true from hn]; rfl

def tblGood : List (FuncId × PSpec) := [(28, chkSpec), (52, good4 [shS, shS] addS), (51, good4 [shS, shS] subS), (145, good4 [shS, shS] mulS), (198, good4 [shS, shS] divS), (69, good2 [shS] sqrS), (197, good2 [shS] sqrtS), (236, good4 [shS, .i .i64, .i .i64] xScaleS)]
theorem tblGood_g : ∀ x ∈ tblGood, GOk Tryz.prog glob hG x.1 x.2 := by
  intro x hx
  simp only [tblGood, List.mem_cons, List.not_mem_nil, or_false] at hx
  rcases hx with rfl | rfl | rfl | rfl | rfl | rfl | rfl | rfl
  · exact chk0
  · exact good_bin sadd_ok
  · exact good_bin ssub_ok
  · exact good_bin smul_ok
  · exact good_bin sdiv_ok
  · exact good_un ssqr_ok
  · exact good_un ssqrt_ok
  · exact good_sc sscale_ok

end
end Go.Proofs.YtkeognjggnmgmaaGreatDoor.K

/- Contracts that look at a list of numbers behind the first argument (its last cell). -/
namespace Go.Eng
open Go
noncomputable section

abbrev HSpec := List AV → Hp → Option (Nd × AV)

structure HOk (P : Program) (glob : Nat → Option Nat) (hG : Hp) (f : FuncId) (spec : HSpec) : Prop where
  call : ∀ args nd v h, spec args h = some (nd, v) → globsSame hG h hG.size = true → CallOk (mkM P glob hG [] noExt) f args h ⟨nd, [⟨.tt, v, h⟩]⟩
  fn : ∃ fn : Func, P.funcs[f]? = some fn ∧ fn.body.isSome = true

def gH (s : PSpec) : HSpec := fun args _ => s args
theorem GOk.h {P : Program} {glob : Nat → Option Nat} {hG : Hp} {f : FuncId} {s : PSpec} (g : GOk P glob hG f s) : HOk P glob hG f (gH s) :=
  ⟨fun args nd v h e same => g.call args nd v e h same, g.fn⟩

def orH (s t : HSpec) : HSpec := fun args h => match s args h with
  | some x => some x
  | none => t args h
theorem orH_ok {P : Program} {glob : Nat → Option Nat} {hG : Hp} {f : FuncId} {s t : HSpec} (hs : HOk P glob hG f s) (ht : HOk P glob hG f t) : HOk P glob hG f (orH s t) := by
  refine ⟨fun args nd v h e => ?_, hs.fn⟩
  unfold orH at e
  split at e
  · rename_i x hx
    cases e
    exact hs.call args nd v h hx
  · exact ht.call args nd v h e

def conH (hG : Hp) : List (FuncId × HSpec) → FuncId → List AV → Hp → Option (Nd × AV × List ABody)
  | [], _, _, _ => none
  | (g, s) :: l, f, args, h => match Nat.beq f g with
    | true => match s args h with
      | some (nd, v) => match globsSame hG h hG.size with
        | true => some (nd, v, [])
        | false => none
      | none => conH hG l f args h
    | false => conH hG l f args h

theorem conH_some {hG : Hp} : ∀ {l : List (FuncId × HSpec)} {f : FuncId} {args : List AV} {h : Hp} {nd : Nd} {v : AV} {bs : List ABody}, conH hG l f args h = some (nd, v, bs) → bs = [] ∧ globsSame hG h hG.size = true ∧ ∃ s, (f, s) ∈ l ∧ s args h = some (nd, v)
  | [], f, args, h, nd, v, bs, e => by cases e
  | (g, s) :: l, f, args, h, nd, v, bs, e => by
    simp only [conH] at e
    split at e
    · rename_i hb
      have := Nat.eq_of_beq_eq_true hb
      subst this
      split at e
      · rename_i hs
        split at e
        · rename_i hg
          cases e
          exact ⟨rfl, hg, s, by simp, hs⟩
        · cases e
      · obtain ⟨h1, h2, s', h3, h4⟩ := conH_some e
        exact ⟨h1, h2, s', by simp [h3], h4⟩
    · obtain ⟨h1, h2, s', h3, h4⟩ := conH_some e
      exact ⟨h1, h2, s', by simp [h3], h4⟩

def mkH (P : Program) (glob : Nat → Option Nat) (hG : Hp) (tbl : List (FuncId × HSpec)) (ext : FuncId → List AV → Option (Nd × AV)) : Ctx := { P, glob, con := conH hG tbl, ext, loop := fun _ _ _ => none }

theorem mkH_ok {P : Program} {glob : Nat → Option Nat} {hG : Hp} (hp : ProgOk P) {tbl : List (FuncId × HSpec)} {ext : FuncId → List AV → Option (Nd × AV)} (he : ExtOk P ext) (ht : ∀ x ∈ tbl, HOk P glob hG x.1 x.2) : CtxOk (mkH P glob hG tbl ext) := by
  refine ⟨hp, fun f args h nd v bs e => ?_, he, fun _ _ _ _ e => (by cases e)⟩
  obtain ⟨rfl, hg, s, h1, h2⟩ := conH_some e
  have g := ht _ h1
  exact ⟨g.call args nd v h h2 hg, g.fn⟩

/-! ### One more block -/

def coatH (hG : Hp) (l : List AV) : Hp := hG.push0 (.grown l)

def Sg.plus (σ : Sg) (n id : Nat) : Sg := fun i => if i < n then σ i else if i = n then σ id else none

theorem Sg.low_plus (σ : Sg) (n id : Nat) : Sub (σ.low n) (σ.plus n id) := fun i x e => by
  unfold Sg.low at e
  unfold Sg.plus
  split at e
  · rename_i hi; rw [if_pos hi]; exact e
  · cases e

theorem extra_call {C : Ctx} (co : CtxOk C) {hG : Hp} (ok : hG.ok) (pl : blksPlain hG.size hG.blks = true) (hgl : ∀ g i, C.glob g = some i → i < hG.size) {n : Nat} {f : FuncId} {args args0 : List AV} {v : AV} {nd : Nd} (hv : v.under hG.size = true) {fc fc0 : List AV} (hfc : AV.underL hG.size fc0 = true)
    (e : oneG (hG.size + 1) hG.clock ((run C n).call f args0 (coatH hG fc0)) = some (nd, v)) (h : Hp) (same : globsSame hG h hG.size = true) {id w : Nat} (hid : h.get id = some ⟨w, .grown fc⟩) (hge : hG.size ≤ id)
    (hf : ∀ (σ : Sg) L, VRels σ fc L → VRels σ fc0 L) (hargs : ∀ (σ : Sg) L, VRels σ args L → VRels (σ.plus hG.size id) args0 L) : CallOk C f args h ⟨nd, [⟨.tt, v, h⟩]⟩ := by
  obtain ⟨k, h1, h2⟩ := oneG_some e
  obtain ⟨hc, hfn⟩ := (run_sound co n).call f args0 (coatH hG fc0) _ h1
  intro σ A W g r hA hn cs
  have gs := globsSame_get same
  have get0 : ∀ i c, (coatH hG fc0).get i = some c → (i = hG.size ∧ c = ⟨0, .grown fc0⟩) ∨ (i < hG.size ∧ hG.get i = some c) := by
    intro i c hg
    unfold coatH at hg
    rw [Hp.get_push0] at hg
    split at hg
    · rename_i hi; cases hg; exact .inl ⟨hi, rfl⟩
    · exact .inr ⟨Hp.get_lt hg, hg⟩
  obtain ⟨Bx, Nx, ox, x1, x2, x3⟩ := r.blk id _ hid rfl
  have sx : (σ.plus hG.size id) hG.size = some (Bx, Nx) := by unfold Sg.plus; rw [if_neg (Nat.lt_irrefl _), if_pos rfl]; exact x1
  have sl : ∀ i, i < hG.size → (σ.plus hG.size id) i = σ i := fun i hi => by unfold Sg.plus; rw [if_pos hi]
  have r0 : HRel (σ.plus hG.size id) (coatH hG fc0) W := by
    refine ⟨by have := ok; simp only [Hp.ok, coatH, Hp.push0, List.length_cons] at this ⊢; omega, fun i c hg hd => ?_, fun i B N e => ?_, fun i j b c B N M hb hc' hd hd' e1 e2 => ?_⟩
    · rcases get0 i c hg with ⟨rfl, rfl⟩ | ⟨hi, hg⟩
      · refine ⟨Bx, Nx, ox, sx, x2, ?_⟩
        obtain ⟨K, t, X, Y, y1, y2, y3, y4⟩ := x3
        exact ⟨K, t, X, Y, y1, y2, VRels.mono (Sg.low_plus σ _ id) _ _ (VRels.low _ _ (hf σ _ y3) hfc), y4⟩
      · obtain ⟨b, c', hb, hc', hbc⟩ := gs i hi
        rw [hg] at hc'; cases hc'
        obtain ⟨B, N, o, q1, q2, q3⟩ := r.blk i b hb (by rw [hbc]; exact hd)
        refine ⟨B, N, o, by rw [sl i hi]; exact q1, q2, ?_⟩
        rw [hbc] at q3
        exact (q3.low (blksPlain_mem pl c (get_mem hg))).mono (Sg.low_plus σ _ id)
    · unfold Sg.plus at e
      split at e
      · rename_i hi
        exact ⟨Nat.lt_succ_of_lt hi, (r.dom i B N e).2⟩
      · split at e
        · rename_i hi; subst hi
          exact ⟨Nat.lt_succ_self _, (r.dom id B N e).2⟩
        · cases e
    · rcases get0 i b hb with ⟨rfl, rfl⟩ | ⟨hi, hb⟩ <;> rcases get0 j c hc' with ⟨rfl, rfl⟩ | ⟨hj, hc'⟩
      · exact .inl rfl
      · exfalso
        obtain ⟨c1, c2, q1, q2, q3⟩ := gs j hj
        rw [hc'] at q2; cases q2
        rw [sx] at e1; cases e1
        rw [sl j hj] at e2
        rcases r.inj id j _ c1 _ _ M hid q1 rfl (by rw [q3]; exact hd') x1 e2 with h8 | ⟨h8, _⟩
        · omega
        · cases h8
      · exfalso
        obtain ⟨c1, c2, q1, q2, q3⟩ := gs i hi
        rw [hb] at q2; cases q2
        rw [sx] at e2; cases e2
        rw [sl i hi] at e1
        rcases r.inj i id c1 _ _ N _ q1 hid (by rw [q3]; exact hd) rfl e1 x1 with h8 | ⟨_, h8⟩
        · omega
        · cases h8
      · obtain ⟨b1, b2, p1, p2, p3⟩ := gs i hi
        obtain ⟨c1, c2, q1, q2, q3⟩ := gs j hj
        rw [hb] at p2; cases p2
        rw [hc'] at q2; cases q2
        rw [sl i hi] at e1
        rw [sl j hj] at e2
        have := r.inj i j b1 c1 B N M p1 q1 (by rw [p3]; exact hd) (by rw [q3]; exact hd') e1 e2
        rw [p3, q3] at this
        exact this
  have g0 : GRel C (σ.plus hG.size id) := fun gl i hgi => by
    obtain ⟨N, hN⟩ := g gl i hgi
    exact ⟨N, by rw [sl i (hgl gl i hgi)]; exact hN⟩
  obtain ⟨x, k1, τ, V, X, fr, k2, k3, k4, k5, k6⟩ := hc _ A W g0 r0 (hargs σ _ hA) hn cs
  have : x = ⟨.tt, v, k⟩ := by
    unfold OneC at k1
    simp [G.val] at k1
    exact k1.symm
  subst this
  have hq : Quiet W X := by
    refine ⟨k4.ext, fun B hB => k4.keep B hB (fun h => h) fun i N c e e2 => ?_⟩
    have hi := (r0.dom i B N e).1
    have e2 : k.get i = some c := e2
    have hlt := Hp.get_lt e2
    rw [Hp.get_eq, if_pos hlt] at e2
    refine allOld_mem h2 c ?_
    rw [dropN_eq]
    have : (k.blks.drop (k.size - (hG.size + 1)))[hG.size + 1 - 1 - i]? = some c := by
      rw [List.getElem?_drop, ← e2]
      congr 1
      have h9 : (coatH hG fc0).size ≤ k.size := k4.mon.size
      have h8 : (coatH hG fc0).size = hG.size + 1 := rfl
      omega
    exact List.mem_of_getElem? this
  obtain ⟨r1, g1⟩ := r.quiet hq
  refine ⟨⟨.tt, v, h⟩, rfl, σ, V, X, fr, ?_, r1, g1, k5, k6⟩
  have l1 := VRel.low _ _ k2 hv
  refine VRel.mono (fun i x hx => ?_) _ _ l1
  unfold Sg.low at hx
  split at hx
  · rename_i hi
    have := k4.only i x hx (Nat.lt_succ_of_lt hi)
    rw [sl i hi] at this
    exact this
  · cases hx

/-! ### Surfaces with films -/

def splitL : List AV → Option (List AV × AV)
  | [] => none
  | [a] => some ([], a)
  | a :: l => match splitL l with
    | none => none
    | some (i, z) => some (a :: i, z)

theorem splitL_eq : ∀ {l i : List AV} {z : AV}, splitL l = some (i, z) → l = i ++ [z]
  | [], _, _, e => by cases e
  | [a], i, z, e => by simp only [splitL, Option.some.injEq, Prod.mk.injEq] at e; rw [← e.1, ← e.2]; rfl
  | a :: b :: l, i, z, e => by
    simp only [splitL] at e
    split at e
    · cases e
    · rename_i i' z' h
      cases e
      rw [splitL_eq h]; rfl

def filmSh : Nat → List Sh
  | 0 => []
  | n + 1 => .i .i64 :: .i .i64 :: .i .i64 :: filmSh n

theorem rels_split {σ : Sg} : ∀ {l m : List AV} {L : List Value}, VRels σ (l ++ m) L → ∃ A B, L = A ++ B ∧ VRels σ l A ∧ VRels σ m B
  | [], m, L, h => ⟨[], L, rfl, rfl, h⟩
  | a :: l, m, L, h => by
    obtain ⟨v, vs, rfl, h1, h2⟩ := h
    obtain ⟨A, B, rfl, h3, h4⟩ := rels_split h2
    exact ⟨v :: A, B, rfl, ⟨v, A, rfl, h1, h3⟩, h4⟩

/-- A contract of a function of a surface with n films, and more. -/
def coatSpec (hG : Hp) (n : Nat) (sh shs : List Sh) (V : List Nu → List Nu → List Nu → Option (Prop × AV)) : HSpec := fun args h =>
  match args with
  | .agg cells :: rest => match splitL cells with
    | some (init, .gslice id off m z) => match Nat.beq m n && Nat.beq off 0 && Nat.beq z 3 && Nat.ble hG.size id with
      | true => match h.get id with
        | some ⟨_, .grown fc⟩ => match Sh.readL sh init with
          | some (_, xs) => match Sh.readL (filmSh n) fc with
            | some (_, ys) => match Sh.readL shs rest with
              | some (_, zs) => match V xs ys zs with
                | some (p, v) => some (.p p, v)
                | none => none
              | none => none
            | none => none
          | none => none
        | _ => none
      | false => none
    | _ => none
  | _ => none

theorem coat_ok {P : Program} {glob : Nat → Option Nat} {hG : Hp} (ok : hG.ok) (pl : blksPlain hG.size hG.blks = true) (hgl : ∀ g i, glob g = some i → i < hG.size) {f : FuncId} {n : Nat} {sh shs : List Sh} {V : List Nu → List Nu → List Nu → Option (Prop × AV)}
    (h : ∀ xs ys zs p v, V xs ys zs = some (p, v) → p → ∃ (C : Ctx) (m : Nat) (nd : Nd), CtxOk C ∧ C.P = P ∧ C.glob = glob ∧ AV.underL hG.size (Sh.mkL sh xs).1 = true ∧ AV.underL hG.size (Sh.mkL shs zs).1 = true ∧ AV.underL hG.size (Sh.mkL (filmSh n) ys).1 = true ∧ v.under hG.size = true ∧
      oneG (hG.size + 1) hG.clock ((run C m).call f (.agg ((Sh.mkL sh xs).1 ++ [.gslice hG.size 0 n 3]) :: (Sh.mkL shs zs).1) (coatH hG (Sh.mkL (filmSh n) ys).1)) = some (nd, v) ∧ nd.val)
    (fn : ∃ fn : Func, P.funcs[f]? = some fn ∧ fn.body.isSome = true) : HOk P glob hG f (coatSpec hG n sh shs V) := by
  refine ⟨fun args nd v hp e same => ?_, fn⟩
  unfold coatSpec at e
  split at e
  · rename_i cells rest
    split at e
    · rename_i init id off m z hs
      split at e
      · rename_i hb
        simp only [Bool.and_eq_true] at hb
        obtain ⟨⟨⟨b1, b2⟩, b3⟩, b4⟩ := hb
        have := Nat.eq_of_beq_eq_true b1; subst this
        have := Nat.eq_of_beq_eq_true b2; subst this
        have := Nat.eq_of_beq_eq_true b3; subst this
        have hge := Nat.le_of_ble_eq_true b4
        split at e
        · rename_i w fc hid
          split at e
          · rename_i s1 xs r1
            split at e
            · rename_i s2 ys r2
              split at e
              · rename_i s3 zs r3
                split at e
                · rename_i p v' hV
                  cases e
                  intro σ A W g r hA hn
                  obtain ⟨C, fuel, nd0, co, rfl, rfl, u1, u2, u3, hv, hrun, hn0⟩ := h xs ys zs p v hV hn
                  rw [splitL_eq hs] at hA
                  refine extra_call (C := C) co ok pl hgl hv u3 hrun hp same hid hge (fun σ L hL => ?_) (args := .agg (init ++ [.gslice id 0 m 3]) :: rest) (fun σ L hL => ?_) σ A W g r hA hn0
                  · have := (Sh.readL_mk (filmSh m) fc s2 ys [] r2).2 σ L hL
                    rwa [List.append_nil] at this
                  · obtain ⟨v0, vs, rfl, hv0, hvs⟩ := hL
                    obtain ⟨K, rfl, hK⟩ := hv0
                    obtain ⟨I, Z, hIZ, h1, h2⟩ := rels_split hK
                    obtain ⟨zv, zl, rfl, h3, h4⟩ := h2
                    obtain rfl : zl = [] := h4
                    obtain ⟨b, N, q, c, e1, rfl, e2, e3⟩ := h3
                    have h5 := (Sh.readL_mk sh init s1 xs [] r1).2 σ I h1
                    rw [List.append_nil] at h5
                    have h6 := VRels.mono (Sg.low_plus σ _ id) _ _ (VRels.low _ _ h5 u1)
                    have h7 := (Sh.readL_mk shs rest s3 zs [] r3).2 σ vs hvs
                    rw [List.append_nil] at h7
                    have h8 := VRels.mono (Sg.low_plus σ _ id) _ _ (VRels.low _ _ h7 u2)
                    refine ⟨_, vs, rfl, ⟨K, rfl, ?_⟩, h8⟩
                    rw [hIZ]
                    exact VRels.append h6 ⟨_, [], rfl, ⟨b, N, q, c, by unfold Sg.plus; rw [if_neg (Nat.lt_irrefl _), if_pos rfl]; exact e1, rfl, e2, e3⟩, rfl⟩
                · cases e
              · cases e
            · cases e
          · cases e
        · cases e
      · cases e
    · cases e
  · cases e

end
end Go.Eng

/- What is proved: the names of drafts' glasses are names; the shapes of surfaces, at this seat. No conditions. -/
namespace Go.Proofs.YtkeognjggnmgmaaGreatDoor.K
open Go Go.Eng Go.Ar Go.Rd
noncomputable section

theorem hG_ok : hG.ok := rfl
def c00 : Ctx := mkG Tryz.prog glob hG [] ext
theorem c00_ok : CtxOk c00 := mkG_ok prog_ok ext_ok fun _ h => by cases h
theorem name1 : oneG hG.size hG.clock ((run c00 1000).call 66 [.str false ⟨#[66, 75, 55]⟩] hG) = some (.tt, .bool false true) := by kernel_rfl
theorem name2 : oneG hG.size hG.clock ((run c00 1000).call 66 [.str false ⟨#[83, 70, 45, 49]⟩] hG) = some (.tt, .bool false true) := by kernel_rfl
theorem name3 : oneG hG.size hG.clock ((run c00 1000).call 66 [.str false ⟨#[77, 73, 82, 82, 79, 82]⟩] hG) = some (.tt, .bool false true) := by kernel_rfl
theorem name4 : oneG hG.size hG.clock ((run c00 1000).call 66 [.str false ⟨#[102, 95, 50]⟩] hG) = some (.tt, .bool false true) := by kernel_rfl
def nameSpec : PSpec := fun args => match args with
  | [.str _ b] => some (.p (isG b), .bool false true)
  | _ => none
theorem name_ok : GOk Tryz.prog glob hG 66 nameSpec := by
  refine ⟨fun args nd v e h same => ?_, ⟨_, Tryz.func66, rfl⟩⟩
  unfold nameSpec at e
  split at e
  · rename_i s b
    cases e
    intro σ A W g r hA hn cs
    rcases hn with rfl | rfl | rfl | rfl
    · exact glob_call (C := c00) c00_ok hG_ok hG_plain glob_lt rfl rfl name1 h same σ A W g r hA trivial cs
    · exact glob_call (C := c00) c00_ok hG_ok hG_plain glob_lt rfl rfl name2 h same σ A W g r hA trivial cs
    · exact glob_call (C := c00) c00_ok hG_ok hG_plain glob_lt rfl rfl name3 h same σ A W g r hA trivial cs
    · exact glob_call (C := c00) c00_ok hG_ok hG_plain glob_lt rfl rfl name4 h same σ A W g r hA trivial cs
  · cases e

def zi : Sh := .c (.int false .i64 0)
def nI : Sh := .i .i64
def e0 : Sh := .c (.str false ⟨#[]⟩)
def kd (n : Int) : Sh := .c (.int false .i64 n)
/-- The cells of surfaces, but for the films: standard, biconic, break, ideal. -/
def stI : List Sh := [kd 1, nI, nI, zi, zi, nI, nI, nI, nI, nI, nI, nI, nI, .str, nI, nI, zi, zi, zi, zi, zi]
def biI : List Sh := [kd 2, nI, nI, nI, nI, zi, zi, zi, zi, zi, zi, zi, nI, .str, nI, nI, zi, zi, zi, zi, zi]
def brI : List Sh := [kd 3, zi, zi, zi, zi, zi, zi, zi, zi, zi, zi, zi, nI, e0, zi, zi, nI, nI, nI, nI, nI]
def idI : List Sh := [kd 4, nI, zi, zi, zi, zi, zi, zi, zi, zi, zi, zi, nI, e0, nI, nI, zi, zi, zi, zi, zi]
def noC : Sh := .c .nilslice
def tblN : List (FuncId × PSpec) := [(66, nameSpec)]
theorem tblN_g : ∀ x ∈ tblN, GOk Tryz.prog glob hG x.1 x.2 := by
  intro x hx
  simp only [tblN, List.mem_cons, List.not_mem_nil, or_false] at hx
  subst hx
  exact name_ok
def cN : Ctx := mkG Tryz.prog glob hG tblN ext
theorem cN_ok : CtxOk cN := mkG_ok prog_ok ext_ok tblN_g

end
end Go.Proofs.YtkeognjggnmgmaaGreatDoor.K

/- Contracts whose answer is told otherwise than the run tells it. -/
namespace Go.Eng
open Go
noncomputable section

theorem CallOk.tell {C : Ctx} {f : FuncId} {args : List AV} {h : Hp} {nd : Nd} {v v' : AV} (c : CallOk C f args h ⟨nd, [⟨.tt, v, h⟩]⟩) (hv : ∀ σ V, VRel σ v V → VRel σ v' V) : CallOk C f args h ⟨nd, [⟨.tt, v', h⟩]⟩ := by
  intro σ A W g r hA hn cs
  obtain ⟨x, q1, τ, V, X, fr, q2, q3⟩ := c σ A W g r hA hn cs
  have : x = ⟨.tt, v, h⟩ := by
    unfold OneC at q1
    simp [G.val] at q1
    exact q1.symm
  subst this
  exact ⟨⟨.tt, v', h⟩, rfl, τ, V, X, fr, hv τ V q2, q3⟩

theorem gsp_rel {P : Program} {glob : Nat → Option Nat} {hG : Hp} (ok : hG.ok) (pl : blksPlain hG.size hG.blks = true) (hgl : ∀ g i, glob g = some i → i < hG.size) {f : FuncId} {ss : List Sh} {V : List Nu → Option (Prop × AV)}
    (h : ∀ xs p v, V xs = some (p, v) → p → ∃ (C : Ctx) (n : Nat) (nd : Nd) (v0 : AV), CtxOk C ∧ C.P = P ∧ C.glob = glob ∧ AV.underL hG.size (Sh.mkL ss xs).1 = true ∧ v0.under hG.size = true ∧ oneG hG.size hG.clock ((run C n).call f (Sh.mkL ss xs).1 hG) = some (nd, v0) ∧ nd.val ∧ ∀ σ V, VRel σ v0 V → VRel σ v V)
    (fn : ∃ fn : Func, P.funcs[f]? = some fn ∧ fn.body.isSome = true) : GOk P glob hG f (gSpec ss V) := by
  refine ⟨fun args nd v e h' same => ?_, fn⟩
  unfold gSpec at e
  split at e
  · cases e
  · rename_i s xs hr
    split at e
    · rename_i p v' hV
      cases e
      intro σ A W g r hA hn cs
      obtain ⟨C, n, nd0, v0, co, hP, hG', h0, hv, h1, h2, h3⟩ := h xs p v hV hn
      subst hP hG'
      have hA' := (Sh.readL_mk ss args s xs [] hr).2 σ _ hA
      rw [List.append_nil] at hA'
      exact ((glob_call co ok pl hgl h0 hv h1 h' same).tell h3) σ A W g r hA' h2 cs
    · cases e

open Classical in
/-- A surface's films. -/
theorem coat_rel {P : Program} {glob : Nat → Option Nat} {hG : Hp} (ok : hG.ok) (pl : blksPlain hG.size hG.blks = true) (hgl : ∀ g i, glob g = some i → i < hG.size) {f : FuncId} {n : Nat} {sh shs : List Sh} {V : List Nu → List Nu → List Nu → Option (Prop × AV)}
    (h : ∀ xs ys zs p v, V xs ys zs = some (p, v) → p → ∃ (C : Ctx) (m : Nat) (nd : Nd) (v0 : AV), CtxOk C ∧ C.P = P ∧ C.glob = glob ∧ AV.underL hG.size (Sh.mkL sh xs).1 = true ∧ AV.underL hG.size (Sh.mkL shs zs).1 = true ∧ AV.underL hG.size (Sh.mkL (filmSh n) ys).1 = true ∧ v0.under hG.size = true ∧
      oneG (hG.size + 1) hG.clock ((run C m).call f (.agg ((Sh.mkL sh xs).1 ++ [.gslice hG.size 0 n 3]) :: (Sh.mkL shs zs).1) (coatH hG (Sh.mkL (filmSh n) ys).1)) = some (nd, v0) ∧ nd.val ∧ ∀ σ V, VRel σ v0 V → VRel σ v V)
    (fn : ∃ fn : Func, P.funcs[f]? = some fn ∧ fn.body.isSome = true) : HOk P glob hG f (coatSpec hG n sh shs V) := by
  refine ⟨fun args nd v hp e same => ?_, fn⟩
  have e0 := e
  unfold coatSpec at e
  split at e
  · rename_i cells rest
    split at e
    · rename_i init id off m z hs
      split at e
      · rename_i hb
        split at e
        · rename_i w fc hid
          split at e
          · rename_i s1 xs r1
            split at e
            · rename_i s2 ys r2
              split at e
              · rename_i s3 zs r3
                split at e
                · rename_i p v' hV
                  cases e
                  intro σ A W g r hA hn
                  obtain ⟨C, fuel, nd0, v0, co, hP, hG', u1, u2, u3, hv, hrun, hn0, hrel⟩ := h xs ys zs p v hV hn
                  have key : HOk P glob hG f (coatSpec hG n sh shs fun a b c => if a = xs ∧ b = ys ∧ c = zs then some (p, v0) else none) := by
                    refine coat_ok ok pl hgl (fun xs' ys' zs' p' v1 hV' hp' => ?_) fn
                    split at hV'
                    · rename_i hx
                      obtain ⟨rfl, rfl, rfl⟩ := hx
                      cases hV'
                      exact ⟨C, fuel, nd0, co, hP, hG', u1, u2, u3, hv, hrun, hn0⟩
                    · cases hV'
                  refine ((key.call (.agg cells :: rest) (.p p) v0 hp ?_ same).tell hrel) σ A W g r hA hn
                  unfold coatSpec
                  simp only [hs, hb, hid, r1, r2, r3]
                  rw [if_pos ⟨trivial, trivial, trivial⟩]
                · cases e
              · cases e
            · cases e
          · cases e
        · cases e
      · cases e
    · cases e
  · cases e

end
end Go.Eng
