/- What is proved: a law of bends returns true, whatever the input (part 8). No conditions beyond those of the row. -/
import Derived.Test.YtbboldpghkahjaaGreatDoorPE
import Derived.Test.YtbboldpghkahjaaGreatDoorPF
import Derived.Test.YtbboldpghkahjaaGreatDoorPG
import Derived.Test.YtbboldpghkahjaaGreatDoorProg
import Derived.Test.YtbboldpghkahjaaGreatDoorRows
import Derived.Laws.Externs
import Derived.KernelRfl
set_option linter.unusedVariables false
set_option linter.unusedSimpArgs false
set_option linter.unusedSectionVars false
namespace Go.Proofs.YtbboldpghkahjaaGreatDoor.K
open Go Go.Eng Go.Ar
noncomputable section
noncomputable def c0 : Ctx := mkC Tryz.prog [] ext
theorem c0_ok : CtxOk c0 := mkC_ok prog_ok (fun _ h => by cases h) ext_ok
noncomputable def c0u : Ctx := withUnroll c0 128 3
theorem c0u_ok : CtxOk c0u := withUnroll_ok c0_ok _ _
def ovFr : AFr := ⟨128, none⟩
noncomputable def ovA : Code := loopOf Tryz.prog 128 0
def ovS (a n d : Int) : St := ⟨[⟨0, .int true .u64 a⟩, ⟨0, .int true .u64 n⟩, ⟨0, .int true .u64 d⟩, ⟨0, .tuple []⟩, ⟨0, .tuple []⟩, ⟨0, .tuple []⟩, ⟨3, .int false .u64 0⟩, ⟨4, .bool false false⟩, ⟨5, .bool false false⟩, ⟨6, .int false .u64 0⟩, ⟨7, .int false .u64 0⟩, ⟨8, .int false .i64 63⟩] ++ blankT 37, [], ⟨[], 0, 9⟩⟩
def ovP (i q r : Int) : Patch := ⟨deadT 12 37 ++ [(9, .int true .u64 q), (10, .int true .u64 r), (11, .int true .i64 i)], [], []⟩
def ovU (a n d : Nat) : Sum (Int × Int × Int) :=
 {
  S := fun y => ovP y.1 y.2.1 y.2.2
  I := fun y => ∃ k : Nat, k <= 64 /\ a / 2 ^ k * n / d <= 4503599627370496 /\ y = ((k : Int) - 1, ((a / 2 ^ k * n / d : Nat) : Int), ((a / 2 ^ k * n % d : Nat) : Int))
  μ := fun y => (y.1 + 1).toNat
  F := fun y => ovF a n d (y.1 + 1).toNat y.1 y.2.1 y.2.2
  next := fun y => (IntKind.i64.wrap (y.1 - 1), ovQ a n d y.1 y.2.1 y.2.2, ovR a n d y.1 y.2.2)
  ids := []
  X := fun y x => match x with
   | .ret => some (ovRet, [])
   | _ => some (ovO y.2.1 y.2.2, []) }
def ovNd (a n d : Nat) (i q r : Int) : Prop :=
 (decide (i >= 0) = true -> (0 <= IntKind.u64.wrap i /\ (ovBit a i = true -> (d : Int) ≠ 0 /\ (d : Int) ≠ 0)) /\ (ovG1 a n d i r = true -> ovG2 a n d i r = true -> ovG3 a n d i r = true -> False)) /\
 ((!decide (i >= 0)) = true -> (q = q /\ r = r) /\ (ovU a n d).F (i, q, r) = (.exit 0, ovO q r)) /\
 ((decide (i >= 0) && !ovBig a n d i q r) = true -> (ovQ a n d i q r = ovQ a n d i q r /\ ovR a n d i r = ovR a n d i r /\ IntKind.i64.wrap (i - 1) = IntKind.i64.wrap (i - 1)) /\
  (ovU a n d).I ((ovU a n d).next (i, q, r)) /\ (ovU a n d).μ ((ovU a n d).next (i, q, r)) < (ovU a n d).μ (i, q, r) /\ (ovU a n d).F ((ovU a n d).next (i, q, r)) = (ovU a n d).F (i, q, r)) /\
 ((decide (i >= 0) && ovBig a n d i q r) = true -> (ovU a n d).F (i, q, r) = (.ret, ovRet))
theorem ov_run (a n d : Nat) (i q r : Int) : chkR (ovS a n d) ((ovU a n d).way (i, q, r)) ((run c0u 300).code ovFr ovA (patch (ovS a n d) ((ovU a n d).S (i, q, r)))) = some (.p (ovNd a n d i q r)) := by kernel_rfl
theorem ov_start (a n d : Nat) : fit (ovS a n d) (ovS a n d) (patch (ovS a n d) ((ovU a n d).S (63, 0, 0))) [] = some (.p ((0 : Int) = 0 /\ (0 : Int) = 0 /\ (63 : Int) = 63)) := by kernel_rfl
theorem ov_nd (a n d : Nat) (ha : a < 18446744073709551616) (hn : n <= 4611686018427387904) (hd : 1 <= d) (hd' : d <= 4611686018427387904) (y : Int × Int × Int) (hy : (ovU a n d).I y) : ovNd a n d y.1 y.2.1 y.2.2 := by
 obtain ⟨k, hk, hq, rfl⟩ := hy
 cases k with
 | zero =>
  have e0 : decide ((((0 : Nat) : Int) - 1) >= 0) = false := by decide
  refine ⟨fun h => ?_, fun _ => ⟨⟨rfl, rfl⟩, rfl⟩, fun h => ?_, fun h => ?_⟩
  .rw [show ((0 : Nat) : Int) - 1 = -1 from rfl] at h; cases h
  .simp only [e0, Bool.false_and] at h; cases h
  .simp only [e0, Bool.false_and] at h; cases h
 | succ k =>
  obtain ⟨s1, s2, s3, s4⟩ := ov_step a n d k ha hn hd hd' (by omega) hq
  have e : ((k + 1 : Nat) : Int) - 1 = (k : Int) := by omega
  have et : ((k : Int) + 1).toNat = k + 1 := by omega
  simp only [e]
  have ew : IntKind.i64.wrap ((k : Int) - 1) = (k : Int) - 1 := i64w (by omega) (by omega)
  refine ⟨fun _ => ⟨⟨s3, fun _ => ⟨by omega, by omega⟩⟩, s4⟩, fun h => ?_, fun h => ⟨⟨rfl, rfl, rfl⟩, ?_, ?_, ?_⟩, fun h => ?_⟩
  .rw [decide_eq_true (by omega)] at h; cases h
  .simp only [Bool.and_eq_true, Bool.not_eq_true'] at h
   have h2 := h.2
   unfold ovBig at h2
   rw [s1] at h2
   have h2 := of_decide_eq_false h2
   refine ⟨k, by omega, by omega, ?_⟩
   show (IntKind.i64.wrap ((k : Int) - 1), _, _) = _
   rw [ew, s1, s2]
  .show (IntKind.i64.wrap ((k : Int) - 1) + 1).toNat < ((k : Int) + 1).toNat
   rw [ew]; omega
  .simp only [Bool.and_eq_true, Bool.not_eq_true'] at h
   show ovF a n d (IntKind.i64.wrap ((k : Int) - 1) + 1).toNat (IntKind.i64.wrap ((k : Int) - 1)) _ _ = ovF a n d ((k : Int) + 1).toNat k _ _
   rw [et, ovF, h.2, cond_false, ew, show ((k : Int) - 1 + 1).toNat = k by omega]
   rfl
  .simp only [Bool.and_eq_true] at h
   show ovF a n d ((k : Int) + 1).toNat k _ _ = _
   rw [et, ovF, h.2, cond_true]
def ovFits (a n d : Nat) : Bool := decide (a * n / d <= 4503599627370496)
theorem ov_loop (a n d : Nat) (ha : a < 18446744073709551616) (hn : n <= 4611686018427387904) (hd : 1 <= d) (hd' : d <= 4611686018427387904) :
  CodeOk c0 ovFr (.loop ovA) (ovS a n d) ⟨.tt, [⟨.b (ovFits a n d), .exit 0, patch (ovS a n d) (ovO ((a * n / d : Nat) : Int) ((a * n % d : Nat) : Int))⟩, ⟨.b (!ovFits a n d), .ret, patch (ovS a n d) ovRet⟩]⟩ := by
 have z : a / 2 ^ 64 = 0 := Nat.div_eq_of_lt ha
 have hF : (ovU a n d).F (63, 0, 0) = bif ovFits a n d then (.exit 0, ovO ((a * n / d : Nat) : Int) ((a * n % d : Nat) : Int)) else (.ret, ovRet) := by
  have := ov_spec a n d ha hn hd hd' 64 (by decide) (by rw [z]; simp)
  rw [z] at this
  simp only [Nat.zero_mul, Nat.zero_div, Nat.zero_mod] at this
  exact this
 have h0 : oldsOk (ovS a n d).hp ((ovU a n d).S (63, 0, 0)).old = true := by kernel_rfl
 have h1 : (ovU a n d).I (63, 0, 0) := ⟨64, by decide, by rw [z]; simp, by rw [z]; simp⟩
 exact sum_two (run_sound c0u_ok 300) (ovU a n d) h1 ⟨_, ov_start a n d, rfl, rfl, rfl⟩ h0 (fun y hy => ⟨_, ov_run a n d y.1 y.2.1 y.2.2, ov_nd a n d ha hn hd hd' y hy⟩) hF
noncomputable def c0o (a n d : Nat) : Ctx := withLoops c0 [twoLoop 128 9 ovFr ovA (ovS a n d) (ovFits a n d) (.exit 0) (ovO ((a * n / d : Nat) : Int) ((a * n % d : Nat) : Int)) .ret ovRet]
theorem c0o_ok (a n d : Nat) (ha : a < 18446744073709551616) (hn : n <= 4611686018427387904) (hd : 1 <= d) (hd' : d <= 4611686018427387904) : CtxOk (c0o a n d) := withTwo_ok c0_ok (ov_loop a n d ha hn hd hd') (withNone_ok c0_ok)
def ovAt (a n d : Nat) : Prop := At ovFr ovFr ovA ovA (ovS a n d) (ovS a n d)
theorem over_run (a n d : Nat) : oneV ((run (c0o a n d) 300).call 128 [.int true .u64 a, .int true .u64 n, .int true .u64 d] ⟨[], 0, 1⟩) = some (.p (ovAt a n d),
  .tuple [.int true .u64 (bif !ovFits a n d then 0 else ((a * n / d : Nat) : Int)), .bool true (bif !ovFits a n d then false else decide (((a * n % d : Nat) : Int) > 0)), .bool true (bif !ovFits a n d then false else true)]) := by kernel_rfl
theorem over_ok : PureOk Tryz.prog 128 sOver := by
 refine num_ok (fun xs hk hN => ?_) ⟨_, Tryz.func128, rfl⟩
 obtain ⟨a, _, rfl, h1⟩ := kn hk; obtain ⟨n, _, rfl, h2⟩ := kn h1; obtain ⟨d, _, rfl, h3⟩ := kn h2; obtain rfl := k0 h3
 obtain ⟨p1, p2, p3, p4, p5, p6⟩ := of_decide_eq_true hN
 obtain ⟨a, rfl⟩ := Int.eq_ofNat_of_zero_le p1
 obtain ⟨n, rfl⟩ := Int.eq_ofNat_of_zero_le p3
 obtain ⟨d, rfl⟩ := Int.eq_ofNat_of_zero_le (show 0 <= d by omega)
 have e1 : (a : Int) * n / d = ((a * n / d : Nat) : Int) := by rw [Int.natCast_ediv, Int.natCast_mul]
 have e2 : (a : Int) * n % d = ((a * n % d : Nat) : Int) := by rw [Int.natCast_emod, Int.natCast_mul]
 have e3 : ovFit a n d = ovFits a n d := by unfold ovFit ovFits; rw [e1, Bool.eq_iff_iff, decide_eq_true_eq, decide_eq_true_eq]; generalize a * n / d = q; omega
 refine ⟨c0o a n d, 300, .p (ovAt a n d), c0o_ok a n d (by omega) (by omega) (by omega) (by omega), rfl, fun _ => rfl, rfl, (over_run a n d).trans ?_, ⟨rfl, rfl, rfl⟩⟩
 rw [<- e1, <- e2, <- e3]
 rfl
end
end Go.Proofs.YtbboldpghkahjaaGreatDoor.K
namespace Go.Proofs.YtbboldpghkahjaaGreatDoor.K
open Go Go.Eng Go.Ar
noncomputable section
noncomputable def tbl4 : List (FuncId × PSpec) := [(128, sOver)]
theorem tbl4_ok : TblOk Tryz.prog tbl4 := by
 intro x hx
 simp only [tbl4, List.mem_cons, List.not_mem_nil, or_false] at hx
 subst hx
 exact over_ok
noncomputable def c4 : Ctx := mkC Tryz.prog tbl4 ext
theorem c4_ok : CtxOk c4 := mkC_ok prog_ok tbl4_ok ext_ok
def ovIn (l : List Nu) : Prop := (match l with
 | [.n a, .n n, .n d] => decide (0 <= a /\ a < 18446744073709551616 /\ 0 <= n /\ n <= 4611686018427387904 /\ 1 <= d /\ d <= 4611686018427387904)
 | _ => false) = true
theorem rmulD_run (a b : Int) : oneV ((run c4 300).call 123 [.int true .i64 a, .int true .i64 b, .bool false false] ⟨[], 0, 1⟩) = some (.tt, .tuple [.int true .i64 (rMulV a b false), .bool true (rMulB a b false)]) := by kernel_rfl
theorem rmulU_run (a b : Int) : oneV ((run c4 300).call 123 [.int true .i64 a, .int true .i64 b, .bool false true] ⟨[], 0, 1⟩) = some (.tt, .tuple [.int true .i64 (rMulV a b true), .bool true (rMulB a b true)]) := by kernel_rfl
theorem rdivD_run (a b : Int) : oneV ((run c4 300).call 89 [.int true .i64 a, .int true .i64 b, .bool false false] ⟨[], 0, 1⟩) = some (.p (ovIn [.n 4294967296, .n (xSz a), .n (xSz b)]), .tuple [.int true .i64 (oV (4294967296 * xSz a) (xSz b) false (xNeg a b)), .bool true (oB (4294967296 * xSz a) (xSz b) false (xNeg a b))]) := by kernel_rfl
theorem rdivU_run (a b : Int) : oneV ((run c4 300).call 89 [.int true .i64 a, .int true .i64 b, .bool false true] ⟨[], 0, 1⟩) = some (.p (ovIn [.n 4294967296, .n (xSz a), .n (xSz b)]), .tuple [.int true .i64 (oV (4294967296 * xSz a) (xSz b) true (xNeg a b)), .bool true (oB (4294967296 * xSz a) (xSz b) true (xNeg a b))]) := by kernel_rfl
def rScN (a n d : Int) : Prop := (!rOkS a n d) = true -> ovIn [.n (xSz a), .n (xSz n), .n (IntKind.u64.wrap d)]
theorem rscD_run (a n d : Int) : oneV ((run c4 300).call 84 [.int true .i64 a, .int true .i64 n, .int true .i64 d] ⟨[], 0, 1⟩) = some (.p (rScN a n d), .tuple [.int true .i64 (rScV a n d false), .int true .i64 (rScE a n d false)]) := by kernel_rfl
theorem rscU_run (a n d : Int) : oneV ((run c4 300).call 85 [.int true .i64 a, .int true .i64 n, .int true .i64 d] ⟨[], 0, 1⟩) = some (.p (rScN a n d), .tuple [.int true .i64 (rScV a n d true), .int true .i64 (rScE a n d true)]) := by kernel_rfl
theorem ovIn_of {a n d : Int} (h : 0 <= a /\ a < 18446744073709551616 /\ 0 <= n /\ n <= 4611686018427387904 /\ 1 <= d /\ d <= 4611686018427387904) : ovIn [.n a, .n n, .n d] := decide_eq_true h
theorem rScN_all (a n d : Int) : rScN a n d := by
 intro h
 rw [rOkS_eq, Bool.not_not] at h
 simp only [okS, Bool.and_eq_true, decide_eq_true_eq] at h
 obtain ⟨ha, ⟨⟨n1, n2⟩, d1⟩, d2⟩ := h
 obtain ⟨a1, a2, a3⟩ := sz_of ha
 have e1 : xSz n = sg n n := xSz_eq (by omega) (by omega)
 have e2 := sg_cases n
 rw [a1, e1, u64w (n := d) (by omega) (by omega)]
 exact ovIn_of ⟨by omega, by omega, by omega, by omega, by omega, by omega⟩
theorem rmulD_ok : PureOk Tryz.prog 123 (sRMul false) := by
 refine num_ok (fun xs hk hN => ?_) ⟨_, Tryz.func123, rfl⟩
 obtain ⟨a, _, rfl, h1⟩ := kn hk; obtain ⟨b, _, rfl, h2⟩ := kn h1; obtain rfl := k0 h2
 have hN : (okF a && okF b) = true := hN
 simp only [Bool.and_eq_true] at hN
 obtain ⟨l1, l2⟩ := rMul_law hN.1 hN.2 false
 exact ⟨c4, 300, _, c4_ok, rfl, fun _ => rfl, rfl, (rmulD_run a b).trans (by rw [l1, l2]; rfl), trivial⟩
theorem rmulU_ok : PureOk Tryz.prog 123 (sRMul true) := by
 refine num_ok (fun xs hk hN => ?_) ⟨_, Tryz.func123, rfl⟩
 obtain ⟨a, _, rfl, h1⟩ := kn hk; obtain ⟨b, _, rfl, h2⟩ := kn h1; obtain rfl := k0 h2
 have hN : (okF a && okF b) = true := hN
 simp only [Bool.and_eq_true] at hN
 obtain ⟨l1, l2⟩ := rMul_law hN.1 hN.2 true
 exact ⟨c4, 300, _, c4_ok, rfl, fun _ => rfl, rfl, (rmulU_run a b).trans (by rw [l1, l2]; rfl), trivial⟩
theorem rdiv_in {a b : Int} (ha : okF a = true) (hb : okF b = true) (h0 : b ≠ 0) : ovIn [.n 4294967296, .n (xSz a), .n (xSz b)] := by
 obtain ⟨a1, a2, a3⟩ := sz_of ha
 obtain ⟨b1, b2, b3⟩ := sz_of hb
 have := sg_cases b
 rw [a1, b1]
 exact ovIn_of ⟨by omega, by omega, by omega, by omega, by omega, by omega⟩
theorem rdivD_ok : PureOk Tryz.prog 89 (sRDiv false) := by
 refine num_ok (fun xs hk hN => ?_) ⟨_, Tryz.func89, rfl⟩
 obtain ⟨a, _, rfl, h1⟩ := kn hk; obtain ⟨b, _, rfl, h2⟩ := kn h1; obtain rfl := k0 h2
 have hN : (okF a && (okF b && !(b == 0))) = true := hN
 simp only [Bool.and_eq_true, Bool.not_eq_true', beq_eq_false_iff_ne] at hN
 obtain ⟨l1, l2⟩ := rDiv_law hN.1 hN.2.1 hN.2.2 false
 rw [rDivV] at l1; rw [rDivB] at l2
 exact ⟨c4, 300, .p _, c4_ok, rfl, fun _ => rfl, rfl, (rdivD_run a b).trans (by rw [l1, l2]; rfl), rdiv_in hN.1 hN.2.1 hN.2.2⟩
theorem rdivU_ok : PureOk Tryz.prog 89 (sRDiv true) := by
 refine num_ok (fun xs hk hN => ?_) ⟨_, Tryz.func89, rfl⟩
 obtain ⟨a, _, rfl, h1⟩ := kn hk; obtain ⟨b, _, rfl, h2⟩ := kn h1; obtain rfl := k0 h2
 have hN : (okF a && (okF b && !(b == 0))) = true := hN
 simp only [Bool.and_eq_true, Bool.not_eq_true', beq_eq_false_iff_ne] at hN
 obtain ⟨l1, l2⟩ := rDiv_law hN.1 hN.2.1 hN.2.2 true
 rw [rDivV] at l1; rw [rDivB] at l2
 exact ⟨c4, 300, .p _, c4_ok, rfl, fun _ => rfl, rfl, (rdivU_run a b).trans (by rw [l1, l2]; rfl), rdiv_in hN.1 hN.2.1 hN.2.2⟩
theorem rscD_ok : PureOk Tryz.prog 84 (sRScale false) := by
 refine num_ok (fun xs hk _ => ?_) ⟨_, Tryz.func84, rfl⟩
 obtain ⟨a, _, rfl, h1⟩ := kn hk; obtain ⟨n, _, rfl, h2⟩ := kn h1; obtain ⟨d, _, rfl, h3⟩ := kn h2; obtain rfl := k0 h3
 obtain ⟨l1, l2⟩ := rSc_law a n d false
 exact ⟨c4, 300, .p _, c4_ok, rfl, fun _ => rfl, rfl, (rscD_run a n d).trans (by rw [l1, l2]; rfl), rScN_all a n d⟩
theorem rscU_ok : PureOk Tryz.prog 85 (sRScale true) := by
 refine num_ok (fun xs hk _ => ?_) ⟨_, Tryz.func85, rfl⟩
 obtain ⟨a, _, rfl, h1⟩ := kn hk; obtain ⟨n, _, rfl, h2⟩ := kn h1; obtain ⟨d, _, rfl, h3⟩ := kn h2; obtain rfl := k0 h3
 obtain ⟨l1, l2⟩ := rSc_law a n d true
 exact ⟨c4, 300, .p _, c4_ok, rfl, fun _ => rfl, rfl, (rscU_run a n d).trans (by rw [l1, l2]; rfl), rScN_all a n d⟩
def rsFr : AFr := ⟨127, none⟩
noncomputable def rsA : Code := loopOf Tryz.prog 127 0
def rsS (up : Bool) (a : Int) : St := ⟨[⟨0, .int true .i64 a⟩, ⟨0, .bool false up⟩, ⟨0, .tuple []⟩, ⟨0, .tuple []⟩, ⟨3, .int false .i64 0⟩, ⟨4, .int false .i64 0⟩, ⟨5, .int false .i64 0⟩, ⟨6, .int false .i64 42⟩] ++ blankT 42, [], ⟨[], 0, 7⟩⟩
def rsP (i root rest : Int) : Patch := ⟨deadT 8 42 ++ [(5, .int true .i64 root), (6, .int true .i64 rest), (7, .int true .i64 i)], [], []⟩
def rsU (a : Int) : Sum (Int × Int × Int) :=
 {
  S := fun y => rsP y.1 y.2.1 y.2.2
  I := fun y => -1 <= y.1 /\ y.1 <= 42
  μ := fun y => (y.1 + 1).toNat
  F := fun y => (.exit 0, rsO (rsF a (y.1 + 1).toNat y.1 y.2.1 y.2.2).1 (rsF a (y.1 + 1).toNat y.1 y.2.1 y.2.2).2)
  next := fun y => (IntKind.i64.wrap (y.1 - 1), rsRoot a y.1 y.2.1 y.2.2, rsRest a y.1 y.2.1 y.2.2)
  ids := []
  X := fun y _ => some (rsO y.2.1 y.2.2, []) }
def rsNd (a i root rest : Int) : Prop :=
 (decide (i >= 0) = true -> decide (IntKind.i64.wrap (2 * i) >= 32) = true -> 0 <= IntKind.u64.wrap (IntKind.i64.wrap (IntKind.i64.wrap (2 * i) - 32))) /\
 ((!decide (i >= 0)) = true -> (root = root /\ rest = rest) /\ (rsU a).F (i, root, rest) = (.exit 0, rsO root rest)) /\
 (decide (i >= 0) = true -> (rsRoot a i root rest = rsRoot a i root rest /\ rsRest a i root rest = rsRest a i root rest /\ IntKind.i64.wrap (i - 1) = IntKind.i64.wrap (i - 1)) /\
  (rsU a).I ((rsU a).next (i, root, rest)) /\ (rsU a).μ ((rsU a).next (i, root, rest)) < (rsU a).μ (i, root, rest) /\ (rsU a).F ((rsU a).next (i, root, rest)) = (rsU a).F (i, root, rest))
theorem rs_run (up : Bool) (a i root rest : Int) : chkR (rsS up a) ((rsU a).way (i, root, rest)) ((run c0 300).code rsFr rsA (patch (rsS up a) ((rsU a).S (i, root, rest)))) = some (.p (rsNd a i root rest)) := by kernel_rfl
theorem rs_start (up : Bool) (a : Int) : fit (rsS up a) (rsS up a) (patch (rsS up a) ((rsU a).S (42, 0, 0))) [] = some (.p ((0 : Int) = 0 /\ (0 : Int) = 0 /\ (42 : Int) = 42)) := by kernel_rfl
theorem rs_nd (a i root rest : Int) (h : -1 <= i /\ i <= 42) : rsNd a i root rest := by
 refine ⟨fun _ _ => (u64_range _).1, fun hi => ⟨⟨rfl, rfl⟩, ?_⟩, fun hi => ⟨⟨rfl, rfl, rfl⟩, ?_⟩⟩
 .have : i = -1 := by simp at hi; omega
  subst this
  rfl
 .have hi := of_decide_eq_true hi
  have e : IntKind.i64.wrap (i - 1) = i - 1 := i64w (by omega) (by omega)
  have e2 : (i + 1).toNat = (i - 1 + 1).toNat + 1 := by omega
  refine ⟨?_, ?_, ?_⟩
  .show -1 <= IntKind.i64.wrap (i - 1) /\ IntKind.i64.wrap (i - 1) <= 42
   rw [e]; omega
  .show (IntKind.i64.wrap (i - 1) + 1).toNat < (i + 1).toNat
   rw [e]; omega
  .show (Ex.exit 0, rsO (rsF a (IntKind.i64.wrap (i - 1) + 1).toNat (IntKind.i64.wrap (i - 1)) (rsRoot a i root rest) (rsRest a i root rest)).1 (rsF a (IntKind.i64.wrap (i - 1) + 1).toNat (IntKind.i64.wrap (i - 1)) (rsRoot a i root rest) (rsRest a i root rest)).2) = (Ex.exit 0, rsO (rsF a (i + 1).toNat i root rest).1 (rsF a (i + 1).toNat i root rest).2)
   rw [e2, rsF, e]
theorem rs_loop (up : Bool) (a : Int) : CodeOk c0 rsFr (.loop rsA) (rsS up a) ⟨.tt, [⟨.tt, .exit 0, patch (rsS up a) (rsO (rsF a 43 42 0 0).1 (rsF a 43 42 0 0).2)⟩]⟩ := by
 have hF : (rsU a).F (42, 0, 0) = (.exit 0, rsO (rsF a 43 42 0 0).1 (rsF a 43 42 0 0).2) := by
  show (Ex.exit 0, rsO (rsF a ((42 : Int) + 1).toNat 42 0 0).1 (rsF a ((42 : Int) + 1).toNat 42 0 0).2) = _
  rw [show ((42 : Int) + 1).toNat = 43 from by decide]
 have h0 : oldsOk (rsS up a).hp ((rsU a).S (42, 0, 0)).old = true := by kernel_rfl
 have h1 : (rsU a).I (42, 0, 0) := ⟨by decide, by decide⟩
 exact sum_one (run_sound c0_ok 300) (rsU a) h1 ⟨_, rs_start up a, rfl, rfl, rfl⟩ h0 (fun y hy => ⟨_, rs_run up a y.1 y.2.1 y.2.2, rs_nd a y.1 y.2.1 y.2.2 hy⟩) hF
noncomputable def c0s (up : Bool) (a : Int) : Ctx := withLoops c0 [oneLoop 127 7 rsFr rsA (rsS up a) (.exit 0) (rsO (rsF a 43 42 0 0).1 (rsF a 43 42 0 0).2)]
theorem c0s_ok (up : Bool) (a : Int) : CtxOk (c0s up a) := withLoop_ok c0_ok (rs_loop up a) (withNone_ok c0_ok)
def rsAt (up : Bool) (a : Int) : Prop := At rsFr rsFr rsA rsA (rsS up a) (rsS up a)
theorem rsqrtD_run (a : Int) : oneV ((run (c0s false a) 300).call 127 [.int true .i64 a, .bool false false] ⟨[], 0, 1⟩) = some (.p (rsAt false a), .int true .i64 (rsV a false)) := by kernel_rfl
theorem rsqrtU_run (a : Int) : oneV ((run (c0s true a) 300).call 127 [.int true .i64 a, .bool false true] ⟨[], 0, 1⟩) = some (.p (rsAt true a), .int true .i64 (rsV a true)) := by kernel_rfl
theorem rsqrtD_ok : PureOk Tryz.prog 127 (sRSqrt false) := by
 refine num_ok (fun xs hk hN => ?_) ⟨_, Tryz.func127, rfl⟩
 obtain ⟨a, _, rfl, h1⟩ := kn hk; obtain rfl := k0 h1
 exact ⟨c0s false a, 300, .p (rsAt false a), c0s_ok false a, rfl, fun _ => rfl, rfl, (rsqrtD_run a).trans (by rw [rs_law hN]; rfl), ⟨rfl, rfl, rfl⟩⟩
theorem rsqrtU_ok : PureOk Tryz.prog 127 (sRSqrt true) := by
 refine num_ok (fun xs hk hN => ?_) ⟨_, Tryz.func127, rfl⟩
 obtain ⟨a, _, rfl, h1⟩ := kn hk; obtain rfl := k0 h1
 exact ⟨c0s true a, 300, .p (rsAt true a), c0s_ok true a, rfl, fun _ => rfl, rfl, (rsqrtU_run a).trans (by rw [rs_law hN]; rfl), ⟨rfl, rfl, rfl⟩⟩
end
end Go.Proofs.YtbboldpghkahjaaGreatDoor.K
namespace Go.Proofs.YtbboldpghkahjaaGreatDoor.K
open Go Go.Eng Go.Ar
noncomputable section
noncomputable def tbl5 : List (FuncId × PSpec) := [(123, orS (sRMul false) (sRMul true)), (89, orS (sRDiv false) (sRDiv true)), (84, sRScale false), (85, sRScale true), (127, orS (sRSqrt false) (sRSqrt true))]
theorem tbl5_ok : TblOk Tryz.prog tbl5 := by
 intro x hx
 simp only [tbl5, List.mem_cons, List.not_mem_nil, or_false] at hx
 rcases hx with rfl | rfl | rfl | rfl | rfl
 .exact orS_ok rmulD_ok rmulU_ok
 .exact orS_ok rdivD_ok rdivU_ok
 .exact rscD_ok
 .exact rscU_ok
 .exact orS_ok rsqrtD_ok rsqrtU_ok
end
end Go.Proofs.YtbboldpghkahjaaGreatDoor.K
namespace Go.Proofs.YtbboldpghkahjaaGreatDoor.K
open Go Go.Eng Go.Ar
noncomputable section
def hintB (b : Bool) : Option AV := match b with
 | true => some (.bool false true)
 | false => some (.bool false false)
def pwH (K S : Nat) (c d : Nat) : Option AV := match Nat.beq d 5 with
 | true => match Nat.ble 19 c && Nat.blt c (32 + 12 * K) with
  | true => hintB (Nat.blt c (21 + 12 * K))
  | false => match Nat.ble S c && Nat.blt c (S + 12 + 12 * K) with
   | true => hintB (Nat.blt c (S + 2 + 12 * K))
   | false => none
 | false => none
noncomputable def cPw (K : Nat) : Ctx := { c0 with hint := pwH K (79 + 50 * K) }
theorem cPw_ok (K : Nat) : CtxOk (cPw K) := ⟨c0_ok.prog, c0_ok.con, c0_ok.ext, c0_ok.loop, c0_ok.two⟩
def ndD : Nat -> Int -> Prop
 | 0, v => decide (v > 0) = false
 | k + 1, v => decide (v > 0) = true /\ ndD k (IntKind.i64.wrap (v.tdiv 65536))
theorem pwD0 (v : Int) : oneV ((run (cPw 0) 900).call 173 [.int true .i64 v, .int false .i64 2, .bool false false] ⟨[], 0, 1⟩) = some (.p (ndD 0 v /\ ndD 0 v), .tuple [.int false .i64 0, .bool false true]) := by kernel_rfl
theorem pwD1 (v : Int) : oneV ((run (cPw 1) 900).call 173 [.int true .i64 v, .int false .i64 2, .bool false false] ⟨[], 0, 1⟩) = some (.p (ndD 1 v /\ ndD 1 v), .tuple [.int true .i64 (outP 1 v false), .bool true (decide (outP 1 v false <= 4503599627370496))]) := by kernel_rfl
theorem pwD2 (v : Int) : oneV ((run (cPw 2) 900).call 173 [.int true .i64 v, .int false .i64 2, .bool false false] ⟨[], 0, 1⟩) = some (.p (ndD 2 v /\ ndD 2 v), .tuple [.int true .i64 (bif fitP 2 v then outP 2 v false else 0), .bool true (bif fitP 2 v then decide (outP 2 v false <= 4503599627370496) else false)]) := by kernel_rfl
theorem pwD3 (v : Int) : oneV ((run (cPw 3) 900).call 173 [.int true .i64 v, .int false .i64 2, .bool false false] ⟨[], 0, 1⟩) = some (.p (ndD 3 v /\ ndD 3 v), .tuple [.int true .i64 (bif fitP 3 v then outP 3 v false else 0), .bool true (bif fitP 3 v then decide (outP 3 v false <= 4503599627370496) else false)]) := by kernel_rfl
theorem pwD4 (v : Int) : oneV ((run (cPw 4) 900).call 173 [.int true .i64 v, .int false .i64 2, .bool false false] ⟨[], 0, 1⟩) = some (.p (ndD 4 v /\ ndD 4 v), .tuple [.int true .i64 (bif fitP 4 v then outP 4 v false else 0), .bool true (bif fitP 4 v then decide (outP 4 v false <= 4503599627370496) else false)]) := by kernel_rfl
theorem pwU0 (v : Int) : oneV ((run (cPw 0) 900).call 173 [.int true .i64 v, .int false .i64 2, .bool false true] ⟨[], 0, 1⟩) = some (.p (ndD 0 v /\ ndD 0 v), .tuple [.int false .i64 0, .bool false true]) := by kernel_rfl
theorem pwU1 (v : Int) : oneV ((run (cPw 1) 900).call 173 [.int true .i64 v, .int false .i64 2, .bool false true] ⟨[], 0, 1⟩) = some (.p (ndD 1 v /\ ndD 1 v), .tuple [.int true .i64 (outP 1 v true), .bool true (decide (outP 1 v true <= 4503599627370496))]) := by kernel_rfl
theorem pwU2 (v : Int) : oneV ((run (cPw 2) 900).call 173 [.int true .i64 v, .int false .i64 2, .bool false true] ⟨[], 0, 1⟩) = some (.p (ndD 2 v /\ ndD 2 v), .tuple [.int true .i64 (bif fitP 2 v then outP 2 v true else 0), .bool true (bif fitP 2 v then decide (outP 2 v true <= 4503599627370496) else false)]) := by kernel_rfl
theorem pwU3 (v : Int) : oneV ((run (cPw 3) 900).call 173 [.int true .i64 v, .int false .i64 2, .bool false true] ⟨[], 0, 1⟩) = some (.p (ndD 3 v /\ ndD 3 v), .tuple [.int true .i64 (bif fitP 3 v then outP 3 v true else 0), .bool true (bif fitP 3 v then decide (outP 3 v true <= 4503599627370496) else false)]) := by kernel_rfl
theorem pwU4 (v : Int) : oneV ((run (cPw 4) 900).call 173 [.int true .i64 v, .int false .i64 2, .bool false true] ⟨[], 0, 1⟩) = some (.p (ndD 4 v /\ ndD 4 v), .tuple [.int true .i64 (bif fitP 4 v then outP 4 v true else 0), .bool true (bif fitP 4 v then decide (outP 4 v true <= 4503599627370496) else false)]) := by kernel_rfl
theorem nd0 {v : Int} (h : v = 0) : ndD 0 v := by subst h; rfl
theorem ndS {k : Nat} {v : Int} (h0 : 0 < v) (hb : v <= 4503599627370496) (h : ndD k (v / 65536)) : ndD (k + 1) v := by
 refine ⟨decide_eq_true h0, ?_⟩
 rw [Int.tdiv_eq_ediv_of_nonneg (by omega), i64w (by omega) (by omega)]
 exact h
theorem pick (v : Int) (h0 : 0 <= v) (ho : okF v = true) : 0 <= v /\
  ((ndD 0 v /\ True /\ (∀ up, pV v up = 0) /\ (∀ up, pB v up = true)) ∨
   (ndD 1 v /\ (∀ up, outP 1 v up = pV v up) /\ (∀ up, decide (pV v up <= 4503599627370496) = pB v up)) ∨
   (ndD 2 v /\ (∀ up, (bif fitP 2 v then outP 2 v up else 0) = pV v up) /\ (∀ up, (bif fitP 2 v then decide (outP 2 v up <= 4503599627370496) else false) = pB v up)) ∨
   (ndD 3 v /\ (∀ up, (bif fitP 3 v then outP 3 v up else 0) = pV v up) /\ (∀ up, (bif fitP 3 v then decide (outP 3 v up <= 4503599627370496) else false) = pB v up)) ∨
   (ndD 4 v /\ (∀ up, (bif fitP 4 v then outP 4 v up else 0) = pV v up) /\ (∀ up, (bif fitP 4 v then decide (outP 4 v up <= 4503599627370496) else false) = pB v up))) := by
 have hb := (okF_iff.1 ho).2
 refine ⟨h0, ?_⟩
 have big : ∀ k, 2 <= k -> v < 65536 ^ k -> (∀ up, (bif fitP k v then outP k v up else 0) = pV v up) /\ (∀ up, (bif fitP k v then decide (outP k v up <= 4503599627370496) else false) = pB v up) := by
  intro k hk h1
  obtain ⟨t, r, e, _, g, _, o⟩ := pw_core k (by omega) v h0 hb h1
  have hf : fitP k v = !pEarly v := by unfold fitP; rw [e]; exact g hk
  rw [hf]
  refine ⟨fun up => ?_, fun up => ?_⟩
  .unfold pV
   cases he : pEarly v with
   | true => rfl
   | false => rw [o he]; rfl
  .unfold pB
   cases he : pEarly v with
   | true => rfl
   | false => rw [o he]; rfl
 by_cases c0 : v = 0
 .subst c0
  exact .inl ⟨nd0 rfl, trivial, fun up => by cases up <;> rfl, fun up => by cases up <;> rfl⟩
 .by_cases c1 : v < 65536
  .obtain ⟨t, r, e, _, _, g, o⟩ := pw_core 1 (by omega) v h0 hb (by rw [Int.pow_one]; exact c1)
   obtain ⟨he, _⟩ := g rfl
   refine .inr (.inl ⟨ndS (by omega) hb (nd0 (by omega)), fun up => ?_, fun up => ?_⟩)
   .rw [o he]; unfold pV; rw [he]; rfl
   .unfold pV pB; rw [he]; rfl
  .by_cases c2 : v < 4294967296
   .exact .inr (.inr (.inl ⟨ndS (by omega) hb (ndS (by omega) (by omega) (nd0 (by omega))), big 2 (by decide) (by rw [show (65536 : Int) ^ 2 = 4294967296 by decide]; exact c2)⟩))
   .by_cases c3 : v < 281474976710656
    .exact .inr (.inr (.inr (.inl ⟨ndS (by omega) hb (ndS (by omega) (by omega) (ndS (by omega) (by omega) (nd0 (by omega)))), big 3 (by decide) (by rw [show (65536 : Int) ^ 3 = 281474976710656 by decide]; exact c3)⟩)))
    .exact .inr (.inr (.inr (.inr ⟨ndS (by omega) hb (ndS (by omega) (by omega) (ndS (by omega) (by omega) (ndS (by omega) (by omega) (nd0 (by omega))))), big 4 (by decide) (by rw [show (65536 : Int) ^ 4 = 18446744073709551616 by decide]; omega)⟩)))
def two' (x : Int) (b : Bool) : AV := .tuple [.int true .i64 x, .bool true b]
theorem rpowD_ok : PureOk Tryz.prog 173 (sRPow false) := by
 refine num_ok' (fun xs hk hN => ?_) ⟨_, Tryz.func173, rfl⟩
 obtain ⟨v, _, rfl, h1⟩ := kn hk; obtain rfl := k0 h1
 have hN : (decide (0 <= v) && okF v) = true := hN
 simp only [Bool.and_eq_true, decide_eq_true_eq] at hN
 obtain ⟨k1, k2⟩ := pick v hN.1 hN.2
 rcases k2 with ⟨e, r1, r2⟩ | ⟨e, r1, r2⟩ | ⟨e, r1, r2⟩ | ⟨e, r1, r2⟩ | ⟨e, r1, r2⟩
 .exact ⟨cPw 0, 900, .p (ndD 0 v /\ ndD 0 v), .tuple [.int false .i64 0, .bool false true], cPw_ok 0, rfl, fun _ => rfl, rfl, pwD0 v, ⟨e, e⟩, fun τ W h => by show VRel τ (two' _ _) W; rw [show (two' (pV v false) (pB v false)) = two' 0 true by rw [r2.1 false, r2.2 false]]; exact h⟩
 .exact ⟨cPw 1, 900, .p (ndD 1 v /\ ndD 1 v), two' (pV v false) (pB v false), cPw_ok 1, rfl, fun _ => rfl, rfl, (pwD1 v).trans (by rw [r1 false, r2 false]; rfl), ⟨e, e⟩, fun τ W h => h⟩
 .exact ⟨cPw 2, 900, .p (ndD 2 v /\ ndD 2 v), two' (pV v false) (pB v false), cPw_ok 2, rfl, fun _ => rfl, rfl, (pwD2 v).trans (by rw [r1 false, r2 false]; rfl), ⟨e, e⟩, fun τ W h => h⟩
 .exact ⟨cPw 3, 900, .p (ndD 3 v /\ ndD 3 v), two' (pV v false) (pB v false), cPw_ok 3, rfl, fun _ => rfl, rfl, (pwD3 v).trans (by rw [r1 false, r2 false]; rfl), ⟨e, e⟩, fun τ W h => h⟩
 .exact ⟨cPw 4, 900, .p (ndD 4 v /\ ndD 4 v), two' (pV v false) (pB v false), cPw_ok 4, rfl, fun _ => rfl, rfl, (pwD4 v).trans (by rw [r1 false, r2 false]; rfl), ⟨e, e⟩, fun τ W h => h⟩
theorem rpowU_ok : PureOk Tryz.prog 173 (sRPow true) := by
 refine num_ok' (fun xs hk hN => ?_) ⟨_, Tryz.func173, rfl⟩
 obtain ⟨v, _, rfl, h1⟩ := kn hk; obtain rfl := k0 h1
 have hN : (decide (0 <= v) && okF v) = true := hN
 simp only [Bool.and_eq_true, decide_eq_true_eq] at hN
 obtain ⟨k1, k2⟩ := pick v hN.1 hN.2
 rcases k2 with ⟨e, r1, r2⟩ | ⟨e, r1, r2⟩ | ⟨e, r1, r2⟩ | ⟨e, r1, r2⟩ | ⟨e, r1, r2⟩
 .exact ⟨cPw 0, 900, .p (ndD 0 v /\ ndD 0 v), .tuple [.int false .i64 0, .bool false true], cPw_ok 0, rfl, fun _ => rfl, rfl, pwU0 v, ⟨e, e⟩, fun τ W h => by show VRel τ (two' _ _) W; rw [show (two' (pV v true) (pB v true)) = two' 0 true by rw [r2.1 true, r2.2 true]]; exact h⟩
 .exact ⟨cPw 1, 900, .p (ndD 1 v /\ ndD 1 v), two' (pV v true) (pB v true), cPw_ok 1, rfl, fun _ => rfl, rfl, (pwU1 v).trans (by rw [r1 true, r2 true]; rfl), ⟨e, e⟩, fun τ W h => h⟩
 .exact ⟨cPw 2, 900, .p (ndD 2 v /\ ndD 2 v), two' (pV v true) (pB v true), cPw_ok 2, rfl, fun _ => rfl, rfl, (pwU2 v).trans (by rw [r1 true, r2 true]; rfl), ⟨e, e⟩, fun τ W h => h⟩
 .exact ⟨cPw 3, 900, .p (ndD 3 v /\ ndD 3 v), two' (pV v true) (pB v true), cPw_ok 3, rfl, fun _ => rfl, rfl, (pwU3 v).trans (by rw [r1 true, r2 true]; rfl), ⟨e, e⟩, fun τ W h => h⟩
 .exact ⟨cPw 4, 900, .p (ndD 4 v /\ ndD 4 v), two' (pV v true) (pB v true), cPw_ok 4, rfl, fun _ => rfl, rfl, (pwU4 v).trans (by rw [r1 true, r2 true]; rfl), ⟨e, e⟩, fun τ W h => h⟩
end
end Go.Proofs.YtbboldpghkahjaaGreatDoor.K
namespace Go.Proofs.YtbboldpghkahjaaGreatDoor.K
open Go Go.Eng Go.Ar
noncomputable section
noncomputable def tbl6 : List (FuncId × PSpec) := (173, orS (sRPow false) (sRPow true)) :: tbl5
theorem tbl6_ok : TblOk Tryz.prog tbl6 := fun x hx => by
 rcases List.mem_cons.1 hx with rfl | hx
 .exact orS_ok rpowD_ok rpowU_ok
 .exact tbl5_ok x hx
noncomputable def c6 : Ctx := mkC Tryz.prog tbl6 ext
theorem c6_ok : CtxOk c6 := mkC_ok prog_ok tbl6_ok ext_ok
end
end Go.Proofs.YtbboldpghkahjaaGreatDoor.K
namespace Go.Ar
open Go Go.Eng
def rR (a b : Int) : Bool := bif rRt a then (bif rRt b then decide (a <= b) else false) else false
def rBad2 (a b c d : Int) : Bool := bif !rR a b then true else !rR c d
def rOut (g : Bool) (bad : Bool) (l h : Int) : Sp := ⟨bif g then 0 else bif bad then 0 else l, bif g then 0 else bif bad then 0 else h, bif g then 20 else bif bad then 6 else 0⟩
def rAddS (a b c d : Int) : Sp := rOut (rBad2 a b c d) (!rR (IntKind.i64.wrap (a + c)) (IntKind.i64.wrap (b + d))) (IntKind.i64.wrap (a + c)) (IntKind.i64.wrap (b + d))
def rSubS (a b c d : Int) : Sp := rOut (rBad2 a b c d) (!rR (IntKind.i64.wrap (a - d)) (IntKind.i64.wrap (b - c))) (IntKind.i64.wrap (a - d)) (IntKind.i64.wrap (b - c))
def ifmn (x y : Int) : Int := if y < x then y else x
def ifmx (x y : Int) : Int := if y > x then y else x
def rFit (F : Int -> Int -> Bool -> Int) (x y : Int) : Bool := bif okF (F x y false) then okF (F x y true) else false
def rFits (F : Int -> Int -> Bool -> Int) (a b c d : Int) : Bool := bif bif bif rFit F a c then rFit F a d else false then rFit F b c else false then rFit F b d else false
def rLo (F : Int -> Int -> Bool -> Int) (a b c d : Int) : Int := ifmn (ifmn (ifmn (fitV (F a c false)) (fitV (F a d false))) (fitV (F b c false))) (fitV (F b d false))
def rHi (F : Int -> Int -> Bool -> Int) (a b c d : Int) : Int := ifmx (ifmx (ifmx (fitV (F a c true)) (fitV (F a d true))) (fitV (F b c true))) (fitV (F b d true))
def r4Bad (F : Int -> Int -> Bool -> Int) (a b c d : Int) : Bool := bif !rFits F a b c d then true else !rR (rLo F a b c d) (rHi F a b c d)
def rMulS (a b c d : Int) : Sp := rOut (rBad2 a b c d) (r4Bad mF a b c d) (rLo mF a b c d) (rHi mF a b c d)
def rDivS (a b c d : Int) : Sp :=
 ⟨bif rBad2 a b c d then 0 else bif xZ c d then 0 else bif r4Bad dF a b c d then 0 else rLo dF a b c d, bif rBad2 a b c d then 0 else bif xZ c d then 0 else bif r4Bad dF a b c d then 0 else rHi dF a b c d,
  bif rBad2 a b c d then 20 else bif xZ c d then 7 else bif r4Bad dF a b c d then 6 else 0⟩
def rSqrtS (a b : Int) : Sp := ⟨bif !rR a b then 0 else bif decide (a < 0) then 0 else rtV a false, bif !rR a b then 0 else bif decide (a < 0) then 0 else rtV b true, bif !rR a b then 20 else bif decide (a < 0) then 2 else 0⟩
def rScL (a b n d : Int) : Int := ifmn (scaleV a n d false) (scaleV b n d false)
def rScH (a b n d : Int) : Int := ifmx (scaleV a n d true) (scaleV b n d true)
def rScBad (a b n d : Int) : Bool := bif !(scaleE b n d true == 0) then true else !rR (rScL a b n d) (rScH a b n d)
def rSc3 (a b n d x y : Int) : Int := bif scaleE a n d false == 0 then bif scaleE b n d false == 0 then bif scaleE a n d true == 0 then bif rScBad a b n d then y else x else y else y else y
def rScaleS (a b n d : Int) : Sp := ⟨bif !rR a b then 0 else bif scaleE a n d false == 2 then 0 else rSc3 a b n d (rScL a b n d) 0, bif !rR a b then 0 else bif scaleE a n d false == 2 then 0 else rSc3 a b n d (rScH a b n d) 0,
 bif !rR a b then 20 else bif scaleE a n d false == 2 then 2 else rSc3 a b n d 0 6⟩
def rqV (a : Int) (up : Bool) : Int := bif decide (a >= 0) then pV a up else pV (IntKind.i64.wrap (0 - a)) up
def rqB (a : Int) (up : Bool) : Bool := bif decide (a >= 0) then pB a up else pB (IntKind.i64.wrap (0 - a)) up
def rqL (a b : Int) : Int := bif bif decide (a < 0) then decide (b > 0) else false then 0 else ifmn (rqV a false) (rqV b false)
def rqH (a b : Int) : Int := ifmx (rqV a true) (rqV b true)
def rqBad (a b : Int) : Bool := bif !rqB b true then true else !rR (rqL a b) (rqH a b)
def rq3 (a b x y : Int) : Int := bif rqB a false then bif rqB b false then bif rqB a true then bif rqBad a b then y else x else y else y else y
def rSqrS (a b : Int) : Sp := ⟨bif !rR a b then 0 else rq3 a b (rqL a b) 0, bif !rR a b then 0 else rq3 a b (rqH a b) 0, bif !rR a b then 20 else rq3 a b 0 6⟩
theorem rR_eq (a b : Int) : rR a b = okSp a b := by
 unfold rR
 rw [rRt_eq, rRt_eq]
 unfold okF okSp
 by_cases h1 : -4503599627370496 <= a <;> by_cases h2 : a <= b <;> by_cases h3 : b <= 4503599627370496 <;> simp [h1, h2, h3] <;> omega
theorem rR_told {l h : Int} (k : l <= h) : rR l h = (okF l && okF h) := by
 rw [rR_eq]
 unfold okF okSp
 rw [Bool.eq_iff_iff]
 simp
 omega
theorem rOut_told (a b c d l h : Int) (bad : Bool) (k : okSp a b = true -> okSp c d = true -> bad = !(okF l && okF h)) : rOut (rBad2 a b c d) bad l h = both a b c d (toldS l h) := by
 unfold rOut rBad2 both
 rw [rR_eq, rR_eq]
 cases h1 : okSp a b with
 | false => simp [err]
 | true =>
  cases h2 : okSp c d with
  | false => simp [err]
  | true =>
   rw [k h1 h2]
   unfold toldS
   cases okF l && okF h <;> simp [err]
theorem rAddS_eq (a b c d : Int) : rAddS a b c d = addS a b c d := by
 unfold rAddS addS
 rw [rOut_told]
 .unfold both
  cases h1 : okSp a b <;> cases h2 : okSp c d <;> try rfl
  have := okSp_iff.1 h1; have := okSp_iff.1 h2
  rw [i64w (by omega) (by omega), i64w (by omega) (by omega)]
 .intro h1 h2
  have := okSp_iff.1 h1; have := okSp_iff.1 h2
  rw [rR_told]
  rw [i64w (by omega) (by omega), i64w (by omega) (by omega)]; omega
theorem rSubS_eq (a b c d : Int) : rSubS a b c d = subS a b c d := by
 unfold rSubS subS
 rw [rOut_told]
 .unfold both
  cases h1 : okSp a b <;> cases h2 : okSp c d <;> try rfl
  have := okSp_iff.1 h1; have := okSp_iff.1 h2
  rw [i64w (by omega) (by omega), i64w (by omega) (by omega)]
 .intro h1 h2
  have := okSp_iff.1 h1; have := okSp_iff.1 h2
  rw [rR_told]
  rw [i64w (by omega) (by omega), i64w (by omega) (by omega)]; omega
theorem ifmn_eq (x y : Int) : ifmn x y = mn x y := by
 unfold ifmn mn; by_cases h : y < x <;> simp [h]
theorem ifmx_eq (x y : Int) : ifmx x y = mx x y := by
 unfold ifmx mx; by_cases h : x < y <;> simp [h]
theorem fitV_ok {v : Int} (h : okF v = true) : fitV v = v := by unfold fitV; rw [h]; rfl
theorem r4_law (F : Int -> Int -> Bool -> Int) (a b c d : Int) (hF : ∀ x y, (x = a ∨ x = b) -> (y = c ∨ y = d) -> F x y false <= F x y true) :
  (⟨bif r4Bad F a b c d then 0 else rLo F a b c d, bif r4Bad F a b c d then 0 else rHi F a b c d, bif r4Bad F a b c d then 6 else 0⟩ : Sp) = hull4 F a b c d := by
 rw [<- hull_law (fun x y up => fitV (F x y up)) (fun x y up => fitE (F x y up)) F a b c d hF fun x y _ _ => ⟨bad2_of (f := fun x y up => fitE (F x y up)) Iff.rfl, fun hb => ?_⟩]
 .have hfit : ∀ x y, rFit F x y = !bad2 (fun x y up => fitE (F x y up)) x y := by
   intro x y
   rw [bad2_of (e := fun x y up => fitE (F x y up)) (f := fun x y up => fitE (F x y up)) (F := F) Iff.rfl, Bool.not_not]
   unfold rFit
   cases okF (F x y false) <;> rfl
  have hfits : rFits F a b c d = ok4 (fun x y up => fitE (F x y up)) a b c d := by
   unfold rFits ok4
   rw [hfit, hfit, hfit, hfit]
   cases bad2 (fun x y up => fitE (F x y up)) a c <;> cases bad2 (fun x y up => fitE (F x y up)) a d <;> cases bad2 (fun x y up => fitE (F x y up)) b c <;> cases bad2 (fun x y up => fitE (F x y up)) b d <;> rfl
  have el : rLo F a b c d = l3 (fun x y up => fitV (F x y up)) a b c d := by
   unfold rLo l3 l2 l1; rw [nL_eq, nL_eq, nL_eq, ifmn_eq, ifmn_eq, ifmn_eq]
  have eh : rHi F a b c d = h3 (fun x y up => fitV (F x y up)) a b c d := by
   unfold rHi h3 h2 h1; rw [nH_eq, nH_eq, nH_eq, ifmx_eq, ifmx_eq, ifmx_eq]
  unfold bL bH bE r4Bad
  rw [hfits, <- el, <- eh]
  cases hk : ok4 (fun x y up => fitE (F x y up)) a b c d with
  | false => rfl
  | true =>
   have hle : rLo F a b c d <= rHi F a b c d := by
    unfold ok4 at hk
    simp only [Bool.and_eq_true] at hk
    have h1 := hk.1.1
    rw [bad2_of (e := fun x y up => fitE (F x y up)) (f := fun x y up => fitE (F x y up)) (F := F) Iff.rfl, Bool.not_not, Bool.and_eq_true] at h1
    have h2 := hF a c (.inl rfl) (.inl rfl)
    have m1 := mn_le (fitV (F a c false)) (fitV (F a d false)); have m2 := mn_le (mn (fitV (F a c false)) (fitV (F a d false))) (fitV (F b c false)); have m3 := mn_le (mn (mn (fitV (F a c false)) (fitV (F a d false))) (fitV (F b c false))) (fitV (F b d false))
    have n1 := le_mx (fitV (F a c true)) (fitV (F a d true)); have n2 := le_mx (mx (fitV (F a c true)) (fitV (F a d true))) (fitV (F b c true)); have n3 := le_mx (mx (mx (fitV (F a c true)) (fitV (F a d true))) (fitV (F b c true))) (fitV (F b d true))
    rw [fitV_ok h1.1] at m1 m2 m3
    rw [fitV_ok h1.2] at n1 n2 n3
    unfold rLo rHi
    rw [ifmn_eq, ifmn_eq, ifmn_eq, ifmx_eq, ifmx_eq, ifmx_eq, fitV_ok h1.1, fitV_ok h1.2]
    omega
   have ht : (!rR (rLo F a b c d) (rHi F a b c d)) = xTb (rLo F a b c d) (rHi F a b c d) := by rw [rR_told hle, xTb_eq hle]
   simp only [Bool.not_true, cond_false, cond_true, ht]
 .rw [bad2_of (e := fun x y up => fitE (F x y up)) (f := fun x y up => fitE (F x y up)) (F := F) Iff.rfl] at hb
  simp only [Bool.not_eq_false', Bool.and_eq_true] at hb
  exact ⟨fitV_ok hb.1, fitV_ok hb.2⟩
theorem rMulS_eq (a b c d : Int) : rMulS a b c d = mulS a b c d := by
 unfold rMulS mulS both rOut rBad2
 rw [rR_eq, rR_eq]
 cases h1 : okSp a b with
 | false => simp [err]
 | true =>
  cases h2 : okSp c d with
  | false => simp [err]
  | true =>
   rw [<- r4_law mF a b c d fun x y _ _ => rd_le _ _ (by decide)]
   rfl
theorem rDivS_eq (a b c d : Int) : rDivS a b c d = divS a b c d := by
 unfold rDivS divS both rBad2
 rw [rR_eq, rR_eq, xZ_eq]
 cases h1 : okSp a b with
 | false => simp [err]
 | true =>
  cases h2 : okSp c d with
  | false => simp [err]
  | true =>
   cases h3 : (decide (c <= 0) && decide (0 <= d)) with
   | true => simp [err]
   | false =>
    have h2 := okSp_iff.1 h2
    rw [<- r4_law dF a b c d fun x y _ hy => rd_le _ _ (by
     have : y ≠ 0 := by
      intro h0
      simp only [Bool.and_eq_false_iff, decide_eq_false_iff_not] at h3
      rcases hy with rfl | rfl <;> omega
     rcases sg_cases y with ⟨_, e⟩ | ⟨_, e⟩ <;> omega)]
    rfl
theorem rSqrtS_eq (a b : Int) : rSqrtS a b = sqrtS a b := by
 unfold rSqrtS sqrtS
 rw [rR_eq]
 cases okSp a b with
 | false => rfl
 | true => cases decide (a < 0) <;> rfl
end Go.Ar
namespace Go.Ar
open Go Go.Eng
theorem scE_eq {x n d : Int} (hx : okF x = true) (up : Bool) : scaleE x n d up = bif okR n d then fitE (rd (x * n) d up) else 2 := by
 unfold scaleE okS okR; rw [hx]; rfl
theorem scV_eq {x n d : Int} (hx : okF x = true) (up : Bool) : scaleV x n d up = bif okR n d then fitV (rd (x * n) d up) else 0 := by
 unfold scaleV okS okR; rw [hx]; rfl
theorem rd_mn {x y d : Int} (hd : 0 < d) : rd (mn x y) d false = mn (rd x d false) (rd y d false) := by
 have m := mn_le x y
 have k := mn_le (rd x d false) (rd y d false)
 by_cases h : y < x
 .have e : mn x y = y := by unfold mn; rw [decide_eq_true h]; rfl
  have := rd_lt_rd hd (Int.le_of_lt h) false
  rw [e]; omega
 .have e : mn x y = x := by unfold mn; rw [decide_eq_false h]; rfl
  have := rd_lt_rd hd (show x <= y by omega) false
  rw [e]; omega
theorem rd_mx {x y d : Int} (hd : 0 < d) : rd (mx x y) d true = mx (rd x d true) (rd y d true) := by
 have m := le_mx x y
 have k := le_mx (rd x d true) (rd y d true)
 by_cases h : x < y
 .have e : mx x y = y := by unfold mx; rw [decide_eq_true h]; rfl
  have := rd_lt_rd hd (Int.le_of_lt h) true
  rw [e]; omega
 .have e : mx x y = x := by unfold mx; rw [decide_eq_false h]; rfl
  have := rd_lt_rd hd (show y <= x by omega) true
  rw [e]; omega
theorem fitE_beq (v : Int) : (fitE v == 0) = okF v /\ (fitE v == 2) = false := by
 unfold fitE; cases okF v <;> exact ⟨rfl, rfl⟩
theorem rScaleS_eq (a b n d : Int) : rScaleS a b n d = scaleS a b n d := by
 unfold rScaleS scaleS
 rw [rR_eq]
 cases h : okSp a b with
 | false => simp [err]
 | true =>
  obtain ⟨ha, hb⟩ := okF_of_sp h
  unfold rSc3 rScBad rScL rScH
  rw [scE_eq ha, scE_eq ha, scE_eq hb, scE_eq hb, scV_eq ha, scV_eq ha, scV_eq hb, scV_eq hb]
  cases hr : okR n d with
  | false => simp [err]
  | true =>
   simp only [okR, Bool.and_eq_true, decide_eq_true_eq] at hr
   obtain ⟨⟨⟨n1, n2⟩, d1⟩, d2⟩ := hr
   have hd : 0 < d := by omega
   simp only [cond_true, Bool.not_true, cond_false]
   rw [(fitE_beq _).2, (fitE_beq _).1, (fitE_beq _).1, (fitE_beq _).1, (fitE_beq _).1, rd_mn hd, rd_mx hd]
   have o1 := rd_le (a * n) d hd
   have o2 := rd_le (b * n) d hd
   generalize rd (a * n) d false = A0 at *
   generalize rd (a * n) d true = A1 at *
   generalize rd (b * n) d false = B0 at *
   generalize rd (b * n) d true = B1 at *
   have m := mn_le A0 B0
   have k := le_mx A1 B1
   by_cases hall : okF A0 = true /\ okF B0 = true /\ okF A1 = true /\ okF B1 = true
   .obtain ⟨f1, f2, f3, f4⟩ := hall
    rw [fitV_ok f1, fitV_ok f2, fitV_ok f3, fitV_ok f4, ifmn_eq, ifmx_eq, rR_told (by omega), f1, f2, f3, f4]
    have g1 := okF_iff.1 f1; have g2 := okF_iff.1 f2; have g3 := okF_iff.1 f3; have g4 := okF_iff.1 f4
    have l : okF (mn A0 B0) = true := okF_iff.2 (by omega)
    have u : okF (mx A1 B1) = true := okF_iff.2 (by omega)
    unfold toldS
    rw [l, u]; rfl
   .have hbad : (okF (mn A0 B0) && okF (mx A1 B1)) = false := by
     cases hh : (okF (mn A0 B0) && okF (mx A1 B1)) with
     | false => rfl
     | true =>
      simp only [Bool.and_eq_true, okF_iff] at hh
      exact absurd ⟨okF_iff.2 (by omega), okF_iff.2 (by omega), okF_iff.2 (by omega), okF_iff.2 (by omega)⟩ hall
    unfold toldS
    rw [hbad]
    cases f1 : okF A0 <;> cases f2 : okF B0 <;> cases f3 : okF A1 <;> cases f4 : okF B1 <;> first | rfl | exact absurd ⟨f1, f2, f3, f4⟩ hall
theorem pB_eq {v : Int} (up : Bool) : pB v up = decide (rd (v * v) 4294967296 up <= 4503599627370496) /\ (pB v up = true -> pV v up = rd (v * v) 4294967296 up) := by
 have h1 := rd_le (v * v) 4294967296 (by decide)
 have h2 : rd (v * v) 4294967296 false = v * v / 4294967296 := rfl
 unfold pB pV
 cases he : pEarly v with
 | false => exact ⟨rfl, fun _ => rfl⟩
 | true =>
  refine ⟨?_, fun h => by cases h⟩
  have := of_decide_eq_true he
  symm
  rw [cond_true, decide_eq_false_iff_not]
  cases up <;> omega
theorem rq_abs {a : Int} (h : okF a = true) (up : Bool) : rqB a up = decide (rd (a * a) 4294967296 up <= 4503599627370496) /\ (rqB a up = true -> rqV a up = rd (a * a) 4294967296 up) := by
 have h := okF_iff.1 h
 unfold rqB rqV
 by_cases c : a >= 0
 .rw [decide_eq_true c]; exact pB_eq up
 .rw [decide_eq_false c, cond_false, cond_false, i64w (by omega) (by omega), Int.zero_sub]
  have := pB_eq (v := -a) up
  rw [Int.neg_mul_neg] at this
  exact this
theorem rSqrS_eq (a b : Int) : rSqrS a b = sqrS a b := by
 unfold rSqrS sqrS
 rw [rR_eq]
 cases h : okSp a b with
 | false => simp [err]
 | true =>
  obtain ⟨ha, hb⟩ := okF_of_sp h
  have k := okSp_iff.1 h
  obtain ⟨_, _, l0, l1, l2⟩ := xa_eq h
  obtain ⟨af, vaf⟩ := rq_abs ha false
  obtain ⟨at', vat⟩ := rq_abs ha true
  obtain ⟨bf, vbf⟩ := rq_abs hb false
  obtain ⟨bt, vbt⟩ := rq_abs hb true
  have hl : abL a b * abL a b = (if a < 0 /\ 0 < b then 0 else mn (a * a) (b * b)) /\ abH a b * abH a b = mx (a * a) (b * b) := by
   have q0 : 0 <= a * a := by
    rcases Int.le_total 0 a with c | c
    .exact Int.mul_nonneg c c
    .exact Int.mul_nonneg_of_nonpos_of_nonpos c c
   have q1 : 0 <= b * b := by
    rcases Int.le_total 0 b with c | c
    .exact Int.mul_nonneg c c
    .exact Int.mul_nonneg_of_nonpos_of_nonpos c c
   have key : ∀ x y : Int, 0 <= x -> x <= y -> x * x <= y * y := fun x y h1 h2 => Int.mul_le_mul h2 h2 h1 (by omega)
   rcases Int.lt_or_le a 0 with c | c
   .rcases Int.lt_or_le 0 b with e | e
    .have eL : abL a b = 0 := by have m1 := le_mx a (-b); have m2 := le_mx (mx a (-b)) 0; unfold abL; omega
     rw [eL, if_pos ⟨c, e⟩]
     refine ⟨rfl, ?_⟩
     unfold abH
     by_cases h2 : b < -a
     .have eH : mx b (-a) = -a := by unfold mx; rw [decide_eq_true h2]; rfl
      have := key b (-a) (by omega) (by omega)
      rw [Int.neg_mul_neg] at this
      rw [eH, Int.neg_mul_neg]
      have m := le_mx (a * a) (b * b); omega
     .have eH : mx b (-a) = b := by unfold mx; rw [decide_eq_false h2]; rfl
      have := key (-a) b (by omega) (by omega)
      rw [Int.neg_mul_neg] at this
      rw [eH]
      have m := le_mx (a * a) (b * b); omega
    .have eL : abL a b = -b := by have m1 := le_mx a (-b); have m2 := le_mx (mx a (-b)) 0; unfold abL; omega
     have eH : abH a b = -a := by have m1 := le_mx b (-a); unfold abH; omega
     have := key (-b) (-a) (by omega) (by omega)
     rw [Int.neg_mul_neg, Int.neg_mul_neg] at this
     rw [eL, eH, if_neg (by omega), Int.neg_mul_neg, Int.neg_mul_neg]
     have m := le_mx (a * a) (b * b); have m' := mn_le (a * a) (b * b); omega
   .have eL : abL a b = a := by have m1 := le_mx a (-b); have m2 := le_mx (mx a (-b)) 0; unfold abL; omega
    have eH : abH a b = b := by have m1 := le_mx b (-a); unfold abH; omega
    have := key a b c k.2.1
    rw [eL, eH, if_neg (by omega)]
    have m := le_mx (a * a) (b * b); have m' := mn_le (a * a) (b * b); omega
  rw [hl.1, hl.2, rd_mx (by decide)]
  have lowE : rd (if a < 0 /\ 0 < b then 0 else mn (a * a) (b * b)) 4294967296 false = (if a < 0 /\ 0 < b then 0 else mn (rd (a * a) 4294967296 false) (rd (b * b) 4294967296 false)) := by
   split
   .rfl
   .exact rd_mn (by decide)
  rw [lowE]
  have q0 : 0 <= rd (a * a) 4294967296 false := by
   show 0 <= a * a / 4294967296
   exact Int.ediv_nonneg (by
    rcases Int.le_total 0 a with c | c
    .exact Int.mul_nonneg c c
    .exact Int.mul_nonneg_of_nonpos_of_nonpos c c) (by decide)
  have q1 : 0 <= rd (b * b) 4294967296 false := by
   show 0 <= b * b / 4294967296
   exact Int.ediv_nonneg (by
    rcases Int.le_total 0 b with c | c
    .exact Int.mul_nonneg c c
    .exact Int.mul_nonneg_of_nonpos_of_nonpos c c) (by decide)
  have o1 := rd_le (a * a) 4294967296 (by decide)
  have o2 := rd_le (b * b) 4294967296 (by decide)
  unfold rq3 rqBad rqL rqH
  generalize rd (a * a) 4294967296 false = A0 at *
  generalize rd (a * a) 4294967296 true = A1 at *
  generalize rd (b * b) 4294967296 false = B0 at *
  generalize rd (b * b) 4294967296 true = B1 at *
  have m := mn_le A0 B0
  have kx := le_mx A1 B1
  by_cases hall : A1 <= 4503599627370496 /\ B1 <= 4503599627370496
  .rw [decide_eq_true (show A0 <= 4503599627370496 by omega)] at af
   rw [decide_eq_true hall.1] at at'
   rw [decide_eq_true (show B0 <= 4503599627370496 by omega)] at bf
   rw [decide_eq_true hall.2] at bt
   rw [af, at', bf, bt, vaf af, vat at', vbf bf, vbt bt, ifmn_eq, ifmx_eq]
   have low : (bif bif decide (a < 0) then decide (b > 0) else false then 0 else mn A0 B0) = (if a < 0 /\ 0 < b then 0 else mn A0 B0) := by
    by_cases c : a < 0 <;> by_cases e : 0 < b <;> simp [c, e]
   rw [low]
   have bl : 0 <= (if a < 0 /\ 0 < b then 0 else mn A0 B0) /\ (if a < 0 /\ 0 < b then 0 else mn A0 B0) <= mx A1 B1 := by split <;> omega
   generalize (if a < 0 /\ 0 < b then 0 else mn A0 B0) = L at *
   rw [rR_told bl.2]
   have l : okF L = true := okF_iff.2 (by omega)
   have u : okF (mx A1 B1) = true := okF_iff.2 (by omega)
   unfold toldS
   rw [l, u]; rfl
  .have u : okF (mx A1 B1) = false := okF_false.2 (by omega)
   unfold toldS
   rw [u, Bool.and_false]
   cases f1 : rqB a false <;> cases f2 : rqB b false <;> cases f3 : rqB a true <;> cases f4 : rqB b true <;> first | rfl | skip
   rw [f3] at at'
   rw [f4] at bt
   exact absurd ⟨of_decide_eq_true at'.symm, of_decide_eq_true bt.symm⟩ hall
end Go.Ar
namespace Go.Ar
open Go Go.Eng
def ndM4 (G : Int -> Int -> Bool) (F : Int -> Int -> Bool -> Int) (a b c d : Int) : Prop :=
 (d = d /\ c = c /\ d = d /\ c = c) /\ (((G a c = true /\ G a c = true) /\ (G a d = true /\ G a d = true) /\ (G b c = true /\ G b c = true) /\ (G b d = true /\ G b d = true)) /\
  (fitV (F a c true) = fitV (F a c true) /\ fitV (F a d true) = fitV (F a d true) /\ fitV (F b c true) = fitV (F b c true) /\ fitV (F b d true) = fitV (F b d true)))
def ndMul (a b c d : Int) : Prop := (!rBad2 a b c d) = true -> ndM4 (fun x y => okF x && okF y) mF a b c d
def ndDiv (a b c d : Int) : Prop := (!rBad2 a b c d) = true -> (!xZ c d) = true -> ndM4 (fun x y => okF x && (okF y && !y == 0)) dF a b c d
def ndP (v : Int) : Prop := (decide (v >= 0) = true -> (decide (0 <= v) && okF v) = true) /\ ((!decide (v >= 0)) = true -> (decide (0 <= IntKind.i64.wrap (0 - v)) && okF (IntKind.i64.wrap (0 - v))) = true)
def ndSqr (a b : Int) : Prop := (!!rR a b) = true -> ndP a /\ ndP b /\ ndP a /\ ndP b
def ndSqrt (a b : Int) : Prop := (!!rR a b) = true -> (!decide (a < 0)) = true -> sqOk a = true /\ b = b /\ sqOk b = true
theorem bad2_ok {a b c d : Int} (h : (!rBad2 a b c d) = true) : (okF a = true /\ okF b = true /\ a <= b) /\ okF c = true /\ okF d = true /\ c <= d := by
 unfold rBad2 at h
 rw [rR_eq, rR_eq] at h
 cases h1 : okSp a b with
 | false => rw [h1] at h; cases h
 | true =>
  rw [h1] at h
  cases h2 : okSp c d with
  | false => rw [h2] at h; cases h
  | true =>
   have k1 := okF_of_sp h1; have k2 := okF_of_sp h2
   have l1 : a <= b := by unfold okSp at h1; simp at h1; omega
   have l2 : c <= d := by unfold okSp at h2; simp at h2; omega
   exact ⟨⟨k1.1, k1.2, l1⟩, k2.1, k2.2, l2⟩
theorem ndMul_ok (a b c d : Int) : ndMul a b c d := by
 intro h
 obtain ⟨⟨h1, h2, _⟩, h3, h4, _⟩ := bad2_ok h
 unfold ndM4
 simp [h1, h2, h3, h4]
theorem ndDiv_ok (a b c d : Int) : ndDiv a b c d := by
 intro h hz
 obtain ⟨⟨h1, h2, _⟩, h3, h4, h5⟩ := bad2_ok h
 have : c ≠ 0 /\ d ≠ 0 := by
  unfold xZ at hz
  simp at hz
  omega
 unfold ndM4
 simp [h1, h2, h3, h4, this.1, this.2]
theorem ndP_ok {v : Int} (h : okF v = true) : ndP v := by
 have := okF_iff.1 h
 refine ⟨fun k => ?_, fun k => ?_⟩
 .simp at k; simp [k, h]
 .simp at k
  have e : IntKind.i64.wrap (0 - v) = 0 - v := i64w (by omega) (by omega)
  have h2 : okF (0 - v) = true := okF_iff.2 (by omega)
  have h3 : (0 : Int) <= 0 - v := by omega
  rw [e, h2, decide_eq_true h3]; rfl
theorem ndSqr_ok (a b : Int) : ndSqr a b := by
 intro h
 rw [Bool.not_not, rR_eq] at h
 obtain ⟨h1, h2⟩ := okF_of_sp h
 exact ⟨ndP_ok h1, ndP_ok h2, ndP_ok h1, ndP_ok h2⟩
theorem ndSqrt_ok (a b : Int) : ndSqrt a b := by
 intro h h0
 rw [Bool.not_not, rR_eq] at h
 obtain ⟨h1, h2⟩ := okF_of_sp h
 have l : a <= b := by unfold okSp at h; simp at h; omega
 have k1 := okF_iff.1 h1; have k2 := okF_iff.1 h2
 simp at h0
 have g1 : sqOk a = true := by unfold sqOk; rw [h1, decide_eq_true h0]; rfl
 have g2 : sqOk b = true := by unfold sqOk; rw [h2, decide_eq_true (show (0 : Int) <= b by omega)]; rfl
 exact ⟨g1, rfl, g2⟩
end Go.Ar
namespace Go.Proofs.YtbboldpghkahjaaGreatDoor.K
open Go Go.Eng Go.Ar
noncomputable section
theorem radd_run (a b c d : Int) : oneV ((run c6 300).call 44 [.agg [.int true .i64 a, .int true .i64 b], .agg [.int true .i64 c, .int true .i64 d]] ⟨[], 0, 1⟩) = some (.tt, (outS (rAddS a b c d)).av true) := by kernel_rfl
theorem rsub_run (a b c d : Int) : oneV ((run c6 300).call 83 [.agg [.int true .i64 a, .int true .i64 b], .agg [.int true .i64 c, .int true .i64 d]] ⟨[], 0, 1⟩) = some (.tt, (outS (rSubS a b c d)).av true) := by kernel_rfl
theorem rmul_run (a b c d : Int) : oneV ((run c6 300).call 79 [.agg [.int true .i64 a, .int true .i64 b], .agg [.int true .i64 c, .int true .i64 d]] ⟨[], 0, 1⟩) = some (.p (ndMul a b c d), (outS (rMulS a b c d)).av true) := by kernel_rfl
theorem rdiv_run (a b c d : Int) : oneV ((run c6 300).call 46 [.agg [.int true .i64 a, .int true .i64 b], .agg [.int true .i64 c, .int true .i64 d]] ⟨[], 0, 1⟩) = some (.p (ndDiv a b c d), (outS (rDivS a b c d)).av true) := by kernel_rfl
theorem rsqrt_run (a b : Int) : oneV ((run c6 300).call 88 [.agg [.int true .i64 a, .int true .i64 b]] ⟨[], 0, 1⟩) = some (.p (ndSqrt a b), (outS (rSqrtS a b)).av true) := by kernel_rfl
theorem rsqr_run (a b : Int) : oneV ((run c6 300).call 87 [.agg [.int true .i64 a, .int true .i64 b]] ⟨[], 0, 1⟩) = some (.p (ndSqr a b), (outS (rSqrS a b)).av true) := by kernel_rfl
theorem rsc_run (a b n d : Int) : oneV ((run c6 300).call 42 [.agg [.int true .i64 a, .int true .i64 b], .int true .i64 n, .int true .i64 d] ⟨[], 0, 1⟩) = some (.tt, (outS (rScaleS a b n d)).av true) := by kernel_rfl
theorem radd_ok : PureOk Tryz.prog 44 (sBin addS) := by
 refine num_ok (fun xs hk _ => ?_) ⟨_, Tryz.func44, rfl⟩
 obtain ⟨a, _, rfl, h1⟩ := kn hk; obtain ⟨b, _, rfl, h2⟩ := kn h1; obtain ⟨c, _, rfl, h3⟩ := kn h2; obtain ⟨d, _, rfl, h4⟩ := kn h3; obtain rfl := k0 h4
 exact ⟨c6, 300, _, c6_ok, rfl, fun _ => rfl, rfl, (radd_run a b c d).trans (by rw [rAddS_eq]), trivial⟩
theorem rsub_ok : PureOk Tryz.prog 83 (sBin subS) := by
 refine num_ok (fun xs hk _ => ?_) ⟨_, Tryz.func83, rfl⟩
 obtain ⟨a, _, rfl, h1⟩ := kn hk; obtain ⟨b, _, rfl, h2⟩ := kn h1; obtain ⟨c, _, rfl, h3⟩ := kn h2; obtain ⟨d, _, rfl, h4⟩ := kn h3; obtain rfl := k0 h4
 exact ⟨c6, 300, _, c6_ok, rfl, fun _ => rfl, rfl, (rsub_run a b c d).trans (by rw [rSubS_eq]), trivial⟩
theorem rmul_ok : PureOk Tryz.prog 79 (sBin mulS) := by
 refine num_ok (fun xs hk _ => ?_) ⟨_, Tryz.func79, rfl⟩
 obtain ⟨a, _, rfl, h1⟩ := kn hk; obtain ⟨b, _, rfl, h2⟩ := kn h1; obtain ⟨c, _, rfl, h3⟩ := kn h2; obtain ⟨d, _, rfl, h4⟩ := kn h3; obtain rfl := k0 h4
 exact ⟨c6, 300, _, c6_ok, rfl, fun _ => rfl, rfl, (rmul_run a b c d).trans (by rw [rMulS_eq]), ndMul_ok a b c d⟩
theorem rdiv_ok : PureOk Tryz.prog 46 (sBin divS) := by
 refine num_ok (fun xs hk _ => ?_) ⟨_, Tryz.func46, rfl⟩
 obtain ⟨a, _, rfl, h1⟩ := kn hk; obtain ⟨b, _, rfl, h2⟩ := kn h1; obtain ⟨c, _, rfl, h3⟩ := kn h2; obtain ⟨d, _, rfl, h4⟩ := kn h3; obtain rfl := k0 h4
 exact ⟨c6, 300, _, c6_ok, rfl, fun _ => rfl, rfl, (rdiv_run a b c d).trans (by rw [rDivS_eq]), ndDiv_ok a b c d⟩
theorem rsqrt_ok : PureOk Tryz.prog 88 (sUn sqrtS) := by
 refine num_ok (fun xs hk _ => ?_) ⟨_, Tryz.func88, rfl⟩
 obtain ⟨a, _, rfl, h1⟩ := kn hk; obtain ⟨b, _, rfl, h2⟩ := kn h1; obtain rfl := k0 h2
 exact ⟨c6, 300, _, c6_ok, rfl, fun _ => rfl, rfl, (rsqrt_run a b).trans (by rw [rSqrtS_eq]), ndSqrt_ok a b⟩
theorem rsqr_ok : PureOk Tryz.prog 87 (sUn sqrS) := by
 refine num_ok (fun xs hk _ => ?_) ⟨_, Tryz.func87, rfl⟩
 obtain ⟨a, _, rfl, h1⟩ := kn hk; obtain ⟨b, _, rfl, h2⟩ := kn h1; obtain rfl := k0 h2
 exact ⟨c6, 300, _, c6_ok, rfl, fun _ => rfl, rfl, (rsqr_run a b).trans (by rw [rSqrS_eq]), ndSqr_ok a b⟩
theorem rsc_ok : PureOk Tryz.prog 42 (sSc scaleS) := by
 refine num_ok (fun xs hk _ => ?_) ⟨_, Tryz.func42, rfl⟩
 obtain ⟨a, _, rfl, h1⟩ := kn hk; obtain ⟨b, _, rfl, h2⟩ := kn h1; obtain ⟨n, _, rfl, h3⟩ := kn h2; obtain ⟨d, _, rfl, h4⟩ := kn h3; obtain rfl := k0 h4
 exact ⟨c6, 300, _, c6_ok, rfl, fun _ => rfl, rfl, (rsc_run a b n d).trans (by rw [rScaleS_eq]), trivial⟩
end
end Go.Proofs.YtbboldpghkahjaaGreatDoor.K
namespace Go.Eng
open Go
end Go.Eng
namespace Go.Proofs.YtbboldpghkahjaaGreatDoor
open Go Go.Eng
theorem all_names : (Tryz.prog.funcs.toList.all fun fn => !(fn.name == "runtime.NumGoroutine")) = true := by kernel_rfl
theorem prog_ok : ProgOk Tryz.prog := by
 refine ⟨fun f fn h _ => ?_, by kernel_rfl⟩
 have h1 : fn ∈ Tryz.prog.funcs.toList := by
  rw [Array.mem_toList_iff]
  exact Array.mem_of_getElem? h
 have := List.all_eq_true.1 all_names fn h1
 simpa using this
def ext (f : FuncId) (args : List AV) : Option (Nd × AV) :=
 match Nat.beq f 186 with
 | true => match args with
  | [.int false .u64 x, .int false .u64 y, .int false .u64 c] => match decide (0 <= x /\ 0 <= y /\ 0 <= c /\ c <= 1) with
   | true => some (.tt, .tuple [mkInt false .u64 ((x + y + c) % 18446744073709551616), mkInt false .u64 ((x + y + c) / 18446744073709551616)])
   | false => none
  | _ => none
 | false => none
theorem add64_run (x y c : Int) (hx : 0 <= x) (hy : 0 <= y) (hc0 : 0 <= c) (hc : c <= 1) (w : World) :
  (callFunc 186 #[.int .u64 x, .int .u64 y, .int .u64 c]).run Tryz.prog w = .ok (.value (.tuple #[.int .u64 ((x + y + c) % 18446744073709551616), .int .u64 ((x + y + c) / 18446744073709551616)])) w := by
 rw [run_callFunc_extern Tryz.func186 (by kernel_rfl) (by kernel_rfl) (by kernel_rfl) (e := add64Entry) (by kernel_rfl), run_add64 x y c hx hy hc0 hc]
 rfl
theorem ext_ok : ExtOk Tryz.prog ext := by
 intro f args nd v e hn σ A W ha
 unfold ext at e
 split at e
 .rename_i hf
  have := Nat.eq_of_beq_eq_true hf
  subst this
  split at e
  .rename_i x y c
   split at e
   .rename_i hd
    have hd := of_decide_eq_true hd
    cases e
    obtain ⟨V, L, hL, rfl, V2, L2, hL2, rfl, V3, L3, hL3, rfl, hL4⟩ := ha
    rw [hL2, hL3, show L3 = [] from hL4] at hL
    have hA : A = #[.int .u64 x, .int .u64 y, .int .u64 c] := by
     apply Array.toList_inj.1; simpa using hL
    subst hA
    exact ⟨_, ⟨_, rfl, _, _, rfl, (mkInt_rel _ _ _ _).2 rfl, _, _, rfl, (mkInt_rel _ _ _ _).2 rfl, rfl⟩, add64_run x y c hd.1 hd.2.1 hd.2.2.1 hd.2.2.2 W⟩
   .cases e
  .cases e
 .cases e
def gl : List (Nat × IntKind × List Int) := [(0, .i64, [4294967296, 4294967296])]
def glob (g : Nat) : Option Nat :=
 match Nat.beq g 0 with
 | true => some 0
 | false => none
def hG : Hp := ⟨[⟨0, .cells [.int false .i64 4294967296, .int false .i64 4294967296]⟩], 1, 1⟩
theorem hG_eq : hG = ⟨intBlks gl, gl.length, 1⟩ := rfl
theorem glob_lt : ∀ g i, glob g = some i -> i < hG.size := by
 intro g i h
 unfold glob at h
 repeat' (split at h; · cases h; decide)
 cases h
def laidL : List (String × DataW Unit) := [("monocle/surface.one", Rows.laid_monocle_surface_one)]
theorem of_laid {W : World} (h : laidMetH Tryz.prog laidL W) : ∃ σ : Sg, (∀ gl i, glob gl = some i -> ∃ N, σ i = some (gl, N)) /\ HRel σ hG W := by
 have hl : (laidL.all fun x => x.2.handleName?.isNone) = true := by kernel_rfl
 obtain ⟨cs0, e0, n0, p0, h0, d0⟩ := laid_cells h hl (n := "monocle/surface.one") (.head _) (g := 0) (t := 45) (by kernel_rfl) (by kernel_rfl) (of_decide_eq_true (by kernel_rfl)) (trod_len_struct Tryz.underlying45)
 have q0 := two_ints (k := .i64) Tryz.underlying45 rfl rfl rfl rfl Tryz.underlying3 (by kernel_rfl) (by kernel_rfl) d0
 refine ⟨intSg gl, fun g i hg => ?_, hG_eq ▸ int_rel (by decide) fun x hx => ?_⟩
 .unfold glob at hg
  split at hg
  .rename_i hb; cases hg; rw [Nat.eq_of_beq_eq_true hb]; exact ⟨_, rfl⟩
  .cases hg
 .simp only [gl, List.mem_cons, List.not_mem_nil, or_false] at hx
  rcases hx with rfl
  .exact ⟨cs0, e0, h0, q0⟩
end Go.Proofs.YtbboldpghkahjaaGreatDoor
namespace Go.Proofs.YtbboldpghkahjaaGreatDoor.K
open Go Go.Eng Go.Ar
noncomputable section
noncomputable def tblP : List (FuncId × PSpec) := [(97, sChk), (134, sBin addS), (107, sBin subS), (101, sBin mulS), (73, sBin divS), (100, sUn sqrS), (69, sUn sqrtS), (113, sSc xScaleS)]
theorem tblP_ok : TblOk Tryz.prog tblP := by
 intro x hx
 simp only [tblP, List.mem_cons, List.not_mem_nil, or_false] at hx
 rcases hx with rfl | rfl | rfl | rfl | rfl | rfl | rfl | rfl
 .exact schk_ok
 .exact sadd_ok
 .exact ssub_ok
 .exact smul_ok
 .exact sdiv_ok
 .exact ssqr_ok
 .exact ssqrt_ok
 .exact sscale_ok
theorem tblP_g : ∀ x ∈ tblP, GOk Tryz.prog glob hG x.1 x.2 := fun x hx => (tblP_ok x hx).g glob hG
theorem hG_plain : blksPlain hG.size hG.blks = true := by kernel_rfl
end
end Go.Proofs.YtbboldpghkahjaaGreatDoor.K
namespace Go.Proofs.YtbboldpghkahjaaGreatDoor.K
open Go Go.Eng Go.Ar
noncomputable section
def goodV (s : Sp) : AV := .tuple [.agg [.int true .i64 s.lo, .int true .i64 s.hi], .int false .i64 0]
def good4 (ss : List Sh) (F : Int -> Int -> Int -> Int -> Sp) : PSpec := fun args => match Sh.readL ss args with
 | some (_, [.n a, .n b, .n c, .n d]) => some (.p ((F a b c d).e = 0), goodV (F a b c d))
 | _ => none
def good2 (ss : List Sh) (F : Int -> Int -> Sp) : PSpec := fun args => match Sh.readL ss args with
 | some (_, [.n a, .n b]) => some (.p ((F a b).e = 0), goodV (F a b))
 | _ => none
theorem outS_good {σ : Sg} {s : Bool} {x : Sp} {W : Value} (h : VRel σ ((outS x).av s) W) (he : x.e = 0) : VRel σ (goodV x) W := by
 obtain ⟨K, rfl, h1⟩ := h
 obtain ⟨V1, L1, e1, h2, h3⟩ := h1
 obtain ⟨V2, L2, e2, h4, h5⟩ := h3
 obtain ⟨K1, rfl, h6⟩ := h2
 obtain ⟨V3, L3, e3, h7, h8⟩ := h6
 obtain ⟨V4, L4, e4, h9, h10⟩ := h8
 have h4 := (Go.Eng.mkInt_rel _ _ _ _).1 h4
 have h7 := (Go.Eng.mkInt_rel _ _ _ _).1 h7
 have h9 := (Go.Eng.mkInt_rel _ _ _ _).1 h9
 rw [he] at h4
 exact ⟨K, rfl, _, L1, e1, ⟨K1, rfl, V3, L3, e3, h7, V4, L4, e4, h9, h10⟩, V2, L2, e2, h4, h5⟩
theorem good_bin {f : FuncId} {F : Int -> Int -> Int -> Int -> Sp} (g : PureOk Tryz.prog f (sBin F)) : GOk Tryz.prog glob hG f (good4 [shS, shS] F) := by
 refine (g.g glob hG).weaken fun args nd v e => ?_
 unfold good4 at e
 split at e
 .rename_i s a b c d hr
  cases e
  refine ⟨.tt, (outS (F a b c d)).av s, ?_, fun hn => ⟨trivial, fun σ W hW => outS_good hW hn⟩⟩
  unfold sBin numSpec
  rw [hr]
 .cases e
theorem good_sc {f : FuncId} {F : Int -> Int -> Int -> Int -> Sp} (g : PureOk Tryz.prog f (sSc F)) : GOk Tryz.prog glob hG f (good4 [shS, .i .i64, .i .i64] F) := by
 refine (g.g glob hG).weaken fun args nd v e => ?_
 unfold good4 at e
 split at e
 .rename_i s a b c d hr
  cases e
  refine ⟨.tt, (outS (F a b c d)).av s, ?_, fun hn => ⟨trivial, fun σ W hW => outS_good hW hn⟩⟩
  unfold sSc numSpec
  rw [hr]
 .cases e
theorem good_un {f : FuncId} {F : Int -> Int -> Sp} (g : PureOk Tryz.prog f (sUn F)) : GOk Tryz.prog glob hG f (good2 [shS] F) := by
 refine (g.g glob hG).weaken fun args nd v e => ?_
 unfold good2 at e
 split at e
 .rename_i s a b hr
  cases e
  refine ⟨.tt, (outS (F a b)).av s, ?_, fun hn => ⟨trivial, fun σ W hW => outS_good hW hn⟩⟩
  unfold sUn numSpec
  rw [hr]
 .cases e
def nOkSp : List Nu -> Bool
 | [.n a, .n b] => okSp a b
 | _ => false
def chkSpec : PSpec := fun args => match Sh.readL [shS] args with
 | some (_, [.n a, .n b]) => some (.p (okSp a b = true), .int false .i64 0)
 | _ => none
theorem chk_of {f : FuncId} (g : GOk Tryz.prog glob hG f (constSpec [shS] nOkSp (.int false .i64 0))) : GOk Tryz.prog glob hG f chkSpec := by
 refine g.weaken fun args nd v e => ?_
 unfold chkSpec at e
 split at e
 .rename_i s a b hr
  cases e
  refine ⟨.p (nOkSp [.n a, .n b] = true), .int false .i64 0, ?_, fun hn => ⟨hn, fun σ W hW => hW⟩⟩
  unfold constSpec
  rw [hr]
 .cases e
theorem chk0 : GOk Tryz.prog glob hG 97 chkSpec := chk_of <|
 const_of (schk_ok.g glob hG) fun xs hk hn => by
  obtain ⟨a, _, rfl, h1⟩ := kn hk; obtain ⟨b, _, rfl, h2⟩ := kn h1; obtain rfl := k0 h2
  show Tm.n IntKind.i64 (chkS a b) = _
  unfold chkS
  rw [show okSp a b = true from hn]; rfl
end
end Go.Proofs.YtbboldpghkahjaaGreatDoor.K
namespace Go.Rd
def g1 : ByteArray := ⟨#[66, 75, 55]⟩
def g2 : ByteArray := ⟨#[83, 70, 45, 49]⟩
def g3 : ByteArray := ⟨#[77, 73, 82, 82, 79, 82]⟩
def g4 : ByteArray := ⟨#[102, 95, 50]⟩
def isG (b : ByteArray) : Prop := b = g1 ∨ b = g2 ∨ b = g3 ∨ b = g4
end Go.Rd
namespace Go.Proofs.YtbboldpghkahjaaGreatDoor.K
open Go Go.Eng Go.Ar Go.Rd
noncomputable section
theorem hG_ok : hG.ok := rfl
def kd (n : Int) : Sh := .c (.int false .i64 n)
end
end Go.Proofs.YtbboldpghkahjaaGreatDoor.K
namespace Go.Proofs.YtbboldpghkahjaaGreatDoor.K
open Go Go.Eng Go.Ar Go.Rd
noncomputable section
def rOk (a b : Int) : Bool := bif bif decide (a >= -4503599627370496) then decide (a <= 4503599627370496) else false then bif bif decide (b >= -4503599627370496) then decide (b <= 4503599627370496) else false then decide (a <= b) else false else false
theorem rOk_eq (a b : Int) : rOk a b = okSp a b := by
 unfold rOk okSp
 have e1 : ∀ z : Int, decide (z >= -4503599627370496) = decide (-4503599627370496 <= z) := fun _ => rfl
 simp only [e1]
 cases h1 : decide (-4503599627370496 <= a) <;> cases h2 : decide (a <= 4503599627370496) <;> cases h3 : decide (-4503599627370496 <= b) <;> cases h4 : decide (b <= 4503599627370496) <;> cases h5 : decide (a <= b) <;> first | rfl | (simp only [decide_eq_true_eq, decide_eq_false_iff_not] at h1 h2 h3 h4 h5; omega)
def sOk : PSpec := numSpec [shS] none fun
 | [.n a, .n b] => .t (okSp a b)
 | _ => .u []
theorem rright_run (a b : Int) : oneV ((run c6 300).call 81 [.agg [.int true .i64 a, .int true .i64 b]] ⟨[], 0, 1⟩) = some (.tt, .bool true (rOk a b)) := by kernel_rfl
theorem rright_ok : PureOk Tryz.prog 81 sOk := by
 refine num_ok (fun xs hk _ => ?_) ⟨_, Tryz.func81, rfl⟩
 obtain ⟨a, _, rfl, h1⟩ := kn hk; obtain ⟨b, _, rfl, h2⟩ := kn h1; obtain rfl := k0 h2
 have := rright_run a b
 rw [rOk_eq] at this
 exact ⟨c6, 300, _, c6_ok, rfl, fun _ => rfl, rfl, this, trivial⟩
end
end Go.Proofs.YtbboldpghkahjaaGreatDoor.K
namespace Go.Rd
open Go Go.Eng Go.Ar
def okCK (c k : Int) : Prop := (-1000000000 <= c /\ c <= 1000000000) /\ (-100000000 <= k /\ k <= 100000000)
def s0 (c k a b d e : Int) : Sp := (sqrS a b)
def s1 (c k a b d e : Int) : Sp := (sqrS d e)
def s2 (c k a b d e : Int) : Sp := (addS (s0 c k a b d e).lo (s0 c k a b d e).hi (s1 c k a b d e).lo (s1 c k a b d e).hi)
def s3 (c k a b d e : Int) : Sp := (xScaleS (s2 c k a b d e).lo (s2 c k a b d e).hi c 1000000000)
def s4 (c k a b d e : Int) : Sp := (xScaleS (s3 c k a b d e).lo (s3 c k a b d e).hi c 1000000000)
def s5 (c k a b d e : Int) : Sp := (xScaleS (s4 c k a b d e).lo (s4 c k a b d e).hi (IntKind.i64.wrap (1000000 + k)) 1000000)
def s6 (c k a b d e : Int) : Sp := (subS 4294967296 4294967296 (s5 c k a b d e).lo (s5 c k a b d e).hi)
def s7 (c k a b d e : Int) : Sp := (sqrtS (s6 c k a b d e).lo (s6 c k a b d e).hi)
def s8 (c k a b d e : Int) : Sp := (addS (s3 c k a b d e).lo (s3 c k a b d e).hi 0 0)
def s9 (c k a b d e : Int) : Sp := (addS 4294967296 4294967296 (s7 c k a b d e).lo (s7 c k a b d e).hi)
def s10 (c k a b d e : Int) : Sp := (divS (s8 c k a b d e).lo (s8 c k a b d e).hi (s9 c k a b d e).lo (s9 c k a b d e).hi)
def s11 (c k a b d e : Int) : Sp := (xScaleS d e c 1000000000)
def s12 (c k a b d e : Int) : Sp := (divS (s11 c k a b d e).lo (s11 c k a b d e).hi (s7 c k a b d e).lo (s7 c k a b d e).hi)
def s13 (c k a b d e : Int) : Sp := (xScaleS a b c 1000000000)
def s14 (c k a b d e : Int) : Sp := (divS (s13 c k a b d e).lo (s13 c k a b d e).hi (s7 c k a b d e).lo (s7 c k a b d e).hi)
def b0 (c k l m a b d e : Int) : Sp := (sqrS a b)
def b1 (c k l m a b d e : Int) : Sp := (xScaleS (b0 c k l m a b d e).lo (b0 c k l m a b d e).hi l 1000000000)
def b2 (c k l m a b d e : Int) : Sp := (sqrS d e)
def b3 (c k l m a b d e : Int) : Sp := (xScaleS (b2 c k l m a b d e).lo (b2 c k l m a b d e).hi c 1000000000)
def b4 (c k l m a b d e : Int) : Sp := (xScaleS (b1 c k l m a b d e).lo (b1 c k l m a b d e).hi l 1000000000)
def b5 (c k l m a b d e : Int) : Sp := (xScaleS (b3 c k l m a b d e).lo (b3 c k l m a b d e).hi c 1000000000)
def b6 (c k l m a b d e : Int) : Sp := (xScaleS (b4 c k l m a b d e).lo (b4 c k l m a b d e).hi (IntKind.i64.wrap (1000000 + m)) 1000000)
def b7 (c k l m a b d e : Int) : Sp := (xScaleS (b5 c k l m a b d e).lo (b5 c k l m a b d e).hi (IntKind.i64.wrap (1000000 + k)) 1000000)
def b8 (c k l m a b d e : Int) : Sp := (addS (b6 c k l m a b d e).lo (b6 c k l m a b d e).hi (b7 c k l m a b d e).lo (b7 c k l m a b d e).hi)
def b9 (c k l m a b d e : Int) : Sp := (subS 4294967296 4294967296 (b8 c k l m a b d e).lo (b8 c k l m a b d e).hi)
def b10 (c k l m a b d e : Int) : Sp := (sqrtS (b9 c k l m a b d e).lo (b9 c k l m a b d e).hi)
def b11 (c k l m a b d e : Int) : Sp := (addS (b1 c k l m a b d e).lo (b1 c k l m a b d e).hi (b3 c k l m a b d e).lo (b3 c k l m a b d e).hi)
def b12 (c k l m a b d e : Int) : Sp := (addS 4294967296 4294967296 (b10 c k l m a b d e).lo (b10 c k l m a b d e).hi)
def b13 (c k l m a b d e : Int) : Sp := (divS (b11 c k l m a b d e).lo (b11 c k l m a b d e).hi (b12 c k l m a b d e).lo (b12 c k l m a b d e).hi)
def b14 (c k l m a b d e : Int) : Sp := (xScaleS a b l 1000000000)
def b15 (c k l m a b d e : Int) : Sp := (xScaleS (b14 c k l m a b d e).lo (b14 c k l m a b d e).hi l 1000000000)
def b16 (c k l m a b d e : Int) : Sp := (xScaleS (b15 c k l m a b d e).lo (b15 c k l m a b d e).hi (IntKind.i64.wrap (1000000 + m)) 1000000)
def b17 (c k l m a b d e : Int) : Sp := (divS (b16 c k l m a b d e).lo (b16 c k l m a b d e).hi (b10 c k l m a b d e).lo (b10 c k l m a b d e).hi)
def b18 (c k l m a b d e : Int) : Sp := (xScaleS d e c 1000000000)
def b19 (c k l m a b d e : Int) : Sp := (xScaleS (b18 c k l m a b d e).lo (b18 c k l m a b d e).hi c 1000000000)
def b20 (c k l m a b d e : Int) : Sp := (xScaleS (b19 c k l m a b d e).lo (b19 c k l m a b d e).hi (IntKind.i64.wrap (1000000 + k)) 1000000)
def b21 (c k l m a b d e : Int) : Sp := (divS (b20 c k l m a b d e).lo (b20 c k l m a b d e).hi (b10 c k l m a b d e).lo (b10 c k l m a b d e).hi)
def b22 (c k l m a b d e : Int) : Sp := (mulS (b13 c k l m a b d e).lo (b13 c k l m a b d e).hi (b21 c k l m a b d e).lo (b21 c k l m a b d e).hi)
def b23 (c k l m a b d e : Int) : Sp := (xScaleS (b18 c k l m a b d e).lo (b18 c k l m a b d e).hi 2 1)
def b24 (c k l m a b d e : Int) : Sp := (addS (b23 c k l m a b d e).lo (b23 c k l m a b d e).hi (b22 c k l m a b d e).lo (b22 c k l m a b d e).hi)
def b25 (c k l m a b d e : Int) : Sp := (divS (b24 c k l m a b d e).lo (b24 c k l m a b d e).hi (b12 c k l m a b d e).lo (b12 c k l m a b d e).hi)
def b26 (c k l m a b d e : Int) : Sp := (mulS (b13 c k l m a b d e).lo (b13 c k l m a b d e).hi (b17 c k l m a b d e).lo (b17 c k l m a b d e).hi)
def b27 (c k l m a b d e : Int) : Sp := (xScaleS (b14 c k l m a b d e).lo (b14 c k l m a b d e).hi 2 1)
def b28 (c k l m a b d e : Int) : Sp := (addS (b27 c k l m a b d e).lo (b27 c k l m a b d e).hi (b26 c k l m a b d e).lo (b26 c k l m a b d e).hi)
def b29 (c k l m a b d e : Int) : Sp := (divS (b28 c k l m a b d e).lo (b28 c k l m a b d e).hi (b12 c k l m a b d e).lo (b12 c k l m a b d e).hi)
structure PsagSF (c k a b d e : Int) : Prop where
 h0 : okCK c k
 h1 : okSp a b = true
 h2 : okSp d e = true
 h3 : (s0 c k a b d e).e = 0
 h4 : (s1 c k a b d e).e = 0
 h5 : (s2 c k a b d e).e = 0
 h6 : (s3 c k a b d e).e = 0
 h7 : (s4 c k a b d e).e = 0
 h8 : (s5 c k a b d e).e = 0
 h9 : (s6 c k a b d e).e = 0
 h10 : decide ((s6 c k a b d e).lo <= 0) = true
structure PsagSG (c k a b d e : Int) : Prop where
 h0 : okCK c k
 h1 : okSp a b = true
 h2 : okSp d e = true
 h3 : (s0 c k a b d e).e = 0
 h4 : (s1 c k a b d e).e = 0
 h5 : (s2 c k a b d e).e = 0
 h6 : (s3 c k a b d e).e = 0
 h7 : (s4 c k a b d e).e = 0
 h8 : (s5 c k a b d e).e = 0
 h9 : (s6 c k a b d e).e = 0
 h10 : decide ((s6 c k a b d e).lo <= 0) = false
 h11 : (s7 c k a b d e).e = 0
 h12 : (s8 c k a b d e).e = 0
 h13 : (s9 c k a b d e).e = 0
 h14 : (s10 c k a b d e).e = 0
structure PsagBF (c k l m a b d e : Int) : Prop where
 h0 : okCK c k
 h1 : okCK l m
 h2 : okSp a b = true
 h3 : okSp d e = true
 h4 : (b0 c k l m a b d e).e = 0
 h5 : (b1 c k l m a b d e).e = 0
 h6 : (b2 c k l m a b d e).e = 0
 h7 : (b3 c k l m a b d e).e = 0
 h8 : (b4 c k l m a b d e).e = 0
 h9 : (b6 c k l m a b d e).e = 0
 h10 : (b5 c k l m a b d e).e = 0
 h11 : (b7 c k l m a b d e).e = 0
 h12 : (b8 c k l m a b d e).e = 0
 h13 : (b9 c k l m a b d e).e = 0
 h14 : decide ((b9 c k l m a b d e).lo <= 0) = true
structure PsagBG (c k l m a b d e : Int) : Prop where
 h0 : okCK c k
 h1 : okCK l m
 h2 : okSp a b = true
 h3 : okSp d e = true
 h4 : (b0 c k l m a b d e).e = 0
 h5 : (b1 c k l m a b d e).e = 0
 h6 : (b2 c k l m a b d e).e = 0
 h7 : (b3 c k l m a b d e).e = 0
 h8 : (b4 c k l m a b d e).e = 0
 h9 : (b6 c k l m a b d e).e = 0
 h10 : (b5 c k l m a b d e).e = 0
 h11 : (b7 c k l m a b d e).e = 0
 h12 : (b8 c k l m a b d e).e = 0
 h13 : (b9 c k l m a b d e).e = 0
 h14 : decide ((b9 c k l m a b d e).lo <= 0) = false
 h15 : (b10 c k l m a b d e).e = 0
 h16 : (b11 c k l m a b d e).e = 0
 h17 : (b12 c k l m a b d e).e = 0
 h18 : (b13 c k l m a b d e).e = 0
structure PslopeS (c k a b d e : Int) : Prop where
 h0 : okCK c k
 h1 : okSp a b = true
 h2 : okSp d e = true
 h3 : (s0 c k a b d e).e = 0
 h4 : (s1 c k a b d e).e = 0
 h5 : (s2 c k a b d e).e = 0
 h6 : (s3 c k a b d e).e = 0
 h7 : (s4 c k a b d e).e = 0
 h8 : (s5 c k a b d e).e = 0
 h9 : (s6 c k a b d e).e = 0
 h10 : decide ((s6 c k a b d e).lo <= 0) = false
 h11 : (s7 c k a b d e).e = 0
 h12 : (s8 c k a b d e).e = 0
 h13 : (s9 c k a b d e).e = 0
 h14 : (s10 c k a b d e).e = 0
 h15 : (s13 c k a b d e).e = 0
 h16 : (s14 c k a b d e).e = 0
 h17 : (s11 c k a b d e).e = 0
 h18 : (s12 c k a b d e).e = 0
structure PslopeB (c k l m a b d e : Int) : Prop where
 h0 : okCK c k
 h1 : okCK l m
 h2 : okSp a b = true
 h3 : okSp d e = true
 h4 : (b0 c k l m a b d e).e = 0
 h5 : (b1 c k l m a b d e).e = 0
 h6 : (b2 c k l m a b d e).e = 0
 h7 : (b3 c k l m a b d e).e = 0
 h8 : (b4 c k l m a b d e).e = 0
 h9 : (b6 c k l m a b d e).e = 0
 h10 : (b5 c k l m a b d e).e = 0
 h11 : (b7 c k l m a b d e).e = 0
 h12 : (b8 c k l m a b d e).e = 0
 h13 : (b9 c k l m a b d e).e = 0
 h14 : decide ((b9 c k l m a b d e).lo <= 0) = false
 h15 : (b10 c k l m a b d e).e = 0
 h16 : (b11 c k l m a b d e).e = 0
 h17 : (b12 c k l m a b d e).e = 0
 h18 : (b13 c k l m a b d e).e = 0
 h19 : (b14 c k l m a b d e).e = 0
 h20 : (b15 c k l m a b d e).e = 0
 h21 : (b16 c k l m a b d e).e = 0
 h22 : (b17 c k l m a b d e).e = 0
 h23 : (b27 c k l m a b d e).e = 0
 h24 : (b26 c k l m a b d e).e = 0
 h25 : (b28 c k l m a b d e).e = 0
 h26 : (b29 c k l m a b d e).e = 0
 h27 : (b18 c k l m a b d e).e = 0
 h28 : (b19 c k l m a b d e).e = 0
 h29 : (b20 c k l m a b d e).e = 0
 h30 : (b21 c k l m a b d e).e = 0
 h31 : (b23 c k l m a b d e).e = 0
 h32 : (b22 c k l m a b d e).e = 0
 h33 : (b24 c k l m a b d e).e = 0
 h34 : (b25 c k l m a b d e).e = 0
end Go.Rd
namespace Go.Rd
open Go Go.Eng Go.Ar
def kk (n : Int) : Int := IntKind.i64.wrap (1000 * IntKind.i64.wrap (n.tmod 3000))
end Go.Rd
namespace Go.Rd
open Go Go.Eng Go.Ar
structure Bd (s : Sp) (M : Int) : Prop where
 e : s.e = 0
 lo : -M <= s.lo
 le : s.lo <= s.hi
 hi : s.hi <= M
structure En (s : Sp) (N D : Int) : Prop where
 lo : s.lo * D <= N
 hi : N <= s.hi * D
theorem rd_f {n d : Int} (hd : 0 < d) : rd n d false * d <= n /\ n < rd n d false * d + d := by
 have h1 := Int.mul_ediv_add_emod n d
 have h2 := Int.emod_nonneg n (show d ≠ 0 by omega)
 have h3 := Int.emod_lt_of_pos n hd
 show n / d * d <= n /\ n < n / d * d + d
 rw [Int.mul_comm] at h1
 omega
theorem rd_t {n d : Int} (hd : 0 < d) : n <= rd n d true * d /\ rd n d true * d < n + d := by
 have := rd_f (n := -n) hd
 have e : rd n d true = -(rd (-n) d false) := rfl
 rw [e, Int.neg_mul]
 omega
theorem rd_le_of {n d M : Int} (hd : 0 < d) (h : n <= M * d) : rd n d true <= M := by
 have := (rd_t (n := n) hd).2
 rcases Int.lt_or_le M (rd n d true) with c | c
 .have : (M + 1) * d <= rd n d true * d := Int.mul_le_mul_of_nonneg_right (by omega) (by omega)
  rw [Int.add_mul] at this
  omega
 .exact c
theorem le_rd_of {n d M : Int} (hd : 0 < d) (h : M * d <= n) : M <= rd n d false := by
 have := (rd_f (n := n) hd).2
 rcases Int.lt_or_le (rd n d false) M with c | c
 .have : (rd n d false + 1) * d <= M * d := Int.mul_le_mul_of_nonneg_right (by omega) (by omega)
  rw [Int.add_mul] at this
  omega
 .exact c
theorem mul_bd {a n M L : Int} (h1 : -M <= a) (h2 : a <= M) (h3 : -L <= n) (h4 : n <= L) : -(M * L) <= a * n /\ a * n <= M * L := by
 have k1 := Int.mul_nonneg (show 0 <= M - a by omega) (show 0 <= L - n by omega)
 have k2 := Int.mul_nonneg (show 0 <= M + a by omega) (show 0 <= L + n by omega)
 have k3 := Int.mul_nonneg (show 0 <= M - a by omega) (show 0 <= L + n by omega)
 have k4 := Int.mul_nonneg (show 0 <= M + a by omega) (show 0 <= L - n by omega)
 constructor <;> grind
theorem scale_op {s : Sp} {n d M L M' : Int} (h : Bd s M) (hM : M <= 4503599627370496) (hn : -L <= n /\ n <= L) (hL : L <= 4611686018427387904) (hd : 1 <= d) (hd' : d <= 4611686018427387904) (hb : M * L <= M' * d) (hM' : M' <= 4503599627370496) (hbig : M * L < 18446744073709551615 * d) :
  Bd (xScaleS s.lo s.hi n d) M' /\ (xScaleS s.lo s.hi n d).lo = rd (mn (s.lo * n) (s.hi * n)) d false /\ (xScaleS s.lo s.hi n d).hi = rd (mx (s.lo * n) (s.hi * n)) d true := by
 obtain ⟨_, h1, h2, h3⟩ := h
 have ha := mul_bd (n := n) (L := L) h1 (show s.lo <= M by omega) hn.1 hn.2
 have hb' := mul_bd (n := n) (L := L) (show -M <= s.hi by omega) h3 hn.1 hn.2
 have hx : xScaleS s.lo s.hi n d = scaleS s.lo s.hi n d := xScaleS_eq _ _ _ _ fun _ _ => by
  have q : 0 <= abH s.lo s.hi /\ abH s.lo s.hi <= M := by
   have := le_mx s.hi (-s.lo); unfold abH; omega
  have q' : 0 <= sg n n /\ sg n n <= L := by
   unfold sg; cases hh : decide (n < 0) <;> simp at hh ⊢ <;> omega
  have := Int.mul_le_mul q.2 q'.2 q'.1 (by omega)
  omega
 have o1 : okSp s.lo s.hi = true := okSp_iff.2 (by omega)
 have o2 : okR n d = true := by simp [okR]; omega
 rw [hx]
 unfold scaleS
 rw [o1, o2, cond_true, cond_true]
 have m := mn_le (s.lo * n) (s.hi * n)
 have k := le_mx (s.lo * n) (s.hi * n)
 have l1 : -M' <= rd (mn (s.lo * n) (s.hi * n)) d false := le_rd_of (by omega) (by rw [Int.neg_mul]; omega)
 have l2 : rd (mx (s.lo * n) (s.hi * n)) d true <= M' := rd_le_of (by omega) (by omega)
 have l3 := rd_le (mn (s.lo * n) (s.hi * n)) d (by omega)
 have l4 := rd_lt_rd (n := mn (s.lo * n) (s.hi * n)) (m := mx (s.lo * n) (s.hi * n)) (d := d) (by omega) (by omega) true
 unfold toldS
 rw [okF_iff.2 (by omega), okF_iff.2 (by omega)]
 exact ⟨⟨rfl, l1, Int.le_trans l3 l4, l2⟩, rfl, rfl⟩
end Go.Rd
namespace Go.Rd
open Go Go.Eng Go.Ar
theorem le_of_sq {a b : Int} (hb : 0 <= b) (h : a * a <= b * b) : a <= b := by
 rcases Int.lt_or_le b a with c | c
 .have := Int.mul_le_mul (show b + 1 <= a by omega) (show b + 1 <= a by omega) (show 0 <= b + 1 by omega) (show 0 <= a by omega)
  rw [Int.add_mul, Int.mul_add] at this
  omega
 .exact c
theorem lt_of_sq {a b : Int} (hb : 0 <= b) (h : a * a < b * b) : a < b := by
 rcases Int.lt_or_le a b with c | c
 .exact c
 .have := Int.mul_le_mul c c hb (Int.le_trans hb c)
  omega
theorem rtV_t {a : Int} (h : sqOk a = true) : 0 <= rtV a true /\ a * 4294967296 <= rtV a true * rtV a true /\ (rtV a true = sqR a ∨ rtV a true = sqR a + 1 /\ sqR a * sqR a < a * 4294967296) := by
 obtain ⟨q0, q1, q2, _⟩ := sqR_spec h
 unfold rtV
 cases hh : sqR a * sqR a == a * 4294967296 with
 | true =>
  have := of_decide_eq_true (show decide (sqR a * sqR a = a * 4294967296) = true from hh)
  exact ⟨q0, by show _ <= sqR a * sqR a; omega, .inl rfl⟩
 | false =>
  have := of_decide_eq_false (show decide (sqR a * sqR a = a * 4294967296) = false from hh)
  exact ⟨by show 0 <= sqR a + 1; omega, by show _ <= (sqR a + 1) * (sqR a + 1); omega, .inr ⟨rfl, by omega⟩⟩
end Go.Rd
namespace Go.Rd
open Go Go.Eng Go.Ar
theorem mn4 (p q r s : Int) : mn (mn (mn p q) r) s <= p /\ mn (mn (mn p q) r) s <= q /\ mn (mn (mn p q) r) s <= r /\ mn (mn (mn p q) r) s <= s /\ (∀ m, m <= p -> m <= q -> m <= r -> m <= s -> m <= mn (mn (mn p q) r) s) := by
 have h1 := mn_le p q
 have h2 := mn_le (mn p q) r
 have h3 := mn_le (mn (mn p q) r) s
 refine ⟨by omega, by omega, by omega, by omega, fun m _ _ _ _ => by omega⟩
theorem mx4 (p q r s : Int) : p <= mx (mx (mx p q) r) s /\ q <= mx (mx (mx p q) r) s /\ r <= mx (mx (mx p q) r) s /\ s <= mx (mx (mx p q) r) s /\ (∀ m, p <= m -> q <= m -> r <= m -> s <= m -> mx (mx (mx p q) r) s <= m) := by
 have h1 := le_mx p q
 have h2 := le_mx (mx p q) r
 have h3 := le_mx (mx (mx p q) r) s
 refine ⟨by omega, by omega, by omega, by omega, fun m _ _ _ _ => by omega⟩
end Go.Rd
namespace Go.Rd
open Go Go.Eng Go.Ar
structure Wi (s t : Sp) : Prop where
 lo : t.lo <= s.lo
 le : s.lo <= s.hi
 hi : s.hi <= t.hi
structure Ri (s : Sp) : Prop where
 lo : -4503599627370496 <= s.lo
 le : s.lo <= s.hi
 hi : s.hi <= 4503599627370496
theorem Ri.ok {s : Sp} (h : Ri s) : okSp s.lo s.hi = true := okSp_iff.2 ⟨h.lo, h.le, h.hi⟩
theorem Ri.of {s : Sp} (h : okSp s.lo s.hi = true) : Ri s := let k := okSp_iff.1 h; ⟨k.1, k.2.1, k.2.2⟩
theorem Wi.ri {s t : Sp} (w : Wi s t) (h : Ri t) : Ri s := ⟨Int.le_trans h.lo w.lo, w.le, Int.le_trans w.hi h.hi⟩
theorem Wi.refl {s : Sp} (h : s.lo <= s.hi) : Wi s s := ⟨Int.le_refl _, h, Int.le_refl _⟩
theorem told_ok {lo hi : Int} (h : (toldS lo hi).e = 0) : toldS lo hi = ⟨lo, hi, 0⟩ /\ -4503599627370496 <= lo /\ lo <= 4503599627370496 /\ -4503599627370496 <= hi /\ hi <= 4503599627370496 := by
 unfold toldS at h ⊢
 cases h1 : okF lo <;> cases h2 : okF hi <;> rw [h1, h2] at h
 .cases h
 .cases h
 .cases h
 .have := okF_iff.1 h1
  have := okF_iff.1 h2
  exact ⟨rfl, by omega, by omega, by omega, by omega⟩
theorem told_of {lo hi : Int} (h1 : -4503599627370496 <= lo) (h2 : lo <= 4503599627370496) (h3 : -4503599627370496 <= hi) (h4 : hi <= 4503599627370496) : toldS lo hi = ⟨lo, hi, 0⟩ := by
 unfold toldS
 rw [okF_iff.2 (by omega), okF_iff.2 (by omega)]
 rfl
theorem both_ok {a b c d : Int} {r : Sp} (h : (both a b c d r).e = 0) : okSp a b = true /\ okSp c d = true /\ both a b c d r = r := by
 unfold both at h ⊢
 cases h1 : okSp a b <;> cases h2 : okSp c d <;> rw [h1, h2] at h
 .cases h
 .cases h
 .cases h
 .exact ⟨rfl, rfl, rfl⟩
theorem both_of {a b c d : Int} {r : Sp} (h1 : okSp a b = true) (h2 : okSp c d = true) : both a b c d r = r := by
 unfold both
 rw [h1, h2]
 rfl
def Mo2 (F : Int -> Int -> Int -> Int -> Sp) : Prop := ∀ {s t s' t' : Sp}, Wi s' s -> Wi t' t -> (F s.lo s.hi t.lo t.hi).e = 0 -> (F s'.lo s'.hi t'.lo t'.hi).e = 0 /\ Wi (F s'.lo s'.hi t'.lo t'.hi) (F s.lo s.hi t.lo t.hi)
def Mo1 (F : Int -> Int -> Sp) : Prop := ∀ {s s' : Sp}, Wi s' s -> (F s.lo s.hi).e = 0 -> (F s'.lo s'.hi).e = 0 /\ Wi (F s'.lo s'.hi) (F s.lo s.hi)
theorem add_mo : Mo2 addS := by
 intro s t s' t' w v h
 unfold addS at h ⊢
 obtain ⟨h1, h2, h3⟩ := both_ok h
 rw [h3] at h ⊢
 obtain ⟨h4, h5, h6, h7, h8⟩ := told_ok h
 have r := Ri.of h1
 have q := Ri.of h2
 rw [both_of (w.ri r).ok (v.ri q).ok]
 obtain ⟨w1, w2, w3⟩ := w
 obtain ⟨v1, v2, v3⟩ := v
 rw [h4, told_of (by omega) (by omega) (by omega) (by omega)]
 exact ⟨rfl, by show s.lo + t.lo <= s'.lo + t'.lo; omega, by show s'.lo + t'.lo <= s'.hi + t'.hi; omega, by show s'.hi + t'.hi <= s.hi + t.hi; omega⟩
theorem sub_mo : Mo2 subS := by
 intro s t s' t' w v h
 unfold subS at h ⊢
 obtain ⟨h1, h2, h3⟩ := both_ok h
 rw [h3] at h ⊢
 obtain ⟨h4, h5, h6, h7, h8⟩ := told_ok h
 have r := Ri.of h1
 have q := Ri.of h2
 rw [both_of (w.ri r).ok (v.ri q).ok]
 obtain ⟨w1, w2, w3⟩ := w
 obtain ⟨v1, v2, v3⟩ := v
 rw [h4, told_of (by omega) (by omega) (by omega) (by omega)]
 exact ⟨rfl, by show s.lo - t.hi <= s'.lo - t'.hi; omega, by show s'.lo - t'.hi <= s'.hi - t'.lo; omega, by show s'.hi - t'.lo <= s.hi - t.lo; omega⟩
theorem mid_le {a b x n M : Int} (h1 : a <= x) (h2 : x <= b) (u1 : a * n <= M) (u2 : b * n <= M) : x * n <= M := by
 rcases Int.lt_or_le n 0 with c | c
 .have := Int.mul_le_mul_of_nonpos_right h1 (Int.le_of_lt c); omega
 .have := Int.mul_le_mul_of_nonneg_right h2 c; omega
theorem mid_ge {a b x n M : Int} (h1 : a <= x) (h2 : x <= b) (u1 : M <= a * n) (u2 : M <= b * n) : M <= x * n := by
 rcases Int.lt_or_le n 0 with c | c
 .have := Int.mul_le_mul_of_nonpos_right h2 (Int.le_of_lt c); omega
 .have := Int.mul_le_mul_of_nonneg_right h1 c; omega
theorem box_le {a b c d x y M : Int} (h1 : a <= x) (h2 : x <= b) (k1 : c <= y) (k2 : y <= d) (u1 : a * c <= M) (u2 : a * d <= M) (u3 : b * c <= M) (u4 : b * d <= M) : x * y <= M := by
 have e1 : x * c <= M := mid_le h1 h2 u1 u3
 have e2 : x * d <= M := mid_le h1 h2 u2 u4
 rw [Int.mul_comm] at e1 e2 ⊢
 exact mid_le k1 k2 e1 e2
theorem box_ge {a b c d x y M : Int} (h1 : a <= x) (h2 : x <= b) (k1 : c <= y) (k2 : y <= d) (u1 : M <= a * c) (u2 : M <= a * d) (u3 : M <= b * c) (u4 : M <= b * d) : M <= x * y := by
 have e1 : M <= x * c := mid_ge h1 h2 u1 u3
 have e2 : M <= x * d := mid_ge h1 h2 u2 u4
 rw [Int.mul_comm] at e1 e2 ⊢
 exact mid_ge k1 k2 e1 e2
theorem hull_mo {F : Int -> Int -> Bool -> Int} {a b c d a' b' c' d' : Int} (h : (hull4 F a b c d).e = 0) (hF : ∀ x y, (x = a' ∨ x = b') -> (y = c' ∨ y = d') -> F x y false <= F x y true)
  (h1 : ∀ m x y, (x = a' ∨ x = b') -> (y = c' ∨ y = d') -> m <= F a c false -> m <= F a d false -> m <= F b c false -> m <= F b d false -> m <= F x y false)
  (h2 : ∀ m x y, (x = a' ∨ x = b') -> (y = c' ∨ y = d') -> F a c true <= m -> F a d true <= m -> F b c true <= m -> F b d true <= m -> F x y true <= m) :
  (hull4 F a' b' c' d').e = 0 /\ Wi (hull4 F a' b' c' d') (hull4 F a b c d) := by
 unfold hull4 at h ⊢
 obtain ⟨h4, h5, h6, h7, h8⟩ := told_ok h
 obtain ⟨m1, m2, m3, m4, _⟩ := mn4 (F a c false) (F a d false) (F b c false) (F b d false)
 obtain ⟨k1, k2, k3, k4, _⟩ := mx4 (F a c true) (F a d true) (F b c true) (F b d true)
 obtain ⟨i1, i2, i3, i4, i5⟩ := mn4 (F a' c' false) (F a' d' false) (F b' c' false) (F b' d' false)
 obtain ⟨j1, j2, j3, j4, j5⟩ := mx4 (F a' c' true) (F a' d' true) (F b' c' true) (F b' d' true)
 rw [h4]
 generalize mn (mn (mn (F a c false) (F a d false)) (F b c false)) (F b d false) = lo at *
 generalize mx (mx (mx (F a c true) (F a d true)) (F b c true)) (F b d true) = hi at *
 have l := i5 lo (h1 lo _ _ (.inl rfl) (.inl rfl) m1 m2 m3 m4) (h1 lo _ _ (.inl rfl) (.inr rfl) m1 m2 m3 m4) (h1 lo _ _ (.inr rfl) (.inl rfl) m1 m2 m3 m4) (h1 lo _ _ (.inr rfl) (.inr rfl) m1 m2 m3 m4)
 have u := j5 hi (h2 hi _ _ (.inl rfl) (.inl rfl) k1 k2 k3 k4) (h2 hi _ _ (.inl rfl) (.inr rfl) k1 k2 k3 k4) (h2 hi _ _ (.inr rfl) (.inl rfl) k1 k2 k3 k4) (h2 hi _ _ (.inr rfl) (.inr rfl) k1 k2 k3 k4)
 have f := hF _ _ (.inl rfl) (.inl rfl)
 generalize mn (mn (mn (F a' c' false) (F a' d' false)) (F b' c' false)) (F b' d' false) = lo' at *
 generalize mx (mx (mx (F a' c' true) (F a' d' true)) (F b' c' true)) (F b' d' true) = hi' at *
 rw [told_of (by omega) (by omega) (by omega) (by omega)]
 exact ⟨rfl, l, by show lo' <= hi'; omega, u⟩
theorem rd_ge_iff {n d m : Int} (hd : 0 < d) : m <= rd n d false ↔ m * d <= n := by
 constructor
 .intro h
  have := (rd_f (n := n) hd).1
  have := Int.mul_le_mul_of_nonneg_right h (Int.le_of_lt hd)
  omega
 .exact le_rd_of hd
theorem rd_le_iff {n d m : Int} (hd : 0 < d) : rd n d true <= m ↔ n <= m * d := by
 constructor
 .intro h
  have := (rd_t (n := n) hd).1
  have := Int.mul_le_mul_of_nonneg_right h (Int.le_of_lt hd)
  omega
 .exact rd_le_of hd
theorem Wi.at {s t : Sp} (w : Wi s t) {x : Int} (h : x = s.lo ∨ x = s.hi) : t.lo <= x /\ x <= t.hi := by
 obtain ⟨w1, w2, w3⟩ := w
 omega
theorem mul_mo : Mo2 mulS := by
 intro s t s' t' w v h
 unfold mulS at h ⊢
 obtain ⟨h1, h2, h3⟩ := both_ok h
 rw [h3] at h ⊢
 rw [both_of (w.ri (Ri.of h1)).ok (v.ri (Ri.of h2)).ok]
 refine hull_mo h (fun x y _ _ => rd_le _ _ (by decide)) ?_ ?_
 .intro m x y hx hy u1 u2 u3 u4
  have a := w.at hx
  have b := v.at hy
  exact (rd_ge_iff (by decide)).2 (box_ge a.1 a.2 b.1 b.2 ((rd_ge_iff (by decide)).1 u1) ((rd_ge_iff (by decide)).1 u2) ((rd_ge_iff (by decide)).1 u3) ((rd_ge_iff (by decide)).1 u4))
 .intro m x y hx hy u1 u2 u3 u4
  have a := w.at hx
  have b := v.at hy
  exact (rd_le_iff (by decide)).2 (box_le a.1 a.2 b.1 b.2 ((rd_le_iff (by decide)).1 u1) ((rd_le_iff (by decide)).1 u2) ((rd_le_iff (by decide)).1 u3) ((rd_le_iff (by decide)).1 u4))
theorem dF_ge_p {x y m : Int} (hy : 0 < y) : m <= dF x y false ↔ m * y <= x * 4294967296 := by
 unfold dF sg
 rw [decide_eq_false (show ¬ y < 0 by omega)]
 exact rd_ge_iff hy
theorem dF_le_p {x y m : Int} (hy : 0 < y) : dF x y true <= m ↔ x * 4294967296 <= m * y := by
 unfold dF sg
 rw [decide_eq_false (show ¬ y < 0 by omega)]
 exact rd_le_iff hy
theorem dF_ge_n {x y m : Int} (hy : y < 0) : m <= dF x y false ↔ x * 4294967296 <= m * y := by
 unfold dF sg
 rw [decide_eq_true hy, cond_true, cond_true, rd_ge_iff (by omega), Int.mul_neg]
 omega
theorem dF_le_n {x y m : Int} (hy : y < 0) : dF x y true <= m ↔ m * y <= x * 4294967296 := by
 unfold dF sg
 rw [decide_eq_true hy, cond_true, cond_true, rd_le_iff (by omega), Int.mul_neg]
 omega
theorem dF_le {x y : Int} (hy : y ≠ 0) : dF x y false <= dF x y true := by
 unfold dF sg
 cases h : decide (y < 0) with
 | true => exact rd_le _ _ (by show 0 < -y; have := of_decide_eq_true h; omega)
 | false => exact rd_le _ _ (by show 0 < y; have := of_decide_eq_false h; omega)
theorem lin_ge {a b c d x y m : Int} (h1 : a <= x) (_h2 : x <= b) (k1 : c <= y) (k2 : y <= d) (u1 : m * c <= a * 4294967296) (u2 : m * d <= a * 4294967296) : m * y <= x * 4294967296 := by
 have : y * m <= a * 4294967296 := mid_le k1 k2 (by rw [Int.mul_comm]; exact u1) (by rw [Int.mul_comm]; exact u2)
 rw [Int.mul_comm] at this
 omega
theorem lin_le {a b c d x y m : Int} (_h1 : a <= x) (h2 : x <= b) (k1 : c <= y) (k2 : y <= d) (u1 : b * 4294967296 <= m * c) (u2 : b * 4294967296 <= m * d) : x * 4294967296 <= m * y := by
 have : b * 4294967296 <= y * m := mid_ge k1 k2 (by rw [Int.mul_comm c m]; exact u1) (by rw [Int.mul_comm d m]; exact u2)
 rw [Int.mul_comm y m] at this
 omega
theorem div_ok {a b c d : Int} (h : (divS a b c d).e = 0) : okSp a b = true /\ okSp c d = true /\ (0 < c ∨ d < 0) /\ divS a b c d = hull4 dF a b c d := by
 unfold divS at h ⊢
 obtain ⟨h1, h2, h3⟩ := both_ok h
 rw [h3] at h ⊢
 cases h4 : decide (c <= 0) <;> cases h5 : decide (0 <= d) <;> rw [h4, h5] at h
 .have := of_decide_eq_false h4; exact ⟨h1, h2, .inl (by omega), rfl⟩
 .have := of_decide_eq_false h4; exact ⟨h1, h2, .inl (by omega), rfl⟩
 .have := of_decide_eq_false h5; exact ⟨h1, h2, .inr (by omega), rfl⟩
 .cases h
theorem div_of {a b c d : Int} (h1 : okSp a b = true) (h2 : okSp c d = true) (h3 : 0 < c ∨ d < 0) : divS a b c d = hull4 dF a b c d := by
 unfold divS
 rw [both_of h1 h2]
 rcases h3 with h | h
 .rw [decide_eq_false (show ¬ c <= 0 by omega)]; rfl
 .rw [decide_eq_false (show ¬ 0 <= d by omega), Bool.and_false]; rfl
theorem div_mo : Mo2 divS := by
 intro s t s' t' w v h
 obtain ⟨h1, h2, h3, h4⟩ := div_ok h
 rw [h4] at h ⊢
 obtain ⟨v1, v2, v3⟩ := id v
 rw [div_of (w.ri (Ri.of h1)).ok (v.ri (Ri.of h2)).ok (by omega)]
 rcases h3 with h3 | h3
 .refine hull_mo h (fun x y _ hy => dF_le (by have := v.at hy; omega)) ?_ ?_
  .intro m x y hx hy u1 u2 u3 u4
   have a := w.at hx
   have b := v.at hy
   exact (dF_ge_p (by omega)).2 (lin_ge a.1 a.2 b.1 b.2 ((dF_ge_p (by omega)).1 u1) ((dF_ge_p (by omega)).1 u2))
  .intro m x y hx hy u1 u2 u3 u4
   have a := w.at hx
   have b := v.at hy
   exact (dF_le_p (by omega)).2 (lin_le a.1 a.2 b.1 b.2 ((dF_le_p (by omega)).1 u3) ((dF_le_p (by omega)).1 u4))
 .refine hull_mo h (fun x y _ hy => dF_le (by have := v.at hy; omega)) ?_ ?_
  .intro m x y hx hy u1 u2 u3 u4
   have a := w.at hx
   have b := v.at hy
   exact (dF_ge_n (by omega)).2 (lin_le a.1 a.2 b.1 b.2 ((dF_ge_n (by omega)).1 u3) ((dF_ge_n (by omega)).1 u4))
  .intro m x y hx hy u1 u2 u3 u4
   have a := w.at hx
   have b := v.at hy
   exact (dF_le_n (by omega)).2 (lin_ge a.1 a.2 b.1 b.2 ((dF_le_n (by omega)).1 u1) ((dF_le_n (by omega)).1 u2))
theorem abs_mo {s s' : Sp} (w : Wi s' s) : abL s.lo s.hi <= abL s'.lo s'.hi /\ abH s'.lo s'.hi <= abH s.lo s.hi /\ 0 <= abL s.lo s.hi /\ abL s'.lo s'.hi <= abH s'.lo s'.hi := by
 obtain ⟨w1, w2, w3⟩ := w
 unfold abL abH
 have := le_mx s.lo (-s.hi)
 have := le_mx (mx s.lo (-s.hi)) 0
 have := le_mx s'.lo (-s'.hi)
 have := le_mx (mx s'.lo (-s'.hi)) 0
 have := le_mx s.hi (-s.lo)
 have := le_mx s'.hi (-s'.lo)
 omega
theorem sq_le {a b : Int} (h : 0 <= a) (k : a <= b) : a * a <= b * b := Int.mul_le_mul k k h (Int.le_trans h k)
theorem sqr_mo : Mo1 sqrS := by
 intro s s' w h
 unfold sqrS at h ⊢
 cases h1 : okSp s.lo s.hi <;> rw [h1] at h
 .cases h
 .rw [(w.ri (Ri.of h1)).ok]
  rw [cond_true] at h ⊢
  rw [cond_true]
  obtain ⟨h4, h5, h6, h7, h8⟩ := told_ok h
  obtain ⟨p1, p2, p3, p4⟩ := abs_mo w
  rw [h4]
  have l := rd_lt_rd (d := 4294967296) (by decide) (sq_le p3 p1) false
  have u := rd_lt_rd (d := 4294967296) (by decide) (sq_le (Int.le_trans (Int.le_trans p3 p1) p4) p2) true
  have m := Int.le_trans (rd_lt_rd (d := 4294967296) (by decide) (sq_le (Int.le_trans p3 p1) p4) false) (rd_le (abH s'.lo s'.hi * abH s'.lo s'.hi) 4294967296 (by decide))
  generalize rd (abL s.lo s.hi * abL s.lo s.hi) 4294967296 false = lo at *
  generalize rd (abH s.lo s.hi * abH s.lo s.hi) 4294967296 true = hi at *
  generalize rd (abL s'.lo s'.hi * abL s'.lo s'.hi) 4294967296 false = lo' at *
  generalize rd (abH s'.lo s'.hi * abH s'.lo s'.hi) 4294967296 true = hi' at *
  rw [told_of (by omega) (by omega) (by omega) (by omega)]
  exact ⟨rfl, l, m, u⟩
theorem sqR_mono {a b : Int} (ha : sqOk a = true) (hb : sqOk b = true) (h : a <= b) : sqR a <= sqR b := by
 obtain ⟨u0, u1, u2, _⟩ := sqR_spec ha
 obtain ⟨v0, v1, v2, _⟩ := sqR_spec hb
 have := lt_of_sq (a := sqR a) (b := sqR b + 1) (by omega) (by omega)
 omega
theorem rtT_mono {a b : Int} (ha : sqOk a = true) (hb : sqOk b = true) (h : a <= b) : rtV a true <= rtV b true := by
 obtain ⟨u0, u1, u2⟩ := rtV_t ha
 obtain ⟨v0, v1, v2⟩ := rtV_t hb
 rcases u2 with u2 | ⟨u2, u3⟩
 .obtain ⟨q0, q1, _, _⟩ := sqR_spec ha
  rw [u2]
  exact le_of_sq v0 (by omega)
 .have := lt_of_sq (a := sqR a) (b := rtV b true) v0 (by omega)
  omega
theorem sqrt_mo : Mo1 sqrtS := by
 intro s s' w h
 unfold sqrtS at h ⊢
 cases h1 : okSp s.lo s.hi <;> rw [h1] at h
 .cases h
 .have r := Ri.of h1
  have r' := w.ri r
  rw [r'.ok]
  rw [cond_true] at h ⊢
  rw [cond_true]
  obtain ⟨w1, w2, w3⟩ := w
  obtain ⟨r1, r2, r3⟩ := r
  cases h2 : decide (s.lo < 0) <;> rw [h2] at h
  .have := of_decide_eq_false h2
   rw [decide_eq_false (show ¬ s'.lo < 0 by omega)]
   have k1 : sqOk s.lo = true := by unfold sqOk; rw [okF_iff.2 (by omega)]; simpa using (show 0 <= s.lo by omega)
   have k2 : sqOk s.hi = true := by unfold sqOk; rw [okF_iff.2 (by omega)]; simpa using (show 0 <= s.hi by omega)
   have k3 : sqOk s'.lo = true := by unfold sqOk; rw [okF_iff.2 (by omega)]; simpa using (show 0 <= s'.lo by omega)
   have k4 : sqOk s'.hi = true := by unfold sqOk; rw [okF_iff.2 (by omega)]; simpa using (show 0 <= s'.hi by omega)
   obtain ⟨a0, a1, a2⟩ := rtV_t k4
   obtain ⟨b0, b1, _, _⟩ := sqR_spec k3
   exact ⟨rfl, sqR_mono k1 k3 w1, show sqR s'.lo <= rtV s'.hi true from le_of_sq a0 (by omega), rtT_mono k4 k2 w3⟩
  .cases h
theorem scale_mo (n d : Int) : Mo1 fun a b => scaleS a b n d := by
 intro s s' w h
 show (scaleS s'.lo s'.hi n d).e = 0 /\ Wi (scaleS s'.lo s'.hi n d) (scaleS s.lo s.hi n d)
 have h : (scaleS s.lo s.hi n d).e = 0 := h
 unfold scaleS at h ⊢
 cases h1 : okSp s.lo s.hi <;> rw [h1] at h
 .cases h
 .rw [(w.ri (Ri.of h1)).ok]
  rw [cond_true] at h ⊢
  rw [cond_true]
  cases h2 : okR n d <;> rw [h2] at h
  .cases h
  .rw [cond_true] at h ⊢
   rw [cond_true]
   have hd : 0 < d := by
    unfold okR at h2
    simp only [Bool.and_eq_true, decide_eq_true_eq] at h2
    omega
   obtain ⟨h4, h5, h6, h7, h8⟩ := told_ok h
   have m1 := mn_le (s.lo * n) (s.hi * n)
   have m2 := mn_le (s'.lo * n) (s'.hi * n)
   have m3 := le_mx (s.lo * n) (s.hi * n)
   have m4 := le_mx (s'.lo * n) (s'.hi * n)
   obtain ⟨w1, w2, w3⟩ := w
   have c1 := mid_ge w1 (Int.le_trans w2 w3) m1.1 m1.2.1
   have c2 := mid_ge (Int.le_trans w1 w2) w3 m1.1 m1.2.1
   have c3 := mid_le w1 (Int.le_trans w2 w3) m3.1 m3.2.1
   have c4 := mid_le (Int.le_trans w1 w2) w3 m3.1 m3.2.1
   rw [h4]
   have l := rd_lt_rd hd (show mn (s.lo * n) (s.hi * n) <= mn (s'.lo * n) (s'.hi * n) by omega) false
   have u := rd_lt_rd hd (show mx (s'.lo * n) (s'.hi * n) <= mx (s.lo * n) (s.hi * n) by omega) true
   have m := Int.le_trans (rd_lt_rd hd (show mn (s'.lo * n) (s'.hi * n) <= mx (s'.lo * n) (s'.hi * n) by omega) false) (rd_le (mx (s'.lo * n) (s'.hi * n)) d hd)
   generalize rd (mn (s.lo * n) (s.hi * n)) d false = lo at *
   generalize rd (mx (s.lo * n) (s.hi * n)) d true = hi at *
   generalize rd (mn (s'.lo * n) (s'.hi * n)) d false = lo' at *
   generalize rd (mx (s'.lo * n) (s'.hi * n)) d true = hi' at *
   rw [told_of (by omega) (by omega) (by omega) (by omega)]
   exact ⟨rfl, l, m, u⟩
end Go.Rd
namespace Go.Rd
open Go Go.Eng Go.Ar
def ng (s : Sp) : Sp := ⟨-s.hi, -s.lo, s.e⟩
end Go.Rd
namespace Go.Rd
open Go Go.Eng Go.Ar
def gt : List Sp -> Nat -> Sp
 | [], _ => ⟨0, 0, 0⟩
 | a :: _, 0 => a
 | _ :: l, i + 1 => gt l i
def sq1 (i : Nat) (r : List Sp) : Sp := sqrS (gt r i).lo (gt r i).hi
def rt1 (i : Nat) (r : List Sp) : Sp := sqrtS (gt r i).lo (gt r i).hi
def ad2 (i j : Nat) (r : List Sp) : Sp := addS (gt r i).lo (gt r i).hi (gt r j).lo (gt r j).hi
def sb2 (i j : Nat) (r : List Sp) : Sp := subS (gt r i).lo (gt r i).hi (gt r j).lo (gt r j).hi
def ml2 (i j : Nat) (r : List Sp) : Sp := mulS (gt r i).lo (gt r i).hi (gt r j).lo (gt r j).hi
def dv2 (i j : Nat) (r : List Sp) : Sp := divS (gt r i).lo (gt r i).hi (gt r j).lo (gt r j).hi
def sc1 (i : Nat) (n d : Int) (r : List Sp) : Sp := xScaleS (gt r i).lo (gt r i).hi n d
inductive Wis : List Sp -> List Sp -> Prop where
 | nil : Wis [] []
 | cons {a b : Sp} {l m : List Sp} : Wi a b -> Wis l m -> Wis (a :: l) (b :: m)
theorem Wis.gt {l m : List Sp} (h : Wis l m) : ∀ i, Wi (gt l i) (gt m i) := by
 induction h with
 | nil => exact fun _ => ⟨Int.le_refl _, Int.le_refl _, Int.le_refl _⟩
 | cons w _ ih =>
  intro i
  cases i with
  | zero => exact w
  | succ i => exact ih i
def Mo (f : List Sp -> Sp) : Prop := ∀ {l m : List Sp}, Wis l m -> (f m).e = 0 -> (f l).e = 0 /\ Wi (f l) (f m)
theorem sq1_mo (i : Nat) : Mo (sq1 i) := fun h e => sqr_mo (h.gt i) e
theorem rt1_mo (i : Nat) : Mo (rt1 i) := fun h e => sqrt_mo (h.gt i) e
theorem ad2_mo (i j : Nat) : Mo (ad2 i j) := fun h e => add_mo (h.gt i) (h.gt j) e
theorem sb2_mo (i j : Nat) : Mo (sb2 i j) := fun h e => sub_mo (h.gt i) (h.gt j) e
theorem ml2_mo (i j : Nat) : Mo (ml2 i j) := fun h e => mul_mo (h.gt i) (h.gt j) e
theorem dv2_mo (i j : Nat) : Mo (dv2 i j) := fun h e => div_mo (h.gt i) (h.gt j) e
def okSc (n d : Int) : Prop := okR n d = true -> 4503599627370496 * sg n n < 18446744073709551615 * d
theorem abH_le {a b : Int} (h : okSp a b = true) : 0 <= abH a b /\ abH a b <= 4503599627370496 := by
 have := okSp_iff.1 h
 unfold abH
 have := le_mx b (-a)
 omega
theorem sc_eq {a b n d : Int} (k : okSc n d) : xScaleS a b n d = scaleS a b n d := by
 refine xScaleS_eq a b n d fun h1 h2 => ?_
 have := k h2
 have p := abH_le h1
 have q : 0 <= sg n n := by
  unfold sg
  cases h : decide (n < 0) with
  | true => have := of_decide_eq_true h; show 0 <= -n; omega
  | false => have := of_decide_eq_false h; show 0 <= n; omega
 have := Int.mul_le_mul_of_nonneg_right p.2 q
 omega
theorem sc1_mo (i : Nat) {n d : Int} (k : okSc n d) : Mo (sc1 i n d) := fun {l m} h e => by
 unfold sc1 at e ⊢
 rw [sc_eq k] at e ⊢
 rw [sc_eq k]
 exact scale_mo n d (h.gt i) e
theorem bne0 {E : Int} (h : E ≠ 0) : (E != 0) = true := by simpa using h
theorem beq0 {E : Int} (h : E ≠ 0) : (E == 0) = false := by simpa using h
def tn (b : Bool) (s : Sp) : Sp := bif b then ng s else s
inductive Tns : List Bool -> List Sp -> List Sp -> Prop where
 | nil : Tns [] [] []
 | cons {b : Bool} {a c : Sp} {bs : List Bool} {l m : List Sp} : a = tn b c -> Tns bs l m -> Tns (b :: bs) (a :: l) (c :: m)
def bt : List Bool -> Nat -> Bool
 | [], _ => false
 | a :: _, 0 => a
 | _ :: l, i + 1 => bt l i
theorem Tns.gt {bs : List Bool} {l m : List Sp} (h : Tns bs l m) : ∀ i, gt l i = tn (bt bs i) (gt m i) := by
 induction h with
 | nil => exact fun _ => rfl
 | cons e _ ih => intro i; cases i with
  | zero => exact e
  | succ i => exact ih i
theorem Tns.e {bs : List Bool} {l m : List Sp} (h : Tns bs l m) (i : Nat) : (Go.Rd.gt l i).e = (Go.Rd.gt m i).e := by
 rw [h.gt i]; cases bt bs i <;> rfl
def evS (acc v c : Sp) : Sp :=
 ⟨bif (mulS acc.lo acc.hi v.lo v.hi).e == 0 then (addS (mulS acc.lo acc.hi v.lo v.hi).lo (mulS acc.lo acc.hi v.lo v.hi).hi c.lo c.hi).lo else (mulS acc.lo acc.hi v.lo v.hi).lo,
  bif (mulS acc.lo acc.hi v.lo v.hi).e == 0 then (addS (mulS acc.lo acc.hi v.lo v.hi).lo (mulS acc.lo acc.hi v.lo v.hi).hi c.lo c.hi).hi else (mulS acc.lo acc.hi v.lo v.hi).hi,
  bif (mulS acc.lo acc.hi v.lo v.hi).e == 0 then (addS (mulS acc.lo acc.hi v.lo v.hi).lo (mulS acc.lo acc.hi v.lo v.hi).hi c.lo c.hi).e else (mulS acc.lo acc.hi v.lo v.hi).e⟩
def ev1 (v c3 : Sp) : Sp := evS ⟨0, 0, 0⟩ v c3
def ev2 (v c2 c3 : Sp) : Sp := evS (ev1 v c3) v c2
def ev3 (v c1 c2 c3 : Sp) : Sp := evS (ev2 v c2 c3) v c1
def ev4 (v c0 c1 c2 c3 : Sp) : Sp := evS (ev3 v c1 c2 c3) v c0
def evB (v c0 c1 c2 c3 : Sp) : Bool :=
 (ev1 v c3).e != 0 || !((ev1 v c3).e != 0) && ((ev2 v c2 c3).e != 0 || !((ev2 v c2 c3).e != 0) && ((ev3 v c1 c2 c3).e != 0 || !((ev3 v c1 c2 c3).e != 0) && (ev4 v c0 c1 c2 c3).e != 0))
def evG (v c0 c1 c2 c3 : Sp) (g : Sp -> Int) : Int :=
 bif evB v c0 c1 c2 c3 then bif (ev1 v c3).e != 0 then g (ev1 v c3) else bif (ev2 v c2 c3).e != 0 then g (ev2 v c2 c3) else bif (ev3 v c1 c2 c3).e != 0 then g (ev3 v c1 c2 c3) else g (ev4 v c0 c1 c2 c3) else g (ev4 v c0 c1 c2 c3)
def evalS (v c0 c1 c2 c3 : Sp) : Sp := ⟨evG v c0 c1 c2 c3 Sp.lo, evG v c0 c1 c2 c3 Sp.hi, evG v c0 c1 c2 c3 Sp.e⟩
def evT (a0 b0 a1 b1 a2 b2 a3 b3 x y : Int) : Sp := evalS ⟨x, y, 0⟩ ⟨a0, b0, 0⟩ ⟨a1, b1, 0⟩ ⟨a2, b2, 0⟩ ⟨a3, b3, 0⟩
theorem evG_ok {v c0 c1 c2 c3 : Sp} (h : (evalS v c0 c1 c2 c3).e = 0) : (ev1 v c3).e = 0 /\ (ev2 v c2 c3).e = 0 /\ (ev3 v c1 c2 c3).e = 0 /\ (ev4 v c0 c1 c2 c3).e = 0 := by
 have h : evG v c0 c1 c2 c3 Sp.e = 0 := h
 unfold evG evB at h
 rcases Decidable.em ((ev1 v c3).e = 0) with d1 | d1
 .rcases Decidable.em ((ev2 v c2 c3).e = 0) with d2 | d2
  .rcases Decidable.em ((ev3 v c1 c2 c3).e = 0) with d3 | d3
   .refine ⟨d1, d2, d3, ?_⟩
    simp only [d1, d2, d3] at h
    simpa using h
   .simp only [d1, d2, bne0 d3, Bool.true_or, Bool.or_true, Bool.and_true, bne_self_eq_false, Bool.not_false, Bool.true_and, cond_true, cond_false] at h
    exact absurd h d3
  .simp only [d1, bne0 d2, Bool.true_or, Bool.or_true, Bool.and_true, bne_self_eq_false, Bool.not_false, Bool.true_and, cond_true, cond_false] at h
   exact absurd h d2
 .simp only [bne0 d1, Bool.true_or, cond_true] at h
  exact absurd h d1
theorem evG_of {v c0 c1 c2 c3 : Sp} (h1 : (ev1 v c3).e = 0) (h2 : (ev2 v c2 c3).e = 0) (h3 : (ev3 v c1 c2 c3).e = 0) (h4 : (ev4 v c0 c1 c2 c3).e = 0) : evalS v c0 c1 c2 c3 = ev4 v c0 c1 c2 c3 := by
 unfold evalS evG evB
 simp only [h1, h2, h3, h4, bne_self_eq_false, Bool.not_false, Bool.true_and, Bool.or_self, cond_false]
 exact Eq.trans (by rw [h4]) (show (⟨(ev4 v c0 c1 c2 c3).lo, (ev4 v c0 c1 c2 c3).hi, (ev4 v c0 c1 c2 c3).e⟩ : Sp) = _ from rfl)
def Oks (l : List Sp) : Prop := ∀ i, Ri (gt l i)
theorem Wis.refl : ∀ {l : List Sp}, Oks l -> Wis l l
 | [], _ => .nil
 | _ :: _, h => .cons ⟨Int.le_refl _, (h 0).le, Int.le_refl _⟩ (Wis.refl fun i => h (i + 1))
def Ok (f : List Sp -> Sp) : Prop := ∀ {l : List Sp}, Oks l -> (f l).e = 0 -> Ri (f l)
theorem told_ri {lo hi : Int} (h : (toldS lo hi).e = 0) (k : (toldS lo hi).lo <= (toldS lo hi).hi) : Ri (toldS lo hi) := by
 obtain ⟨h1, h2, h3, h4, h5⟩ := told_ok h
 rw [h1] at k ⊢
 exact ⟨h2, k, h5⟩
theorem sq1_ok (i : Nat) : Ok (sq1 i) := fun {l} h e => by
 have w := (sq1_mo i (Wis.refl h) e).2.le
 unfold sq1 sqrS at e w ⊢
 rw [(h i).ok] at e w ⊢
 exact told_ri e w
theorem ad2_ok (i j : Nat) : Ok (ad2 i j) := fun {l} h e => by
 have w := (ad2_mo i j (Wis.refl h) e).2.le
 unfold ad2 addS at e w ⊢
 rw [both_of (h i).ok (h j).ok] at e w ⊢
 exact told_ri e w
theorem sb2_ok (i j : Nat) : Ok (sb2 i j) := fun {l} h e => by
 have w := (sb2_mo i j (Wis.refl h) e).2.le
 unfold sb2 subS at e w ⊢
 rw [both_of (h i).ok (h j).ok] at e w ⊢
 exact told_ri e w
theorem ml2_ok (i j : Nat) : Ok (ml2 i j) := fun {l} h e => by
 have w := (ml2_mo i j (Wis.refl h) e).2.le
 unfold ml2 mulS at e w ⊢
 rw [both_of (h i).ok (h j).ok] at e w ⊢
 exact told_ri e w
theorem dv2_ok (i j : Nat) : Ok (dv2 i j) := fun {l} h e => by
 have w := (dv2_mo i j (Wis.refl h) e).2.le
 unfold dv2 at e w ⊢
 have q := (div_ok e).2.2.2
 rw [q] at e w ⊢
 exact told_ri e w
theorem sc1_ok (i : Nat) {n d : Int} (k : okSc n d) : Ok (sc1 i n d) := fun {l} h e => by
 have w := (sc1_mo i k (Wis.refl h) e).2.le
 unfold sc1 at e w ⊢
 rw [sc_eq k] at e w ⊢
 unfold scaleS at e w ⊢
 rw [(h i).ok] at e w ⊢
 cases q : okR n d with
 | false => rw [q] at e; cases e
 | true => rw [q] at e w; exact told_ri e w
theorem rt1_ok (i : Nat) : Ok (rt1 i) := fun {l} h e => by
 have w := (rt1_mo i (Wis.refl h) e).2.le
 unfold rt1 sqrtS at e w ⊢
 have r := h i
 have r1 := r.lo
 have r2 := r.le
 have r3 := r.hi
 rw [r.ok] at e w ⊢
 cases q : decide ((gt l i).lo < 0) with
 | true => rw [q] at e; cases e
 | false =>
  have := of_decide_eq_false q
  rw [q] at w
  have k1 : sqOk (gt l i).lo = true := by unfold sqOk; rw [okF_iff.2 (by omega)]; simpa using (show 0 <= (gt l i).lo by omega)
  have k2 : sqOk (gt l i).hi = true := by unfold sqOk; rw [okF_iff.2 (by omega)]; simpa using (show 0 <= (gt l i).hi by omega)
  have a := rtV_range k1 false
  have b := rtV_range k2 true
  exact ⟨by show -4503599627370496 <= rtV (gt l i).lo false; omega, w, by
   rcases (rtV_t k2).2.2 with c | ⟨c, _⟩
   .show rtV (gt l i).hi true <= 4503599627370496
    have := (sqR_spec k2).2.1
    have : rtV (gt l i).hi true <= 4398046511104 := by
     rw [c]; exact le_of_sq (by omega) (by omega)
    omega
   .show rtV (gt l i).hi true <= 4503599627370496
    have := (sqR_spec k2).2.1
    have : sqR (gt l i).hi <= 4398046511104 := le_of_sq (by omega) (by omega)
    omega⟩
theorem zero_ri : Ri ⟨0, 0, 0⟩ := ⟨by decide, by decide, by decide⟩
theorem evS_ok {a v c : Sp} (ha : Ri a) (hv : Ri v) (hc : Ri c) (e : (evS a v c).e = 0) : Ri (evS a v c) := by
 have e0 : (mulS a.lo a.hi v.lo v.hi).e = 0 := by
  rcases Decidable.em ((mulS a.lo a.hi v.lo v.hi).e = 0) with d | d
  .exact d
  .unfold evS at e
   simp only [beq0 d, cond_false] at e
   exact e
 have m : Ri (mulS a.lo a.hi v.lo v.hi) := ml2_ok 0 1 (l := [a, v]) (fun i => match i with | 0 => ha | 1 => hv | i + 2 => zero_ri) e0
 have s : (addS (mulS a.lo a.hi v.lo v.hi).lo (mulS a.lo a.hi v.lo v.hi).hi c.lo c.hi).e = 0 := by
  unfold evS at e
  simp only [e0] at e
  exact e
 have r : Ri (addS (mulS a.lo a.hi v.lo v.hi).lo (mulS a.lo a.hi v.lo v.hi).hi c.lo c.hi) := ad2_ok 0 1 (l := [mulS a.lo a.hi v.lo v.hi, c]) (fun i => match i with | 0 => m | 1 => hc | i + 2 => zero_ri) s
 unfold evS
 simp only [e0]
 exact r
def okE (s : Sp) : Prop := s.e = 0 ∨ s = ⟨0, 0, 6⟩
theorem told_six (lo hi : Int) : okE (toldS lo hi) := by
 unfold toldS
 cases okF lo && okF hi
 .exact .inr rfl
 .exact .inl rfl
theorem e_sqr {s : Sp} (h : Ri s) : okE (sqrS s.lo s.hi) := by unfold sqrS; rw [h.ok]; exact told_six _ _
theorem e_add {s t : Sp} (h : Ri s) (k : Ri t) : okE (addS s.lo s.hi t.lo t.hi) := by unfold addS; rw [both_of h.ok k.ok]; exact told_six _ _
theorem e_sub {s t : Sp} (h : Ri s) (k : Ri t) : okE (subS s.lo s.hi t.lo t.hi) := by unfold subS; rw [both_of h.ok k.ok]; exact told_six _ _
theorem e_mul {s t : Sp} (h : Ri s) (k : Ri t) : okE (mulS s.lo s.hi t.lo t.hi) := by unfold mulS; rw [both_of h.ok k.ok]; exact told_six _ _
theorem e_div {s t : Sp} (h : Ri s) (k : Ri t) (p : 0 < t.lo) : okE (divS s.lo s.hi t.lo t.hi) := by rw [div_of h.ok k.ok (.inl p)]; exact told_six _ _
theorem e_sc {s : Sp} {n d : Int} (h : Ri s) (k : okSc n d) (o : okR n d = true) : okE (xScaleS s.lo s.hi n d) := by
 rw [sc_eq k]; unfold scaleS; rw [h.ok, o]; exact told_six _ _
theorem e_rt {s : Sp} (h : Ri s) (p : 0 < s.lo) : okE (sqrtS s.lo s.hi) := by
 unfold sqrtS; rw [h.ok, decide_eq_false (show ¬ s.lo < 0 by omega)]; exact .inl rfl
theorem fn2_ok {s t : Sp} (h : Ri s) (k : Ri t) : Oks [s, t] := fun i => match i with | 0 => h | 1 => k | i + 2 => zero_ri
theorem r_sqr {s : Sp} (h : Ri s) (e : (sqrS s.lo s.hi).e = 0) : Ri (sqrS s.lo s.hi) := sq1_ok 0 (fn2_ok h h) e
theorem r_rt {s : Sp} (h : Ri s) (e : (sqrtS s.lo s.hi).e = 0) : Ri (sqrtS s.lo s.hi) := rt1_ok 0 (fn2_ok h h) e
theorem r_add {s t : Sp} (h : Ri s) (k : Ri t) (e : (addS s.lo s.hi t.lo t.hi).e = 0) : Ri (addS s.lo s.hi t.lo t.hi) := ad2_ok 0 1 (fn2_ok h k) e
theorem r_sub {s t : Sp} (h : Ri s) (k : Ri t) (e : (subS s.lo s.hi t.lo t.hi).e = 0) : Ri (subS s.lo s.hi t.lo t.hi) := sb2_ok 0 1 (fn2_ok h k) e
theorem r_mul {s t : Sp} (h : Ri s) (k : Ri t) (e : (mulS s.lo s.hi t.lo t.hi).e = 0) : Ri (mulS s.lo s.hi t.lo t.hi) := ml2_ok 0 1 (fn2_ok h k) e
theorem r_div {s t : Sp} (h : Ri s) (k : Ri t) (e : (divS s.lo s.hi t.lo t.hi).e = 0) : Ri (divS s.lo s.hi t.lo t.hi) := dv2_ok 0 1 (fn2_ok h k) e
theorem r_sc {s : Sp} {n d : Int} (h : Ri s) (k : okSc n d) (e : (xScaleS s.lo s.hi n d).e = 0) : Ri (xScaleS s.lo s.hi n d) := sc1_ok 0 k (fn2_ok h h) e
theorem rt_pos {s : Sp} (h : Ri s) (p : 0 < s.lo) : 0 < (sqrtS s.lo s.hi).lo := by
 unfold sqrtS; rw [h.ok, decide_eq_false (show ¬ s.lo < 0 by omega)]
 show 0 < rtV s.lo false
 have r1 := h.lo
 have r2 := h.le
 have r3 := h.hi
 have k1 : sqOk s.lo = true := by unfold sqOk; rw [okF_iff.2 (by omega)]; simpa using (show 0 <= s.lo by omega)
 obtain ⟨u0, u1, u2, _⟩ := sqR_spec k1
 show 0 < sqR s.lo
 have := lt_of_sq (a := 1) (b := sqR s.lo + 1) (by omega) (by omega)
 omega
theorem add_pos {s t : Sp} (h : Ri s) (k : Ri t) (e : (addS s.lo s.hi t.lo t.hi).e = 0) (p : 0 < s.lo) (q : 0 <= t.lo) : 0 < (addS s.lo s.hi t.lo t.hi).lo := by
 unfold addS at e ⊢
 rw [both_of h.ok k.ok] at e ⊢
 rw [(told_ok e).1]
 show 0 < s.lo + t.lo
 omega
theorem six_of {s : Sp} (h : okE s) (e : s.e ≠ 0) : s = ⟨0, 0, 6⟩ := h.resolve_left e
theorem evS_e {a v c : Sp} (ha : Ri a) (hv : Ri v) (hc : Ri c) : okE (evS a v c) := by
 rcases e_mul ha hv with e0 | e0
 .have m := r_mul ha hv e0
  unfold evS
  simp only [e0]
  exact e_add m hc
 .unfold evS
  rw [e0]
  exact .inr rfl
theorem evl_e {v c0 c1 c2 c3 : Sp} (hv : Ri v) (h0 : Ri c0) (h1 : Ri c1) (h2 : Ri c2) (h3 : Ri c3) : okE (evalS v c0 c1 c2 c3) := by
 have z : Ri (⟨0, 0, 0⟩ : Sp) := zero_ri
 have k1 : okE (ev1 v c3) := evS_e z hv h3
 rcases Decidable.em ((ev1 v c3).e = 0) with d1 | d1
 .have r1 : Ri (ev1 v c3) := evS_ok z hv h3 d1
  have k2 : okE (ev2 v c2 c3) := evS_e r1 hv h2
  rcases Decidable.em ((ev2 v c2 c3).e = 0) with d2 | d2
  .have r2 : Ri (ev2 v c2 c3) := evS_ok r1 hv h2 d2
   have k3 : okE (ev3 v c1 c2 c3) := evS_e r2 hv h1
   rcases Decidable.em ((ev3 v c1 c2 c3).e = 0) with d3 | d3
   .have r3 : Ri (ev3 v c1 c2 c3) := evS_ok r2 hv h1 d3
    have k4 : okE (ev4 v c0 c1 c2 c3) := evS_e r3 hv h0
    rcases Decidable.em ((ev4 v c0 c1 c2 c3).e = 0) with d4 | d4
    .rw [evG_of d1 d2 d3 d4]; exact .inl d4
    .right
     unfold evalS evG evB
     rw [d1, d2, d3, six_of k4 d4]; rfl
   .right
    unfold evalS evG evB
    rw [d1, d2, six_of k3 d3]; rfl
  .right
   unfold evalS evG evB
   rw [d1, six_of k2 d2]; rfl
 .right
  unfold evalS evG evB
  rw [six_of k1 d1]; rfl
theorem evl_r {v c0 c1 c2 c3 : Sp} (hv : Ri v) (h0 : Ri c0) (h1 : Ri c1) (h2 : Ri c2) (h3 : Ri c3) (e : (evalS v c0 c1 c2 c3).e = 0) : Ri (evalS v c0 c1 c2 c3) := by
 obtain ⟨d1, d2, d3, d4⟩ := evG_ok e
 rw [evG_of d1 d2 d3 d4]
 exact evS_ok (evS_ok (evS_ok (evS_ok zero_ri hv h3 d1) hv h2 d2) hv h1 d3) hv h0 d4
end Go.Rd
namespace Go.Rd
open Go Go.Eng Go.Ar
def cr1 (th : Int) (dx : Int) (dy : Int) (ax : Int) (ay : Int) (az : Int) : Bool := bif decide (th < (-1000000000 : Int)) then true else decide (th > 1000000000)
def cr2 (th : Int) (dx : Int) (dy : Int) (ax : Int) (ay : Int) (az : Int) : Bool := bif decide (dx < (-1000000000 : Int)) then true else decide (dx > 1000000000)
def cr5 (th : Int) (dx : Int) (dy : Int) (ax : Int) (ay : Int) (az : Int) : Int := bif
  cr1 th dx dy ax ay az ||
   !cr1 th dx dy ax ay az &&
    (cr2 th dx dy ax ay az ||
     !cr2 th dx dy ax ay az &&
      bif decide (dy < (-1000000000 : Int)) then true else decide (dy > 1000000000)) then
 bif cr1 th dx dy ax ay az then (2 : Int)
 else bif cr2 th dx dy ax ay az then (3 : Int) else (4 : Int)
else (-1 : Int)
def cr7 (th : Int) (dx : Int) (dy : Int) (ax : Int) (ay : Int) (az : Int) : Bool := bif decide (ax < (-90000000 : Int)) then true else decide (ax > 90000000)
def cr8 (th : Int) (dx : Int) (dy : Int) (ax : Int) (ay : Int) (az : Int) : Bool := bif decide (ay < (-90000000 : Int)) then true else decide (ay > 90000000)
def cr9 (th : Int) (dx : Int) (dy : Int) (ax : Int) (ay : Int) (az : Int) : Int := bif
  cr7 th dx dy ax ay az ||
   !cr7 th dx dy ax ay az &&
    (cr8 th dx dy ax ay az ||
     !cr8 th dx dy ax ay az &&
      bif decide (az < (-90000000 : Int)) then true else decide (az > 90000000)) then
 bif cr7 th dx dy ax ay az then 0
 else bif cr8 th dx dy ax ay az then (1 : Int) else (2 : Int)
else (-1 : Int)
def crV (th : Int) (dx : Int) (dy : Int) (ax : Int) (ay : Int) (az : Int) : Int := (bif
     !bif
        (3 : Int) == 3 &&
         ((0 : Int) == 0 &&
          ((0 : Int) == 0 &&
           ((0 : Int) == 0 &&
            ((0 : Int) == 0 &&
             ((0 : Int) == 0 &&
              (th == th &&
               ((0 : Int) == 0 &&
                ((0 : Int) == 0 &&
                 (dx == dx &&
                  (dy == dy &&
                   (ax == ax &&
                    (ay == ay &&
                     (az == az &&
                      ((0 : Int) == 0 &&
                       ((0 : Int) == 0 &&
                        ((0 : Int) == 0 &&
                         ((0 : Int) == 0 &&
                          ((0 : Int) == 0 &&
                           ((0 : Int) == 0 &&
                            ((0 : Int) == 0 &&
                             ((0 : Int) == 0 &&
                              (eqBytes { data := #[] } { data := #[] } &&
                               true)))))))))))))))))))))) then
       true
      else false then
    110
   else
    bif !bif !decide (cr5 th dx dy ax ay az >= 0) then true else false then 110
    else bif !!decide (cr9 th dx dy ax ay az >= 0) then 110 else 0)
end Go.Rd
namespace Go.Rd
open Go Go.Eng Go.Ar
def inL (x : Int) : Prop := -1000000000 <= x /\ x <= 1000000000
def inK (x : Int) : Prop := -100000000 <= x /\ x <= 100000000
def inA (x : Int) : Prop := -90000000 <= x /\ x <= 90000000
def inSH (se ho : Int) : Prop := 0 <= se /\ se <= 1000000000 /\ 0 <= ho /\ ho <= 1000000000 /\ (se = 0 ∨ ho < se)
def inG (s : ByteArray) : Prop := s = ⟨#[]⟩ ∨ isG s
structure vStd (c k a0 a1 a2 a3 f0 f1 o th : Int) (s : ByteArray) (se ho : Int) : Prop where
 hc : inL c
 hk : inK k
 h0 : inL a0
 h1 : inL a1
 h2 : inL a2
 h3 : inL a3
 hf : inL f0
 hg : inL f1
 ho' : -3 <= o /\ o <= 3
 ht : inL th
 hs : inG s
 sh : inSH se ho
 ph : (f0 = 0 /\ f1 = 0 /\ o = 0) ∨ (o ≠ 0 /\ s ≠ g3)
theorem sh_f {se ho : Int} (h : inSH se ho) : (bif se == 0 then true else decide (ho < se)) = true := by
 obtain ⟨_, _, _, _, h1 | h1⟩ := h
 .subst h1; rfl
 .rw [decide_eq_true h1]; cases se == 0 <;> rfl
structure vBic (c k l m th : Int) (s : ByteArray) (se ho : Int) : Prop where
 hc : inL c
 hk : inK k
 hl : inL l
 hm : inK m
 ht : inL th
 hs : inG s
 sh : inSH se ho
structure vBrk (th dx dy ax ay az : Int) : Prop where
 ht : inL th
 hx : inL dx
 hy : inL dy
 ha : inA ax
 hb : inA ay
 hc : inA az
structure vIdl (c th se ho : Int) : Prop where
 hc : inL c
 ht : inL th
 sh : inSH se ho
end Go.Rd
namespace Go.Rd
open Go Go.Eng Go.Ar
end Go.Rd
namespace Go.Rd
open Go Go.Eng Go.Ar
end Go.Rd
namespace Go.Rd
open Go Go.Eng Go.Ar
def z0 (s : Sp) : Bool := s.e == 0
def asp (a0 a1 a2 a3 : Int) : Bool := !(a0 == 0 && (a1 == 0 && (a2 == 0 && (a3 == 0 && true))))
section
variable (c k a0 a1 a2 a3 a b d e : Int)
def u0 : Sp := xScaleS (s2 c k a b d e).lo (s2 c k a b d e).hi 1 100
def ca (n : Int) : Sp := xScaleS 4294967296 4294967296 n 1000000
def u1 : Sp := evalS (u0 c k a b d e) (ca a0) (ca a1) (ca a2) (ca a3)
def u2 : Sp := sqrS (u0 c k a b d e).lo (u0 c k a b d e).hi
def u3 : Sp := mulS (u2 c k a b d e).lo (u2 c k a b d e).hi (u1 c k a0 a1 a2 a3 a b d e).lo (u1 c k a0 a1 a2 a3 a b d e).hi
def u4 : Sp := addS (s10 c k a b d e).lo (s10 c k a b d e).hi (u3 c k a0 a1 a2 a3 a b d e).lo (u3 c k a0 a1 a2 a3 a b d e).hi
def sagH0 : Bool := (z0 (s0 c k a b d e) && (z0 (s1 c k a b d e) && (z0 (s2 c k a b d e) && z0 (s3 c k a b d e)))) && (z0 (s4 c k a b d e) && z0 (s5 c k a b d e))
def sagB : Bool := sagH0 c k a b d e && (z0 (s6 c k a b d e) && (!decide ((s6 c k a b d e).lo <= 0) && (z0 (s7 c k a b d e) && (z0 (s8 c k a b d e) && (z0 (s9 c k a b d e) && z0 (s10 c k a b d e))))))
def sagD : Bool := sagH0 c k a b d e && (z0 (s6 c k a b d e) && decide ((s6 c k a b d e).lo <= 0))
def sagE : Bool := ((z0 (s0 c k a b d e) && (z0 (s1 c k a b d e) && (z0 (s2 c k a b d e) && z0 (u0 c k a b d e)))) && ((z0 (ca a0) && (z0 (ca a1) && (z0 (ca a2) && z0 (ca a3)))) && z0 (u1 c k a0 a1 a2 a3 a b d e))) && (z0 (u2 c k a b d e) && (z0 (u3 c k a0 a1 a2 a3 a b d e) && z0 (u4 c k a0 a1 a2 a3 a b d e)))
def sagC : Bool := sagB c k a b d e && bif asp a0 a1 a2 a3 then sagE c k a0 a1 a2 a3 a b d e else true
def sagS : Sp := ⟨bif sagC c k a0 a1 a2 a3 a b d e then bif asp a0 a1 a2 a3 then (u4 c k a0 a1 a2 a3 a b d e).lo else (s10 c k a b d e).lo else 0,
 bif sagC c k a0 a1 a2 a3 a b d e then bif asp a0 a1 a2 a3 then (u4 c k a0 a1 a2 a3 a b d e).hi else (s10 c k a b d e).hi else 0,
 bif sagC c k a0 a1 a2 a3 a b d e then 0 else bif sagD c k a b d e then 9 else 6⟩
end
section
variable (c k l m a b d e : Int)
def sagX0 : Bool := (z0 (b0 c k l m a b d e) && (z0 (b1 c k l m a b d e) && (z0 (b2 c k l m a b d e) && z0 (b3 c k l m a b d e)))) && ((z0 (b4 c k l m a b d e) && z0 (b6 c k l m a b d e)) && ((z0 (b5 c k l m a b d e) && z0 (b7 c k l m a b d e)) && z0 (b8 c k l m a b d e)))
def sagXC : Bool := sagX0 c k l m a b d e && (z0 (b9 c k l m a b d e) && (!decide ((b9 c k l m a b d e).lo <= 0) && (z0 (b10 c k l m a b d e) && (z0 (b11 c k l m a b d e) && (z0 (b12 c k l m a b d e) && z0 (b13 c k l m a b d e))))))
def sagXD : Bool := sagX0 c k l m a b d e && (z0 (b9 c k l m a b d e) && decide ((b9 c k l m a b d e).lo <= 0))
def sagX : Sp := ⟨bif sagXC c k l m a b d e then (b13 c k l m a b d e).lo else 0, bif sagXC c k l m a b d e then (b13 c k l m a b d e).hi else 0, bif sagXC c k l m a b d e then 0 else bif sagXD c k l m a b d e then 9 else 6⟩
end
def spV (s : Sp) : AV := .tuple [.agg [.int true .i64 s.lo, .int true .i64 s.hi], .int true .i64 s.e]
end Go.Rd
namespace Go.Rd
open Go Go.Eng Go.Ar
structure Su where
 kd : Int
 c : Int
 k : Int
 l : Int
 m : Int
 a0 : Int
 a1 : Int
 a2 : Int
 a3 : Int
 f0 : Int
 f1 : Int
 o : Int
 th : Int
 g : ByteArray
 se : Int
 ho : Int
 dx : Int
 dy : Int
 ax : Int
 ay : Int
 az : Int
def Su.nus (s : Su) : List Nu := [.n s.kd, .n s.c, .n s.k, .n s.l, .n s.m, .n s.a0, .n s.a1, .n s.a2, .n s.a3, .n s.f0, .n s.f1, .n s.o, .n s.th, .s s.g, .n s.se, .n s.ho, .n s.dx, .n s.dy, .n s.ax, .n s.ay, .n s.az]
def Su.cells (s : Su) (kd : AV) : List AV := [kd, .int true .i64 s.c, .int true .i64 s.k, .int true .i64 s.l, .int true .i64 s.m, .int true .i64 s.a0, .int true .i64 s.a1, .int true .i64 s.a2, .int true .i64 s.a3, .int true .i64 s.f0, .int true .i64 s.f1, .int true .i64 s.o, .int true .i64 s.th, .str true s.g,
 .int true .i64 s.se, .int true .i64 s.ho, .int true .i64 s.dx, .int true .i64 s.dy, .int true .i64 s.ax, .int true .i64 s.ay, .int true .i64 s.az]
def Su.ini (s : Su) : List AV := s.cells (.int true .i64 s.kd)
def suI : List Sh := [.i .i64, .i .i64, .i .i64, .i .i64, .i .i64, .i .i64, .i .i64, .i .i64, .i .i64, .i .i64, .i .i64, .i .i64, .i .i64, .str, .i .i64, .i .i64, .i .i64, .i .i64, .i .i64, .i .i64, .i .i64]
def suOf : List Nu -> Option Su
 | [.n kd, .n c, .n k, .n l, .n m, .n a0, .n a1, .n a2, .n a3, .n f0, .n f1, .n o, .n th, .s g, .n se, .n ho, .n dx, .n dy, .n ax, .n ay, .n az] => some ⟨kd, c, k, l, m, a0, a1, a2, a3, f0, f1, o, th, g, se, ho, dx, dy, ax, ay, az⟩
 | _ => none
theorem suOf_eq {xs : List Nu} {s : Su} (h : suOf xs = some s) : xs = s.nus := by
 unfold suOf at h
 split at h
 .cases h; rfl
 .cases h
def spinF : Nat -> Nat -> (Nat -> Int) -> List Int
 | 0, _, _ => []
 | n + 1, i, x => x i :: spinF n (i + 1) x
theorem spinF_of : ∀ (ys pre : List Int), spinF ys.length pre.length (fun i => (pre ++ ys).getD i 0) = ys
 | [], _ => rfl
 | y :: ys, pre => by
  have := spinF_of ys (pre ++ [y])
  simp only [List.length_cons, spinF]
  rw [List.append_assoc, List.length_append] at this
  simp only [List.length_cons, List.length_nil, List.cons_append, List.nil_append] at this
  rw [this]
  simp
def okF3 (n : Int) (ys : List Int) : Prop := 0 <= n /\ n <= 12 /\ ys.length = 3 * n.toNat
theorem okF3_of {n : Int} {ys : List Int} (h : okF3 n ys) : ∃ (k : Nat) (x : Nat -> Int), k <= 12 /\ n = (k : Int) /\ ys = spinF (3 * k) 0 x := by
 obtain ⟨h1, h2, h3⟩ := h
 refine ⟨n.toNat, fun i => ys.getD i 0, by omega, by omega, ?_⟩
 have := spinF_of ys []
 simp only [List.nil_append, List.length_nil] at this
 rw [<- h3, this]
def film1 (i p q : Int) : Bool := decide (10000000 <= i) && decide (i <= 40000000) && (decide (0 <= p) && decide (p <= 1000)) && (decide (1 <= q) && decide (q <= 1000))
def filmsB : List Int -> Bool
 | i :: p :: q :: r => film1 i p q && filmsB r
 | _ => true
end Go.Rd
namespace Go.Rd
open Go Go.Eng Go.Ar
def cAt (b : ByteArray) (i : Int) : Int := ((b.data.toList.getD i.toNat 0).toNat : Int)
def nmAll (L : Int -> Bool) (b : ByteArray) : Nat -> Int -> Bool
 | 0, _ => true
 | n + 1, i => L (cAt b i) && nmAll L b n (IntKind.i64.wrap (i + 1))
def let0 (c : Int) : Bool := bif c == 45 then true else c == 95
def let1 (c : Int) : Bool := bif decide (c >= 48) then bif decide (c <= 57) then true else let0 c else let0 c
def let2 (c : Int) : Bool := bif decide (c >= 97) then bif decide (c <= 122) then true else let1 c else let1 c
def letP (c : Int) : Bool := bif decide (c >= 65) then bif decide (c <= 90) then true else let2 c else let2 c
def nmLen (n : Int) : Bool := bif decide (n >= 1) then decide (n <= 16) else false
def nameB (b : ByteArray) : Bool := nmAll letP b b.size 0 && nmLen b.size
end Go.Rd
namespace Go.Rd
open Go Go.Eng Go.Ar
def inR (lo hi n : Int) : Bool := decide (lo <= n) && decide (n <= hi)
def noG (s : Su) : Bool := eqBytes s.g ⟨#[]⟩
def isM (s : Su) : Bool := eqBytes s.g ⟨#[77, 73, 82, 82, 79, 82]⟩
def numsB (s : Su) : Bool :=
 (inR (-1000000000) 1000000000 s.c && inR (-1000000000) 1000000000 s.l && inR (-1000000000) 1000000000 s.th && inR (-1000000000) 1000000000 s.dx && inR (-1000000000) 1000000000 s.dy) &&
 (inR (-1000000000) 1000000000 s.a0 && inR (-1000000000) 1000000000 s.a1 && inR (-1000000000) 1000000000 s.a2 && inR (-1000000000) 1000000000 s.a3) && (inR (-1000000000) 1000000000 s.f0 && inR (-1000000000) 1000000000 s.f1) &&
 ((inR (-100000000) 100000000 s.k && inR (-100000000) 100000000 s.m) && (inR (-90000000) 90000000 s.ax && inR (-90000000) 90000000 s.ay && inR (-90000000) 90000000 s.az)) &&
 (inR (-3) 3 s.o && (inR 0 1000000000 s.se && inR 0 1000000000 s.ho)) && (s.se == 0 || decide (s.ho < s.se)) && (noG s || nameB s.g)
def noX (s : Su) : Bool := s.l == 0 && s.m == 0
def noA (s : Su) : Bool := s.a0 == 0 && s.a1 == 0 && s.a2 == 0 && s.a3 == 0
def noP (s : Su) : Bool := s.f0 == 0 && s.f1 == 0
def noT (s : Su) : Bool := s.dx == 0 && s.dy == 0 && s.ax == 0 && s.ay == 0 && s.az == 0
def kindB (s : Su) (e : Bool) : Bool :=
 (s.kd == 1 && (noX s && noT s && (!(s.o == 0 || isM s) || (s.o == 0 && noP s)))) ||
 (s.kd == 2 && (noA s && noP s && s.o == 0 && noT s)) ||
 (s.kd == 3 && (noX s && noA s && noP s && s.o == 0 && noG s && e && s.c == 0 && s.k == 0 && s.se == 0 && s.ho == 0)) ||
 (s.kd == 4 && (noX s && noA s && noP s && s.o == 0 && noT s && noG s && e && s.k == 0))
def rightS (s : Su) (ys : List Int) : Bool := numsB s && kindB s ys.isEmpty && filmsB ys && decide (ys.length <= 24)
def oR (lo hi n : Int) : Bool := bif decide (n < lo) then true else decide (n > hi)
theorem oR_eq (lo hi n : Int) : oR lo hi n = !inR lo hi n := by
 unfold oR inR
 cases h1 : decide (n < lo) <;> cases h2 : decide (n > hi) <;> simp_all <;> omega
def ix1 (p : Bool) : Int := bif p then 0 else -1
def ix2 (p q : Bool) : Int := bif !p && !q then -1 else bif p then 0 else 1
def ix3 (p q r : Bool) : Int := bif p || !p && (q || !q && r) then bif p then 0 else bif q then 1 else 2 else -1
def ix4 (p q r t : Bool) : Int := bif !p && (!q && (!r && !t)) then -1 else bif p then 0 else bif q then 1 else bif r then 2 else 3
def ix5 (p q r t u : Bool) : Int := bif p || !p && (q || !q && (r || !r && (t || !t && u))) then bif p then 0 else bif q then 1 else bif r then 2 else bif t then 3 else 4 else -1
theorem ix1_eq (p : Bool) : decide (ix1 p >= 0) = p := by cases p <;> rfl
theorem ix2_eq (p q : Bool) : decide (ix2 p q >= 0) = (p || q) := by cases p <;> cases q <;> rfl
theorem ix3_eq (p q r : Bool) : decide (ix3 p q r >= 0) = (p || q || r) := by cases p <;> cases q <;> cases r <;> rfl
theorem ix4_eq (p q r t : Bool) : decide (ix4 p q r t >= 0) = (p || q || r || t) := by cases p <;> cases q <;> cases r <;> cases t <;> rfl
theorem ix5_eq (p q r t u : Bool) : decide (ix5 p q r t u >= 0) = (p || q || r || t || u) := by cases p <;> cases q <;> cases r <;> cases t <;> cases u <;> rfl
section
variable (s : Su)
def cT2 : Bool := !bif !decide (ix5 (oR (-1000000000) 1000000000 s.c) (oR (-1000000000) 1000000000 s.l) (oR (-1000000000) 1000000000 s.th) (oR (-1000000000) 1000000000 s.dx) (oR (-1000000000) 1000000000 s.dy) >= 0) then
 bif !decide (ix4 (oR (-1000000000) 1000000000 s.a0) (oR (-1000000000) 1000000000 s.a1) (oR (-1000000000) 1000000000 s.a2) (oR (-1000000000) 1000000000 s.a3) >= 0) then !decide (ix2 (oR (-1000000000) 1000000000 s.f0) (oR (-1000000000) 1000000000 s.f1) >= 0) else false else false
def cT3 : Bool := !bif !decide (ix2 (oR (-100000000) 100000000 s.k) (oR (-100000000) 100000000 s.m) >= 0) then !decide (ix3 (oR (-90000000) 90000000 s.ax) (oR (-90000000) 90000000 s.ay) (oR (-90000000) 90000000 s.az) >= 0) else false
def cT4 : Bool := !bif !decide (ix1 (oR (-3) 3 s.o) >= 0) then !decide (ix2 (oR 0 1000000000 s.se) (oR 0 1000000000 s.ho) >= 0) else false
def cT5 : Bool := !bif s.se == 0 then true else decide (s.ho < s.se)
def cE0 (f : Bool) : Int := bif f then 110 else bif cT2 s then 110 else bif cT3 s then 110 else bif cT4 s then 110 else bif cT5 s then 110 else bif !bif noG s then true else nameB s.g then 110 else 0
theorem cT2_eq : cT2 s = !((inR (-1000000000) 1000000000 s.c && inR (-1000000000) 1000000000 s.l && inR (-1000000000) 1000000000 s.th && inR (-1000000000) 1000000000 s.dx && inR (-1000000000) 1000000000 s.dy) &&
 (inR (-1000000000) 1000000000 s.a0 && inR (-1000000000) 1000000000 s.a1 && inR (-1000000000) 1000000000 s.a2 && inR (-1000000000) 1000000000 s.a3) && (inR (-1000000000) 1000000000 s.f0 && inR (-1000000000) 1000000000 s.f1)) := by
 unfold cT2
 simp only [ix2_eq, ix4_eq, ix5_eq, oR_eq, <- Bool.not_and, Bool.not_not]
 generalize (inR (-1000000000) 1000000000 s.c && inR (-1000000000) 1000000000 s.l && inR (-1000000000) 1000000000 s.th && inR (-1000000000) 1000000000 s.dx && inR (-1000000000) 1000000000 s.dy) = x
 generalize (inR (-1000000000) 1000000000 s.a0 && inR (-1000000000) 1000000000 s.a1 && inR (-1000000000) 1000000000 s.a2 && inR (-1000000000) 1000000000 s.a3) = y
 generalize (inR (-1000000000) 1000000000 s.f0 && inR (-1000000000) 1000000000 s.f1) = z
 cases x <;> cases y <;> cases z <;> rfl
theorem cT3_eq : cT3 s = !((inR (-100000000) 100000000 s.k && inR (-100000000) 100000000 s.m) && (inR (-90000000) 90000000 s.ax && inR (-90000000) 90000000 s.ay && inR (-90000000) 90000000 s.az)) := by
 unfold cT3
 simp only [ix2_eq, ix3_eq, oR_eq, <- Bool.not_and, Bool.not_not]
 generalize (inR (-100000000) 100000000 s.k && inR (-100000000) 100000000 s.m) = x
 generalize (inR (-90000000) 90000000 s.ax && inR (-90000000) 90000000 s.ay && inR (-90000000) 90000000 s.az) = y
 cases x <;> cases y <;> rfl
theorem cT4_eq : cT4 s = !(inR (-3) 3 s.o && (inR 0 1000000000 s.se && inR 0 1000000000 s.ho)) := by
 unfold cT4
 simp only [ix1_eq, ix2_eq, oR_eq, <- Bool.not_and, Bool.not_not]
 cases inR (-3) 3 s.o <;> cases (inR 0 1000000000 s.se && inR 0 1000000000 s.ho) <;> rfl
theorem cT5_eq : cT5 s = !(s.se == 0 || decide (s.ho < s.se)) := by
 unfold cT5
 cases s.se == 0 <;> rfl
theorem cE0_eq (f : Bool) : cE0 s f = bif !f && numsB s then 0 else 110 := by
 unfold cE0 numsB
 rw [cT2_eq, cT3_eq, cT4_eq, cT5_eq]
 generalize ((inR (-1000000000) 1000000000 s.c && inR (-1000000000) 1000000000 s.l && inR (-1000000000) 1000000000 s.th && inR (-1000000000) 1000000000 s.dx && inR (-1000000000) 1000000000 s.dy) &&
 (inR (-1000000000) 1000000000 s.a0 && inR (-1000000000) 1000000000 s.a1 && inR (-1000000000) 1000000000 s.a2 && inR (-1000000000) 1000000000 s.a3) && (inR (-1000000000) 1000000000 s.f0 && inR (-1000000000) 1000000000 s.f1)) = x
 generalize ((inR (-100000000) 100000000 s.k && inR (-100000000) 100000000 s.m) && (inR (-90000000) 90000000 s.ax && inR (-90000000) 90000000 s.ay && inR (-90000000) 90000000 s.az)) = y
 generalize (inR (-3) 3 s.o && (inR 0 1000000000 s.se && inR 0 1000000000 s.ho)) = z
 generalize (s.se == 0 || decide (s.ho < s.se)) = t
 generalize nameB s.g = u
 cases f <;> cases x <;> cases y <;> cases z <;> cases t <;> cases noG s <;> cases u <;> rfl
def fStep (e i p q : Int) : Int :=
 bif bif e == 0 then !bif !decide (ix1 (oR 10000000 40000000 i) >= 0) then bif !decide (ix1 (oR 0 1000 p) >= 0) then !decide (ix1 (oR 1 1000 q) >= 0) else false else false else false then 110 else e
def fE (e : Int) : List Int -> Int
 | i :: p :: q :: r => fE (fStep e i p q) r
 | _ => e
end
theorem fStep_0 (i p q : Int) : fStep 0 i p q = bif film1 i p q then 0 else 110 := by
 unfold fStep film1
 simp only [ix1_eq, oR_eq]
 show (bif (bif true then _ else false) then _ else _) = _
 simp only [cond_true, Bool.not_not]
 rw [show (decide (10000000 <= i) && decide (i <= 40000000)) = inR 10000000 40000000 i from rfl, show (decide (0 <= p) && decide (p <= 1000)) = inR 0 1000 p from rfl, show (decide (1 <= q) && decide (q <= 1000)) = inR 1 1000 q from rfl]
 cases inR 10000000 40000000 i <;> cases inR 0 1000 p <;> cases inR 1 1000 q <;> rfl
theorem fStep_1 (i p q : Int) : fStep 110 i p q = 110 := rfl
theorem fE_1 : ∀ ys : List Int, fE 110 ys = 110
 | [] => rfl
 | [_] => rfl
 | [_, _] => rfl
 | i :: p :: q :: r => by rw [fE, fStep_1]; exact fE_1 r
theorem fE_0 : ∀ ys : List Int, fE 0 ys = bif filmsB ys then 0 else 110
 | [] => rfl
 | [_] => rfl
 | [_, _] => rfl
 | i :: p :: q :: r => by
  rw [fE, fStep_0, filmsB]
  cases film1 i p q with
  | true => exact fE_0 r
  | false => exact fE_1 r
def dj : List Bool -> Bool
 | [] => false
 | b :: l => match l with
  | [] => b
  | _ :: _ => b || !b && dj l
def cj : List Bool -> Bool
 | [] => true
 | b :: l => match l with
  | [] => !b
  | _ :: _ => !b && cj l
def par {α : Type} : List α -> Bool
 | [] => false
 | _ :: l => match par l with
  | true => false
  | false => true
def sel {β : Type} (l : List Bool) (bad good : β) : β := match l with
 | [] => good
 | b :: r => match par (b :: r) with
  | true => bif dj (b :: r) then bad else good
  | false => bif cj (b :: r) then good else bad
def anyB : List Bool -> Bool
 | [] => false
 | b :: l => b || anyB l
theorem dj_eq : ∀ l : List Bool, dj l = anyB l
 | [] => rfl
 | [b] => by cases b <;> rfl
 | b :: c :: l => by
  have := dj_eq (c :: l)
  show (b || !b && dj (c :: l)) = (b || anyB (c :: l))
  rw [this]
  cases b <;> rfl
theorem cj_eq : ∀ l : List Bool, cj l = !anyB l
 | [] => rfl
 | [b] => by cases b <;> rfl
 | b :: c :: l => by
  have := cj_eq (c :: l)
  show (!b && cj (c :: l)) = !(b || anyB (c :: l))
  rw [this]
  cases b <;> rfl
theorem sel_eq {β : Type} (l : List Bool) (bad good : β) : sel l bad good = bif anyB l then bad else good := by
 unfold sel
 split
 .rfl
 .split
  .rw [dj_eq]
  .rw [cj_eq]
   generalize anyB _ = z
   cases z <;> rfl
def eqL : List Int -> List Bool
 | i :: p :: q :: r => (!(i == i && (p == p && (q == q && true)))) :: eqL r
 | _ => []
theorem eqL_f : ∀ ys : List Int, anyB (eqL ys) = false
 | [] => rfl
 | [_] => rfl
 | [_, _] => rfl
 | i :: p :: q :: r => by
  simp only [eqL, anyB, eqL_f r]
  simp
def fQ (ys : List Int) : Bool := sel (eqL ys) false true
theorem fQ_t (ys : List Int) : fQ ys = true := by
 unfold fQ
 rw [sel_eq, eqL_f]; rfl
section
variable (s : Su) (ys : List Int)
def k1P : Bool := bif s.o != 0 then !isM s else false
def k1N : Bool := 1 == 1 && (s.c == s.c && (s.k == s.k && (s.l == 0 && (s.m == 0 && (s.o == (bif k1P s then s.o else 0) && (s.th == (bif k1P s then s.th else s.th) && (s.se == s.se && (s.ho == s.ho && (s.dx == 0 && (s.dy == 0 && (s.ax == 0 && (s.ay == 0 && (s.az == 0 && (0 == 0 && (0 == 0 &&
 (s.a0 == (bif k1P s then s.a0 else s.a0) && (s.a1 == (bif k1P s then s.a1 else s.a1) && (s.a2 == (bif k1P s then s.a2 else s.a2) && (s.a3 == (bif k1P s then s.a3 else s.a3) && (s.f0 == (bif k1P s then s.f0 else 0) && (s.f1 == (bif k1P s then s.f1 else 0) && (eqBytes s.g s.g && true))))))))))))))))))))))
def k2N : Bool := 2 == 2 && (s.c == s.c && (s.k == s.k && (s.l == s.l && (s.m == s.m && (s.o == 0 && (s.th == s.th && (s.se == s.se && (s.ho == s.ho && (s.dx == 0 && (s.dy == 0 && (s.ax == 0 && (s.ay == 0 && (s.az == 0 && (0 == 0 && (0 == 0 && (s.a0 == 0 && (s.a1 == 0 && (s.a2 == 0 && (s.a3 == 0 && (s.f0 == 0 && (s.f1 == 0 && (eqBytes s.g s.g && true))))))))))))))))))))))
def k3N : Bool := 3 == 3 && (s.c == 0 && (s.k == 0 && (s.l == 0 && (s.m == 0 && (s.o == 0 && (s.th == s.th && (s.se == 0 && (s.ho == 0 && (s.dx == s.dx && (s.dy == s.dy && (s.ax == s.ax && (s.ay == s.ay && (s.az == s.az && (0 == 0 && (0 == 0 && (s.a0 == 0 && (s.a1 == 0 && (s.a2 == 0 && (s.a3 == 0 && (s.f0 == 0 && (s.f1 == 0 && (noG s && true))))))))))))))))))))))
def k4N : Bool := 4 == 4 && (s.c == s.c && (s.k == 0 && (s.l == 0 && (s.m == 0 && (s.o == 0 && (s.th == s.th && (s.se == s.se && (s.ho == s.ho && (s.dx == 0 && (s.dy == 0 && (s.ax == 0 && (s.ay == 0 && (s.az == 0 && (0 == 0 && (0 == 0 && (s.a0 == 0 && (s.a1 == 0 && (s.a2 == 0 && (s.a3 == 0 && (s.f0 == 0 && (s.f1 == 0 && (noG s && true))))))))))))))))))))))
def k1F : Bool := !bif k1N s then fQ ys else false
def k2F : Bool := !bif k2N s then fQ ys else false
def k3F : Bool := !bif k3N s then true else false
def k4F : Bool := !bif k4N s then true else false
def chk1V : Int := fE (cE0 s (k1F s ys)) ys
def chk2V : Int := fE (cE0 s (k2F s ys)) ys
def nmC (f : Bool) : Prop := (!f) = true -> (!cT2 s) = true -> (!cT3 s) = true -> (!cT4 s) = true -> (!cT5 s) = true -> noG s = false -> s.g.size < 1000000000
def same20 : Prop := s.c = s.c /\ s.k = s.k /\ s.l = s.l /\ s.m = s.m /\ s.a0 = s.a0 /\ s.a1 = s.a1 /\ s.a2 = s.a2 /\ s.a3 = s.a3 /\ s.f0 = s.f0 /\ s.f1 = s.f1 /\ s.o = s.o /\ s.th = s.th /\ s.g = s.g /\ s.se = s.se /\ s.ho = s.ho /\ s.dx = s.dx /\ s.dy = s.dy /\ s.ax = s.ax /\ s.ay = s.ay /\ s.az = s.az
def w1 : Prop := (s.ho = s.ho /\ s.se = s.se /\ s.g = s.g /\ s.k = s.k) /\ (s.ho = s.ho /\ s.se = s.se /\ s.g = s.g) /\ (s.ho = s.ho /\ s.se = s.se) /\ s.ho = s.ho
def chk1N : Prop := (((k1P s = true -> s.f0 = s.f0 /\ s.f1 = s.f1) /\ w1 s) /\ same20 s /\ s.c = s.c /\ s.k = s.k /\ (bif k1P s then s.a0 else s.a0) = (bif k1P s then s.a0 else s.a0) /\ (bif k1P s then s.a1 else s.a1) = (bif k1P s then s.a1 else s.a1) /\ (bif k1P s then s.a2 else s.a2) = (bif k1P s then s.a2 else s.a2) /\ (bif k1P s then s.a3 else s.a3) = (bif k1P s then s.a3 else s.a3) /\
 (bif k1P s then s.f0 else 0) = (bif k1P s then s.f0 else 0) /\ (bif k1P s then s.f1 else 0) = (bif k1P s then s.f1 else 0) /\ (bif k1P s then s.o else 0) = (bif k1P s then s.o else 0) /\ (bif k1P s then s.th else s.th) = (bif k1P s then s.th else s.th) /\ s.g = s.g /\ s.se = s.se /\ s.ho = s.ho) /\ nmC s (k1F s ys)
def chk2N : Prop := ((s.m = s.m /\ w1 s) /\ same20 s /\ s.c = s.c /\ s.k = s.k /\ s.l = s.l /\ s.m = s.m /\ s.th = s.th /\ s.g = s.g /\ s.se = s.se /\ s.ho = s.ho) /\ nmC s (k2F s ys)
def w3 : Prop := ((s.az = s.az /\ s.ay = s.ay /\ s.ax = s.ax /\ s.dy = s.dy) /\ (s.az = s.az /\ s.ay = s.ay /\ s.ax = s.ax) /\ (s.az = s.az /\ s.ay = s.ay) /\ s.az = s.az) /\ same20 s /\ s.th = s.th /\ s.dx = s.dx /\ s.dy = s.dy /\ s.ax = s.ax /\ s.ay = s.ay /\ s.az = s.az
def w4 : Prop := ((s.ho = s.ho /\ s.se = s.se) /\ s.ho = s.ho) /\ same20 s /\ s.c = s.c /\ s.th = s.th /\ s.se = s.se /\ s.ho = s.ho
def chk3N : Prop := w3 s /\ nmC s (k3F s)
def chk4N : Prop := w4 s /\ nmC s (k4F s)
def kdO : Bool := !decide (ix1 (oR 1 4 s.kd) >= 0)
variable {s} {ys}
theorem same20_t : same20 s := by unfold same20; simp
theorem nmC_t {f : Bool} (h : s.g.size < 1000000000) : nmC s f := fun _ _ _ _ _ _ => h
theorem chk1N_t (h : s.g.size < 1000000000) : chk1N s ys := ⟨⟨⟨fun _ => ⟨rfl, rfl⟩, by unfold w1; simp⟩, same20_t, by simp⟩, nmC_t h⟩
theorem chk2N_t (h : s.g.size < 1000000000) : chk2N s ys := ⟨⟨⟨rfl, by unfold w1; simp⟩, same20_t, by simp⟩, nmC_t h⟩
theorem w3_t : w3 s := ⟨by simp, same20_t, by simp⟩
theorem w4_t : w4 s := ⟨by simp, same20_t, by simp⟩
end
section
variable (s : Su) (ys : List Int)
end
end Go.Rd
