/- What is proved: AperOpen returns true, whatever the input (part 4 of 22). No conditions beyond those of the row. -/
import Derived.Test.YtkeognjggnmgmaaGreatDoorPC
import Derived.WideKeyArgs
import Derived.Laws.Bits64b
import Derived.Lib.BitFns
import Derived.Laws.BitsLemmas
set_option linter.unusedVariables false
set_option linter.unusedSimpArgs false
set_option linter.unusedSectionVars false
/- Laws with arguments: what is known of them, and what a run of the law says. -/
namespace Go.Eng
open Go

mutual
def Sh.leaves : Sh → List Sh
  | .a l => Sh.leavesL l
  | .i k => [.i k]
  | .b => [.b]
  | .c v => [.c v]
  | .str => [.str]
  | .one => [.one]
def Sh.leavesL : List Sh → List Sh
  | [] => []
  | h :: l => h.leaves ++ Sh.leavesL l
end

theorem inRange_append : ∀ {l m : List Sh} {xs ys : List Nu}, inRange l xs → inRange m ys → inRange (l ++ m) (xs ++ ys)
  | [], _, [], _, _, h => h
  | [], _, _ :: _, _, h, _ => by simp [inRange] at h
  | .i k :: l, m, .n x :: xs, ys, h, h' => ⟨h.1, inRange_append (l := l) h.2 h'⟩
  | .b :: l, m, .t x :: xs, ys, h, h' => inRange_append (l := l) (show inRange l xs from h) h'
  | .str :: l, m, .s x :: xs, ys, h, h' => inRange_append (l := l) (show inRange l xs from h) h'
  | .c v :: l, m, xs, ys, h, h' => by
    have h1 : inRange l xs := by cases xs <;> simpa [inRange] using h
    have := inRange_append h1 h'
    show inRange (.c v :: (l ++ m)) (xs ++ ys)
    cases hz : xs ++ ys <;> rw [hz] at this <;> simpa [inRange] using this
  | .i _ :: _, _, [], _, h, _ => by simp [inRange] at h
  | .i _ :: _, _, .t _ :: _, _, h, _ => by simp [inRange] at h
  | .b :: _, _, [], _, h, _ => by simp [inRange] at h
  | .str :: _, _, [], _, h, _ => by simp [inRange] at h
  | .str :: _, _, .n _ :: _, _, h, _ => by simp [inRange] at h
  | .str :: _, _, .t _ :: _, _, h, _ => by simp [inRange] at h
  | .b :: _, _, .s _ :: _, _, h, _ => by simp [inRange] at h
  | .i _ :: _, _, .s _ :: _, _, h, _ => by simp [inRange] at h
  | .one :: _, _, [], _, h, _ => by simp [inRange] at h
  | .one :: _, _, _ :: _, _, h, _ => by simp [inRange] at h
  | .b :: _, _, .n _ :: _, _, h, _ => by simp [inRange] at h
  | .a _ :: _, _, [], _, h, _ => by simp [inRange] at h
  | .a _ :: _, _, _ :: _, _, h, _ => by simp [inRange] at h

theorem leaves_ofL {P : Program} : ∀ ts : List TypeId, Sh.leavesL (Sh.ofL P ts) = Sh.ofL P ts
  | [] => rfl
  | t :: ts => by
    simp only [Sh.ofL, Sh.leavesL, leaves_ofL ts]
    unfold Sh.of
    split <;> rfl

/-- The shape of an argument of a type. -/
def shapeT (P : Program) (t : TypeId) : Option Sh :=
  match P.underlying t with
  | some (.int k) => some (.i k)
  | some .bool => some .b
  | some (.struct _) => match P.cellTypes P.depth t with
    | some ts => match Nat.beq (P.cellsOf t) ts.length && Nat.blt 0 ts.length with
      | true => some (.a (Sh.ofL P ts))
      | false => none
    | none => none
  | some (.array _ _) => match P.cellTypes P.depth t with
    | some ts => match Nat.beq (P.cellsOf t) ts.length && Nat.blt 0 ts.length with
      | true => some (.a (Sh.ofL P ts))
      | false => none
    | none => none
  | _ => none

def shapesT (P : Program) : List TypeId → Option (List Sh)
  | [] => some []
  | t :: ts => match shapeT P t with
    | none => none
    | some s => match shapesT P ts with
      | none => none
      | some l => some (s :: l)

theorem law_one {P : Program} {W : World} {base : Nat} {σ : Sg} {t : TypeId} {v : Value} {s : Sh} (hs : shapeT P t = some s) (h : Value.okWide P W .any base t v) :
    ∃ xs, xs.map Nu.isN = s.kinds ∧ inRange s.leaves xs ∧ ∀ ys, (Sh.mk s (xs ++ ys)).2 = ys ∧ VRel σ (Sh.mk s (xs ++ ys)).1 v := by
  have agg : ∀ ts, isAggT P t = some true → P.cellTypes P.depth t = some ts → (Nat.beq (P.cellsOf t) ts.length && Nat.blt 0 ts.length) = true → ∃ xs, xs.map Nu.isN = (Sh.a (Sh.ofL P ts)).kinds ∧ inRange (Sh.a (Sh.ofL P ts)).leaves xs ∧ ∀ ys, (Sh.mk (.a (Sh.ofL P ts)) (xs ++ ys)).2 = ys ∧ VRel σ (Sh.mk (.a (Sh.ofL P ts)) (xs ++ ys)).1 v := by
    intro ts hag hts hc
    simp only [Bool.and_eq_true] at hc
    have hsz := Nat.eq_of_beq_eq_true hc.1
    have key : ∃ cs, v = .agg cs ∧ cs.size = P.cellsOf t ∧ Row.okWide P W .any base t cs := by
      unfold Value.okWide at h
      unfold isAggT at hag
      split at h
      · exact h
      · exact h
      · rename_i h1 h2
        split at hag
        · cases hag
        · rename_i fs hu; exact absurd hu (h1 fs)
        · rename_i n e hu; exact absurd hu (h2 n e)
        · cases hag
    obtain ⟨cs, rfl, hcs, ts', ht', _, hcell⟩ := key
    rw [hts] at ht'; cases ht'
    obtain ⟨xs, h1, h2, h3⟩ := law_cells (P := P) (W := W) (base := base) (σ := σ) (ts := ts) (cs := cs.toList) (by simp [hcs, hsz]) fun i v hv => by
      rw [Array.getElem?_toList] at hv
      obtain ⟨u, hu, ho⟩ := hcell i v hv
      have hi : i < ts.length := by
        have := (Array.getElem?_eq_some_iff.1 hv).1
        omega
      rw [Nat.mod_eq_of_lt hi] at hu
      exact ⟨u, hu, ho⟩
    refine ⟨xs, h1, by show inRange (Sh.leavesL (Sh.ofL P ts)) xs; rw [leaves_ofL]; exact h2, fun ys => ?_⟩
    obtain ⟨a1, a2⟩ := h3 ys
    have e : Sh.mk (.a (Sh.ofL P ts)) (xs ++ ys) = (.agg (Sh.mkL (Sh.ofL P ts) (xs ++ ys)).1, (Sh.mkL (Sh.ofL P ts) (xs ++ ys)).2) := rfl
    rw [e]
    exact ⟨a1, cs, rfl, a2⟩
  unfold shapeT at hs
  split at hs
  · rename_i k hu
    cases hs
    have hc : Cell.okWide P W .any base t v := by
      unfold Value.okWide at h
      rw [hu] at h
      exact h
    unfold Cell.okWide at hc
    rw [hu] at hc
    unfold Cell.ok at hc
    simp only at hc
    rw [hu] at hc
    cases v <;> simp only at hc <;> first | exact hc.elim | skip
    rename_i k' n
    obtain ⟨rfl, hn⟩ := hc
    exact ⟨[.n n], rfl, ⟨hn, trivial⟩, fun ys => ⟨rfl, rfl⟩⟩
  · rename_i hu
    cases hs
    have hc : Cell.okWide P W .any base t v := by
      unfold Value.okWide at h
      rw [hu] at h
      exact h
    unfold Cell.okWide at hc
    rw [hu] at hc
    unfold Cell.ok at hc
    simp only at hc
    rw [hu] at hc
    cases v <;> simp only at hc <;> first | exact hc.elim | skip
    rename_i b
    exact ⟨[.t b], rfl, trivial, fun ys => ⟨rfl, rfl⟩⟩
  · rename_i fs hu
    split at hs
    · rename_i ts hts
      split at hs
      · rename_i hc
        cases hs
        exact agg ts (by unfold isAggT; rw [hu]) hts hc
      · cases hs
    · cases hs
  · rename_i n e hu
    split at hs
    · rename_i ts hts
      split at hs
      · rename_i hc
        cases hs
        exact agg ts (by unfold isAggT; rw [hu]) hts hc
      · cases hs
    · cases hs
  · cases hs

theorem law_args {P : Program} {W : World} {base : Nat} {σ : Sg} : ∀ {ts : List TypeId} {shs : List Sh} {vs : List Value}, shapesT P ts = some shs → vs.length = ts.length → (∀ (j : Nat) t v, ts[j]? = some t → vs[j]? = some v → Value.okWide P W .any base t v) →
    ∃ xs, xs.map Nu.isN = Sh.kindsL shs ∧ inRange (Sh.leavesL shs) xs ∧ ∀ ys, (Sh.mkL shs (xs ++ ys)).2 = ys ∧ VRels σ (Sh.mkL shs (xs ++ ys)).1 vs
  | [], shs, vs, hs, hl, _ => by
    cases hs
    have : vs = [] := by simpa using hl
    subst this
    exact ⟨[], rfl, trivial, fun ys => ⟨rfl, rfl⟩⟩
  | t :: ts, shs, [], _, hl, _ => by simp at hl
  | t :: ts, shs, v :: vs, hs, hl, h => by
    simp only [shapesT] at hs
    split at hs
    · cases hs
    · rename_i s h1
      split at hs
      · cases hs
      · rename_i l h2
        cases hs
        obtain ⟨x, a1, a2, a3⟩ := law_one (σ := σ) h1 (h 0 t v rfl rfl)
        obtain ⟨xs, b1, b2, b3⟩ := law_args (σ := σ) (ts := ts) (vs := vs) h2 (by simpa using hl) fun j t' v' k1 k2 => h (j + 1) t' v' (by simpa using k1) (by simpa using k2)
        refine ⟨x ++ xs, by simp [Sh.kindsL, a1, b1], inRange_append a2 b2, fun ys => ?_⟩
        obtain ⟨c1, c2⟩ := a3 (xs ++ ys)
        obtain ⟨d1, d2⟩ := b3 ys
        have e : x ++ xs ++ ys = x ++ (xs ++ ys) := List.append_assoc ..
        simp only [Sh.mkL, e]
        rw [show Sh.mk s (x ++ (xs ++ ys)) = ((Sh.mk s (x ++ (xs ++ ys))).1, xs ++ ys) from Prod.ext rfl c1]
        exact ⟨d1, v, vs, rfl, c2, d2⟩

/-- A law's run answers true. -/
def LawTrue (P : Program) (glob : Nat → Option Nat) (hG : Hp) (f : FuncId) (args : List AV) : Prop :=
  ∃ (C : Ctx) (n : Nat) (nd : Nd) (s p : Bool), CtxOk C ∧ C.P = P ∧ C.glob = glob ∧ oneG hG.size hG.clock ((run C n).call f args hG) = some (nd, .bool s p) ∧ nd.val ∧ p = true

theorem law_walk {P : Program} {glob : Nat → Option Nat} {hG : Hp} (old : allOld hG.clock hG.blks = true) {f : FuncId} {ts : List TypeId} {shs : List Sh} (hs : shapesT P ts = some shs)
    (hT : ∀ xs, xs.map Nu.isN = Sh.kindsL shs → inRange (Sh.leavesL shs) xs → LawTrue P glob hG f (Sh.mkL shs xs).1) {W : World} {base : Nat} {σ : Sg} {A : Array Value} (g : ∀ gl i, glob gl = some i → ∃ N, σ i = some (gl, N)) (r : HRel σ hG W) (hl : A.toList.length = ts.length)
    (hv : ∀ (j : Nat) t v, ts[j]? = some t → A.toList[j]? = some v → Value.okWide P W .any base t v) :
    Calls P f A W fun e w' => e = .returned (.bool true) ∧ RowKit.Grown W w' ∧ ∀ B, B < W.heap.size → w'.heap[B]? = W.heap[B]? := by
  obtain ⟨xs, h1, h2, h3⟩ := law_args (σ := σ) hs hl hv
  obtain ⟨_, h4⟩ := h3 []
  rw [List.append_nil] at h4
  obtain ⟨C, n, nd, s, p, co, rfl, rfl, h5, h6, h7⟩ := hT xs h1 h2
  exact law_calls co old h5 h6 h7 g r h4

theorem same_at {W W' : World} (h : ∀ B, B < W.heap.size → W'.heap[B]? = W.heap[B]?) {p : MemPlace} (hp : p.block < W.heap.size) : W.sameAt W' p := by
  cases p with
  | cell b off =>
    show W'.cell? _ = W.cell? _
    unfold World.cell?
    rw [h b hp]
  | map b => exact h b hp

theorem trodAll_stays {H : Type} {enc : TypeId × Value → H} {P : Program} {base : Nat} (hl : laidOutB P = true) : ∀ {ts : List TypeId} {vs : List Value} {ds : List (DataW H)} {ps : List MemPlace} {W W' : World} {sp : Nat → Bool}, (ts.all fun t => P.readableRec t && decide (t < P.types.size)) = true →
    DataW.TrodAll enc P W base (fun _ => true) true ts vs ds ps → (∀ p ∈ ps, W.sameAt W' p) → (∀ p ∈ ps, sp p.block = true) → DataW.TrodAll enc P W' base sp true ts vs ds ps
  | [], [], [], _, _, _, _, _, h, _, _ => h
  | [], _ :: _, _, _, _, _, _, _, h, _, _ => by simp [DataW.TrodAll] at h
  | [], [], _ :: _, _, _, _, _, _, h, _, _ => by simp [DataW.TrodAll] at h
  | _ :: _, [], _, _, _, _, _, _, h, _, _ => by simp [DataW.TrodAll] at h
  | _ :: _, _ :: _, [], _, _, _, _, _, h, _, _ => by simp [DataW.TrodAll] at h
  | t :: ts, v :: vs, d :: ds, ps, W, W', sp, hr, h, h1, h2 => by
    obtain ⟨p, p', a, b, rfl⟩ := h
    simp only [List.all_cons, Bool.and_eq_true, decide_eq_true_eq] at hr
    exact ⟨p, p', Go.WideElems.Trod_stays hl hr.1.1 hr.1.2 a (fun x hx => h1 x (by simp [hx])) (fun x hx => h2 x (by simp [hx])), trodAll_stays hl hr.2 b (fun x hx => h1 x (by simp [hx])) (fun x hx => h2 x (by simp [hx])), rfl⟩

theorem trod_lens {H : Type} {enc : TypeId × Value → H} {P : Program} {W : World} {base : Nat} {sp : Nat → Bool} {hd : Bool} : ∀ {ts : List TypeId} {vs : List Value} {ds : List (DataW H)} {ps : List MemPlace}, DataW.TrodAll enc P W base sp hd ts vs ds ps → vs.length = ts.length ∧ ds.length = ts.length
  | [], [], [], _, _ => ⟨rfl, rfl⟩
  | [], _ :: _, _, _, h => by simp [DataW.TrodAll] at h
  | [], [], _ :: _, _, h => by simp [DataW.TrodAll] at h
  | _ :: _, [], _, _, h => by simp [DataW.TrodAll] at h
  | _ :: _, _ :: _, [], _, h => by simp [DataW.TrodAll] at h
  | t :: ts, v :: vs, d :: ds, ps, h => by
    obtain ⟨p, p', a, b, rfl⟩ := h
    obtain ⟨h1, h2⟩ := trod_lens b
    simp [h1, h2]

end Go.Eng

/- Laws whose first argument ends with a list of bytes that is only read: its first bytes lie in a block of their own. -/
namespace Go.Eng
open Go

/-- A block that was there before. -/
def Hp.push0 (h : Hp) (b : ABody) : Hp := ⟨⟨0, b⟩ :: h.blks, h.size + 1, h.clock⟩
theorem Hp.get_push0 {h : Hp} (b : ABody) (j : Nat) : (h.push0 b).get j = if j = h.size then some ⟨0, b⟩ else h.get j := by
  rw [Hp.get_eq, Hp.get_eq]
  simp only [Hp.push0]
  by_cases e : j = h.size
  · subst e; simp
  · by_cases hj : j < h.size
    · have : j < h.size + 1 := by omega
      simp only [this, if_true, e, if_false, hj]
      rw [show h.size + 1 - 1 - j = (h.size - 1 - j) + 1 by omega]
      simp
    · have : ¬ j < h.size + 1 := by omega
      simp [this, e, hj]

/-- A block that holds no number of a kind (or is only read). -/
def noK (k : IntKind) : ABody → Bool
  | .cells l => l.all fun v => match v with
    | .int _ k' _ => !(k' == k)
    | .map _ => true
    | _ => false
  | .view _ => true
  | .map _ => true
  | _ => false

theorem add_view {σ : Sg} {h : Hp} {W : World} (r : HRel σ h W) {k : IntKind} (hb : (h.blks.all fun b => noK k b.body) = true) {B N : Nat} {fs : List Int} (hne : fs ≠ []) (hc : ∀ i, i < fs.length → W.cell? ⟨B, N + i, none⟩ = some (.int k (fs.getD i 0))) :
    HRel (σ.add h.size (B, N)) (h.push0 (.view (fs.map fun n => .int true k n))) W := by
  have hpos : 0 < fs.length := List.length_pos_iff.2 hne
  have row : ∃ K e fr, W.heap[B]? = some (.cells K e fr) ∧ ∀ i, i < fs.length → K[N + i]? = some (.int k (fs.getD i 0)) := by
    have h0 := hc 0 hpos
    unfold World.cell? at h0
    split at h0
    · rename_i K e fr hh
      refine ⟨K, e, fr, hh, fun i hi => ?_⟩
      have := hc i hi
      unfold World.cell? at this
      rw [hh] at this
      simpa using this
    · cases h0
  obtain ⟨K, e, fr, hB, hK⟩ := row
  have hs := Sub.add (x := (B, N)) r.fresh
  have main : BRel (σ.add h.size (B, N)) N (.view (fs.map fun n => .int true k n)) (.cells K e fr) := by
    refine ⟨K, e, fr, rfl, ?_⟩
    have : (K.toList.drop N).take (fs.map fun n => AV.int true k n).length = fs.map (Value.int k) := by
      apply List.ext_getElem?
      intro i
      rw [List.getElem?_take, List.length_map]
      by_cases hi : i < fs.length
      · rw [if_pos hi, List.getElem?_drop, Array.getElem?_toList, hK i hi]
        simp [List.getD_eq_getElem?_getD, hi]
      · rw [if_neg hi, List.getElem?_eq_none (by simpa using hi)]
    rw [this]
    have rels : ∀ l : List Int, VRels (σ.add h.size (B, N)) (l.map fun n => .int true k n) (l.map (Value.int k)) := by
      intro l
      induction l with
      | nil => exact rfl
      | cons a l ih => exact ⟨_, _, rfl, rfl, ih⟩
    exact rels fs
  -- no other block lies there
  have apart : ∀ i b M, h.get i = some b → b.body.isDead = false → σ i = some (B, M) → b.body.isView = true := by
    intro i b M hg hd hσ
    obtain ⟨B', M', o, h1, h2, h3⟩ := r.blk i b hg hd
    rw [hσ] at h1; cases h1
    rw [hB] at h2; cases h2
    have hbb := List.all_eq_true.1 hb b (by
      have hlt := Hp.get_lt hg
      rw [Hp.get_eq, if_pos hlt] at hg
      exact List.mem_of_getElem? hg)
    cases hbody : b.body with
    | cells l =>
      rw [hbody] at h3 hbb
      obtain ⟨K', e', h4, h5, h6⟩ := h3
      cases h4
      have h0 := hK 0 hpos
      have hlen : l.length = K.size := by have := VRels.length h5; simpa using this.symm
      have hN : N + 0 < K.size := (Array.getElem?_eq_some_iff.1 h0).1
      obtain ⟨a, ha⟩ : ∃ a, l[N + 0]? = some a := ⟨_, List.getElem?_eq_getElem (by omega)⟩
      obtain ⟨v, hv, hav⟩ := VRels.nth h5 (by rw [nth_eq]; exact ha)
      rw [Array.getElem?_toList, h0] at hv
      cases hv
      have := List.all_eq_true.1 hbb a (List.mem_of_getElem? ha)
      split at this
      · rename_i s' k' n'
        have h8 : Value.int k (fs.getD 0 0) = Value.int k' n' := hav
        cases h8
        simp at this
      · obtain ⟨_, _, _, h8⟩ := hav; cases h8
      · cases this
    | view l => rfl
    | map es =>
      rw [hbody] at h3
      obtain ⟨_, _, _, h4, _⟩ := h3
      cases h4
    | _ => rw [hbody] at hbb; cases hbb
  have dom := r.dom
  refine ⟨by have := r.ok; simp only [Hp.ok, Hp.push0, List.length_cons] at this ⊢; omega, fun i b hg hd => ?_, fun i B' M hσ => ?_, fun i j b c B' M M' hg hg' hd hd' e1 e2 => ?_⟩
  · rw [Hp.get_push0] at hg
    split at hg
    · rename_i hi; subst hi; cases hg
      exact ⟨B, N, _, add_here, hB, main⟩
    · obtain ⟨B', M, o, h1, h2, h3⟩ := r.blk i b hg hd
      exact ⟨B', M, o, hs _ _ h1, h2, h3.mono hs⟩
  · unfold Sg.add at hσ
    split at hσ
    · rename_i hi; subst hi; cases hσ
      exact ⟨Nat.lt_succ_self _, (Array.getElem?_eq_some_iff.1 hB).1⟩
    · have := dom i B' M hσ
      exact ⟨Nat.lt_succ_of_lt this.1, this.2⟩
  · rw [Hp.get_push0] at hg hg'
    unfold Sg.add at e1 e2
    by_cases hi : i = h.size <;> by_cases hj : j = h.size
    · exact .inl (hi.trans hj.symm)
    · right
      rw [if_pos hi] at e1 hg
      rw [if_neg hj] at e2 hg'
      cases e1; cases hg
      exact ⟨rfl, apart j c M' hg' hd' e2⟩
    · right
      rw [if_neg hi] at e1 hg
      rw [if_pos hj] at e2 hg'
      cases e2; cases hg'
      exact ⟨apart i b M hg hd e1, rfl⟩
    · rw [if_neg hi] at e1 hg
      rw [if_neg hj] at e2 hg'
      exact r.inj i j b c B' M M' hg hg' hd hd' e1 e2

/-! ### The list's first bytes -/

def filmH (h : Hp) : List Int → Hp
  | [] => h
  | f :: fs => h.push0 (.view ((f :: fs).map fun n => .int true .u8 n))
def filmV (h : Hp) (fs : List Int) (n : Int) : AV := .pslice (match fs with | [] => 0 | _ => h.size) fs.length true n

/-- What is known of a list of bytes. -/
structure Bytes (W : World) (v : Value) (n : Int) (zs : List Int) : Prop where
  val : ∃ p c, v = .slice p zs.length c ∧ (zs ≠ [] → ∃ B N, p = some ⟨B, N, none⟩ ∧ ∀ i, i < zs.length → W.cell? ⟨B, N + i, none⟩ = some (.int .u8 (zs.getD i 0)))
  len : n = zs.length
  rng : ∀ z ∈ zs, 0 ≤ z ∧ z ≤ 255

theorem bytes_of {H : Type} {enc : TypeId × Value → H} {P : Program} {w : World} {base : Nat} {spare : Nat → Bool} {held : Bool} {fuel t e : Nat} {v : Value} {x : DataW H × List MemPlace} (ht : P.underlying t = some (.slice e)) (he : P.underlying e = some (.int .u8)) (hc : P.cellsOf e = 1)
    (h : DataW.trod enc P w base spare held fuel t [v] = some x) : ∃ n zs, Bytes w v n zs := by
  rcases ChangeShapes.open_ints (k := .u8) ht he hc h with ⟨h1, _⟩ | ⟨a, len, cap, zs, h1, _, hle, _, hlen, _, hcell, hwf⟩
  · cases h1
    exact ⟨0, [], ⟨none, 0, rfl, fun h => absurd rfl h⟩, rfl, fun _ h => by cases h⟩
  · cases h1
    have hll : len ≤ zs.length := by rw [hlen]; split <;> omega
    have hl : (zs.take len).length = len := by simp; omega
    refine ⟨len, zs.take len, ⟨some a, cap, by rw [hl], fun hne => ?_⟩, by rw [hl], fun z hz => ?_⟩
    · have hpos : 0 < len := by
        rw [← hl]; exact List.length_pos_iff.2 hne
      obtain ⟨B, N, spot⟩ := a
      have c0 := hcell 0 (by omega)
      have hs : spot = none := by
        simp only [Addr.add, if_true, World.cell?] at c0
        split at c0
        · cases spot with
          | none => rfl
          | some s => simp at c0
        · cases c0
      subst hs
      refine ⟨B, N, rfl, fun i hi => ?_⟩
      have := hcell i (by omega)
      have e1 : (zs.take len).getD i 0 = zs.getD i 0 := by
        simp only [List.getD_eq_getElem?_getD, List.getElem?_take]
        rw [if_pos (by omega)]
      rw [e1]
      simp only [Addr.add] at this
      split at this
      · rename_i h0; subst h0; exact this
      · exact this
    · have := hwf z (List.mem_of_mem_take hz)
      simp [Lit.wf, IntKind.min, IntKind.max, IntKind.signed, IntKind.bits] at this
      omega

theorem film_rel {σ : Sg} {h : Hp} {W : World} (r : HRel σ h W) (hb : (h.blks.all fun b => noK .u8 b.body) = true) {v : Value} {n : Int} {zs : List Int} (b : Bytes W v n zs) (m : Nat) (hm : m ≤ zs.length) :
    ∃ τ, Sub σ τ ∧ HRel τ (filmH h (zs.take m)) W ∧ VRel τ (filmV h (zs.take m) n) v := by
  obtain ⟨⟨p, c, rfl, hp⟩, hn, _⟩ := b
  have hlen : (zs.take m).length = m := by simp; omega
  cases hz : zs.take m with
  | nil =>
    refine ⟨σ, Sub.refl _, r, p, zs.length, c, rfl, hn.symm, Nat.zero_le _, .inl rfl⟩
  | cons f fs =>
    have hne : zs ≠ [] := by rintro rfl; simp at hz
    obtain ⟨B, N, rfl, hc⟩ := hp hne
    have hm2 : (f :: fs).length = m := by rw [← hz, hlen]
    refine ⟨_, Sub.add r.fresh, add_view r hb (B := B) (N := N) (k := .u8) (fs := f :: fs) (by simp) (fun i hi => ?_), some ⟨B, N, none⟩, zs.length, c, rfl, hn.symm, by rw [hm2]; exact hm, .inr ⟨B, N, add_here, rfl⟩⟩
    have h1 := hc i (by omega)
    rw [h1, ← hz]
    simp only [List.getD_eq_getElem?_getD, List.getElem?_take]
    rw [if_pos (by omega)]

/-- The last value changed. -/
theorem rels_last {σ : Sg} {a b : AV} : ∀ {l : List AV} {L : List Value} {v : Value}, VRels σ (l ++ [a]) (L ++ [v]) → VRel σ b v → VRels σ (l ++ [b]) (L ++ [v])
  | [], [], v, h, hb => ⟨v, [], rfl, hb, rfl⟩
  | [], x :: L, v, h, _ => by
    have := VRels.length h
    simp at this
  | a' :: l, [], v, h, _ => by
    have := VRels.length h
    simp at this
  | a' :: l, x :: L, v, h, hb => by
    obtain ⟨u, us, e, h1, h2⟩ := h
    cases e
    exact ⟨x, L ++ [v], rfl, h1, rels_last h2 hb⟩

/-- A law's run answers true, over a heap. -/
def LawTrueH (P : Program) (glob : Nat → Option Nat) (h : Hp) (f : FuncId) (args : List AV) : Prop :=
  ∃ (C : Ctx) (n : Nat) (nd : Nd) (s p : Bool), CtxOk C ∧ C.P = P ∧ C.glob = glob ∧ oneG h.size h.clock ((run C n).call f args h) = some (nd, .bool s p) ∧ nd.val ∧ p = true

/-- The first argument: a struct that ends with a list of bytes. -/
theorem law_walkD {P : Program} {glob : Nat → Option Nat} {hG : Hp} (hb : (hG.blks.all fun b => noK .u8 b.body) = true) (old : allOld hG.clock hG.blks = true) (h1 : 0 < hG.clock) {f : FuncId} {t : TypeId} {ts : List TypeId} {sh : List Sh} {shs : List Sh} (hs : shapesT P (t :: ts) = some (.a (sh ++ [.c (.any true)]) :: shs))
    (hT : ∀ xs ys, xs.map Nu.isN = Sh.kindsL sh → inRange (Sh.leavesL sh) xs → ys.map Nu.isN = Sh.kindsL shs → inRange (Sh.leavesL shs) ys → ∀ (n : Int) (zs : List Int), n = zs.length → (∀ z ∈ zs, 0 ≤ z ∧ z ≤ 255) → ∃ m, m ≤ zs.length ∧ LawTrueH P glob (filmH hG (zs.take m)) f (.agg ((Sh.mkL sh xs).1 ++ [filmV hG (zs.take m) n]) :: (Sh.mkL shs ys).1))
    {W : World} {base : Nat} {σ : Sg} {A : Array Value} (g : ∀ gl i, glob gl = some i → ∃ N, σ i = some (gl, N)) (r : HRel σ hG W) {v : Value} {vs : List Value} (hA : A.toList = v :: vs) (hl : vs.length = ts.length) {cs : List Value} {last : Value} (hv : v = .agg (cs ++ [last]).toArray) (hlast : ∃ n zs, Bytes W last n zs)
    (hok : ∀ (j : Nat) t' v, (t :: ts)[j]? = some t' → A.toList[j]? = some v → Value.okWide P W .any base t' v) :
    Calls P f A W fun e w' => e = .returned (.bool true) ∧ RowKit.Grown W w' ∧ ∀ B, B < W.heap.size → w'.heap[B]? = W.heap[B]? := by
  obtain ⟨n, zs, bz⟩ := hlast
  have hs' := hs
  simp only [shapesT] at hs
  split at hs
  · cases hs
  · rename_i s h2
    split at hs
    · cases hs
    · rename_i l h3
      cases hs
      obtain ⟨ys, b1, b2, b3⟩ := law_args (P := P) (W := W) (base := base) (σ := σ) (ts := ts) (vs := vs) h3 hl fun j t' v' k1 k2 => hok (j + 1) t' v' (by simpa using k1) (by rw [hA]; simpa using k2)
      obtain ⟨xs, a1, a2, a3⟩ := law_one (σ := σ) h2 (hok 0 t v rfl (by rw [hA]; rfl))
      obtain ⟨_, a4⟩ := a3 []
      rw [List.append_nil] at a4
      obtain ⟨_, b4⟩ := b3 []
      rw [List.append_nil] at b4
      -- the shape's last part reads no number
      have kl : ∀ l m : List Sh, Sh.kindsL (l ++ m) = Sh.kindsL l ++ Sh.kindsL m := by
        intro l m
        induction l with
        | nil => rfl
        | cons a l ih => simp [Sh.kindsL, ih]
      have ll : ∀ l m : List Sh, Sh.leavesL (l ++ m) = Sh.leavesL l ++ Sh.leavesL m := by
        intro l m
        induction l with
        | nil => rfl
        | cons a l ih => simp [Sh.leavesL, ih]
      have a1' : xs.map Nu.isN = Sh.kindsL sh := by
        have : xs.map Nu.isN = Sh.kindsL (sh ++ [.c (.any true)]) := a1
        rw [kl] at this; simpa [Sh.kindsL, Sh.kinds] using this
      have drop_any : ∀ (l : List Sh) (zs : List Nu), inRange (l ++ [.c (.any true)]) zs → inRange l zs := by
        intro l
        induction l with
        | nil => intro zs h; cases zs with
          | nil => trivial
          | cons z zs => simp [inRange] at h
        | cons a l ih => intro zs h; cases a with
          | i k => cases zs with
            | nil => simp [inRange] at h
            | cons z zs => cases z with
              | n x => exact ⟨h.1, ih zs h.2⟩
              | t b => simp [inRange] at h
              | s b => simp [inRange] at h
          | b => cases zs with
            | nil => simp [inRange] at h
            | cons z zs => cases z with
              | n x => simp [inRange] at h
              | t b => exact ih zs h
              | s b => simp [inRange] at h
          | str => cases zs with
            | nil => simp [inRange] at h
            | cons z zs => cases z with
              | n x => simp [inRange] at h
              | t b => simp [inRange] at h
              | s b => exact ih zs h
          | one => cases zs <;> simp [inRange] at h
          | c w =>
            have h' : inRange (l ++ [.c (.any true)]) zs := by cases zs <;> simpa [inRange] using h
            have := ih zs h'
            cases zs <;> simpa [inRange] using this
          | a m => cases zs <;> simp [inRange] at h
      have a2' : inRange (Sh.leavesL sh) xs := by
        have : inRange (Sh.leavesL (sh ++ [.c (.any true)])) xs := a2
        rw [ll] at this
        exact drop_any _ _ this
      obtain ⟨m, hm, C, fuel, nd, s, p, co, rfl, rfl, e1, e2, e3⟩ := hT xs ys a1' a2' b1 b2 n zs bz.len bz.rng
      obtain ⟨τ, sub, hr, hfv⟩ := film_rel r hb bz m hm
      have mk_app : ∀ (l : List Sh) (xs : List Nu), (Sh.mkL (l ++ [.c (.any true)]) xs).1 = (Sh.mkL l xs).1 ++ [.any true] := by
        intro l
        induction l with
        | nil => intro xs; rfl
        | cons a l ih => intro xs; simp only [List.cons_append, Sh.mkL, ih]
      have hvr : VRel τ (.agg ((Sh.mkL sh xs).1 ++ [filmV hG (zs.take m) n])) v := by
        subst hv
        obtain ⟨K, hK, h5⟩ := a4
        have h6 := VRels.mono sub _ _ h5
        rw [mk_app] at h6
        cases hK
        refine ⟨_, rfl, ?_⟩
        rw [List.toList_toArray] at h6 ⊢
        exact rels_last h6 hfv
      have old' : allOld (filmH hG (zs.take m)).clock (filmH hG (zs.take m)).blks = true := by
        cases zs.take m with
        | nil => exact old
        | cons z zs =>
          show (Nat.blt 0 hG.clock && allOld hG.clock hG.blks) = true
          rw [old, Bool.and_true]
          exact Nat.ble_eq_true_of_le h1
      exact law_calls co old' e1 e2 e3 (fun gl i hi => by obtain ⟨N, hN⟩ := g gl i hi; exact ⟨N, sub _ _ hN⟩) hr (by rw [hA]; exact ⟨v, vs, rfl, hvr, VRels.mono sub _ _ b4⟩)

end Go.Eng

/- An argument that is a struct whose last cell is a list of bytes. -/
namespace Go.Eng
open Go

theorem agg_of_cells {v : Value} (h : 1 < v.cells.toList.length) : v = .agg v.cells.toList.toArray := by
  cases v <;> simp_all [Value.cells]

theorem draft_films {H : Type} {enc : TypeId × Value → H} {P : Program} {W : World} {base : Nat} {spare : Nat → Bool} {held : Bool} {t e i : Nat} {fs : Array Field} {f : Field} (ht : P.underlying t = some (.struct fs)) (hf : fs[i]? = some f) (hs : P.underlying f.type = some (.slice e)) (he : P.underlying e = some (.int .u8)) (off : f.offset + 1 = P.cellsOf t) (many : 0 < f.offset) (ce : P.cellsOf e = 1) (cf : P.cellsOf f.type = 1)
    {ts : List TypeId} {v : Value} {vs : List Value} {ds : List (DataW H)} {p : List MemPlace} (hA : DataW.TrodAll enc P W base spare held (t :: ts) (v :: vs) ds p) : ∃ cs last, v = .agg (cs ++ [last]).toArray ∧ ∃ n zs, Bytes W last n zs := by
  cases ds with
  | nil => simp [DataW.TrodAll] at hA
  | cons d ds =>
    obtain ⟨_, _, ⟨fuel, h⟩, _, _⟩ := hA
    obtain ⟨xs, n, _, _, hl, hxl, hff⟩ := DataW.trod_struct ht h
    have h1 := hff i f hf
    have hi : i < fs.size := (Array.getElem?_eq_some_iff.1 hf).1
    rw [List.getElem?_eq_getElem (by omega), cf] at h1
    have hlen : ((v.cells.toList.drop f.offset).take 1).length = 1 := by simp only [List.length_take, List.length_drop]; omega
    obtain ⟨last, hlast⟩ : ∃ last, (v.cells.toList.drop f.offset).take 1 = [last] := by
      match hq : (v.cells.toList.drop f.offset).take 1, hlen with
      | [a], _ => exact ⟨a, rfl⟩
    rw [hlast] at h1
    refine ⟨v.cells.toList.take f.offset, last, ?_, bytes_of hs he ce h1⟩
    have h2 : v.cells.toList.take f.offset ++ [last] = v.cells.toList := by
      rw [← hlast, List.take_of_length_le (l := v.cells.toList.drop f.offset) (by simp only [List.length_drop]; omega), List.take_append_drop]
    rw [h2]
    exact agg_of_cells (by omega)
end Go.Eng

/- The plain law of a division of 128 by 64 bits, in two steps of 32 bits. No program. -/
namespace Go.Eng

def lc (q r y0 u : Int) : Bool := bif decide (q ≥ 4294967296) then true else decide (IntKind.u64.wrap (q * y0) > IntKind.u64.wrap (IntKind.u64.wrap (4294967296 * r) + u))

def lq (q r y1 y0 u : Int) : Int :=
  bif (lc q r y0 u && decide (IntKind.u64.wrap (r + y1) ≥ 4294967296)) || !lc q r y0 u then
    bif lc q r y0 u && decide (IntKind.u64.wrap (r + y1) ≥ 4294967296) then IntKind.u64.wrap (q - 1) else q
  else
    bif (lc (IntKind.u64.wrap (q - 1)) (IntKind.u64.wrap (r + y1)) y0 u && decide (IntKind.u64.wrap (IntKind.u64.wrap (r + y1) + y1) ≥ 4294967296)) || !lc (IntKind.u64.wrap (q - 1)) (IntKind.u64.wrap (r + y1)) y0 u then
      bif lc (IntKind.u64.wrap (q - 1)) (IntKind.u64.wrap (r + y1)) y0 u && decide (IntKind.u64.wrap (IntKind.u64.wrap (r + y1) + y1) ≥ 4294967296) then IntKind.u64.wrap (IntKind.u64.wrap (q - 1) - 1) else IntKind.u64.wrap (q - 1)
    else
      bif lc (IntKind.u64.wrap (IntKind.u64.wrap (q - 1) - 1)) (IntKind.u64.wrap (IntKind.u64.wrap (r + y1) + y1)) y0 u && decide (IntKind.u64.wrap (IntKind.u64.wrap (IntKind.u64.wrap (r + y1) + y1) + y1) ≥ 4294967296) then
        IntKind.u64.wrap (IntKind.u64.wrap (IntKind.u64.wrap (q - 1) - 1) - 1)
      else IntKind.u64.wrap (IntKind.u64.wrap (q - 1) - 1)

def lneed (q r y1 y0 u : Int) : Prop :=
  (lc q r y0 u && !decide (IntKind.u64.wrap (r + y1) ≥ 4294967296)) = true →
    (lc (IntKind.u64.wrap (q - 1)) (IntKind.u64.wrap (r + y1)) y0 u && !decide (IntKind.u64.wrap (IntKind.u64.wrap (r + y1) + y1) ≥ 4294967296)) = true →
      (lc (IntKind.u64.wrap (IntKind.u64.wrap (q - 1) - 1)) (IntKind.u64.wrap (IntKind.u64.wrap (r + y1) + y1)) y0 u && !decide (IntKind.u64.wrap (IntKind.u64.wrap (IntKind.u64.wrap (r + y1) + y1) + y1) ≥ 4294967296)) = true → False

theorem wrapU {n : Int} (h0 : 0 ≤ n) (h1 : n < 18446744073709551616) : IntKind.u64.wrap n = n := by rw [IntKind.wrap_u64]; omega

section step
variable {u Y y1 y0 d Q : Int}

/-- A pair that stands for u: its test tells whether q is too great. -/
theorem over_iff (hY : 9223372036854775808 ≤ Y) (e : Y = y1 * 4294967296 + y0) (hQ1 : Q * Y ≤ u * 4294967296 + d) (hQ2 : u * 4294967296 + d < (Q + 1) * Y) {q r : Int} (hu : u = q * y1 + r) :
    q * y0 > r * 4294967296 + d ↔ q > Q := by
  have h1 : q * Y = q * y1 * 4294967296 + q * y0 := by rw [e, Int.mul_add, Int.mul_assoc]
  constructor
  · intro h
    rcases Int.lt_or_le Q q with h2 | h2
    · exact h2
    · have := Int.mul_le_mul_of_nonneg_right h2 (show 0 ≤ Y by omega)
      omega
  · intro h
    have := Int.mul_le_mul_of_nonneg_right (show Q + 1 ≤ q by omega) (show 0 ≤ Y by omega)
    omega

theorem lc_iff (hY : 9223372036854775808 ≤ Y) (e : Y = y1 * 4294967296 + y0) (h0 : 0 ≤ y0) (h0' : y0 < 4294967296) (hd : 0 ≤ d) (hd' : d < 4294967296) (hQ : Q < 4294967296) (hQ1 : Q * Y ≤ u * 4294967296 + d) (hQ2 : u * 4294967296 + d < (Q + 1) * Y)
    {q r : Int} (hu : u = q * y1 + r) (hq : 0 ≤ q) (hr : 0 ≤ r) (hr' : r < 4294967296) : lc q r y0 d = decide (q > Q) := by
  unfold lc
  by_cases h : q ≥ 4294967296
  · simp only [h, decide_true, cond_true]
    symm; simp; omega
  · simp only [h, decide_false, cond_false]
    have h1 : q * y0 ≤ 4294967295 * y0 := Int.mul_le_mul_of_nonneg_right (by omega) h0
    have h2 : 0 ≤ q * y0 := Int.mul_nonneg hq h0
    rw [wrapU h2 (by omega), wrapU (n := 4294967296 * r) (by omega) (by omega), wrapU (by omega) (by omega)]
    have := over_iff hY e hQ1 hQ2 hu
    congr 1
    apply propext
    rw [← this]
    omega

theorem lq_spec (hY : 9223372036854775808 ≤ Y) (hY' : Y < 18446744073709551616) (e : Y = y1 * 4294967296 + y0) (h0 : 0 ≤ y0) (h0' : y0 < 4294967296) (hu : 0 ≤ u) (hu' : u < Y) (hd : 0 ≤ d) (hd' : d < 4294967296) :
    lq (u / y1) (u % y1) y1 y0 d = (u * 4294967296 + d) / Y ∧ lneed (u / y1) (u % y1) y1 y0 d := by
  have hy1 : 2147483648 ≤ y1 := by omega
  have hy1' : y1 < 4294967296 := by omega
  generalize hQ : (u * 4294967296 + d) / Y = Q
  have hdm := Int.mul_ediv_add_emod (u * 4294967296 + d) Y
  rw [hQ] at hdm
  have hm0 := Int.emod_nonneg (u * 4294967296 + d) (show Y ≠ 0 by omega)
  have hm1 := Int.emod_lt_of_pos (u * 4294967296 + d) (show 0 < Y by omega)
  have hc : Y * Q = Q * Y := Int.mul_comm _ _
  have hQ1 : Q * Y ≤ u * 4294967296 + d := by omega
  have hQ2 : u * 4294967296 + d < (Q + 1) * Y := by rw [Int.add_mul]; omega
  have hQ0 : 0 ≤ Q := by rw [← hQ]; exact Int.ediv_nonneg (by omega) (by omega)
  have hQlt : Q < 4294967296 := by
    rcases Int.lt_or_le Q 4294967296 with h | h
    · exact h
    · have := Int.mul_le_mul_of_nonneg_right h (show 0 ≤ Y by omega)
      omega
  -- the first guess
  have hqr := Int.mul_ediv_add_emod u y1
  have hr0 := Int.emod_nonneg u (show y1 ≠ 0 by omega)
  have hr1 := Int.emod_lt_of_pos u (show 0 < y1 by omega)
  generalize hq : u / y1 = q at *
  generalize hr : u % y1 = r at *
  have hq0 : 0 ≤ q := by rw [← hq]; exact Int.ediv_nonneg hu (by omega)
  have hc1 : y1 * q = q * y1 := Int.mul_comm _ _
  have hu1 : u = q * y1 + r := by omega
  have hqle : q ≤ 4294967297 := by
    rcases Int.lt_or_le 4294967297 q with h | h
    · have := Int.mul_le_mul_of_nonneg_right (show 4294967298 ≤ q by omega) (show 0 ≤ y1 by omega)
      omega
    · exact h
  have hge : Q ≤ q := by
    rcases Int.lt_or_le q Q with h | h
    · have h1 := Int.mul_le_mul_of_nonneg_right (show q + 1 ≤ Q by omega) (show 0 ≤ Y by omega)
      have h2 : (q + 1) * Y = q * y1 * 4294967296 + y1 * 4294967296 + (q + 1) * y0 := by rw [e, Int.mul_add, Int.add_mul, ← Int.mul_assoc, Int.add_mul, Int.one_mul, Int.one_mul]
      have h3 : 0 ≤ (q + 1) * y0 := Int.mul_nonneg (by omega) h0
      omega
    · exact h
  have hle : q ≤ Q + 2 := by
    rcases Int.lt_or_le (Q + 2) q with h | h
    · have h1 := Int.mul_le_mul_of_nonneg_right (show Q + 1 ≤ q - 2 by omega) (show 0 ≤ Y by omega)
      have h2 : (q - 2) * Y = q * y1 * 4294967296 - 2 * y1 * 4294967296 + (q - 2) * y0 := by rw [e, Int.mul_add, Int.sub_mul, ← Int.mul_assoc, Int.sub_mul, Int.mul_assoc 2]
      have h3 : (q - 2) * y0 ≤ 4294967295 * y0 := Int.mul_le_mul_of_nonneg_right (by omega) h0
      omega
    · exact h
  have C1 : lc q r y0 d = decide (q > Q) := lc_iff hY e h0 h0' hd hd' hQlt hQ1 hQ2 hu1 hq0 hr0 (by omega)
  have w1 : IntKind.u64.wrap (r + y1) = r + y1 := wrapU (by omega) (by omega)
  by_cases g1 : q > Q
  · have v1 : IntKind.u64.wrap (q - 1) = q - 1 := wrapU (by omega) (by omega)
    have hu2 : u = (q - 1) * y1 + (r + y1) := by rw [Int.sub_mul]; omega
    by_cases b1 : r + y1 ≥ 4294967296
    · -- the second guess must be right
      have hq1 : q - 1 = Q := by
        have := over_iff hY e hQ1 hQ2 hu2
        have h3 : (q - 1) * y0 ≤ 4294967296 * y0 := Int.mul_le_mul_of_nonneg_right (by omega) h0
        rcases Int.lt_or_le Q (q - 1) with h | h
        · have := this.2 h
          omega
        · omega
      refine ⟨?_, ?_⟩
      · simp only [lq, C1, w1, v1, g1, b1, decide_true, Bool.and_self, Bool.true_or, cond_true]
        exact hq1
      · intro h
        simp [C1, w1, b1] at h
    · have C2 : lc (q - 1) (r + y1) y0 d = decide (q - 1 > Q) := lc_iff hY e h0 h0' hd hd' hQlt hQ1 hQ2 hu2 (by omega) (by omega) (by omega)
      by_cases g2 : q - 1 > Q
      · have v2 : IntKind.u64.wrap (q - 1 - 1) = q - 1 - 1 := wrapU (by omega) (by omega)
        have w2 : IntKind.u64.wrap (r + y1 + y1) = r + y1 + y1 := wrapU (by omega) (by omega)
        have hq2 : q - 1 - 1 = Q := by omega
        by_cases b2 : r + y1 + y1 ≥ 4294967296
        · refine ⟨?_, ?_⟩
          · simp only [lq, C1, w1, v1, g1, b1, C2, g2, v2, w2, b2, decide_true, decide_false, Bool.and_self, Bool.and_false, Bool.not_true, Bool.or_self, Bool.true_or, Bool.or_false, cond_true, cond_false]
            exact hq2
          · intro _ h
            simp [C2, w1, v1, w2, b2] at h
        · have hu3 : u = (q - 1 - 1) * y1 + (r + y1 + y1) := by rw [Int.sub_mul]; omega
          have C3 : lc (q - 1 - 1) (r + y1 + y1) y0 d = decide (q - 1 - 1 > Q) := lc_iff hY e h0 h0' hd hd' hQlt hQ1 hQ2 hu3 (by omega) (by omega) (by omega)
          have g3 : ¬ q - 1 - 1 > Q := by omega
          refine ⟨?_, ?_⟩
          · simp only [lq, C1, w1, v1, g1, b1, C2, g2, v2, w2, b2, C3, g3, decide_true, decide_false, Bool.and_self, Bool.and_false, Bool.false_and, Bool.not_true, Bool.or_self, Bool.true_or, Bool.or_false, cond_true, cond_false]
            exact hq2
          · intro _ _ h
            simp [v1, w1, v2, w2, C3, g3] at h
      · refine ⟨?_, ?_⟩
        · simp only [lq, C1, w1, v1, g1, b1, C2, g2, decide_true, decide_false, Bool.and_self, Bool.and_false, Bool.false_and, Bool.not_true, Bool.not_false, Bool.or_self, Bool.true_or, Bool.or_true, Bool.or_false, cond_true, cond_false]
          omega
        · intro _ h
          simp [v1, w1, C2, g2] at h
  · refine ⟨?_, ?_⟩
    · simp only [lq, C1, g1, decide_false, Bool.false_and, Bool.not_false, Bool.or_true, cond_true, cond_false]
      omega
    · intro h
      simp [C1, g1] at h

end step

end Go.Eng

/- What the Go text of Div64 reckons. No program. -/
namespace Go.Eng

def dS (y : Int) : Int := IntKind.u64.wrap (64 - ((Lib.bitLen y.toNat : Nat) : Int))
def dP (y : Int) : Int := 2 ^ min (dS y).toNat IntKind.u64.bits
def dH : Int := 2 ^ min (Int.toNat 32) IntKind.u64.bits
def dLow (n : Int) : Int := IntKind.u64.wrap ((BitVec.ofInt IntKind.u64.bits n &&& BitVec.ofInt IntKind.u64.bits 4294967295).toNat : Int)
def dY (y : Int) : Int := IntKind.u64.wrap (y * dP y)
def dY1 (y : Int) : Int := (dY y).fdiv dH
def dY0 (y : Int) : Int := dLow (dY y)
def dU32 (hi lo y : Int) : Int := IntKind.u64.wrap ((BitVec.ofInt IntKind.u64.bits (IntKind.u64.wrap (hi * dP y)) ||| BitVec.ofInt IntKind.u64.bits (lo.fdiv (2 ^ min (IntKind.u64.wrap (64 - dS y)).toNat IntKind.u64.bits))).toNat : Int)
def dU10 (lo y : Int) : Int := IntKind.u64.wrap (lo * dP y)
def dU1 (lo y : Int) : Int := (dU10 lo y).fdiv dH
def dU0 (lo y : Int) : Int := dLow (dU10 lo y)
def dq (u y : Int) : Int := IntKind.u64.wrap (u.tdiv (dY1 y))
def dr (u y : Int) : Int := IntKind.u64.wrap (u - IntKind.u64.wrap (dq u y * dY1 y))
def dStep (u y d : Int) : Int := lq (dq u y) (dr u y) (dY1 y) (dY0 y) d
def dStepNeed (u y d : Int) : Prop := lneed (dq u y) (dr u y) (dY1 y) (dY0 y) d
def dLeft (u y d : Int) : Int := IntKind.u64.wrap (IntKind.u64.wrap (IntKind.u64.wrap (u * 4294967296) + d) - IntKind.u64.wrap (dStep u y d * dY y))
def dU21 (hi lo y : Int) : Int := dLeft (dU32 hi lo y) y (dU1 lo y)
def dQuo (hi lo y : Int) : Int := bif hi == 0 then IntKind.u64.wrap (lo.tdiv y) else IntKind.u64.wrap (IntKind.u64.wrap (dStep (dU32 hi lo y) y (dU1 lo y) * 4294967296) + dStep (dU21 hi lo y) y (dU0 lo y))
def dRem (hi lo y : Int) : Int := bif hi == 0 then lo.tmod y else (dLeft (dU21 hi lo y) y (dU0 lo y)).fdiv (dP y)
def dNeed (hi lo y : Int) : Prop :=
  ((y == 0) = true → False) ∧ (decide (y ≤ hi) = true → False) ∧ ((hi == 0) = true → y ≠ 0 ∧ y ≠ 0) ∧ ((!(hi == 0)) = true → (0 ≤ y ∧ y ≤ 18446744073709551615) ∧ 0 ≤ dS y ∧ (0 ≤ dS y ∧ 0 ≤ IntKind.u64.wrap (64 - dS y)) ∧ 0 ≤ dS y ∧
    dY1 y ≠ 0 ∧ dStepNeed (dU32 hi lo y) y (dU1 lo y) ∧ dY1 y ≠ 0 ∧ dStepNeed (dU21 hi lo y) y (dU0 lo y) ∧ 0 ≤ dS y)

end Go.Eng

/- The plain law of Div64. No program. -/
namespace Go.Eng

theorem bitLenAux_bounds : ∀ (f x : Nat), x < 2 ^ f → 0 < x → 2 ^ (Lib.bitLenAux f x - 1) ≤ x ∧ x < 2 ^ (Lib.bitLenAux f x) ∧ 1 ≤ Lib.bitLenAux f x
  | 0, x, h, h0 => by simp at h; omega
  | f + 1, x, h, h0 => by
    simp only [Lib.bitLenAux, if_neg (show ¬ x = 0 by omega)]
    rw [Nat.pow_succ] at h
    by_cases hx : x / 2 = 0
    · have : x = 1 := by omega
      subst this
      have hz : Lib.bitLenAux f (1 / 2) = 0 := by cases f <;> simp [Lib.bitLenAux]
      rw [hz]; simp
    · obtain ⟨h1, h2, h3⟩ := bitLenAux_bounds f (x / 2) (by omega) (by omega)
      obtain ⟨k, hk⟩ : ∃ k, Lib.bitLenAux f (x / 2) = k + 1 := ⟨_, (Nat.sub_add_cancel h3).symm⟩
      rw [hk] at h1 h2 ⊢
      rw [show 1 + (k + 1) - 1 = k + 1 from by omega, show 1 + (k + 1) = (k + 1) + 1 from by omega]
      rw [show k + 1 - 1 = k from rfl] at h1
      rw [Nat.pow_succ] at h2 ⊢
      rw [Nat.pow_succ]
      refine ⟨by omega, by rw [Nat.pow_succ]; omega, by omega⟩

theorem bitLen_bounds (x : Nat) (h : x < 2 ^ 64) (h0 : 0 < x) : 2 ^ (Lib.bitLen x - 1) ≤ x ∧ x < 2 ^ (Lib.bitLen x) ∧ 1 ≤ Lib.bitLen x := bitLenAux_bounds 64 x h h0

theorem dLow_eq (n : Nat) (h : n < 18446744073709551616) : dLow (n : Int) = ((n % 4294967296 : Nat) : Int) := by
  have h1 := bits_and_u64_nat n 4294967295 h (by omega)
  have e : n &&& 4294967295 = n % 4294967296 := Nat.and_two_pow_sub_one_eq_mod n 32
  rw [e] at h1
  exact h1

theorem dOr_eq (a b : Nat) (ha : a < 18446744073709551616) (hb : b < 18446744073709551616) : IntKind.u64.wrap ((BitVec.ofInt IntKind.u64.bits (a : Int) ||| BitVec.ofInt IntKind.u64.bits (b : Int)).toNat : Int) = ((a ||| b : Nat) : Int) := bits_or_u64_nat a b ha hb

theorem dH_eq : dH = 4294967296 := rfl

theorem step_ok {y Y u d : Int} (hy : dY y = Y) (hY : 9223372036854775808 ≤ Y) (hY' : Y < 18446744073709551616) (hu : 0 ≤ u) (hu' : u < Y) (hd : 0 ≤ d) (hd' : d < 4294967296) :
    dStep u y d = (u * 4294967296 + d) / Y ∧ dStepNeed u y d ∧ dLeft u y d = (u * 4294967296 + d) % Y ∧ dY1 y ≠ 0 := by
  have h1 : dY1 y = Y / 4294967296 := by unfold dY1; rw [hy, dH_eq, Int.fdiv_eq_ediv_of_nonneg _ (by omega)]
  have h0 : dY0 y = Y % 4294967296 := by
    unfold dY0; rw [hy]
    have := dLow_eq Y.toNat (by omega)
    rw [Int.toNat_of_nonneg (by omega)] at this
    rw [this]; omega
  have hp : 0 < Y / 4294967296 := by omega
  have hq : dq u y = u / (Y / 4294967296) := by
    unfold dq; rw [h1, Int.tdiv_eq_ediv_of_nonneg hu]
    have a1 := Int.ediv_nonneg hu (show 0 ≤ Y / 4294967296 by omega)
    have a2 : u / (Y / 4294967296) ≤ u := Int.ediv_le_self _ hu
    exact wrapU a1 (by omega)
  have hdm := Int.mul_ediv_add_emod u (Y / 4294967296)
  have hm0 := Int.emod_nonneg u (show Y / 4294967296 ≠ 0 by omega)
  have hc := Int.mul_comm (Y / 4294967296) (u / (Y / 4294967296))
  have hn : 0 ≤ u / (Y / 4294967296) * (Y / 4294967296) := Int.mul_nonneg (Int.ediv_nonneg hu (by omega)) (by omega)
  have hr : dr u y = u % (Y / 4294967296) := by
    unfold dr; rw [hq, h1, wrapU hn (by omega), wrapU (by omega) (by omega)]; omega
  have main := lq_spec (u := u) (y1 := Y / 4294967296) (y0 := Y % 4294967296) (d := d) hY hY' (by omega) (by omega) (by omega) hu hu' hd hd'
  have hs : dStep u y d = (u * 4294967296 + d) / Y := by unfold dStep; rw [hq, hr, h1, h0]; exact main.1
  refine ⟨hs, by unfold dStepNeed; rw [hq, hr, h1, h0]; exact main.2, ?_, by omega⟩
  unfold dLeft
  rw [hs, hy]
  have e1 := Int.mul_ediv_add_emod (u * 4294967296 + d) Y
  have e2 := Int.mul_comm Y ((u * 4294967296 + d) / Y)
  have e3 := Int.emod_nonneg (u * 4294967296 + d) (show Y ≠ 0 by omega)
  have e4 := Int.emod_lt_of_pos (u * 4294967296 + d) (show 0 < Y by omega)
  rw [IntKind.wrap_u64, IntKind.wrap_u64, IntKind.wrap_u64, IntKind.wrap_u64]
  omega

theorem div_spec (h l z : Nat) (hz : h < z) (hz' : z < 18446744073709551616) (hl : l < 18446744073709551616) :
    dNeed h l z ∧ dQuo h l z = (h * 18446744073709551616 + l) / z ∧ dRem h l z = (h * 18446744073709551616 + l) % z := by
  by_cases hh : h = 0
  · subst hh
    have e : (((0 : Nat) : Int) == 0) = true := rfl
    refine ⟨⟨?_, ?_, ?_, ?_⟩, ?_, ?_⟩
    · simp; omega
    · simp; omega
    · intro _; constructor <;> omega
    · rw [e]; intro h; cases h
    · unfold dQuo
      rw [e, cond_true, Int.tdiv_eq_ediv_of_nonneg (by omega)]
      have a1 := Int.ediv_nonneg (show (0 : Int) ≤ l by omega) (show (0 : Int) ≤ z by omega)
      have a2 : (l : Int) / z ≤ l := Int.ediv_le_self _ (by omega)
      rw [wrapU a1 (by omega)]; simp
    · unfold dRem
      rw [e, cond_true, Int.tmod_eq_emod_of_nonneg (by omega)]; simp
  · have e : (((h : Nat) : Int) == 0) = false := by simp; omega
    obtain ⟨b1, b2, b3⟩ := bitLen_bounds z hz' (by omega)
    have b4 := Lib.bitLen_le z 64 (by omega) hz'
    generalize hL : Lib.bitLen z = L at *
    -- the shift
    have s1 : dS z = ((64 - L : Nat) : Int) := by
      unfold dS
      rw [Int.toNat_natCast, hL, wrapU (by omega) (by omega)]; omega
    have s2 : dP z = ((2 ^ (64 - L) : Nat) : Int) := by
      unfold dP
      rw [s1, Int.toNat_natCast, show IntKind.u64.bits = 64 from rfl, Nat.min_eq_left (by omega)]
      simp
    have s3 : IntKind.u64.wrap (64 - dS z) = (L : Int) := by rw [s1, wrapU (by omega) (by omega)]; omega
    have s4 : ((2 : Int) ^ min (IntKind.u64.wrap (64 - dS z)).toNat IntKind.u64.bits) = ((2 ^ L : Nat) : Int) := by
      rw [s3, Int.toNat_natCast, show IntKind.u64.bits = 64 from rfl, Nat.min_eq_left b4]
      simp
    have pr : 2 ^ L * 2 ^ (64 - L) = 18446744073709551616 := by rw [← Nat.pow_add, show L + (64 - L) = 64 by omega]
    have pr2 : 2 ^ (L - 1) * 2 ^ (64 - L) = 9223372036854775808 := by rw [← Nat.pow_add, show L - 1 + (64 - L) = 63 by omega]
    have hPpos : 0 < 2 ^ (64 - L) := Nat.pow_pos (by omega)
    have hRpos : 0 < 2 ^ L := Nat.pow_pos (by omega)
    have hlt2 : ∀ x : Nat, x < 2 ^ (64 - L) → 2 ^ (64 - L) * h + x = 2 ^ (64 - L) * h ||| x := fun x hx => Nat.two_pow_add_eq_or_of_lt hx h
    generalize hPn : 2 ^ (64 - L) = Pn at *
    generalize hR : 2 ^ L = R at *
    generalize hR1 : 2 ^ (L - 1) = R1 at *
    have Y1 : 9223372036854775808 ≤ z * Pn := by rw [← pr2]; exact Nat.mul_le_mul_right _ b1
    have Y2 : z * Pn < 18446744073709551616 := by rw [← pr]; exact Nat.mul_lt_mul_of_pos_right b2 hPpos
    have hYe : dY z = ((z * Pn : Nat) : Int) := by
      unfold dY
      rw [s2, ← Int.natCast_mul, wrapU (by omega) (by omega)]
    have hhP : h * Pn < z * Pn := Nat.mul_lt_mul_of_pos_right hz hPpos
    have hlR : l / R < Pn := by rw [Nat.div_lt_iff_lt_mul hRpos, Nat.mul_comm, pr]; exact hl
    have hU : dU32 h l z = ((h * Pn + l / R : Nat) : Int) := by
      unfold dU32
      rw [s4, s2, Int.fdiv_eq_ediv_of_nonneg _ (by omega), ← Int.natCast_mul, ← Int.natCast_ediv, wrapU (n := ((h * Pn : Nat) : Int)) (by omega) (by omega), dOr_eq _ _ (by omega) (Nat.lt_of_le_of_lt (Nat.div_le_self _ _) hl)]
      have := hlt2 (l / R) hlR
      rw [Nat.mul_comm Pn h] at this
      rw [this]
    -- what is shifted
    have hlm := Nat.div_add_mod l R
    have hlm2 := Nat.mod_lt l hRpos
    have hlP : l * Pn = l / R * 18446744073709551616 + l % R * Pn := by
      conv => lhs; rw [← hlm]
      rw [Nat.add_mul, Nat.mul_comm R, Nat.mul_assoc, pr]
    have hlP2 : l % R * Pn < 18446744073709551616 := by rw [← pr]; exact Nat.mul_lt_mul_of_pos_right hlm2 hPpos
    have hU10 : dU10 l z = ((l % R * Pn : Nat) : Int) := by
      unfold dU10
      rw [s2, ← Int.natCast_mul, hlP, IntKind.wrap_u64]
      omega
    generalize hV : l % R * Pn = V at *
    generalize hUn : h * Pn + l / R = U at *
    have hN : (h * 18446744073709551616 + l) * Pn = U * 18446744073709551616 + V := by
      rw [Nat.add_mul, hlP, ← hUn, Nat.add_mul, Nat.mul_assoc, Nat.mul_comm 18446744073709551616 Pn, ← Nat.mul_assoc]; omega
    have hUY : U < z * Pn := by
      have : (h * 18446744073709551616 + l) * Pn < z * 18446744073709551616 * Pn := Nat.mul_lt_mul_of_pos_right (by omega) hPpos
      rw [hN, Nat.mul_assoc, Nat.mul_comm 18446744073709551616 Pn, ← Nat.mul_assoc] at this
      omega
    generalize hY : z * Pn = Y at *
    have hU1 : dU1 l z = ((V / 4294967296 : Nat) : Int) := by
      unfold dU1; rw [hU10, dH_eq, Int.fdiv_eq_ediv_of_nonneg _ (by omega)]; omega
    have hU0 : dU0 l z = ((V % 4294967296 : Nat) : Int) := by unfold dU0; rw [hU10, dLow_eq _ hlP2]
    obtain ⟨p1, p2, p3, p4⟩ := step_ok (u := (U : Int)) (d := ((V / 4294967296 : Nat) : Int)) hYe (by omega) (by omega) (by omega) (by omega) (by omega) (by omega)
    have hU21 : dU21 h l z = ((U : Int) * 4294967296 + ((V / 4294967296 : Nat) : Int)) % (Y : Int) := by unfold dU21; rw [hU, hU1]; exact p3
    have e1 := Int.mul_ediv_add_emod ((U : Int) * 4294967296 + ((V / 4294967296 : Nat) : Int)) (Y : Int)
    have e3 := Int.emod_nonneg ((U : Int) * 4294967296 + ((V / 4294967296 : Nat) : Int)) (show (Y : Int) ≠ 0 by omega)
    have e4 := Int.emod_lt_of_pos ((U : Int) * 4294967296 + ((V / 4294967296 : Nat) : Int)) (show (0 : Int) < Y by omega)
    have a0 := Int.ediv_nonneg (show (0 : Int) ≤ (U : Int) * 4294967296 + ((V / 4294967296 : Nat) : Int) by omega) (show (0 : Int) ≤ Y by omega)
    have a1 : ((U : Int) * 4294967296 + ((V / 4294967296 : Nat) : Int)) / Y < 4294967296 := Int.ediv_lt_of_lt_mul (by omega) (by omega)
    rw [← hU21] at e1 e3 e4
    obtain ⟨q1, q2, q3, _⟩ := step_ok (u := dU21 h l z) (d := ((V % 4294967296 : Nat) : Int)) hYe (by omega) (by omega) e3 e4 (by omega) (by omega)
    have f1 := Int.mul_ediv_add_emod (dU21 h l z * 4294967296 + ((V % 4294967296 : Nat) : Int)) (Y : Int)
    have f3 := Int.emod_nonneg (dU21 h l z * 4294967296 + ((V % 4294967296 : Nat) : Int)) (show (Y : Int) ≠ 0 by omega)
    have f4 := Int.emod_lt_of_pos (dU21 h l z * 4294967296 + ((V % 4294967296 : Nat) : Int)) (show (0 : Int) < Y by omega)
    have c0 := Int.ediv_nonneg (show (0 : Int) ≤ dU21 h l z * 4294967296 + ((V % 4294967296 : Nat) : Int) by omega) (show (0 : Int) ≤ Y by omega)
    have c1 : (dU21 h l z * 4294967296 + ((V % 4294967296 : Nat) : Int)) / Y < 4294967296 := Int.ediv_lt_of_lt_mul (by omega) (by omega)
    -- the whole
    generalize hA : ((U : Int) * 4294967296 + ((V / 4294967296 : Nat) : Int)) / (Y : Int) = A at *
    generalize hB : (dU21 h l z * 4294967296 + ((V % 4294967296 : Nat) : Int)) / (Y : Int) = B at *
    generalize hM : (dU21 h l z * 4294967296 + ((V % 4294967296 : Nat) : Int)) % (Y : Int) = M at *
    have hNI : ((h : Int) * 18446744073709551616 + l) * Pn = (U : Int) * 18446744073709551616 + V := by
      have := congrArg (fun n : Nat => (n : Int)) hN
      simp only [Int.natCast_mul, Int.natCast_add, Int.cast_ofNat_Int] at this
      exact this
    have hYI : (z : Int) * Pn = Y := by rw [← Int.natCast_mul, hY]
    have tot : ((h : Int) * 18446744073709551616 + l) * Pn = Y * (A * 4294967296 + B) + M := by
      rw [hNI, Int.mul_add, ← Int.mul_assoc]
      omega
    have hdiv : ((h : Int) * 18446744073709551616 + l) / z = A * 4294967296 + B := by
      have k1 : ((h : Int) * 18446744073709551616 + l) / z = ((h : Int) * 18446744073709551616 + l) * Pn / (z * Pn) := (Int.mul_ediv_mul_of_pos_left _ _ (by omega)).symm
      rw [k1, hYI, tot, Int.mul_add_ediv_left _ _ (by omega), Int.ediv_eq_zero_of_lt f3 f4]; omega
    have hmod : ((h : Int) * 18446744073709551616 + l) % z * Pn = M := by
      have k1 : ((h : Int) * 18446744073709551616 + l) % z * Pn = (((h : Int) * 18446744073709551616 + l) * Pn) % (z * Pn) := by
        rw [Int.mul_comm _ (Pn : Int), Int.mul_comm _ (Pn : Int), Int.mul_comm _ (Pn : Int), Int.mul_emod_mul_of_pos _ _ (by omega)]
      rw [k1, hYI, tot, Int.mul_add_emod_self_left, Int.emod_eq_of_lt f3 f4]
    refine ⟨⟨?_, ?_, ?_, fun _ => ⟨⟨by omega, by omega⟩, by omega, ⟨by omega, by rw [s3]; omega⟩, by omega, p4, ?_, p4, ?_, by omega⟩⟩, ?_, ?_⟩
    · simp; omega
    · simp; omega
    · rw [e]; intro h; cases h
    · rw [hU, hU1]; exact p2
    · rw [hU0]; exact q2
    · unfold dQuo
      rw [e, cond_false, hU, hU1, p1, hU0, q1, hdiv, wrapU (n := A * 4294967296) (by omega) (by omega), wrapU (by omega) (by omega)]
    · unfold dRem
      rw [e, cond_false, hU0, q3, s2, Int.fdiv_eq_ediv_of_nonneg _ (by omega), ← hmod]
      exact Int.mul_ediv_cancel _ (by omega)

end Go.Eng

/- Fixed-point numbers: what the texts of package fix reckon, and what it is. No program. -/
namespace Go.Ar
open Go

def two64 : Int := 18446744073709551616

/-! ### What it is -/

def okF (a : Int) : Bool := decide (-4503599627370496 ≤ a) && decide (a ≤ 4503599627370496)

/-- n / d rounded down or up. -/
def rd (n d : Int) (up : Bool) : Int := bif up then -(-n / d) else n / d

def fitV (v : Int) : Int := bif okF v then v else 0
def fitE (v : Int) : Int := bif okF v then 0 else 6

def mulV (a b : Int) (up : Bool) : Int := bif okF a && okF b then fitV (rd (a * b) 4294967296 up) else 0
def mulE (a b : Int) (up : Bool) : Int := bif okF a && okF b then fitE (rd (a * b) 4294967296 up) else 2

/-- The sign of b times a. -/
def sg (a b : Int) : Int := bif decide (b < 0) then -a else a

def divV (a b : Int) (up : Bool) : Int := bif okF a && okF b then (bif b == 0 then 0 else fitV (rd (sg (a * 4294967296) b) (sg b b) up)) else 0
def divE (a b : Int) (up : Bool) : Int := bif okF a && okF b then (bif b == 0 then 7 else fitE (rd (sg (a * 4294967296) b) (sg b b) up)) else 2

def okS (a n d : Int) : Bool := okF a && (decide (-4611686018427387904 ≤ n) && decide (n ≤ 4611686018427387904) && decide (1 ≤ d) && decide (d ≤ 4611686018427387904))
def scaleV (a n d : Int) (up : Bool) : Int := bif okS a n d then fitV (rd (a * n) d up) else 0
def scaleE (a n d : Int) (up : Bool) : Int := bif okS a n d then fitE (rd (a * n) d up) else 2

/-! ### What the texts reckon -/

def xC (a : Int) : Int := bif bif decide (a < -4503599627370496) then true else decide (a > 4503599627370496) then 2 else 0
def xAll (a b : Int) : Int := bif !(xC a != 0) && !(xC b != 0) then 0 else bif xC a != 0 then xC a else xC b
def xSz (a : Int) : Int := bif decide (a < 0) then IntKind.u64.wrap (IntKind.u64.wrap (IntKind.i64.wrap (0 - IntKind.i64.wrap (a + 1))) + 1) else IntKind.u64.wrap a
def xHi (p : Int) : Int := p / two64
def xLo (p : Int) : Int := p % two64
def xNo (p d : Int) : Bool := decide (xHi p ≥ d)
def xN (p d : Int) (up neg : Bool) : Int := bif xNo p d then 0 else
  bif bif !(up == neg) then decide ((xHi p * two64 + xLo p) % d > 0) else false then IntKind.u64.wrap ((xHi p * two64 + xLo p) / d + 1) else (xHi p * two64 + xLo p) / d
def xBig (p d : Int) (up neg : Bool) : Bool := bif !(bif xNo p d then false else true) then true else decide (xN p d up neg > 4503599627370496)
def xV (p d : Int) (up neg : Bool) : Int := bif xBig p d up neg then 0 else bif neg then IntKind.i64.wrap (0 - IntKind.i64.wrap (xN p d up neg)) else IntKind.i64.wrap (xN p d up neg)
def xE (p d : Int) (up neg : Bool) : Int := bif xBig p d up neg then 6 else 0
def xNeg (a b : Int) : Bool := !(decide (a < 0) == decide (b < 0))
def xIn (a b : Int) : Prop := decide (0 ≤ a ∧ a < 18446744073709551616 ∧ 0 ≤ b ∧ b < 18446744073709551616) = true
def xDiv (p d : Int) : Prop := decide (0 ≤ xHi p ∧ xHi p < d ∧ d < 18446744073709551616 ∧ 0 ≤ xLo p ∧ xLo p < 18446744073709551616) = true

theorem i64w {n : Int} (h0 : -9223372036854775808 ≤ n) (h1 : n < 9223372036854775808) : IntKind.i64.wrap n = n := by rw [IntKind.wrap_i64]; omega
theorem u64w {n : Int} (h0 : 0 ≤ n) (h1 : n < 18446744073709551616) : IntKind.u64.wrap n = n := by rw [IntKind.wrap_u64]; omega

theorem xSz_eq {a : Int} (h0 : -9223372036854775808 ≤ a) (h1 : a < 9223372036854775808) : xSz a = sg a a := by
  unfold xSz sg
  by_cases h : a < 0
  · simp only [h, decide_true, cond_true]
    rw [i64w (n := a + 1) (by omega) (by omega), i64w (n := 0 - (a + 1)) (by omega) (by omega), u64w (n := 0 - (a + 1)) (by omega) (by omega), u64w (by omega) (by omega)]
    omega
  · simp only [h, decide_false, cond_false]
    rw [u64w (by omega) (by omega)]

theorem sg_nonneg (a : Int) : 0 ≤ sg a a := by
  unfold sg
  by_cases h : a < 0
  · simp only [h, decide_true, cond_true]; omega
  · simp only [h, decide_false, cond_false]; omega

theorem okF_iff {a : Int} : okF a = true ↔ -4503599627370496 ≤ a ∧ a ≤ 4503599627370496 := by simp [okF]
theorem okF_false {a : Int} : okF a = false ↔ a < -4503599627370496 ∨ 4503599627370496 < a := by
  rw [← Bool.not_eq_true, okF_iff]; omega

theorem xC_eq (a : Int) : xC a = bif okF a then 0 else 2 := by
  unfold xC
  cases h : okF a with
  | true =>
    have := okF_iff.1 h
    simp [show ¬ a < -4503599627370496 by omega, show ¬ a > 4503599627370496 by omega]
  | false =>
    rcases okF_false.1 h with h | h
    · simp [h]
    · simp [show ¬ a < -4503599627370496 by omega, h]

theorem xAll_eq (a b : Int) : xAll a b = bif okF a && okF b then 0 else 2 := by
  unfold xAll
  rw [xC_eq, xC_eq]
  cases okF a <;> cases okF b <;> rfl

/-- Minus a number over another one. -/
theorem neg_div {p d : Int} (hd : 0 < d) : -p / d = -(p / d) - (if 0 < p % d then 1 else 0) := by
  have h1 := Int.mul_ediv_add_emod p d
  have h2 := Int.emod_nonneg p (show d ≠ 0 by omega)
  have h3 := Int.emod_lt_of_pos p hd
  split
  · have h4 : (-p) / d = -(p / d) - 1 ∧ (-p) % d = d - p % d := by
      rw [Int.ediv_emod_unique hd]
      refine ⟨?_, by omega, by omega⟩
      rw [Int.mul_sub, Int.mul_neg]
      omega
    exact h4.1
  · have : p % d = 0 := by omega
    have h4 : (-p) / d = -(p / d) ∧ (-p) % d = 0 := by
      rw [Int.ediv_emod_unique hd]
      refine ⟨?_, by omega, by omega⟩
      rw [Int.mul_neg]
      omega
    omega

theorem xN_eq {p d : Int} (hp : 0 ≤ p) (hp' : p < 340282366920938463463374607431768211456) (hd : 0 < d) (hd' : d < 18446744073709551616) (up neg : Bool) (n : Int) (hn : n = bif neg then -p else p) (hx : p < 18446744073709551615 * d ∨ (!(up == neg)) = false) :
    xV p d up neg = fitV (rd n d up) ∧ xE p d up neg = fitE (rd n d up) ∧ (xNo p d = false → xDiv p d) := by
  have e1 : xHi p * two64 + xLo p = p := by unfold xHi xLo; have := Int.mul_ediv_add_emod p two64; rw [Int.mul_comm] at this; exact this
  have l0 : 0 ≤ xLo p := Int.emod_nonneg p (by decide)
  have l1 : xLo p < 18446744073709551616 := Int.emod_lt_of_pos p (by decide)
  have h0 : 0 ≤ xHi p := Int.ediv_nonneg hp (by decide)
  have q0 : 0 ≤ p / d := Int.ediv_nonneg hp (by omega)
  have r0 := Int.emod_nonneg p (show d ≠ 0 by omega)
  have rv : rd n d up = bif neg then -(p / d + (if (!(up == neg)) = true ∧ 0 < p % d then 1 else 0)) else p / d + (if (!(up == neg)) = true ∧ 0 < p % d then 1 else 0) := by
    subst hn
    unfold rd
    cases neg <;> cases up <;> simp [neg_div hd] <;> split <;> omega
  by_cases hno : xHi p ≥ d
  · -- the quotient does not fit
    have e2 : xNo p d = true := by simp [xNo, hno]
    have big : 18446744073709551616 ≤ p / d := by
      rw [Int.le_ediv_iff_mul_le hd]
      have h2 : d * two64 ≤ xHi p * two64 := Int.mul_le_mul_of_nonneg_right hno (by decide)
      have h3 : (18446744073709551616 : Int) * d = d * two64 := by rw [Int.mul_comm]; rfl
      omega
    have hb : xBig p d up neg = true := by simp [xBig, e2]
    have hf : okF (rd n d up) = false := by
      rw [okF_false, rv]
      cases neg <;> simp <;> split <;> omega
    refine ⟨by simp [xV, hb, fitV, hf], by simp [xE, hb, fitE, hf], fun h => by rw [e2] at h; cases h⟩
  · have e2 : xNo p d = false := by simp [xNo]; omega
    have hlt : p < d * 18446744073709551616 := by
      have h2 : (xHi p + 1) * two64 ≤ d * two64 := Int.mul_le_mul_of_nonneg_right (by omega) (by decide)
      rw [Int.add_mul] at h2
      unfold two64 at *
      omega
    have q1 : p / d < 18446744073709551616 := by
      rw [Int.ediv_lt_iff_lt_mul hd]
      rw [Int.mul_comm]; exact hlt
    have ex : xV p d up neg = fitV (rd n d up) ∧ xE p d up neg = fitE (rd n d up) := by
      have hN : xN p d up neg = p / d + (if (!(up == neg)) = true ∧ 0 < p % d then 1 else 0) := by
        unfold xN
        rw [e2, e1]
        cases hu : !(up == neg) with
        | false => simp
        | true =>
          by_cases hr : 0 < p % d
          · simp only [cond_true, cond_false, hr, decide_true, gt_iff_lt, and_self, if_true]
            rw [u64w (by omega)]
            have : p / d ≠ 18446744073709551615 := by
              intro hq
              have h5 : p / d * d ≤ p := Int.ediv_mul_le p (by omega)
              rw [hq] at h5
              rcases hx with hx | hx
              · omega
              · rw [hu] at hx; cases hx
            omega
          · simp [hr]
      generalize hk : p / d + (if (!(up == neg)) = true ∧ 0 < p % d then 1 else 0) = k at hN rv
      have k0 : 0 ≤ k := by rw [← hk]; split <;> omega
      unfold xV xE xBig
      rw [e2, hN, rv]
      by_cases hb : k > 4503599627370496
      · have hf : okF (bif neg then -k else k) = false := by
          rw [okF_false]
          cases neg <;> simp <;> omega
        simp [hb, fitV, fitE, hf]
      · have hf : okF (bif neg then -k else k) = true := by
          rw [okF_iff]
          cases neg <;> simp <;> omega
        simp only [hb, decide_false, cond_true, cond_false, Bool.not_true, fitV, fitE, hf]
        refine ⟨?_, trivial⟩
        rw [i64w (n := k) (by omega) (by omega), i64w (n := 0 - k) (by omega) (by omega)]
        cases neg <;> simp
    refine ⟨ex.1, ex.2, fun _ => ?_⟩
    unfold xDiv
    rw [decide_eq_true_eq]
    exact ⟨h0, by omega, hd', l0, l1⟩

/-- A quotient that is far too great: rounded one of the two ways it is refused. -/
theorem xE_far {p d : Int} (hp : 0 ≤ p) (hd : 0 < d) (hd' : d < 18446744073709551616) (neg : Bool) (n : Int) (hn : n = bif neg then -p else p) (hx : 18446744073709551615 * d ≤ p) :
    xE p d neg neg = 6 ∧ (∀ up, fitE (rd n d up) = 6) ∧ (xNo p d = false → xDiv p d) := by
  have e1 : xHi p * two64 + xLo p = p := by unfold xHi xLo; have := Int.mul_ediv_add_emod p two64; rw [Int.mul_comm] at this; exact this
  have l0 : 0 ≤ xLo p := Int.emod_nonneg p (by decide)
  have l1 : xLo p < 18446744073709551616 := Int.emod_lt_of_pos p (by decide)
  have h0 : 0 ≤ xHi p := Int.ediv_nonneg hp (by decide)
  have q0 : 18446744073709551615 ≤ p / d := by rw [Int.le_ediv_iff_mul_le hd]; exact hx
  refine ⟨?_, fun up => ?_, fun h => ?_⟩
  · unfold xE xBig xN
    cases h : xNo p d with
    | true => simp
    | false =>
      rw [e1]
      simp only [beq_self_eq_true, Bool.not_true, Bool.not_false, cond_true, cond_false]
      rw [decide_eq_true (by omega)]; rfl
  · have hf : okF (rd n d up) = false := by
      rw [okF_false]
      subst hn
      unfold rd
      cases neg <;> cases up <;> simp [neg_div hd] <;> (try split) <;> omega
    simp [fitE, hf]
  · unfold xDiv
    rw [decide_eq_true_eq]
    refine ⟨h0, ?_, hd', l0, l1⟩
    simp [xNo] at h
    omega

/-! ### The functions -/

def xMulV (a b : Int) (up : Bool) : Int := bif xAll a b != 0 then 0 else xV (xSz a * xSz b) 4294967296 up (xNeg a b)
def xMulE (a b : Int) (up : Bool) : Int := bif xAll a b != 0 then xAll a b else xE (xSz a * xSz b) 4294967296 up (xNeg a b)
def xMulN (a b : Int) : Prop := (!(xAll a b != 0)) = true → b = b ∧ xIn (xSz a) (xSz b) ∧ ((!xNo (xSz a * xSz b) 4294967296) = true → xDiv (xSz a * xSz b) 4294967296)
def xDivV (a b : Int) (up : Bool) : Int := bif xAll a b != 0 then 0 else bif b == 0 then 0 else xV (xSz a * 4294967296) (xSz b) up (xNeg a b)
def xDivE (a b : Int) (up : Bool) : Int := bif xAll a b != 0 then xAll a b else bif b == 0 then 7 else xE (xSz a * 4294967296) (xSz b) up (xNeg a b)
def xDivN (a b : Int) : Prop := (!(xAll a b != 0)) = true → (!(b == 0)) = true → b = b ∧ xIn (xSz a) 4294967296 ∧ b = b ∧ ((!xNo (xSz a * 4294967296) (xSz b)) = true → xDiv (xSz a * 4294967296) (xSz b))
def xOkS (a n d : Int) : Bool := bif xC a != 0 then true else bif decide (n < -4611686018427387904) then true else bif decide (n > 4611686018427387904) then true else bif decide (d < 1) then true else decide (d > 4611686018427387904)
def xScV (a n d : Int) (up : Bool) : Int := bif xOkS a n d then 0 else xV (xSz a * xSz n) (IntKind.u64.wrap d) up (xNeg a n)
def xScE (a n d : Int) (up : Bool) : Int := bif xOkS a n d then 2 else xE (xSz a * xSz n) (IntKind.u64.wrap d) up (xNeg a n)
def xScN (a n d : Int) : Prop := (!xOkS a n d) = true → (d = d ∧ n = n) ∧ d = d ∧ xIn (xSz a) (xSz n) ∧ d = d ∧ ((!xNo (xSz a * xSz n) (IntKind.u64.wrap d)) = true → xDiv (xSz a * xSz n) (IntKind.u64.wrap d))

theorem sg_cases (a : Int) : (a < 0 ∧ sg a a = -a) ∨ (0 ≤ a ∧ sg a a = a) := by
  unfold sg
  by_cases h : a < 0
  · left; simp [h]
  · right; simp [h]; omega

theorem xNeg_mul (a b : Int) : a * b = bif xNeg a b then -(sg a a * sg b b) else sg a a * sg b b := by
  unfold xNeg sg
  by_cases h : a < 0 <;> by_cases k : b < 0 <;> simp [h, k, Int.neg_mul, Int.mul_neg]

theorem xDiv_all {p d : Int} (hp : 0 ≤ p) (hd' : d < 18446744073709551616) (h : xNo p d = false) : xDiv p d := by
  unfold xDiv
  rw [decide_eq_true_eq]
  simp [xNo] at h
  exact ⟨Int.ediv_nonneg hp (by decide), by omega, hd', Int.emod_nonneg p (by decide), Int.emod_lt_of_pos p (by decide)⟩

theorem xAll_ok {a b : Int} (h : (!(xAll a b != 0)) = true) : okF a = true ∧ okF b = true := by
  rw [xAll_eq] at h
  cases ha : okF a <;> cases hb : okF b <;> simp [ha, hb] at h ⊢

theorem xIn_of {a b : Int} (ha : 0 ≤ a) (ha' : a < 18446744073709551616) (hb : 0 ≤ b) (hb' : b < 18446744073709551616) : xIn a b := by
  unfold xIn; rw [decide_eq_true_eq]; exact ⟨ha, ha', hb, hb'⟩

theorem sz_of {a : Int} (h : okF a = true) : xSz a = sg a a ∧ 0 ≤ sg a a ∧ sg a a ≤ 4503599627370496 := by
  have h := okF_iff.1 h
  refine ⟨xSz_eq (by omega) (by omega), sg_nonneg a, ?_⟩
  rcases sg_cases a with ⟨_, e⟩ | ⟨_, e⟩ <;> omega

theorem xMul_need (a b : Int) : xMulN a b := by
  intro h
  obtain ⟨ha, hb⟩ := xAll_ok h
  obtain ⟨a1, a2, a3⟩ := sz_of ha
  obtain ⟨b1, b2, b3⟩ := sz_of hb
  rw [a1, b1]
  refine ⟨rfl, xIn_of a2 (by omega) b2 (by omega), fun hn => ?_⟩
  exact xDiv_all (Int.mul_nonneg a2 b2) (by decide) (by simpa using hn)

theorem xDiv_need (a b : Int) : xDivN a b := by
  intro h h0
  obtain ⟨ha, hb⟩ := xAll_ok h
  obtain ⟨a1, a2, a3⟩ := sz_of ha
  obtain ⟨b1, b2, b3⟩ := sz_of hb
  rw [a1, b1]
  refine ⟨rfl, xIn_of a2 (by omega) (by omega) (by omega), rfl, fun hn => ?_⟩
  exact xDiv_all (by omega) (by omega) (by simpa using hn)

theorem xOkS_eq (a n d : Int) : xOkS a n d = !okS a n d := by
  unfold xOkS okS
  rw [xC_eq]
  rw [Bool.eq_iff_iff]
  cases okF a with
  | false => simp
  | true =>
    simp only [cond_true, bne_self_eq_false, cond_false, Bool.true_and, Bool.not_eq_true', Bool.and_eq_false_iff, decide_eq_false_iff_not]
    by_cases h1 : n < -4611686018427387904
    · simp [h1]
    · by_cases h2 : n > 4611686018427387904
      · simp [h1, h2]
      · by_cases h3 : d < 1
        · simp [h1, h2, h3]
        · simp [h1, h2, h3] <;> omega

theorem xSc_need (a n d : Int) : xScN a n d := by
  intro h
  rw [xOkS_eq, Bool.not_not] at h
  simp only [okS, Bool.and_eq_true, decide_eq_true_eq] at h
  obtain ⟨ha, ⟨⟨n1, n2⟩, d1⟩, d2⟩ := h
  obtain ⟨a1, a2, a3⟩ := sz_of ha
  have e1 : xSz n = sg n n := xSz_eq (by omega) (by omega)
  have e2 := sg_cases n
  rw [a1, e1, u64w (n := d) (by omega) (by omega)]
  refine ⟨⟨rfl, rfl⟩, rfl, xIn_of a2 (by omega) (by omega) (by omega), rfl, fun hn => ?_⟩
  exact xDiv_all (Int.mul_nonneg a2 (by omega)) (by omega) (by simpa using hn)

/-- What is rounded both ways: whether it is refused, and what it is. -/
theorem pair_law {p d : Int} (hp : 0 ≤ p) (hp' : p < 340282366920938463463374607431768211456) (hd : 0 < d) (hd' : d < 18446744073709551616) (neg : Bool) (n : Int) (hn : n = bif neg then -p else p) :
    ((xE p d false neg = 0 ∧ xE p d true neg = 0) ↔ (fitE (rd n d false) = 0 ∧ fitE (rd n d true) = 0)) ∧
    (fitE (rd n d false) = 0 → fitE (rd n d true) = 0 → xV p d false neg = rd n d false ∧ xV p d true neg = rd n d true) := by
  by_cases hx : p < 18446744073709551615 * d
  · obtain ⟨f1, f2, _⟩ := xN_eq hp hp' hd hd' false neg n hn (.inl hx)
    obtain ⟨t1, t2, _⟩ := xN_eq hp hp' hd hd' true neg n hn (.inl hx)
    rw [f2, t2, f1, t1]
    refine ⟨Iff.rfl, fun h1 h2 => ?_⟩
    unfold fitE at h1 h2
    unfold fitV
    cases e1 : okF (rd n d false) <;> cases e2 : okF (rd n d true) <;> simp_all
  · obtain ⟨h1, h2, _⟩ := xE_far hp hd hd' neg n hn (by omega)
    refine ⟨⟨fun ⟨h3, h4⟩ => ?_, fun ⟨h3, _⟩ => ?_⟩, fun h3 => ?_⟩
    · cases neg <;> omega
    · rw [h2] at h3; omega
    · rw [h2] at h3; omega

theorem fitE_cases (v : Int) : (fitE v = 0 ∧ okF v = true ∧ fitV v = v) ∨ (fitE v = 6 ∧ okF v = false ∧ fitV v = 0) := by
  unfold fitE fitV
  cases okF v <;> simp

/-! ### Square roots -/

def sqQ (i r : Int) : Int := IntKind.u64.wrap ↑(BitVec.ofInt IntKind.u64.bits r ||| BitVec.ofInt IntKind.u64.bits (IntKind.u64.wrap (1 * 2 ^ min (IntKind.i64.wrap (42 - i)).toNat IntKind.u64.bits))).toNat
def sqLe (H L t : Int) : Bool := bif decide (xHi (t * t) < H) then true else bif xHi (t * t) == H then decide (xLo (t * t) ≤ L) else false
def sqStep (H L i r : Int) : Int := bif sqLe H L (sqQ i r) then sqQ i r else r
def sqFin (H L : Int) : Nat → Int → Int → Int
  | 0, _, r => r
  | n + 1, i, r => sqFin H L n (IntKind.i64.wrap (i + 1)) (sqStep H L i r)

theorem u64_range (n : Int) : 0 ≤ IntKind.u64.wrap n ∧ IntKind.u64.wrap n < 18446744073709551616 := by
  rw [IntKind.wrap_u64]; omega

end Go.Ar

/- Square roots: what the texts reckon is the root, rounded. No program. -/
namespace Go.Ar
open Go

theorem sqQ_eq (i k : Nat) (hi : i ≤ 42) (hr : 2 ^ (43 - i) * k < 2 ^ 43) : sqQ (i : Int) ((2 ^ (43 - i) * k : Nat) : Int) = ((2 ^ (43 - i) * k + 2 ^ (42 - i) : Nat) : Int) := by
  have e1 : IntKind.i64.wrap (42 - (i : Int)) = ((42 - i : Nat) : Int) := by rw [i64w (by omega) (by omega)]; omega
  have e2 : min (((42 - i : Nat) : Int)).toNat IntKind.u64.bits = 42 - i := by
    rw [Int.toNat_natCast]; exact Nat.min_eq_left (Nat.le_trans (Nat.sub_le _ _) (by decide))
  have p1 : 2 ^ (42 - i) ≤ 2 ^ 42 := Nat.pow_le_pow_right (by decide) (by omega)
  have e3 : IntKind.u64.wrap (1 * 2 ^ (42 - i)) = ((2 ^ (42 - i) : Nat) : Int) := by
    rw [Int.one_mul, show (2 : Int) ^ (42 - i) = ((2 ^ (42 - i) : Nat) : Int) from (Int.natCast_pow 2 _).symm]
    generalize 2 ^ (42 - i) = P at p1
    exact u64w (by omega) (by omega)
  unfold sqQ
  rw [e1, e2, e3]
  rw [Go.Eng.dOr_eq _ _ (by omega) (by omega)]
  congr 1
  rw [← Nat.two_pow_add_eq_or_of_lt (Nat.pow_lt_pow_right (by decide) (by omega)) k]

theorem lex_iff (t n : Nat) (ht : t < 18446744073709551616) : sqLe (xHi (n : Int)) (xLo (n : Int)) (t : Int) = decide (t * t ≤ n) := by
  unfold sqLe xHi xLo two64
  have e1 : ((t : Int) * t) / 18446744073709551616 = ((t * t / 18446744073709551616 : Nat) : Int) := by rw [Int.natCast_ediv, Int.natCast_mul]; rfl
  have e2 : ((t : Int) * t) % 18446744073709551616 = ((t * t % 18446744073709551616 : Nat) : Int) := by rw [Int.natCast_emod, Int.natCast_mul]; rfl
  have e3 : (n : Int) / 18446744073709551616 = ((n / 18446744073709551616 : Nat) : Int) := by rw [Int.natCast_ediv]; rfl
  have e4 : (n : Int) % 18446744073709551616 = ((n % 18446744073709551616 : Nat) : Int) := by rw [Int.natCast_emod]; rfl
  rw [e1, e2, e3, e4]
  generalize t * t = m
  rw [Bool.eq_iff_iff]
  by_cases h1 : m / 18446744073709551616 < n / 18446744073709551616
  · have : ((m / 18446744073709551616 : Nat) : Int) < ((n / 18446744073709551616 : Nat) : Int) := by omega
    simp only [this, decide_true, cond_true, true_iff, decide_eq_true_eq]
    omega
  · have : ¬ ((m / 18446744073709551616 : Nat) : Int) < ((n / 18446744073709551616 : Nat) : Int) := by omega
    simp only [this, decide_false, cond_false, decide_eq_true_eq]
    by_cases h2 : m / 18446744073709551616 = n / 18446744073709551616
    · rw [h2]
      simp only [beq_self_eq_true, cond_true, decide_eq_true_eq]
      omega
    · have : (((m / 18446744073709551616 : Nat) : Int) == ((n / 18446744073709551616 : Nat) : Int)) = false := by
        rw [beq_eq_false_iff_ne]; omega
      rw [this]
      simp only [cond_false, Bool.false_eq_true, false_iff]
      omega

/-- The loop. -/
theorem sqFin_spec (n : Nat) : ∀ (m i k : Nat), i + m = 43 → 2 ^ (43 - i) * k < 2 ^ 43 → (2 ^ (43 - i) * k) * (2 ^ (43 - i) * k) ≤ n → n < (2 ^ (43 - i) * k + 2 ^ (43 - i)) * (2 ^ (43 - i) * k + 2 ^ (43 - i)) →
    ∃ r : Nat, sqFin (xHi (n : Int)) (xLo (n : Int)) m (i : Int) ((2 ^ (43 - i) * k : Nat) : Int) = (r : Int) ∧ r * r ≤ n ∧ n < (r + 1) * (r + 1) ∧ r < 2 ^ 43
  | 0, i, k, hi, h1, h2, h3 => by
    have : i = 43 := by omega
    subst this
    exact ⟨2 ^ (43 - 43) * k, rfl, h2, h3, h1⟩
  | m + 1, i, k, hi, h1, h2, h3 => by
    have p : 2 ^ (43 - i) = 2 * 2 ^ (43 - (i + 1)) := by
      rw [show 43 - i = (43 - (i + 1)) + 1 by omega, Nat.pow_succ]; omega
    have e1 : IntKind.i64.wrap ((i : Int) + 1) = ((i + 1 : Nat) : Int) := by rw [i64w (by omega) (by omega)]; omega
    have e2 := sqQ_eq i k (by omega) h1
    rw [show 42 - i = 43 - (i + 1) by omega] at e2
    simp only [sqFin]
    rw [e1]
    unfold sqStep
    rw [e2]
    generalize hq : 2 ^ (43 - (i + 1)) = q at *
    have hq1 : 1 ≤ q := by rw [← hq]; exact Nat.one_le_two_pow
    have hb : 2 ^ (43 - i) * k + q < 2 ^ 43 := by
      rw [p]
      have h4 : 2 ^ (43 - i) * (2 ^ i) = 2 ^ 43 := by rw [← Nat.pow_add]; congr 1; omega
      rw [p] at h4
      have : k < 2 ^ i := by
        rw [p, ← h4] at h1
        exact Nat.lt_of_mul_lt_mul_left h1
      have h5 : 2 * q * (k + 1) ≤ 2 * q * 2 ^ i := Nat.mul_le_mul_left _ this
      rw [h4, Nat.mul_add] at h5
      omega
    rw [lex_iff _ n (by omega)]
    by_cases h : (2 ^ (43 - i) * k + q) * (2 ^ (43 - i) * k + q) ≤ n
    · rw [decide_eq_true h, cond_true]
      have hk : 2 ^ (43 - i) * k + q = q * (2 * k + 1) := by rw [p, Nat.mul_add, Nat.mul_one, ← Nat.mul_assoc, Nat.mul_comm q 2]
      have hs : q * (2 * k + 1) + q = 2 ^ (43 - i) * k + 2 ^ (43 - i) := by rw [← hk, p]; omega
      rw [hk] at h hb ⊢
      have := sqFin_spec n m (i + 1) (2 * k + 1) (by omega) (by rw [hq]; exact hb) (by rw [hq]; exact h) (by rw [hq, hs]; exact h3)
      rw [hq] at this
      exact this
    · rw [decide_eq_false h, cond_false]
      have hk : 2 ^ (43 - i) * k = q * (2 * k) := by rw [p, ← Nat.mul_assoc, Nat.mul_comm q 2]
      rw [hk] at h h1 h2 ⊢
      have := sqFin_spec n m (i + 1) (2 * k) (by omega) (by rw [hq]; exact h1) (by rw [hq]; exact h2) (by rw [hq]; omega)
      rw [hq] at this
      exact this

/-- The root of a, in units: its square is at most a One, and that of the next one above. -/
theorem sq_spec (a : Nat) (ha : a ≤ 4503599627370496) : ∃ r : Nat, sqFin (xHi (IntKind.u64.wrap a * 4294967296)) (xLo (IntKind.u64.wrap a * 4294967296)) 43 0 0 = (r : Int) ∧ r * r ≤ a * 4294967296 ∧ a * 4294967296 < (r + 1) * (r + 1) ∧ r < 2 ^ 43 := by
  rw [u64w (n := (a : Int)) (by omega) (by omega)]
  have := sqFin_spec (a * 4294967296) 43 0 0 rfl (by decide) (by omega) (by simp; omega)
  simpa using this

theorem root_unique {n r s : Nat} (h1 : r * r ≤ n) (h2 : n < (r + 1) * (r + 1)) (h3 : s * s ≤ n) (h4 : n < (s + 1) * (s + 1)) : r = s := by
  rcases Nat.lt_trichotomy r s with h | h | h
  · have := Nat.mul_le_mul (show r + 1 ≤ s from h) (show r + 1 ≤ s from h); omega
  · exact h
  · have := Nat.mul_le_mul (show s + 1 ≤ r from h) (show s + 1 ≤ r from h); omega

/-! ### The functions -/

def sqP2 (a : Int) : Int := IntKind.u64.wrap a * 4294967296
def sqR (a : Int) : Int := sqFin (xHi (sqP2 a)) (xLo (sqP2 a)) 43 0 0
def sqBad (a : Int) : Bool := bif xC a != 0 then true else decide (a < 0)
def sqUp (a : Int) : Int := bif !(sqR a * sqR a / two64 == xHi (sqP2 a) && (sqR a * sqR a % two64 == xLo (sqP2 a) && true)) then IntKind.u64.wrap (sqR a + 1) else sqR a
def xSqV (a : Int) (up : Bool) : Int := bif sqBad a then 0 else bif decide ((bif up then sqUp a else sqR a) > 4503599627370496) then 0 else IntKind.i64.wrap (bif up then sqUp a else sqR a)
def xSqE (a : Int) (up : Bool) : Int := bif sqBad a then 2 else bif decide ((bif up then sqUp a else sqR a) > 4503599627370496) then 6 else 0

/-- The root of a number, rounded down or up. -/
def rtV (a : Int) (up : Bool) : Int := bif up && !(sqR a * sqR a == a * 4294967296) then sqR a + 1 else sqR a
def sqOk (a : Int) : Bool := okF a && decide (0 ≤ a)
def sqrtV (a : Int) (up : Bool) : Int := bif sqOk a then rtV a up else 0
def sqrtE (a : Int) : Int := bif sqOk a then 0 else 2

theorem sqBad_eq (a : Int) : sqBad a = !sqOk a := by
  unfold sqBad sqOk
  rw [xC_eq]
  cases okF a with
  | false => simp
  | true => by_cases h : a < 0 <;> simp [h] <;> omega

theorem sqR_spec {a : Int} (h : sqOk a = true) : 0 ≤ sqR a ∧ sqR a * sqR a ≤ a * 4294967296 ∧ a * 4294967296 < (sqR a + 1) * (sqR a + 1) ∧ sqR a < 8796093022208 := by
  simp only [sqOk, Bool.and_eq_true, decide_eq_true_eq] at h
  obtain ⟨h1, h2⟩ := h
  have h1 := okF_iff.1 h1
  obtain ⟨r, e, r1, r2, r3⟩ := sq_spec a.toNat (by omega)
  rw [Int.toNat_of_nonneg h2] at e
  have e : sqR a = r := e
  rw [e]
  have c1 : ((r * r : Nat) : Int) = (r : Int) * r := Int.natCast_mul r r
  have c2 : (((r + 1) * (r + 1) : Nat) : Int) = ((r : Int) + 1) * (r + 1) := by rw [Int.natCast_mul]; rfl
  refine ⟨by omega, by omega, by omega, by omega⟩

theorem xSq_law (a : Int) (up : Bool) : xSqV a up = sqrtV a up ∧ xSqE a up = sqrtE a := by
  unfold xSqV xSqE sqrtV sqrtE
  rw [sqBad_eq]
  cases h : sqOk a with
  | false => simp
  | true =>
    obtain ⟨r0, r1, r2, r3⟩ := sqR_spec h
    simp only [sqOk, Bool.and_eq_true, decide_eq_true_eq] at h
    obtain ⟨h1, h2⟩ := h
    have h1 := okF_iff.1 h1
    have key : (bif up then sqUp a else sqR a) = rtV a up := by
      cases up with
      | false => rfl
      | true =>
        have e0 : sqP2 a = a * 4294967296 := by unfold sqP2; rw [u64w (by omega) (by omega)]
        have : (sqR a * sqR a / two64 == xHi (sqP2 a) && (sqR a * sqR a % two64 == xLo (sqP2 a) && true)) = (sqR a * sqR a == a * 4294967296) := by
          rw [e0]
          unfold xHi xLo two64
          rw [Bool.eq_iff_iff]
          simp only [Bool.and_true, Bool.and_eq_true, beq_iff_eq]
          omega
        unfold sqUp rtV
        rw [this, u64w (by omega) (by omega)]
        rfl
    rw [key]
    have hb : 0 ≤ rtV a up ∧ rtV a up ≤ 8796093022208 := by
      unfold rtV
      cases up && !(sqR a * sqR a == a * 4294967296) <;> simp <;> omega
    simp only [Bool.not_true, cond_false, cond_true]
    rw [decide_eq_false (by omega), i64w (by omega) (by omega)]
    exact ⟨rfl, rfl⟩

end Go.Ar

/- Intervals: what the texts of package span reckon, and what it is. No program. -/
namespace Go.Ar
open Go

/-- A result: an interval and an error. -/
structure Sp where
  lo : Int
  hi : Int
  e : Int

def err (e : Int) : Sp := ⟨0, 0, e⟩
def okSp (a b : Int) : Bool := decide (-4503599627370496 ≤ a) && (decide (a ≤ b) && decide (b ≤ 4503599627370496))
def toldS (lo hi : Int) : Sp := bif okF lo && okF hi then ⟨lo, hi, 0⟩ else err 6
def mn (a b : Int) : Int := bif decide (b < a) then b else a
def mx (a b : Int) : Int := bif decide (a < b) then b else a
def both (a b c d : Int) (r : Sp) : Sp := bif okSp a b && okSp c d then r else err 20

def addS (a b c d : Int) : Sp := both a b c d (toldS (a + c) (b + d))
def subS (a b c d : Int) : Sp := both a b c d (toldS (a - d) (b - c))
def negS (a b : Int) : Sp := bif okSp a b then ⟨-b, -a, 0⟩ else err 20
/-- The hull of what an operation gives at the corners. -/
def hull4 (F : Int → Int → Bool → Int) (a b c d : Int) : Sp :=
  toldS (mn (mn (mn (F a c false) (F a d false)) (F b c false)) (F b d false)) (mx (mx (mx (F a c true) (F a d true)) (F b c true)) (F b d true))
def mF (x y : Int) (up : Bool) : Int := rd (x * y) 4294967296 up
def dF (x y : Int) (up : Bool) : Int := rd (sg (x * 4294967296) y) (sg y y) up
def mulS (a b c d : Int) : Sp := both a b c d (hull4 mF a b c d)
def divS (a b c d : Int) : Sp := both a b c d (bif decide (c ≤ 0) && decide (0 ≤ d) then err 7 else hull4 dF a b c d)
/-- The absolute value. -/
def abL (a b : Int) : Int := mx (mx a (-b)) 0
def abH (a b : Int) : Int := mx b (-a)
def sqrS (a b : Int) : Sp := bif okSp a b then toldS (rd (abL a b * abL a b) 4294967296 false) (rd (abH a b * abH a b) 4294967296 true) else err 20
def sqrtS (a b : Int) : Sp := bif okSp a b then (bif decide (a < 0) then err 2 else ⟨rtV a false, rtV b true, 0⟩) else err 20
def okR (n d : Int) : Bool := decide (-4611686018427387904 ≤ n) && decide (n ≤ 4611686018427387904) && decide (1 ≤ d) && decide (d ≤ 4611686018427387904)
def scaleS (a b n d : Int) : Sp := bif okSp a b then (bif okR n d then toldS (rd (mn (a * n) (b * n)) d false) (rd (mx (a * n) (b * n)) d true) else err 2) else err 20

/-! ### What the texts reckon -/

def xCS (a b : Int) : Int := bif bif decide (a < -4503599627370496) then true else bif decide (a > b) then true else decide (b > 4503599627370496) then 20 else 0
def xAll2 (a b c d : Int) : Int := bif !(xCS a b != 0) && !(xCS c d != 0) then 0 else bif xCS a b != 0 then xCS a b else xCS c d
def xTb (l h : Int) : Bool := bif decide (l < -4503599627370496) then true else decide (h > 4503599627370496)
def xTold (g l h : Int) : Sp := ⟨bif g != 0 then 0 else bif xTb l h then 0 else l, bif g != 0 then 0 else bif xTb l h then 0 else h, bif g != 0 then g else bif xTb l h then 6 else 0⟩
def xAddS (a b c d : Int) : Sp := xTold (xAll2 a b c d) (IntKind.i64.wrap (a + c)) (IntKind.i64.wrap (b + d))
def xSubS (a b c d : Int) : Sp := xTold (xAll2 a b c d) (IntKind.i64.wrap (a - d)) (IntKind.i64.wrap (b - c))
def xSqrtS (a b : Int) : Sp :=
  ⟨bif xCS a b != 0 then 0 else bif decide (a < 0) then 0 else bif xTb (xSqV a false) (xSqV b true) then 0 else xSqV a false,
   bif xCS a b != 0 then 0 else bif decide (a < 0) then 0 else bif xTb (xSqV a false) (xSqV b true) then 0 else xSqV b true,
   bif xCS a b != 0 then xCS a b else bif decide (a < 0) then 2 else bif xTb (xSqV a false) (xSqV b true) then 6 else 0⟩

/-! The corners, one after the other. -/
def tL (low lo : Int) : Int := bif decide (low < lo) then low else lo
def tH (low lo hi : Int) : Int := bif decide (low < lo) then hi else hi
def nL (low high lo hi : Int) : Int := bif decide (high > tH low lo hi) then tL low lo else tL low lo
def nH (low high lo hi : Int) : Int := bif decide (high > tH low lo hi) then high else tH low lo hi
def l1 (V : Int → Int → Bool → Int) (a c d : Int) : Int := nL (V a d false) (V a d true) (V a c false) (V a c true)
def h1 (V : Int → Int → Bool → Int) (a c d : Int) : Int := nH (V a d false) (V a d true) (V a c false) (V a c true)
def l2 (V : Int → Int → Bool → Int) (a b c d : Int) : Int := nL (V b c false) (V b c true) (l1 V a c d) (h1 V a c d)
def h2 (V : Int → Int → Bool → Int) (a b c d : Int) : Int := nH (V b c false) (V b c true) (l1 V a c d) (h1 V a c d)
def l3 (V : Int → Int → Bool → Int) (a b c d : Int) : Int := nL (V b d false) (V b d true) (l2 V a b c d) (h2 V a b c d)
def h3 (V : Int → Int → Bool → Int) (a b c d : Int) : Int := nH (V b d false) (V b d true) (l2 V a b c d) (h2 V a b c d)
def bad2 (E : Int → Int → Bool → Int) (x y : Int) : Bool := bif E x y false != 0 then true else E x y true != 0
def ok4 (E : Int → Int → Bool → Int) (a b c d : Int) : Bool := (!bad2 E a c && !bad2 E a d) && (!bad2 E b c && !bad2 E b d)
def bL (V E : Int → Int → Bool → Int) (a b c d : Int) : Int := bif ok4 E a b c d then (bif xTb (l3 V a b c d) (h3 V a b c d) then 0 else l3 V a b c d) else 0
def bH (V E : Int → Int → Bool → Int) (a b c d : Int) : Int := bif ok4 E a b c d then (bif xTb (l3 V a b c d) (h3 V a b c d) then 0 else h3 V a b c d) else 0
def bE (V E : Int → Int → Bool → Int) (a b c d : Int) : Int := bif ok4 E a b c d then (bif xTb (l3 V a b c d) (h3 V a b c d) then 6 else 0) else 6
def xMulS (a b c d : Int) : Sp := ⟨bif xAll2 a b c d != 0 then 0 else bL xMulV xMulE a b c d, bif xAll2 a b c d != 0 then 0 else bH xMulV xMulE a b c d, bif xAll2 a b c d != 0 then xAll2 a b c d else bE xMulV xMulE a b c d⟩
def xZ (c d : Int) : Bool := bif decide (c ≤ 0) then decide (d ≥ 0) else false
def xDivS (a b c d : Int) : Sp := ⟨bif xAll2 a b c d != 0 then 0 else bif xZ c d then 0 else bL xDivV xDivE a b c d, bif xAll2 a b c d != 0 then 0 else bif xZ c d then 0 else bH xDivV xDivE a b c d,
  bif xAll2 a b c d != 0 then xAll2 a b c d else bif xZ c d then 7 else bE xDivV xDivE a b c d⟩

/-! ### Scale: as the text has it (far above the limits it differs from scaleS) -/
def xsA (a b n : Int) : Int := bif decide (n < 0) then IntKind.i64.wrap (0 - b) else a
def xsB (a b n : Int) : Int := bif decide (n < 0) then IntKind.i64.wrap (0 - a) else b
def xsN (n : Int) : Int := bif decide (n < 0) then IntKind.i64.wrap (0 - n) else n
def xsOk (n : Int) : Bool := bif decide (n < 0) then !decide (n < -4611686018427387904) else true
def xsBad (a b n d : Int) : Bool := bif xScE (xsA a b n) (xsN n) d false != 0 then true else xScE (xsB a b n) (xsN n) d true != 0
def xScaleS (a b n d : Int) : Sp :=
  ⟨bif xCS a b != 0 then 0 else bif xsOk n then (bif xsBad a b n d then 0 else xScV (xsA a b n) (xsN n) d false) else 0,
   bif xCS a b != 0 then 0 else bif xsOk n then (bif xsBad a b n d then 0 else xScV (xsB a b n) (xsN n) d true) else 0,
   bif xCS a b != 0 then xCS a b else bif xsOk n then (bif xsBad a b n d then (if xScE (xsB a b n) (xsN n) d true > xScE (xsA a b n) (xsN n) d false then xScE (xsB a b n) (xsN n) d true else xScE (xsA a b n) (xsN n) d false) else 0) else 2⟩

/-! ### The laws -/

theorem okSp_iff {a b : Int} : okSp a b = true ↔ -4503599627370496 ≤ a ∧ a ≤ b ∧ b ≤ 4503599627370496 := by simp [okSp]
theorem xCS_eq (a b : Int) : xCS a b = bif okSp a b then 0 else 20 := by
  unfold xCS
  cases h : okSp a b with
  | true =>
    have := okSp_iff.1 h
    simp [show ¬ a < -4503599627370496 by omega, show ¬ a > b by omega, show ¬ b > 4503599627370496 by omega]
  | false =>
    have : ¬ (-4503599627370496 ≤ a ∧ a ≤ b ∧ b ≤ 4503599627370496) := fun k => by rw [okSp_iff.2 k] at h; cases h
    by_cases h1 : a < -4503599627370496
    · simp [h1]
    · by_cases h2 : a > b
      · simp [h1, h2]
      · simp [h1, h2, show b > 4503599627370496 by omega]

theorem xAll2_eq (a b c d : Int) : xAll2 a b c d = bif okSp a b && okSp c d then 0 else 20 := by
  unfold xAll2
  rw [xCS_eq, xCS_eq]
  cases okSp a b <;> cases okSp c d <;> rfl

theorem xTb_eq {l h : Int} (k : l ≤ h) : xTb l h = !(okF l && okF h) := by
  unfold xTb okF
  rw [Bool.eq_iff_iff]
  by_cases h1 : l < -4503599627370496
  · simp [h1] <;> omega
  · simp [h1] <;> omega

theorem xTold_eq (a b c d l h : Int) (k : okSp a b = true → okSp c d = true → l ≤ h) : xTold (xAll2 a b c d) l h = both a b c d (toldS l h) := by
  unfold xTold both
  rw [xAll2_eq]
  cases h1 : okSp a b with
  | false => simp [err]
  | true =>
    cases h2 : okSp c d with
    | false => simp [err]
    | true =>
      rw [xTb_eq (k h1 h2)]
      unfold toldS
      cases okF l && okF h <;> simp [err]

theorem xAddS_eq (a b c d : Int) : xAddS a b c d = addS a b c d := by
  unfold xAddS addS
  rw [xTold_eq]
  · unfold both
    cases h1 : okSp a b <;> cases h2 : okSp c d <;> try rfl
    have := okSp_iff.1 h1; have := okSp_iff.1 h2
    rw [i64w (by omega) (by omega), i64w (by omega) (by omega)]
  · intro h1 h2
    have := okSp_iff.1 h1; have := okSp_iff.1 h2
    rw [i64w (by omega) (by omega), i64w (by omega) (by omega)]; omega

theorem xSubS_eq (a b c d : Int) : xSubS a b c d = subS a b c d := by
  unfold xSubS subS
  rw [xTold_eq]
  · unfold both
    cases h1 : okSp a b <;> cases h2 : okSp c d <;> try rfl
    have := okSp_iff.1 h1; have := okSp_iff.1 h2
    rw [i64w (by omega) (by omega), i64w (by omega) (by omega)]
  · intro h1 h2
    have := okSp_iff.1 h1; have := okSp_iff.1 h2
    rw [i64w (by omega) (by omega), i64w (by omega) (by omega)]; omega

theorem rtV_range {a : Int} (h : sqOk a = true) (up : Bool) : 0 ≤ rtV a up ∧ rtV a up ≤ 8796093022208 := by
  obtain ⟨r0, r1, r2, r3⟩ := sqR_spec h
  unfold rtV
  cases up && !(sqR a * sqR a == a * 4294967296) <;> simp <;> omega

theorem xSqrtS_eq (a b : Int) : xSqrtS a b = sqrtS a b := by
  unfold xSqrtS sqrtS
  rw [xCS_eq]
  cases h1 : okSp a b with
  | false => simp [err]
  | true =>
    have h := okSp_iff.1 h1
    by_cases h2 : a < 0
    · simp [h2, err]
    · have ha : sqOk a = true := by simp [sqOk, okF]; omega
      have hb : sqOk b = true := by simp [sqOk, okF]; omega
      have ra := rtV_range ha false
      have rb := rtV_range hb true
      rw [(xSq_law a false).1, (xSq_law b true).1]
      unfold sqrtV
      rw [ha, hb]
      have ht : xTb (rtV a false) (rtV b true) = false := by
        unfold xTb
        rw [decide_eq_false (by omega), decide_eq_false (by omega)]; rfl
      simp [h2, ht]

theorem nL_eq (low high lo hi : Int) : nL low high lo hi = mn lo low := by
  unfold nL tL mn
  cases decide (high > tH low lo hi) <;> rfl
theorem nH_eq (low high lo hi : Int) : nH low high lo hi = mx hi high := by
  unfold nH tH mx
  cases decide (low < lo) <;> rfl

theorem mn_le (a b : Int) : mn a b ≤ a ∧ mn a b ≤ b ∧ (mn a b = a ∨ mn a b = b) := by
  unfold mn
  by_cases h : b < a <;> simp [h] <;> omega
theorem le_mx (a b : Int) : a ≤ mx a b ∧ b ≤ mx a b ∧ (mx a b = a ∨ mx a b = b) := by
  unfold mx
  by_cases h : a < b <;> simp [h] <;> omega

theorem rd_le (n d : Int) (hd : 0 < d) : rd n d false ≤ rd n d true := by
  unfold rd
  simp only [cond_true, cond_false]
  have h1 := Int.mul_ediv_add_emod n d
  have h2 := Int.emod_nonneg n (show d ≠ 0 by omega)
  have h3 := Int.emod_lt_of_pos n hd
  have := neg_div (p := n) hd
  rw [this]; split <;> omega

/-- Where an operation is refused at a corner just if one of its rounded values is too great, the corners' hull is what it should be. -/
theorem hull_law (V E F : Int → Int → Bool → Int) (a b c d : Int) (hF : ∀ x y, (x = a ∨ x = b) → (y = c ∨ y = d) → F x y false ≤ F x y true)
    (hE : ∀ x y, (x = a ∨ x = b) → (y = c ∨ y = d) → (bad2 E x y = !(okF (F x y false) && okF (F x y true)) ∧ (bad2 E x y = false → V x y false = F x y false ∧ V x y true = F x y true))) :
    (⟨bL V E a b c d, bH V E a b c d, bE V E a b c d⟩ : Sp) = hull4 F a b c d := by
  obtain ⟨e1, v1⟩ := hE a c (.inl rfl) (.inl rfl)
  obtain ⟨e2, v2⟩ := hE a d (.inl rfl) (.inr rfl)
  obtain ⟨e3, v3⟩ := hE b c (.inr rfl) (.inl rfl)
  obtain ⟨e4, v4⟩ := hE b d (.inr rfl) (.inr rfl)
  have f1 := hF a c (.inl rfl) (.inl rfl)
  have f2 := hF a d (.inl rfl) (.inr rfl)
  have f3 := hF b c (.inr rfl) (.inl rfl)
  have f4 := hF b d (.inr rfl) (.inr rfl)
  unfold bL bH bE
  cases hk : ok4 E a b c d with
  | false =>
    -- one of them is too great
    have : (okF (mn (mn (mn (F a c false) (F a d false)) (F b c false)) (F b d false)) && okF (mx (mx (mx (F a c true) (F a d true)) (F b c true)) (F b d true))) = false := by
      cases hh : okF (mn (mn (mn (F a c false) (F a d false)) (F b c false)) (F b d false)) && okF (mx (mx (mx (F a c true) (F a d true)) (F b c true)) (F b d true)) with
      | false => rfl
      | true =>
        simp only [Bool.and_eq_true, okF_iff] at hh
        have m1 := mn_le (F a c false) (F a d false); have m2 := mn_le (mn (F a c false) (F a d false)) (F b c false); have m3 := mn_le (mn (mn (F a c false) (F a d false)) (F b c false)) (F b d false)
        have n1 := le_mx (F a c true) (F a d true); have n2 := le_mx (mx (F a c true) (F a d true)) (F b c true); have n3 := le_mx (mx (mx (F a c true) (F a d true)) (F b c true)) (F b d true)
        have g : ∀ x y, F x y false ≤ F x y true → -4503599627370496 ≤ F x y false → F x y true ≤ 4503599627370496 → (okF (F x y false) && okF (F x y true)) = true := by
          intro x y k1 k2 k3
          rw [Bool.and_eq_true, okF_iff, okF_iff]; omega
        unfold ok4 at hk
        rw [e1, e2, e3, e4, g a c f1 (by omega) (by omega), g a d f2 (by omega) (by omega), g b c f3 (by omega) (by omega), g b d f4 (by omega) (by omega)] at hk
        cases hk
    unfold hull4 toldS
    rw [this]; rfl
  | true =>
    unfold ok4 at hk
    simp only [Bool.and_eq_true, Bool.not_eq_true'] at hk
    obtain ⟨⟨k1, k2⟩, k3, k4⟩ := hk
    obtain ⟨a1, a2⟩ := v1 k1; obtain ⟨b1, b2⟩ := v2 k2; obtain ⟨c1, c2⟩ := v3 k3; obtain ⟨d1, d2⟩ := v4 k4
    have el : l3 V a b c d = mn (mn (mn (F a c false) (F a d false)) (F b c false)) (F b d false) := by
      unfold l3 l2 l1; rw [nL_eq, nL_eq, nL_eq, a1, b1, c1, d1]
    have eh : h3 V a b c d = mx (mx (mx (F a c true) (F a d true)) (F b c true)) (F b d true) := by
      unfold h3 h2 h1; rw [nH_eq, nH_eq, nH_eq, a2, b2, c2, d2]
    rw [el, eh]
    have m1 := mn_le (F a c false) (F a d false); have m2 := mn_le (mn (F a c false) (F a d false)) (F b c false); have m3 := mn_le (mn (mn (F a c false) (F a d false)) (F b c false)) (F b d false)
    have n1 := le_mx (F a c true) (F a d true); have n2 := le_mx (mx (F a c true) (F a d true)) (F b c true); have n3 := le_mx (mx (mx (F a c true) (F a d true)) (F b c true)) (F b d true)
    rw [xTb_eq (by omega)]
    unfold hull4 toldS
    simp only [cond_true]
    cases okF (mn (mn (mn (F a c false) (F a d false)) (F b c false)) (F b d false)) && okF (mx (mx (mx (F a c true) (F a d true)) (F b c true)) (F b d true)) <;> rfl

/-! ### Products and quotients -/

theorem bad2_of {e f : Int → Int → Bool → Int} {F : Int → Int → Bool → Int} {x y : Int} (h : (e x y false = 0 ∧ e x y true = 0) ↔ (fitE (F x y false) = 0 ∧ fitE (F x y true) = 0)) : bad2 e x y = !(okF (F x y false) && okF (F x y true)) := by
  unfold bad2
  rcases fitE_cases (F x y false) with ⟨p1, p2, _⟩ | ⟨p1, p2, _⟩ <;> rcases fitE_cases (F x y true) with ⟨q1, q2, _⟩ | ⟨q1, q2, _⟩ <;> rw [p1, q1] at h <;> rw [p2, q2]
  · have := h.2 ⟨rfl, rfl⟩; simp [this.1, this.2]
  all_goals
    simp only [Bool.and_true, Bool.and_false, Bool.not_false, Bool.false_and]
    by_cases h0 : e x y false = 0
    · by_cases h1 : e x y true = 0
      · have := h.1 ⟨h0, h1⟩; omega
      · simp [h0, h1]
    · simp [h0]

theorem mul_corner {x y : Int} (hx : okF x = true) (hy : okF y = true) : bad2 xMulE x y = !(okF (mF x y false) && okF (mF x y true)) ∧ (bad2 xMulE x y = false → xMulV x y false = mF x y false ∧ xMulV x y true = mF x y true) := by
  obtain ⟨a1, a2, a3⟩ := sz_of hx
  obtain ⟨b1, b2, b3⟩ := sz_of hy
  have hb : sg x x * sg y y ≤ 4503599627370496 * 4503599627370496 := Int.mul_le_mul a3 b3 b2 (by decide)
  obtain ⟨p1, p2⟩ := pair_law (p := sg x x * sg y y) (d := 4294967296) (Int.mul_nonneg a2 b2) (by omega) (by decide) (by decide) (xNeg x y) (x * y) (xNeg_mul x y)
  have e0 : xAll x y = 0 := by rw [xAll_eq, hx, hy]; rfl
  have eE : ∀ up, xMulE x y up = xE (sg x x * sg y y) 4294967296 up (xNeg x y) := fun up => by unfold xMulE; rw [e0, a1, b1]; rfl
  have eV : ∀ up, xMulV x y up = xV (sg x x * sg y y) 4294967296 up (xNeg x y) := fun up => by unfold xMulV; rw [e0, a1, b1]; rfl
  have key := bad2_of (e := xMulE) (f := xMulE) (F := mF) (x := x) (y := y) (by rw [eE, eE]; exact p1)
  refine ⟨key, fun h => ?_⟩
  rw [key] at h
  simp only [Bool.not_eq_false', Bool.and_eq_true] at h
  rw [eV, eV]
  refine p2 ?_ ?_
  · unfold fitE; rw [show rd (x * y) 4294967296 false = mF x y false from rfl, h.1]; rfl
  · unfold fitE; rw [show rd (x * y) 4294967296 true = mF x y true from rfl, h.2]; rfl

theorem okF_of_sp {a b : Int} (h : okSp a b = true) : okF a = true ∧ okF b = true := by
  have := okSp_iff.1 h
  exact ⟨okF_iff.2 (by omega), okF_iff.2 (by omega)⟩

theorem xMulS_eq (a b c d : Int) : xMulS a b c d = mulS a b c d := by
  unfold xMulS mulS both
  rw [xAll2_eq]
  cases h1 : okSp a b with
  | false => simp [err]
  | true =>
    cases h2 : okSp c d with
    | false => simp [err]
    | true =>
      obtain ⟨ha, hb⟩ := okF_of_sp h1
      obtain ⟨hc, hd⟩ := okF_of_sp h2
      rw [← hull_law xMulV xMulE mF a b c d (fun x y _ _ => rd_le _ _ (by decide)) fun x y hx hy => mul_corner (by rcases hx with rfl | rfl <;> assumption) (by rcases hy with rfl | rfl <;> assumption)]
      rfl

theorem xNeg_div (a b : Int) : sg (a * 4294967296) b = bif xNeg a b then -(sg a a * 4294967296) else sg a a * 4294967296 := by
  unfold xNeg sg
  by_cases h : a < 0 <;> by_cases k : b < 0 <;> simp [h, k, Int.neg_mul]

theorem div_corner {x y : Int} (hx : okF x = true) (hy : okF y = true) (h0 : y ≠ 0) : bad2 xDivE x y = !(okF (dF x y false) && okF (dF x y true)) ∧ (bad2 xDivE x y = false → xDivV x y false = dF x y false ∧ xDivV x y true = dF x y true) := by
  obtain ⟨a1, a2, a3⟩ := sz_of hx
  obtain ⟨b1, b2, b3⟩ := sz_of hy
  have hpos : 0 < sg y y := by rcases sg_cases y with ⟨_, e⟩ | ⟨_, e⟩ <;> omega
  obtain ⟨p1, p2⟩ := pair_law (p := sg x x * 4294967296) (d := sg y y) (by omega) (by omega) hpos (by omega) (xNeg x y) (sg (x * 4294967296) y) (xNeg_div x y)
  have e0 : xAll x y = 0 := by rw [xAll_eq, hx, hy]; rfl
  have e00 : (y == 0) = false := by simp [h0]
  have eE : ∀ up, xDivE x y up = xE (sg x x * 4294967296) (sg y y) up (xNeg x y) := fun up => by unfold xDivE; rw [e0, a1, b1, e00]; rfl
  have eV : ∀ up, xDivV x y up = xV (sg x x * 4294967296) (sg y y) up (xNeg x y) := fun up => by unfold xDivV; rw [e0, a1, b1, e00]; rfl
  have key := bad2_of (e := xDivE) (f := xDivE) (F := dF) (x := x) (y := y) (by rw [eE, eE]; exact p1)
  refine ⟨key, fun h => ?_⟩
  rw [key] at h
  simp only [Bool.not_eq_false', Bool.and_eq_true] at h
  rw [eV, eV]
  refine p2 ?_ ?_
  · unfold fitE; rw [show rd (sg (x * 4294967296) y) (sg y y) false = dF x y false from rfl, h.1]; rfl
  · unfold fitE; rw [show rd (sg (x * 4294967296) y) (sg y y) true = dF x y true from rfl, h.2]; rfl

theorem xZ_eq (c d : Int) : xZ c d = (decide (c ≤ 0) && decide (0 ≤ d)) := by
  unfold xZ
  by_cases h : c ≤ 0 <;> simp [h]

theorem xDivS_eq (a b c d : Int) : xDivS a b c d = divS a b c d := by
  unfold xDivS divS both
  rw [xAll2_eq, xZ_eq]
  cases h1 : okSp a b with
  | false => simp [err]
  | true =>
    cases h2 : okSp c d with
    | false => simp [err]
    | true =>
      cases h3 : (decide (c ≤ 0) && decide (0 ≤ d)) with
      | true => simp [err]
      | false =>
        obtain ⟨ha, hb⟩ := okF_of_sp h1
        obtain ⟨hc, hd⟩ := okF_of_sp h2
        have h2 := okSp_iff.1 h2
        have nz : ∀ y, (y = c ∨ y = d) → y ≠ 0 := by
          intro y hy h0
          simp only [Bool.and_eq_false_iff, decide_eq_false_iff_not] at h3
          rcases hy with rfl | rfl <;> omega
        rw [← hull_law xDivV xDivE dF a b c d (fun x y _ hy => rd_le _ _ (by have := nz y hy; rcases sg_cases y with ⟨_, e⟩ | ⟨_, e⟩ <;> omega))
          fun x y hx hy => div_corner (by rcases hx with rfl | rfl <;> assumption) (by rcases hy with rfl | rfl <;> assumption) (nz y hy)]
        rfl

end Go.Ar

/- Squares and scaled intervals. No program. -/
namespace Go.Ar
open Go

/-! ### Squares -/

def pwS (v : Int) : Int := IntKind.u64.wrap (if IntKind.i64.wrap (0 - v) > v then IntKind.i64.wrap (0 - v) else v)
def pw2 (v : Int) : Int := 1 * pwS v
def pw3 (v : Int) : Int := pw2 v % two64
def pw4 (v : Int) : Int := pw3 v + 0 + 0
def pw5 (v : Int) : Int := pw4 v % 18446744073709551616
def pw6 (v : Int) : Int := pw5 v * pwS v
def pw7 (v : Int) : Int := pw6 v % two64
def pw8 (v : Int) : Int := IntKind.u64.wrap (pw2 v / two64 + pw4 v / 18446744073709551616)
def pw9 (v : Int) : Int := pw8 v * pwS v
def pw10 (v : Int) : Int := pw9 v % two64
def pw11 (v : Int) : Int := pw7 v + 0 + 0
def pw12 (v : Int) : Int := IntKind.u64.wrap (pw6 v / two64 + pw11 v / 18446744073709551616)
def pw13 (v : Int) : Int := pw10 v + pw12 v + 0
def pw14 (v : Int) : Int := pw13 v % 18446744073709551616
def pw15 : Int := 2 ^ min (Int.ofNat 32).toNat IntKind.u64.bits
def pw16 (v : Int) : Bool := decide ((pw14 v).fdiv pw15 > 0)
def pw17 (v : Int) : Int := IntKind.u64.wrap (pw9 v / two64 + pw13 v / 18446744073709551616)
def pw18 (v : Int) : Bool := decide (pw17 v > 0)
def pw19 (v : Int) : Int := pw11 v % 18446744073709551616
def pw20 (v : Int) : Int := bif pw16 v then 0 else bif pw18 v then 0 else
  IntKind.u64.wrap ↑(BitVec.ofInt IntKind.u64.bits ((pw19 v).fdiv pw15) ||| BitVec.ofInt IntKind.u64.bits (IntKind.u64.wrap (pw14 v * pw15))).toNat
def pw21 (v : Int) : Int := IntKind.u64.wrap ↑(BitVec.ofInt IntKind.u64.bits (pw19 v) &&& BitVec.ofInt IntKind.u64.bits 4294967295).toNat
def pwBig (v : Int) : Bool := bif !(bif pw16 v then false else bif pw18 v then false else true) then true else decide (pw20 v > 4503599627370496)
def pwD (v : Int) : Int := bif pwBig v then 0 else IntKind.i64.wrap (pw20 v)
def pwU (v : Int) : Int := bif pwBig v then 0 else bif bif pw16 v then false else bif pw18 v then false else decide (pw21 v > 0) then IntKind.i64.wrap (IntKind.i64.wrap (pw20 v) + 1) else IntKind.i64.wrap (pw20 v)
def pwE (v : Int) : Int := bif pwBig v then 6 else 0
def xAdd (x y : Int) : Prop := decide (0 ≤ x ∧ 0 ≤ y ∧ (0 : Int) ≤ 0 ∧ (0 : Int) ≤ 1) = true
def pwN (v : Int) : Prop := (xIn 1 (pwS v) ∧ xAdd (pw3 v) 0) ∧ (xIn (pw5 v) (pwS v) ∧ xAdd (pw7 v) 0) ∧ xIn (pw8 v) (pwS v) ∧ xAdd (pw10 v) (pw12 v)

/-- What it is, for a fixed-point number. -/
def sqD (v : Int) : Int := bif decide (v * v / 4294967296 > 4503599627370496) then 0 else rd (v * v) 4294967296 false
def sqU (v : Int) : Int := bif decide (v * v / 4294967296 > 4503599627370496) then 0 else rd (v * v) 4294967296 true
def sqE (v : Int) : Int := bif decide (v * v / 4294967296 > 4503599627370496) then 6 else 0

theorem pwS_eq {v : Int} (h : okF v = true) : pwS v = sg v v := by
  have h := okF_iff.1 h
  unfold pwS
  rw [i64w (n := 0 - v) (by omega) (by omega)]
  rcases sg_cases v with ⟨h1, e⟩ | ⟨h1, e⟩ <;> rw [e] <;> split <;> rw [u64w (by omega) (by omega)] <;> omega

theorem and32 (n : Nat) (h : n < 18446744073709551616) : IntKind.u64.wrap ↑(BitVec.ofInt IntKind.u64.bits (n : Int) &&& BitVec.ofInt IntKind.u64.bits 4294967295).toNat = ((n % 4294967296 : Nat) : Int) := Go.Eng.dLow_eq n h

theorem pw_law {v : Int} (h : okF v = true) : pwD v = sqD v ∧ pwU v = sqU v ∧ pwE v = sqE v ∧ pwN v := by
  obtain ⟨_, s1, s2⟩ := sz_of h
  have e1 := pwS_eq h
  have es : v * v = sg v v * sg v v := by
    rcases sg_cases v with ⟨_, e⟩ | ⟨_, e⟩ <;> rw [e]
    rw [Int.neg_mul, Int.mul_neg, Int.neg_neg]
  have hq : sg v v * sg v v ≤ 4503599627370496 * 4503599627370496 := Int.mul_le_mul s2 s2 s1 (by decide)
  have hq0 : 0 ≤ sg v v * sg v v := Int.mul_nonneg s1 s1
  have q2 : pw2 v = sg v v := by unfold pw2; rw [e1]; omega
  have q3 : pw3 v = sg v v := by unfold pw3 two64; rw [q2]; omega
  have q4 : pw4 v = sg v v := by unfold pw4; rw [q3]; omega
  have q5 : pw5 v = sg v v := by unfold pw5; rw [q4]; omega
  have q6 : pw6 v = sg v v * sg v v := by unfold pw6; rw [q5, e1]
  have q8 : pw8 v = 0 := by unfold pw8 two64; rw [q2, q4, u64w] <;> omega
  have q9 : pw9 v = 0 := by unfold pw9; rw [q8]; omega
  have q10 : pw10 v = 0 := by unfold pw10 two64; rw [q9]; rfl
  generalize hP : sg v v * sg v v = P at *
  have q7 : pw7 v = P % 18446744073709551616 := by unfold pw7 two64; rw [q6]
  have q11 : pw11 v = P % 18446744073709551616 := by unfold pw11; rw [q7]; omega
  have q12 : pw12 v = P / 18446744073709551616 := by unfold pw12 two64; rw [q6, q11, u64w] <;> omega
  have q13 : pw13 v = P / 18446744073709551616 := by unfold pw13; rw [q10, q12]; omega
  have q14 : pw14 v = P / 18446744073709551616 := by unfold pw14; rw [q13]; omega
  have q15 : pw15 = 4294967296 := by decide
  have q16 : pw16 v = decide (4294967296 ≤ P / 18446744073709551616) := by
    unfold pw16
    rw [q14, q15, Int.fdiv_eq_ediv_of_nonneg _ (by decide)]
    rw [Bool.eq_iff_iff]; simp only [decide_eq_true_eq]; omega
  have q17 : pw17 v = 0 := by unfold pw17 two64; rw [q9, q13, u64w] <;> omega
  have q18 : pw18 v = false := by unfold pw18; rw [q17]; rfl
  have q19 : pw19 v = P % 18446744073709551616 := by unfold pw19; rw [q11]; omega
  have nd : pwN v := by
    unfold pwN
    rw [e1, q3, q5, q7, q8, q10, q12]
    refine ⟨⟨xIn_of (by omega) (by omega) (by omega) (by omega), ?_⟩, ⟨xIn_of (by omega) (by omega) (by omega) (by omega), ?_⟩, xIn_of (by omega) (by omega) (by omega) (by omega), ?_⟩ <;> unfold xAdd <;> rw [decide_eq_true_eq] <;> omega
  have e21 : pw21 v = P % 4294967296 := by
    unfold pw21
    rw [q19]
    obtain ⟨n, hn⟩ := Int.eq_ofNat_of_zero_le (show 0 ≤ P % 18446744073709551616 by omega)
    rw [hn, and32 n (by omega)]
    omega
  have big : pwBig v = decide (v * v / 4294967296 > 4503599627370496) ∧ (pwBig v = false → pw20 v = P / 4294967296 ∧ pw16 v = false) := by
    unfold pwBig
    rw [q18, q16]
    by_cases hb : 4294967296 ≤ P / 18446744073709551616
    · refine ⟨?_, fun h => by simp [hb] at h⟩
      rw [es]
      simp [hb]; omega
    · have hor : pw20 v = P / 4294967296 := by
        unfold pw20
        rw [q16, q18, q19, q14, q15, decide_eq_false hb]
        simp only [cond_false]
        rw [Int.fdiv_eq_ediv_of_nonneg _ (by decide), u64w (n := P / 18446744073709551616 * 4294967296) (by omega) (by omega)]
        obtain ⟨n, hn⟩ := Int.eq_ofNat_of_zero_le (show 0 ≤ P % 18446744073709551616 / 4294967296 by omega)
        obtain ⟨m, hm⟩ := Int.eq_ofNat_of_zero_le (show 0 ≤ P / 18446744073709551616 by omega)
        rw [hn, hm, show (m : Int) * 4294967296 = ((m * 4294967296 : Nat) : Int) by omega, Go.Eng.dOr_eq _ _ (by omega) (by omega)]
        have : n ||| m * 4294967296 = m * 4294967296 + n := by
          rw [Nat.or_comm, Nat.mul_comm]
          exact (Nat.two_pow_add_eq_or_of_lt (i := 32) (show n < 2 ^ 32 by omega) m).symm
        rw [this]
        omega
      rw [hor, decide_eq_false hb, es]
      exact ⟨rfl, fun _ => ⟨rfl, rfl⟩⟩
  obtain ⟨b1, b2⟩ := big
  refine ⟨?_, ?_, ?_, nd⟩
  · unfold pwD sqD
    cases hb : pwBig v with
    | true => rw [← b1, hb]; rfl
    | false =>
      rw [← b1, hb, (b2 hb).1, es]
      rw [hb] at b1
      have b1 := of_decide_eq_false b1.symm
      rw [es] at b1
      simp only [cond_false]
      rw [i64w (by omega) (by omega)]; rfl
  · unfold pwU sqU
    cases hb : pwBig v with
    | true => rw [← b1, hb]; rfl
    | false =>
      obtain ⟨b3, b4⟩ := b2 hb
      rw [← b1, hb, b3, b4, q18, e21, es]
      rw [hb] at b1
      have b1 := of_decide_eq_false b1.symm
      rw [es] at b1
      simp only [cond_false]
      rw [i64w (n := P / 4294967296) (by omega) (by omega), i64w (n := P / 4294967296 + 1) (by omega) (by omega)]
      unfold rd
      simp only [cond_true]
      by_cases hr : P % 4294967296 > 0
      · rw [decide_eq_true hr]; simp only [cond_true]; omega
      · rw [decide_eq_false hr]; simp only [cond_false]; omega
  · unfold pwE sqE; rw [b1]

end Go.Ar

/- Squares and scaled intervals: the functions of package span. No program. -/
namespace Go.Ar
open Go

def xaM (a b : Int) : Int := if IntKind.i64.wrap (0 - b) > a then IntKind.i64.wrap (0 - b) else a
def xaL0 (a b : Int) : Int := if 0 > xaM a b then 0 else xaM a b
def xaH0 (a b : Int) : Int := if IntKind.i64.wrap (0 - a) > b then IntKind.i64.wrap (0 - a) else b
def xaL (a b : Int) : Int := bif xCS a b != 0 then 0 else bif xTb (xaL0 a b) (xaH0 a b) then 0 else xaL0 a b
def xaH (a b : Int) : Int := bif xCS a b != 0 then 0 else bif xTb (xaL0 a b) (xaH0 a b) then 0 else xaH0 a b
def xsqBad (a b : Int) : Bool := bif sqE (xaL a b) != 0 then true else sqE (xaH a b) != 0
def xSqrS (a b : Int) : Sp :=
  ⟨bif xCS a b != 0 then 0 else bif xsqBad a b then 0 else bif xTb (sqD (xaL a b)) (sqU (xaH a b)) then 0 else sqD (xaL a b),
   bif xCS a b != 0 then 0 else bif xsqBad a b then 0 else bif xTb (sqD (xaL a b)) (sqU (xaH a b)) then 0 else sqU (xaH a b),
   bif xCS a b != 0 then xCS a b else bif xsqBad a b then 6 else bif xTb (sqD (xaL a b)) (sqU (xaH a b)) then 6 else 0⟩
def xSqrN (a b : Int) : Prop := (!(xCS a b != 0)) = true → okF (xaL a b) = true ∧ okF (xaH a b) = true

theorem xa_eq {a b : Int} (h : okSp a b = true) : xaL a b = abL a b ∧ xaH a b = abH a b ∧ 0 ≤ abL a b ∧ abL a b ≤ abH a b ∧ abH a b ≤ 4503599627370496 := by
  have k := okSp_iff.1 h
  have l0 : xaL0 a b = abL a b := by
    unfold xaL0 xaM abL mx
    rw [i64w (by omega) (by omega)]
    by_cases h1 : a < -b
    · rw [if_pos (show 0 - b > a by omega), decide_eq_true h1]
      simp only [cond_true]
      by_cases h2 : -b < 0
      · rw [if_pos (by omega), decide_eq_true h2]; rfl
      · rw [if_neg (by omega), decide_eq_false h2]; simp only [cond_false]; omega
    · rw [if_neg (show ¬ 0 - b > a by omega), decide_eq_false h1]
      simp only [cond_false]
      by_cases h2 : a < 0
      · rw [if_pos (by omega), decide_eq_true h2]; rfl
      · rw [if_neg (by omega), decide_eq_false h2]; rfl
  have h0 : xaH0 a b = abH a b := by
    unfold xaH0 abH mx
    rw [i64w (by omega) (by omega)]
    by_cases h1 : b < -a
    · rw [if_pos (show 0 - a > b by omega), decide_eq_true h1]; simp only [cond_true]; omega
    · rw [if_neg (show ¬ 0 - a > b by omega), decide_eq_false h1]; rfl
  have bl : 0 ≤ abL a b ∧ abL a b ≤ abH a b ∧ abH a b ≤ 4503599627370496 := by
    unfold abL abH
    have m1 := le_mx a (-b); have m2 := le_mx (mx a (-b)) 0; have m3 := le_mx b (-a)
    omega
  have ht : xTb (abL a b) (abH a b) = false := by
    unfold xTb; rw [decide_eq_false (by omega), decide_eq_false (by omega)]; rfl
  unfold xaL xaH
  rw [l0, h0, ht, xCS_eq, h]
  exact ⟨rfl, rfl, bl⟩

theorem xSqrN_all (a b : Int) : xSqrN a b := by
  intro h
  rw [xCS_eq] at h
  cases k : okSp a b with
  | false => rw [k] at h; cases h
  | true =>
    obtain ⟨e1, e2, b1, b2, b3⟩ := xa_eq k
    rw [e1, e2, okF_iff, okF_iff]; omega

theorem xSqrS_eq (a b : Int) : xSqrS a b = sqrS a b := by
  unfold xSqrS sqrS
  rw [xCS_eq]
  cases h : okSp a b with
  | false => simp [err]
  | true =>
    obtain ⟨e1, e2, b1, b2, b3⟩ := xa_eq h
    unfold xsqBad
    rw [e1, e2]
    have q : abL a b * abL a b ≤ abH a b * abH a b := Int.mul_le_mul b2 b2 b1 (by omega)
    have q0 : 0 ≤ abL a b * abL a b := Int.mul_nonneg b1 b1
    unfold sqE sqD sqU toldS
    generalize hP : abL a b * abL a b = P at *
    generalize hQ : abH a b * abH a b = Q at *
    have u1 : rd P 4294967296 false = P / 4294967296 := rfl
    have u2 : rd Q 4294967296 true = Q / 4294967296 + (if 0 < Q % 4294967296 then 1 else 0) := by
      unfold rd; simp only [cond_true]; rw [neg_div (by decide)]; omega
    have okl : okF (rd P 4294967296 false) = !decide (P / 4294967296 > 4503599627370496) := by
      rw [u1]; unfold okF
      rw [decide_eq_true (show (-4503599627370496 : Int) ≤ P / 4294967296 by omega), Bool.true_and, Bool.eq_iff_iff]
      simp only [decide_eq_true_eq, Bool.not_eq_true', decide_eq_false_iff_not]; omega
    cases hp : decide (P / 4294967296 > 4503599627370496) with
    | true => rw [okl, hp]; simp [err]
    | false =>
      have hp' := of_decide_eq_false hp
      cases hq : decide (Q / 4294967296 > 4503599627370496) with
      | true =>
        have hq' := of_decide_eq_true hq
        have : okF (rd Q 4294967296 true) = false := by rw [okF_false, u2]; split <;> omega
        rw [this]; simp [err]
      | false =>
        have hq' := of_decide_eq_false hq
        simp only [cond_false, cond_true, bne_self_eq_false]
        rw [xTb_eq (by rw [u1, u2]; split <;> omega)]
        cases okF (rd P 4294967296 false) && okF (rd Q 4294967296 true) <;> simp [err]

/-! ### Scale -/

theorem rd_lt_rd {n m d : Int} (hd : 0 < d) (h : n ≤ m) (up : Bool) : rd n d up ≤ rd m d up := by
  unfold rd
  cases up with
  | false => exact Int.ediv_le_ediv hd h
  | true =>
    have := Int.ediv_le_ediv hd (show -m ≤ -n by omega)
    simp only [cond_true]; omega

theorem sc_law {x n d : Int} (hx : okF x = true) (hn : 0 ≤ n) (hr : okR n d = true) (hb : sg x x * n < 18446744073709551615 * d) (up : Bool) : xScV x n d up = fitV (rd (x * n) d up) ∧ xScE x n d up = fitE (rd (x * n) d up) := by
  obtain ⟨a1, a2, a3⟩ := sz_of hx
  simp only [okR, Bool.and_eq_true, decide_eq_true_eq] at hr
  obtain ⟨⟨⟨n1, n2⟩, d1⟩, d2⟩ := hr
  have en : xSz n = n := by rw [xSz_eq (by omega) (by omega)]; rcases sg_cases n with ⟨_, e⟩ | ⟨_, e⟩ <;> omega
  have esn : sg n n = n := by rcases sg_cases n with ⟨_, e⟩ | ⟨_, e⟩ <;> omega
  have ed : IntKind.u64.wrap d = d := u64w (by omega) (by omega)
  have ok : xOkS x n d = false := by
    rw [xOkS_eq]; unfold okS; rw [hx, decide_eq_true n1, decide_eq_true n2, decide_eq_true d1, decide_eq_true d2]; rfl
  have hm : sg x x * n ≤ 4503599627370496 * 4611686018427387904 := Int.mul_le_mul a3 n2 hn (by decide)
  obtain ⟨v, e, _⟩ := xN_eq (p := sg x x * n) (d := d) (Int.mul_nonneg a2 hn) (by omega) (by omega) (by omega) up (xNeg x n) (x * n) (by have := xNeg_mul x n; rw [esn] at this; exact this) (.inl hb)
  unfold xScV xScE
  rw [ok, a1, en, ed]
  exact ⟨v, e⟩

theorem sc_bad {x n d : Int} (h : okR n d = false) (up : Bool) : xScE x n d up = 2 := by
  unfold xScE
  have : xOkS x n d = true := by
    rw [xOkS_eq]; unfold okS okR at *; rw [h, Bool.and_false]; rfl
  rw [this]; rfl

theorem xScaleS_eq (a b n d : Int) (hb : okSp a b = true → okR n d = true → abH a b * sg n n < 18446744073709551615 * d) : xScaleS a b n d = scaleS a b n d := by
  unfold xScaleS scaleS
  rw [xCS_eq]
  cases h : okSp a b with
  | false => simp [err]
  | true =>
    have k := okSp_iff.1 h
    cases hr : okR n d with
    | false =>
      have hx : xsOk n = true → xsBad a b n d = true ∧ xScE (xsA a b n) (xsN n) d false = 2 ∧ xScE (xsB a b n) (xsN n) d true = 2 := by
        intro ho
        have hr2 : okR (xsN n) d = false := by
          unfold xsN
          by_cases hn : n < 0
          · simp only [xsOk, hn, decide_true, cond_true, Bool.not_eq_true', decide_eq_false_iff_not] at ho
            rw [decide_eq_true hn, cond_true, i64w (by omega) (by omega)]
            simp only [okR, Bool.and_eq_false_iff, decide_eq_false_iff_not] at hr ⊢
            omega
          · rw [decide_eq_false hn]; exact hr
        have e1 := sc_bad (x := xsA a b n) hr2 false
        have e2 := sc_bad (x := xsB a b n) hr2 true
        exact ⟨by unfold xsBad; rw [e1]; rfl, e1, e2⟩
      cases ho : xsOk n with
      | false => simp [err]
      | true =>
        obtain ⟨h1, h2, h3⟩ := hx ho
        simp [h1, h2, h3, err]
    | true =>
      have hb := hb h hr
      have hr' := hr
      simp only [okR, Bool.and_eq_true, decide_eq_true_eq] at hr'
      obtain ⟨⟨⟨n1, n2⟩, d1⟩, d2⟩ := hr'
      have ho : xsOk n = true := by
        unfold xsOk
        by_cases hn : n < 0
        · rw [decide_eq_true hn, decide_eq_false (by omega)]; rfl
        · rw [decide_eq_false hn]; rfl
      have m3 := le_mx b (-a)
      -- the sizes
      have core : ∀ (x y m : Int), 0 ≤ m → m ≤ 4611686018427387904 → okF x = true → okF y = true → x ≤ y → sg x x ≤ abH a b → sg y y ≤ abH a b → abH a b * m < 18446744073709551615 * d →
          (⟨bif (bif xScE x m d false != 0 then true else xScE y m d true != 0) then 0 else xScV x m d false, bif (bif xScE x m d false != 0 then true else xScE y m d true != 0) then 0 else xScV y m d true,
            bif (bif xScE x m d false != 0 then true else xScE y m d true != 0) then (if xScE y m d true > xScE x m d false then xScE y m d true else xScE x m d false) else 0⟩ : Sp) = toldS (rd (x * m) d false) (rd (y * m) d true) := by
        intro x y m m0 m1 hx hy hxy sx sy hbm
        have hr2 : okR m d = true := by simp [okR]; omega
        have bx : sg x x * m < 18446744073709551615 * d := Int.lt_of_le_of_lt (Int.mul_le_mul_of_nonneg_right sx m0) hbm
        have by' : sg y y * m < 18446744073709551615 * d := Int.lt_of_le_of_lt (Int.mul_le_mul_of_nonneg_right sy m0) hbm
        obtain ⟨v1, e1⟩ := sc_law hx m0 hr2 bx false
        obtain ⟨v2, e2⟩ := sc_law hy m0 hr2 by' true
        rw [v1, e1, v2, e2]
        unfold toldS
        rcases fitE_cases (rd (x * m) d false) with ⟨p1, p2, p3⟩ | ⟨p1, p2, p3⟩ <;> rcases fitE_cases (rd (y * m) d true) with ⟨q1, q2, q3⟩ | ⟨q1, q2, q3⟩ <;> rw [p1, p2, p3, q1, q2, q3] <;> rfl
      unfold xsBad
      rw [ho]
      simp only [bne_self_eq_false, cond_false, cond_true]
      by_cases hn : n < 0
      · have ea : xsA a b n = -b := by unfold xsA; rw [decide_eq_true hn, cond_true, i64w (by omega) (by omega)]; omega
        have eb : xsB a b n = -a := by unfold xsB; rw [decide_eq_true hn, cond_true, i64w (by omega) (by omega)]; omega
        have en : xsN n = -n := by unfold xsN; rw [decide_eq_true hn, cond_true, i64w (by omega) (by omega)]; omega
        have esn : sg n n = -n := by rcases sg_cases n with ⟨_, e⟩ | ⟨_, e⟩ <;> omega
        rw [esn] at hb
        rw [ea, eb, en]
        rw [core (-b) (-a) (-n) (by omega) (by omega) (okF_iff.2 (by omega)) (okF_iff.2 (by omega)) (by omega)
          (by unfold abH; rcases sg_cases (-b) with ⟨_, e⟩ | ⟨_, e⟩ <;> omega) (by unfold abH; rcases sg_cases (-a) with ⟨_, e⟩ | ⟨_, e⟩ <;> omega) hb]
        have hmul : b * n ≤ a * n := Int.mul_le_mul_of_nonpos_right k.2.1 (by omega)
        have e1 : mn (a * n) (b * n) = b * n := by
          unfold mn; by_cases h2 : b * n < a * n
          · rw [decide_eq_true h2]; rfl
          · rw [decide_eq_false h2]; simp only [cond_false]; omega
        have e2 : mx (a * n) (b * n) = a * n := by
          unfold mx; rw [decide_eq_false (by omega)]; rfl
        rw [e1, e2, Int.neg_mul_neg, Int.neg_mul_neg]
      · have ea : xsA a b n = a := by unfold xsA; rw [decide_eq_false hn]; rfl
        have eb : xsB a b n = b := by unfold xsB; rw [decide_eq_false hn]; rfl
        have en : xsN n = n := by unfold xsN; rw [decide_eq_false hn]; rfl
        have esn : sg n n = n := by rcases sg_cases n with ⟨_, e⟩ | ⟨_, e⟩ <;> omega
        rw [esn] at hb
        rw [ea, eb, en]
        rw [core a b n (by omega) n2 (okF_iff.2 (by omega)) (okF_iff.2 (by omega)) k.2.1
          (by unfold abH; rcases sg_cases a with ⟨_, e⟩ | ⟨_, e⟩ <;> omega) (by unfold abH; rcases sg_cases b with ⟨_, e⟩ | ⟨_, e⟩ <;> omega) hb]
        have hmul : a * n ≤ b * n := Int.mul_le_mul_of_nonneg_right k.2.1 (by omega)
        have e1 : mn (a * n) (b * n) = a * n := by
          unfold mn; rw [decide_eq_false (by omega)]; rfl
        have e2 : mx (a * n) (b * n) = b * n := by
          unfold mx; by_cases h2 : a * n < b * n
          · rw [decide_eq_true h2]; rfl
          · rw [decide_eq_false h2]; simp only [cond_false]; omega
        rw [e1, e2]

end Go.Ar

/- Enclosures: what the operations of spans keep. No program. -/
namespace Go.Rd
open Go Go.Eng Go.Ar

/-- A span that is right and within ±M. -/
structure Bd (s : Sp) (M : Int) : Prop where
  e : s.e = 0
  lo : -M ≤ s.lo
  le : s.lo ≤ s.hi
  hi : s.hi ≤ M
/-- N / D lies in the span. -/
structure En (s : Sp) (N D : Int) : Prop where
  lo : s.lo * D ≤ N
  hi : N ≤ s.hi * D

theorem rd_f {n d : Int} (hd : 0 < d) : rd n d false * d ≤ n ∧ n < rd n d false * d + d := by
  have h1 := Int.mul_ediv_add_emod n d
  have h2 := Int.emod_nonneg n (show d ≠ 0 by omega)
  have h3 := Int.emod_lt_of_pos n hd
  show n / d * d ≤ n ∧ n < n / d * d + d
  rw [Int.mul_comm] at h1
  omega
theorem rd_t {n d : Int} (hd : 0 < d) : n ≤ rd n d true * d ∧ rd n d true * d < n + d := by
  have := rd_f (n := -n) hd
  have e : rd n d true = -(rd (-n) d false) := rfl
  rw [e, Int.neg_mul]
  omega
theorem rd_le_of {n d M : Int} (hd : 0 < d) (h : n ≤ M * d) : rd n d true ≤ M := by
  have := (rd_t (n := n) hd).2
  rcases Int.lt_or_le M (rd n d true) with c | c
  · have : (M + 1) * d ≤ rd n d true * d := Int.mul_le_mul_of_nonneg_right (by omega) (by omega)
    rw [Int.add_mul] at this
    omega
  · exact c
theorem le_rd_of {n d M : Int} (hd : 0 < d) (h : M * d ≤ n) : M ≤ rd n d false := by
  have := (rd_f (n := n) hd).2
  rcases Int.lt_or_le (rd n d false) M with c | c
  · have : (rd n d false + 1) * d ≤ M * d := Int.mul_le_mul_of_nonneg_right (by omega) (by omega)
    rw [Int.add_mul] at this
    omega
  · exact c

/-- The product of numbers within bounds. -/
theorem mul_bd {a n M L : Int} (h1 : -M ≤ a) (h2 : a ≤ M) (h3 : -L ≤ n) (h4 : n ≤ L) : -(M * L) ≤ a * n ∧ a * n ≤ M * L := by
  have k1 := Int.mul_nonneg (show 0 ≤ M - a by omega) (show 0 ≤ L - n by omega)
  have k2 := Int.mul_nonneg (show 0 ≤ M + a by omega) (show 0 ≤ L + n by omega)
  have k3 := Int.mul_nonneg (show 0 ≤ M - a by omega) (show 0 ≤ L + n by omega)
  have k4 := Int.mul_nonneg (show 0 ≤ M + a by omega) (show 0 ≤ L - n by omega)
  constructor <;> grind

/-- N between two numbers, times n. -/
theorem mid_mul {a b N D n l h : Int} (_hD : 0 < D) (h1 : a * D ≤ N) (h2 : N ≤ b * D) (l1 : l ≤ a * n) (l2 : l ≤ b * n) (u1 : a * n ≤ h) (u2 : b * n ≤ h) : l * D ≤ N * n ∧ N * n ≤ h * D := by
  have m1 := Int.mul_le_mul_of_nonneg_right l1 (show 0 ≤ D by omega)
  have m2 := Int.mul_le_mul_of_nonneg_right l2 (show 0 ≤ D by omega)
  have m3 := Int.mul_le_mul_of_nonneg_right u1 (show 0 ≤ D by omega)
  have m4 := Int.mul_le_mul_of_nonneg_right u2 (show 0 ≤ D by omega)
  rcases Int.le_total 0 n with c | c
  · have q1 := Int.mul_le_mul_of_nonneg_right h1 c
    have q2 := Int.mul_le_mul_of_nonneg_right h2 c
    constructor <;> grind
  · have q1 := Int.mul_le_mul_of_nonpos_right h1 c
    have q2 := Int.mul_le_mul_of_nonpos_right h2 c
    constructor <;> grind

theorem scale_op {s : Sp} {n d M L M' : Int} (h : Bd s M) (hM : M ≤ 4503599627370496) (hn : -L ≤ n ∧ n ≤ L) (hL : L ≤ 4611686018427387904) (hd : 1 ≤ d) (hd' : d ≤ 4611686018427387904) (hb : M * L ≤ M' * d) (hM' : M' ≤ 4503599627370496) (hbig : M * L < 18446744073709551615 * d) :
    Bd (xScaleS s.lo s.hi n d) M' ∧ (xScaleS s.lo s.hi n d).lo = rd (mn (s.lo * n) (s.hi * n)) d false ∧ (xScaleS s.lo s.hi n d).hi = rd (mx (s.lo * n) (s.hi * n)) d true := by
  obtain ⟨_, h1, h2, h3⟩ := h
  have ha := mul_bd (n := n) (L := L) h1 (show s.lo ≤ M by omega) hn.1 hn.2
  have hb' := mul_bd (n := n) (L := L) (show -M ≤ s.hi by omega) h3 hn.1 hn.2
  have hx : xScaleS s.lo s.hi n d = scaleS s.lo s.hi n d := xScaleS_eq _ _ _ _ fun _ _ => by
    have q : 0 ≤ abH s.lo s.hi ∧ abH s.lo s.hi ≤ M := by
      have := le_mx s.hi (-s.lo); unfold abH; omega
    have q' : 0 ≤ sg n n ∧ sg n n ≤ L := by
      unfold sg; cases hh : decide (n < 0) <;> simp at hh ⊢ <;> omega
    have := Int.mul_le_mul q.2 q'.2 q'.1 (by omega)
    omega
  have o1 : okSp s.lo s.hi = true := okSp_iff.2 (by omega)
  have o2 : okR n d = true := by simp [okR]; omega
  rw [hx]
  unfold scaleS
  rw [o1, o2, cond_true, cond_true]
  have m := mn_le (s.lo * n) (s.hi * n)
  have k := le_mx (s.lo * n) (s.hi * n)
  have l1 : -M' ≤ rd (mn (s.lo * n) (s.hi * n)) d false := le_rd_of (by omega) (by rw [Int.neg_mul]; omega)
  have l2 : rd (mx (s.lo * n) (s.hi * n)) d true ≤ M' := rd_le_of (by omega) (by omega)
  have l3 := rd_le (mn (s.lo * n) (s.hi * n)) d (by omega)
  have l4 := rd_lt_rd (n := mn (s.lo * n) (s.hi * n)) (m := mx (s.lo * n) (s.hi * n)) (d := d) (by omega) (by omega) true
  unfold toldS
  rw [okF_iff.2 (by omega), okF_iff.2 (by omega)]
  exact ⟨⟨rfl, l1, Int.le_trans l3 l4, l2⟩, rfl, rfl⟩

theorem scale_en {s r : Sp} {n d N D : Int} (hD : 0 < D) (hd : 0 < d) (h : En s N D) (e1 : r.lo = rd (mn (s.lo * n) (s.hi * n)) d false) (e2 : r.hi = rd (mx (s.lo * n) (s.hi * n)) d true) : En r (N * n) (D * d) := by
  have m := mn_le (s.lo * n) (s.hi * n)
  have k := le_mx (s.lo * n) (s.hi * n)
  have f := (rd_f (n := mn (s.lo * n) (s.hi * n)) hd).1
  have t := (rd_t (n := mx (s.lo * n) (s.hi * n)) hd).1
  rw [← e1] at f; rw [← e2] at t
  have := mid_mul (n := n) hD h.lo h.hi (l := r.lo * d) (h := r.hi * d) (by omega) (by omega) (by omega) (by omega)
  refine ⟨?_, ?_⟩
  · have := this.1; grind
  · have := this.2; grind

end Go.Rd

/- Enclosures, continued: sums, squares, roots, quotients. No program. -/
namespace Go.Rd
open Go Go.Eng Go.Ar

theorem add_op {s t : Sp} {M N : Int} (h : Bd s M) (k : Bd t N) (hM : M + N ≤ 4503599627370496) (hp : 0 ≤ M ∧ 0 ≤ N) :
    Bd (addS s.lo s.hi t.lo t.hi) (M + N) ∧ (addS s.lo s.hi t.lo t.hi).lo = s.lo + t.lo ∧ (addS s.lo s.hi t.lo t.hi).hi = s.hi + t.hi := by
  obtain ⟨_, a1, a2, a3⟩ := h
  obtain ⟨_, b1, b2, b3⟩ := k
  unfold addS both toldS
  rw [okSp_iff.2 (by omega), okSp_iff.2 (by omega), okF_iff.2 (by omega), okF_iff.2 (by omega)]
  exact ⟨⟨rfl, show -(M + N) ≤ s.lo + t.lo by omega, show s.lo + t.lo ≤ s.hi + t.hi by omega, show s.hi + t.hi ≤ M + N by omega⟩, rfl, rfl⟩
theorem sub_op {s t : Sp} {M N : Int} (h : Bd s M) (k : Bd t N) (hM : M + N ≤ 4503599627370496) (hp : 0 ≤ M ∧ 0 ≤ N) :
    Bd (subS s.lo s.hi t.lo t.hi) (M + N) ∧ (subS s.lo s.hi t.lo t.hi).lo = s.lo - t.hi ∧ (subS s.lo s.hi t.lo t.hi).hi = s.hi - t.lo := by
  obtain ⟨_, a1, a2, a3⟩ := h
  obtain ⟨_, b1, b2, b3⟩ := k
  unfold subS both toldS
  rw [okSp_iff.2 (by omega), okSp_iff.2 (by omega), okF_iff.2 (by omega), okF_iff.2 (by omega)]
  exact ⟨⟨rfl, show -(M + N) ≤ s.lo - t.hi by omega, show s.lo - t.hi ≤ s.hi - t.lo by omega, show s.hi - t.lo ≤ M + N by omega⟩, rfl, rfl⟩
theorem add_en {s t r : Sp} {N N' D : Int} (h : En s N D) (k : En t N' D) (e1 : r.lo = s.lo + t.lo) (e2 : r.hi = s.hi + t.hi) : En r (N + N') D := by
  obtain ⟨a, b⟩ := h; obtain ⟨c, d⟩ := k
  constructor
  · rw [e1, Int.add_mul]; omega
  · rw [e2, Int.add_mul]; omega
theorem sub_en {s t r : Sp} {N N' D : Int} (h : En s N D) (k : En t N' D) (e1 : r.lo = s.lo - t.hi) (e2 : r.hi = s.hi - t.lo) : En r (N - N') D := by
  obtain ⟨a, b⟩ := h; obtain ⟨c, d⟩ := k
  constructor
  · rw [e1, Int.sub_mul]; omega
  · rw [e2, Int.sub_mul]; omega

/-- Two spans that hold one number meet. -/
theorem en_meet {s t : Sp} {N D : Int} (hD : 0 < D) (h : En s N D) (k : En t N D) : s.lo ≤ t.hi := by
  rcases Int.lt_or_le t.hi s.lo with c | c
  · have := Int.mul_le_mul_of_nonneg_right (show t.hi + 1 ≤ s.lo by omega) (show 0 ≤ D by omega)
    rw [Int.add_mul] at this
    have := h.lo; have := k.hi
    omega
  · exact c

/-- The square of a point. -/
theorem sqr_pt {n : Int} (hn : -32768 ≤ n ∧ n ≤ 32767) : sqrS (n * 16777216) (n * 16777216) = ⟨n * n * 65536, n * n * 65536, 0⟩ := by
  have q := mul_bd (a := n) (n := n) (M := 32768) (L := 32768) (by omega) (by omega) (by omega) (by omega)
  have q0 : 0 ≤ n * n := by
    rcases Int.le_total 0 n with c | c
    · exact Int.mul_nonneg c c
    · exact Int.mul_nonneg_of_nonpos_of_nonpos c c
  have h1 := le_mx (n * 16777216) (-(n * 16777216))
  have h2 := le_mx (mx (n * 16777216) (-(n * 16777216))) 0
  have e : ∀ v : Int, v = n * 16777216 ∨ v = -(n * 16777216) → v * v = n * n * 65536 * 4294967296 := by
    rintro v (rfl | rfl) <;> grind
  have eL : abL (n * 16777216) (n * 16777216) * abL (n * 16777216) (n * 16777216) = n * n * 65536 * 4294967296 := e _ (by unfold abL; omega)
  have eH : abH (n * 16777216) (n * 16777216) * abH (n * 16777216) (n * 16777216) = n * n * 65536 * 4294967296 := e _ (by unfold abH; omega)
  unfold sqrS
  rw [okSp_iff.2 (by omega), eL, eH, cond_true]
  have r1 : rd (n * n * 65536 * 4294967296) 4294967296 false = n * n * 65536 := Int.mul_ediv_cancel _ (by decide)
  have r2 : rd (n * n * 65536 * 4294967296) 4294967296 true = n * n * 65536 := by
    show -(-(n * n * 65536 * 4294967296) / 4294967296) = _
    rw [← Int.neg_mul, Int.mul_ediv_cancel _ (by decide), Int.neg_neg]
  rw [r1, r2]
  unfold toldS
  rw [okF_iff.2 (by omega)]
  rfl

theorem le_of_sq {a b : Int} (hb : 0 ≤ b) (h : a * a ≤ b * b) : a ≤ b := by
  rcases Int.lt_or_le b a with c | c
  · have := Int.mul_le_mul (show b + 1 ≤ a by omega) (show b + 1 ≤ a by omega) (show 0 ≤ b + 1 by omega) (show 0 ≤ a by omega)
    rw [Int.add_mul, Int.mul_add] at this
    omega
  · exact c
theorem lt_of_sq {a b : Int} (hb : 0 ≤ b) (h : a * a < b * b) : a < b := by
  rcases Int.lt_or_le a b with c | c
  · exact c
  · have := Int.mul_le_mul c c hb (Int.le_trans hb c)
    omega

theorem rtV_t {a : Int} (h : sqOk a = true) : 0 ≤ rtV a true ∧ a * 4294967296 ≤ rtV a true * rtV a true ∧ (rtV a true = sqR a ∨ rtV a true = sqR a + 1 ∧ sqR a * sqR a < a * 4294967296) := by
  obtain ⟨q0, q1, q2, _⟩ := sqR_spec h
  unfold rtV
  cases hh : sqR a * sqR a == a * 4294967296 with
  | true =>
    have := of_decide_eq_true (show decide (sqR a * sqR a = a * 4294967296) = true from hh)
    exact ⟨q0, by show _ ≤ sqR a * sqR a; omega, .inl rfl⟩
  | false =>
    have := of_decide_eq_false (show decide (sqR a * sqR a = a * 4294967296) = false from hh)
    exact ⟨by show 0 ≤ sqR a + 1; omega, by show _ ≤ (sqR a + 1) * (sqR a + 1); omega, .inr ⟨rfl, by omega⟩⟩

/-- Roots. -/
theorem sqrt_op {s : Sp} {M K : Int} (h : Bd s M) (h0 : 0 ≤ s.lo) (hM : M ≤ 4503599627370496) (hK : 0 ≤ K ∧ M * 4294967296 ≤ K * K) :
    Bd (sqrtS s.lo s.hi) K ∧ (sqrtS s.lo s.hi).lo * (sqrtS s.lo s.hi).lo ≤ s.lo * 4294967296 ∧ s.hi * 4294967296 ≤ (sqrtS s.lo s.hi).hi * (sqrtS s.lo s.hi).hi ∧ 0 ≤ (sqrtS s.lo s.hi).lo ∧
    s.lo * 4294967296 < ((sqrtS s.lo s.hi).lo + 1) * ((sqrtS s.lo s.hi).lo + 1) := by
  obtain ⟨_, a1, a2, a3⟩ := h
  have s1 : sqOk s.lo = true := by unfold sqOk; rw [okF_iff.2 (by omega)]; simpa using h0
  have s2 : sqOk s.hi = true := by unfold sqOk; rw [okF_iff.2 (by omega)]; simpa using (show 0 ≤ s.hi by omega)
  obtain ⟨u0, u1, u2, _⟩ := sqR_spec s1
  obtain ⟨v0, v1, v2, _⟩ := sqR_spec s2
  obtain ⟨w0, w1, w2⟩ := rtV_t s2
  unfold sqrtS
  rw [okSp_iff.2 (by omega), decide_eq_false (show ¬ s.lo < 0 by omega), cond_true, cond_false]
  have f : rtV s.lo false = sqR s.lo := rfl
  rw [f]
  have i1 : sqR s.lo ≤ rtV s.hi true := le_of_sq w0 (by omega)
  have i2 : rtV s.hi true ≤ K := by
    rcases w2 with w2 | ⟨w2, w3⟩
    · rw [w2]; exact le_of_sq hK.1 (by omega)
    · have := lt_of_sq (a := sqR s.hi) hK.1 (by omega)
      omega
  exact ⟨⟨rfl, show -K ≤ sqR s.lo by omega, i1, i2⟩, u1, w1, u0, u2⟩

end Go.Rd

/- Enclosures, continued: products and quotients. No program. -/
namespace Go.Rd
open Go Go.Eng Go.Ar

theorem mn4 (p q r s : Int) : mn (mn (mn p q) r) s ≤ p ∧ mn (mn (mn p q) r) s ≤ q ∧ mn (mn (mn p q) r) s ≤ r ∧ mn (mn (mn p q) r) s ≤ s ∧ (∀ m, m ≤ p → m ≤ q → m ≤ r → m ≤ s → m ≤ mn (mn (mn p q) r) s) := by
  have h1 := mn_le p q
  have h2 := mn_le (mn p q) r
  have h3 := mn_le (mn (mn p q) r) s
  refine ⟨by omega, by omega, by omega, by omega, fun m _ _ _ _ => by omega⟩
theorem mx4 (p q r s : Int) : p ≤ mx (mx (mx p q) r) s ∧ q ≤ mx (mx (mx p q) r) s ∧ r ≤ mx (mx (mx p q) r) s ∧ s ≤ mx (mx (mx p q) r) s ∧ (∀ m, p ≤ m → q ≤ m → r ≤ m → s ≤ m → mx (mx (mx p q) r) s ≤ m) := by
  have h1 := le_mx p q
  have h2 := le_mx (mx p q) r
  have h3 := le_mx (mx (mx p q) r) s
  refine ⟨by omega, by omega, by omega, by omega, fun m _ _ _ _ => by omega⟩

/-- The hull of four results within bounds. -/
theorem hull_op {F : Int → Int → Bool → Int} {a b c d M' : Int} (hM' : M' ≤ 4503599627370496)
    (hl : ∀ x y, (x = a ∨ x = b) → (y = c ∨ y = d) → -M' ≤ F x y false ∧ F x y false ≤ F x y true ∧ F x y true ≤ M') :
    Bd (hull4 F a b c d) M' ∧ ∀ x y, (x = a ∨ x = b) → (y = c ∨ y = d) → (hull4 F a b c d).lo ≤ F x y false ∧ F x y true ≤ (hull4 F a b c d).hi := by
  have h1 := hl a c (.inl rfl) (.inl rfl)
  have h2 := hl a d (.inl rfl) (.inr rfl)
  have h3 := hl b c (.inr rfl) (.inl rfl)
  have h4 := hl b d (.inr rfl) (.inr rfl)
  unfold hull4
  obtain ⟨m1, m2, m3, m4, m5⟩ := mn4 (F a c false) (F a d false) (F b c false) (F b d false)
  obtain ⟨k1, k2, k3, k4, k5⟩ := mx4 (F a c true) (F a d true) (F b c true) (F b d true)
  have l := m5 (-M') h1.1 h2.1 h3.1 h4.1
  have u := k5 M' h1.2.2 h2.2.2 h3.2.2 h4.2.2
  generalize mn (mn (mn (F a c false) (F a d false)) (F b c false)) (F b d false) = lo at *
  generalize mx (mx (mx (F a c true) (F a d true)) (F b c true)) (F b d true) = hi at *
  unfold toldS
  rw [okF_iff.2 (by omega), okF_iff.2 (by omega)]
  refine ⟨⟨rfl, l, show lo ≤ hi by omega, u⟩, ?_⟩
  rintro x y (rfl | rfl) (rfl | rfl)
  · exact ⟨m1, k1⟩
  · exact ⟨m2, k2⟩
  · exact ⟨m3, k3⟩
  · exact ⟨m4, k4⟩

theorem mul_op {s t : Sp} {M N M' : Int} (h : Bd s M) (k : Bd t N) (hM : M ≤ 4503599627370496) (hN : N ≤ 4503599627370496) (hM' : M' ≤ 4503599627370496)
    (hb : ∀ x y, (x = s.lo ∨ x = s.hi) → (y = t.lo ∨ y = t.hi) → -(M' * 4294967296) ≤ x * y ∧ x * y ≤ M' * 4294967296) :
    Bd (mulS s.lo s.hi t.lo t.hi) M' ∧ ∀ x y, (x = s.lo ∨ x = s.hi) → (y = t.lo ∨ y = t.hi) → (mulS s.lo s.hi t.lo t.hi).lo * 4294967296 ≤ x * y ∧ x * y ≤ (mulS s.lo s.hi t.lo t.hi).hi * 4294967296 := by
  obtain ⟨_, a1, a2, a3⟩ := h
  obtain ⟨_, b1, b2, b3⟩ := k
  have e : mulS s.lo s.hi t.lo t.hi = hull4 mF s.lo s.hi t.lo t.hi := by
    unfold mulS both
    rw [okSp_iff.2 (by omega), okSp_iff.2 (by omega)]
    rfl
  rw [e]
  obtain ⟨q1, q2⟩ := hull_op (F := mF) (a := s.lo) (b := s.hi) (c := t.lo) (d := t.hi) hM' fun x y hx hy => by
    have := hb x y hx hy
    exact ⟨le_rd_of (by decide) (by omega), rd_le _ _ (by decide), rd_le_of (by decide) (by omega)⟩
  refine ⟨q1, fun x y hx hy => ?_⟩
  have := q2 x y hx hy
  have f : mF x y false * 4294967296 ≤ x * y := (rd_f (n := x * y) (d := 4294967296) (by decide)).1
  have g : x * y ≤ mF x y true * 4294967296 := (rd_t (n := x * y) (d := 4294967296) (by decide)).1
  omega

theorem mul_en {s t r : Sp} {N D V E : Int} (hD : 0 < D) (hE : 0 < E) (h : En s N D) (k : En t V E)
    (c : ∀ x y, (x = s.lo ∨ x = s.hi) → (y = t.lo ∨ y = t.hi) → r.lo * 4294967296 ≤ x * y ∧ x * y ≤ r.hi * 4294967296) :
    En r (N * V) (4294967296 * (D * E)) := by
  have c1 := c s.lo t.lo (.inl rfl) (.inl rfl)
  have c2 := c s.hi t.lo (.inr rfl) (.inl rfl)
  have c3 := c s.lo t.hi (.inl rfl) (.inr rfl)
  have c4 := c s.hi t.hi (.inr rfl) (.inr rfl)
  have p := mid_mul (n := t.lo) hD h.lo h.hi c1.1 c2.1 c1.2 c2.2
  have q := mid_mul (n := t.hi) hD h.lo h.hi c3.1 c4.1 c3.2 c4.2
  have z := mid_mul (a := t.lo) (b := t.hi) (N := V) (D := E) (n := N) (l := r.lo * 4294967296 * D) (h := r.hi * 4294967296 * D) hE k.lo k.hi (by rw [Int.mul_comm t.lo]; exact p.1) (by rw [Int.mul_comm t.hi]; exact q.1) (by rw [Int.mul_comm t.lo]; exact p.2) (by rw [Int.mul_comm t.hi]; exact q.2)
  constructor
  · have := z.1; grind
  · have := z.2; grind

theorem div_op {s t : Sp} {M N M' c : Int} (h : Bd s M) (k : Bd t N) (hM : M ≤ 4503599627370496) (hN : N ≤ 4503599627370496) (hM' : M' ≤ 4503599627370496) (hc : 0 < c ∧ c ≤ t.lo)
    (hb : M * 4294967296 ≤ M' * c) (h0 : 0 ≤ M') :
    Bd (divS s.lo s.hi t.lo t.hi) M' ∧ ∀ x y, (x = s.lo ∨ x = s.hi) → (y = t.lo ∨ y = t.hi) → (divS s.lo s.hi t.lo t.hi).lo * y ≤ x * 4294967296 ∧ x * 4294967296 ≤ (divS s.lo s.hi t.lo t.hi).hi * y := by
  obtain ⟨_, a1, a2, a3⟩ := h
  obtain ⟨_, b1, b2, b3⟩ := k
  have e : divS s.lo s.hi t.lo t.hi = hull4 dF s.lo s.hi t.lo t.hi := by
    unfold divS both
    rw [okSp_iff.2 (by omega), okSp_iff.2 (by omega), decide_eq_false (show ¬ t.lo ≤ 0 by omega)]
    rfl
  rw [e]
  have dd : ∀ x y up, (y = t.lo ∨ y = t.hi) → dF x y up = rd (x * 4294967296) y up := fun x y up hy => by
    unfold dF sg
    rw [decide_eq_false (show ¬ y < 0 by omega)]
    rfl
  obtain ⟨q1, q2⟩ := hull_op (F := dF) (a := s.lo) (b := s.hi) (c := t.lo) (d := t.hi) hM' fun x y hx hy => by
    rw [dd x y false hy, dd x y true hy]
    have hy' : c ≤ y := by omega
    have := Int.mul_le_mul_of_nonneg_left hy' h0
    exact ⟨le_rd_of (by omega) (by rw [Int.neg_mul]; omega), rd_le _ _ (by omega), rd_le_of (by omega) (by omega)⟩
  refine ⟨q1, fun x y hx hy => ?_⟩
  have := q2 x y hx hy
  rw [dd x y false hy, dd x y true hy] at this
  have hy' : 0 ≤ y := by omega
  have f := rd_f (n := x * 4294967296) (d := y) (by omega)
  have g := rd_t (n := x * 4294967296) (d := y) (by omega)
  have m1 := Int.mul_le_mul_of_nonneg_right this.1 hy'
  have m2 := Int.mul_le_mul_of_nonneg_right this.2 hy'
  omega

/-- (As products: r holds N 2^32 E / (D V).) -/
theorem div_en {s t r : Sp} {N D V E : Int} (hD : 0 < D) (hE : 0 < E) (h : En s N D) (k : En t V E)
    (c : ∀ x y, (x = s.lo ∨ x = s.hi) → (y = t.lo ∨ y = t.hi) → r.lo * y ≤ x * 4294967296 ∧ x * 4294967296 ≤ r.hi * y) :
    En r (N * 4294967296 * E) (D * V) := by
  have c1 := c s.lo t.lo (.inl rfl) (.inl rfl)
  have c2 := c s.hi t.hi (.inr rfl) (.inr rfl)
  have c3 := c s.lo t.hi (.inl rfl) (.inr rfl)
  have c4 := c s.hi t.lo (.inr rfl) (.inl rfl)
  have z1 := (mid_mul (a := t.lo) (b := t.hi) (N := V) (D := E) (n := r.lo) (l := mn (t.lo * r.lo) (t.hi * r.lo)) (h := s.lo * 4294967296) hE k.lo k.hi (mn_le _ _).1 (mn_le _ _).2.1 (by rw [Int.mul_comm]; exact c1.1) (by rw [Int.mul_comm]; exact c3.1)).2
  have z2 := (mid_mul (a := t.lo) (b := t.hi) (N := V) (D := E) (n := r.hi) (l := s.hi * 4294967296) (h := mx (t.lo * r.hi) (t.hi * r.hi)) hE k.lo k.hi (by rw [Int.mul_comm t.lo]; exact c4.2) (by rw [Int.mul_comm t.hi]; exact c2.2) (le_mx _ _).1 (le_mx _ _).2.1).1
  constructor
  · have m1 := Int.mul_le_mul_of_nonneg_right z1 (show 0 ≤ D by omega)
    have m2 := Int.mul_le_mul_of_nonneg_right h.lo (show 0 ≤ 4294967296 * E by omega)
    grind
  · have m1 := Int.mul_le_mul_of_nonneg_right z2 (show 0 ≤ D by omega)
    have m2 := Int.mul_le_mul_of_nonneg_right h.hi (show 0 ≤ 4294967296 * E by omega)
    grind

end Go.Rd

/- Printed: what the law AperExact reckons. No program. -/
namespace Go.Rd
open Go Go.Eng Go.Ar
def ax0 (a : Int) (b : Int) (x : Int) (y : Int) : Int := IntKind.i64.wrap (1 + IntKind.i64.wrap (a.tmod 2000000))
def ax1 (a : Int) (b : Int) (x : Int) (y : Int) : Int := (IntKind.i64.wrap b).tmod (ax0 a b x y)
def ax2 (a : Int) (b : Int) (x : Int) (y : Int) : Int := IntKind.i64.wrap (IntKind.i64.wrap x * 16777216)
def ax3 (a : Int) (b : Int) (x : Int) (y : Int) : Int := IntKind.i64.wrap (IntKind.i64.wrap y * 16777216)
def ax4 (a : Int) (b : Int) (x : Int) (y : Int) : Bool := ax0 a b x y != 0
def ax5 (a : Int) (b : Int) (x : Int) (y : Int) : Int := IntKind.i64.wrap (ax0 a b x y * ax0 a b x y)
def ax6 (a : Int) (b : Int) (x : Int) (y : Int) : Int := IntKind.u64.wrap (ax5 a b x y)
def ax7 (a : Int) (b : Int) (x : Int) (y : Int) : Int := Int.ofNat (4294967295 + 1)
def ax8 (a : Int) (b : Int) (x : Int) (y : Int) : Int := IntKind.u64.wrap
  (addS (sqrS (ax2 a b x y) (ax2 a b x y)).lo (sqrS (ax2 a b x y) (ax2 a b x y)).hi
      (sqrS (ax3 a b x y) (ax3 a b x y)).lo (sqrS (ax3 a b x y) (ax3 a b x y)).hi).lo
def ax9 (a : Int) (b : Int) (x : Int) (y : Int) : Int := Int.ofNat (999999999999 + 1)
def ax10 (a : Int) (b : Int) (x : Int) (y : Int) : Int := ax6 a b x y * ax7 a b x y
def ax11 (a : Int) (b : Int) (x : Int) (y : Int) : Int := ax10 a b x y / 18446744073709551616
def ax12 (a : Int) (b : Int) (x : Int) (y : Int) : Int := ax8 a b x y * ax9 a b x y
def ax13 (a : Int) (b : Int) (x : Int) (y : Int) : Int := ax12 a b x y / 18446744073709551616
def ax14 (a : Int) (b : Int) (x : Int) (y : Int) : Int := ax10 a b x y % 18446744073709551616
def ax15 (a : Int) (b : Int) (x : Int) (y : Int) : Int := ax12 a b x y % 18446744073709551616
def ax16 (a : Int) (b : Int) (x : Int) (y : Int) : Bool := bif decide (ax11 a b x y < ax13 a b x y) then true
else bif ax11 a b x y == ax13 a b x y then decide (ax14 a b x y < ax15 a b x y) else false
def ax17 (a : Int) (b : Int) (x : Int) (y : Int) : Bool := ax1 a b x y != 0
def ax18 (a : Int) (b : Int) (x : Int) (y : Int) : Int := IntKind.u64.wrap
  (addS (sqrS (ax2 a b x y) (ax2 a b x y)).lo (sqrS (ax2 a b x y) (ax2 a b x y)).hi
      (sqrS (ax3 a b x y) (ax3 a b x y)).lo (sqrS (ax3 a b x y) (ax3 a b x y)).hi).hi
def ax19 (a : Int) (b : Int) (x : Int) (y : Int) : Int := IntKind.i64.wrap (ax1 a b x y * ax1 a b x y)
def ax20 (a : Int) (b : Int) (x : Int) (y : Int) : Int := IntKind.u64.wrap (ax19 a b x y)
def ax21 (a : Int) (b : Int) (x : Int) (y : Int) : Int := ax18 a b x y * ax9 a b x y
def ax22 (a : Int) (b : Int) (x : Int) (y : Int) : Int := ax21 a b x y / 18446744073709551616
def ax23 (a : Int) (b : Int) (x : Int) (y : Int) : Int := ax20 a b x y * ax7 a b x y
def ax24 (a : Int) (b : Int) (x : Int) (y : Int) : Int := ax23 a b x y / 18446744073709551616
def ax25 (a : Int) (b : Int) (x : Int) (y : Int) : Int := ax21 a b x y % 18446744073709551616
def ax26 (a : Int) (b : Int) (x : Int) (y : Int) : Int := ax23 a b x y % 18446744073709551616
def ax27 (a : Int) (b : Int) (x : Int) (y : Int) : Bool := bif ax17 a b x y then
  bif decide (ax22 a b x y < ax24 a b x y) then true
  else bif ax22 a b x y == ax24 a b x y then decide (ax25 a b x y < ax26 a b x y) else false
else false
def ax28 (a : Int) (b : Int) (x : Int) (y : Int) : Bool := !bif ax4 a b x y then bif ax16 a b x y then true else ax27 a b x y else ax27 a b x y
def ax29 (a : Int) (b : Int) (x : Int) (y : Int) : Bool := bif decide (ax11 a b x y < ax22 a b x y) then true
else bif ax11 a b x y == ax22 a b x y then decide (ax14 a b x y < ax25 a b x y) else false
def ax30 (a : Int) (b : Int) (x : Int) (y : Int) : Bool := bif ax17 a b x y then
  bif decide (ax13 a b x y < ax24 a b x y) then true
  else bif ax13 a b x y == ax24 a b x y then decide (ax15 a b x y < ax26 a b x y) else false
else false
def ax31 (a : Int) (b : Int) (x : Int) (y : Int) : Int := IntKind.i64.wrap
  (IntKind.i64.wrap
      (IntKind.i64.wrap (IntKind.i64.wrap x * IntKind.i64.wrap x) +
        IntKind.i64.wrap (IntKind.i64.wrap y * IntKind.i64.wrap y)) *
    1000000000000)
def ax32 (a : Int) (b : Int) (x : Int) (y : Int) : Int := IntKind.i64.wrap (ax5 a b x y * 65536)
def ax33 (a : Int) (b : Int) (x : Int) (y : Int) : Int := IntKind.i64.wrap (ax19 a b x y * 65536)
def axN (a : Int) (b : Int) (x : Int) (y : Int) : Prop := (ax0 a b x y ≠ 0 ∧
        y = y ∧
          (0 ≤ ax1 a b x y ∧ ax1 a b x y < ax0 a b x y ∧ ax0 a b x y ≤ 1000000000) ∧
            (okSp (ax2 a b x y) (ax2 a b x y) = true ∧ okSp (ax3 a b x y) (ax3 a b x y) = true) ∧
              ((sqrS (ax2 a b x y) (ax2 a b x y)).e = 0 ∧
                  (sqrS (ax3 a b x y) (ax3 a b x y)).e = 0 ∧
                    (addS (sqrS (ax2 a b x y) (ax2 a b x y)).lo (sqrS (ax2 a b x y) (ax2 a b x y)).hi
                          (sqrS (ax3 a b x y) (ax3 a b x y)).lo (sqrS (ax3 a b x y) (ax3 a b x y)).hi).e =
                      0) ∧
                ((ax4 a b x y = true →
                      (decide
                              (0 ≤ ax6 a b x y ∧
                                ax6 a b x y < 18446744073709551616 ∧
                                  0 ≤ ax7 a b x y ∧ ax7 a b x y < 18446744073709551616) =
                            true ∧
                          decide
                              (0 ≤ ax8 a b x y ∧
                                ax8 a b x y < 18446744073709551616 ∧
                                  0 ≤ ax9 a b x y ∧ ax9 a b x y < 18446744073709551616) =
                            true) ∧
                        (ax16 a b x y = false →
                          ax17 a b x y = true →
                            decide
                                  (0 ≤ ax18 a b x y ∧
                                    ax18 a b x y < 18446744073709551616 ∧
                                      0 ≤ ax9 a b x y ∧ ax9 a b x y < 18446744073709551616) =
                                true ∧
                              decide
                                  (0 ≤ ax20 a b x y ∧
                                    ax20 a b x y < 18446744073709551616 ∧
                                      0 ≤ ax7 a b x y ∧ ax7 a b x y < 18446744073709551616) =
                                true)) ∧
                    (ax4 a b x y = false →
                      ax17 a b x y = true →
                        decide
                              (0 ≤ ax18 a b x y ∧
                                ax18 a b x y < 18446744073709551616 ∧
                                  0 ≤ ax9 a b x y ∧ ax9 a b x y < 18446744073709551616) =
                            true ∧
                          decide
                              (0 ≤ ax20 a b x y ∧
                                ax20 a b x y < 18446744073709551616 ∧
                                  0 ≤ ax7 a b x y ∧ ax7 a b x y < 18446744073709551616) =
                            true)) ∧
                  (ax28 a b x y = true →
                    (ax4 a b x y = true →
                        (decide
                                (0 ≤ ax6 a b x y ∧
                                  ax6 a b x y < 18446744073709551616 ∧
                                    0 ≤ ax7 a b x y ∧ ax7 a b x y < 18446744073709551616) =
                              true ∧
                            decide
                                (0 ≤ ax18 a b x y ∧
                                  ax18 a b x y < 18446744073709551616 ∧
                                    0 ≤ ax9 a b x y ∧ ax9 a b x y < 18446744073709551616) =
                              true) ∧
                          (ax29 a b x y = false →
                            ax17 a b x y = true →
                              decide
                                    (0 ≤ ax8 a b x y ∧
                                      ax8 a b x y < 18446744073709551616 ∧
                                        0 ≤ ax9 a b x y ∧ ax9 a b x y < 18446744073709551616) =
                                  true ∧
                                decide
                                    (0 ≤ ax20 a b x y ∧
                                      ax20 a b x y < 18446744073709551616 ∧
                                        0 ≤ ax7 a b x y ∧ ax7 a b x y < 18446744073709551616) =
                                  true)) ∧
                      (ax4 a b x y = false →
                        ax17 a b x y = true →
                          decide
                                (0 ≤ ax8 a b x y ∧
                                  ax8 a b x y < 18446744073709551616 ∧
                                    0 ≤ ax9 a b x y ∧ ax9 a b x y < 18446744073709551616) =
                              true ∧
                            decide
                                (0 ≤ ax20 a b x y ∧
                                  ax20 a b x y < 18446744073709551616 ∧
                                    0 ≤ ax7 a b x y ∧ ax7 a b x y < 18446744073709551616) =
                              true)))
def axV (a : Int) (b : Int) (x : Int) (y : Int) : Bool := (bif
          (bif ax28 a b x y then
              bif !!bif ax4 a b x y then bif ax29 a b x y then true else ax30 a b x y else ax30 a b x y then
                Int.ofNat (1 + 1)
              else Int.ofNat (0 + 1)
            else 0) ==
            bif
                bif decide (ax31 a b x y ≤ ax32 a b x y) then decide (ax31 a b x y ≥ ax33 a b x y)
                else false then
              1
            else 0 then
        true
      else false)
end Go.Rd

/- The plain law of AperExact. No program. -/
namespace Go.Rd
open Go Go.Eng Go.Ar

/-- A comparison of two words is one of the numbers. -/
theorem two_words (u v : Int) (hu : 0 ≤ u) (hv : 0 ≤ v) : (bif decide (u / 18446744073709551616 < v / 18446744073709551616) then true else bif u / 18446744073709551616 == v / 18446744073709551616 then decide (u % 18446744073709551616 < v % 18446744073709551616) else false) = decide (u < v) := by
  have a := Int.mul_ediv_add_emod u 18446744073709551616
  have b := Int.mul_ediv_add_emod v 18446744073709551616
  have c := Int.emod_nonneg u (show (18446744073709551616 : Int) ≠ 0 by decide)
  have d := Int.emod_nonneg v (show (18446744073709551616 : Int) ≠ 0 by decide)
  have e := Int.emod_lt_of_pos u (show (0 : Int) < 18446744073709551616 by decide)
  have f := Int.emod_lt_of_pos v (show (0 : Int) < 18446744073709551616 by decide)
  generalize u / 18446744073709551616 = q at *
  generalize v / 18446744073709551616 = r at *
  generalize u % 18446744073709551616 = s at *
  generalize v % 18446744073709551616 = t at *
  rcases Int.lt_trichotomy q r with h | h | h
  · rw [decide_eq_true h, decide_eq_true (show u < v by omega)]; rfl
  · subst h
    rw [decide_eq_false (show ¬ q < q by omega), beq_self_eq_true]
    show decide (s < t) = decide (u < v)
    congr 1
    apply propext
    omega
  · rw [decide_eq_false (show ¬ q < r by omega), decide_eq_false (show ¬ u < v by omega)]
    cases hq : q == r with
    | false => rfl
    | true => have := eq_of_beq hq; omega

structure AxIn (a b x y : Int) : Prop where
  a0 : 0 ≤ a
  a1 : a ≤ 4294967295
  b0 : 0 ≤ b
  b1 : b ≤ 4294967295
  x0 : -128 ≤ x
  x1 : x ≤ 127
  y0 : -128 ≤ y
  y1 : y ≤ 127

/-- What is reckoned. -/
structure AxIs (a b x y S H Q : Int) : Prop where
  S0 : 1 ≤ S
  S1 : S ≤ 2000000
  H0 : 0 ≤ H
  H1 : H < S
  Q0 : 0 ≤ Q
  Q1 : Q ≤ 32768
  SS : 0 ≤ S * S ∧ S * S ≤ 4000000000000
  HH : 0 ≤ H * H ∧ H * H ≤ 4000000000000
  e0 : ax0 a b x y = S
  e1 : ax1 a b x y = H
  e2 : sqrS (ax2 a b x y) (ax2 a b x y) = ⟨x * x * 65536, x * x * 65536, 0⟩
  e3 : sqrS (ax3 a b x y) (ax3 a b x y) = ⟨y * y * 65536, y * y * 65536, 0⟩
  o2 : okSp (ax2 a b x y) (ax2 a b x y) = true
  o3 : okSp (ax3 a b x y) (ax3 a b x y) = true
  ad : addS (x * x * 65536) (x * x * 65536) (y * y * 65536) (y * y * 65536) = ⟨Q * 65536, Q * 65536, 0⟩
  e6 : ax6 a b x y = S * S
  e8 : ax8 a b x y = Q * 65536
  e18 : ax18 a b x y = Q * 65536
  e20 : ax20 a b x y = H * H
  e31 : ax31 a b x y = Q * 1000000000000
  e32 : ax32 a b x y = S * S * 65536
  e33 : ax33 a b x y = H * H * 65536

theorem u64w {n : Int} (h1 : 0 ≤ n) (h2 : n ≤ 18446744073709551615) : IntKind.u64.wrap n = n := by
  simp [IntKind.wrap, IntKind.bits, IntKind.signed]; omega

theorem ax_is {a b x y : Int} (n : AxIn a b x y) : ∃ S H Q, AxIs a b x y S H Q := by
  obtain ⟨a0, a1, b0, b1, x0, x1, y0, y1⟩ := n
  have t1 : a.tmod 2000000 = a % 2000000 := Int.tmod_eq_emod_of_nonneg a0
  have m1 := Int.emod_nonneg a (show (2000000 : Int) ≠ 0 by decide)
  have m2 := Int.emod_lt_of_pos a (show (0 : Int) < 2000000 by decide)
  have e0 : ax0 a b x y = 1 + a % 2000000 := by
    unfold ax0; rw [t1, i64w (n := a % 2000000) (by omega) (by omega), i64w (by omega) (by omega)]
  generalize hS : 1 + a % 2000000 = S at e0
  have S0 : 1 ≤ S := by omega
  have S1 : S ≤ 2000000 := by omega
  have e1 : ax1 a b x y = b % S := by
    unfold ax1; rw [e0, i64w (by omega) (by omega), Int.tmod_eq_emod_of_nonneg b0]
  have H0 := Int.emod_nonneg b (show S ≠ 0 by omega)
  have H1 := Int.emod_lt_of_pos b (show 0 < S by omega)
  generalize b % S = H at *
  have e2 : ax2 a b x y = x * 16777216 := by unfold ax2; rw [i64w (n := x) (by omega) (by omega), i64w (by omega) (by omega)]
  have e3 : ax3 a b x y = y * 16777216 := by unfold ax3; rw [i64w (n := y) (by omega) (by omega), i64w (by omega) (by omega)]
  have xx := mul_bd (a := x) (n := x) (M := 128) (L := 128) (by omega) (by omega) (by omega) (by omega)
  have yy := mul_bd (a := y) (n := y) (M := 128) (L := 128) (by omega) (by omega) (by omega) (by omega)
  have xn : 0 ≤ x * x := by
    rcases Int.le_total 0 x with c | c
    · exact Int.mul_nonneg c c
    · exact Int.mul_nonneg_of_nonpos_of_nonpos c c
  have yn : 0 ≤ y * y := by
    rcases Int.le_total 0 y with c | c
    · exact Int.mul_nonneg c c
    · exact Int.mul_nonneg_of_nonpos_of_nonpos c c
  have SS0 := Int.mul_nonneg (show 0 ≤ S by omega) (show 0 ≤ S by omega)
  have SS1 := Int.mul_le_mul S1 S1 (show 0 ≤ S by omega) (by omega)
  have HH0 := Int.mul_nonneg H0 H0
  have HH1 := Int.mul_le_mul (show H ≤ 2000000 by omega) (show H ≤ 2000000 by omega) H0 (by omega)
  have s2 : sqrS (ax2 a b x y) (ax2 a b x y) = ⟨x * x * 65536, x * x * 65536, 0⟩ := by rw [e2]; exact sqr_pt (by omega)
  have s3 : sqrS (ax3 a b x y) (ax3 a b x y) = ⟨y * y * 65536, y * y * 65536, 0⟩ := by rw [e3]; exact sqr_pt (by omega)
  have e5 : ax5 a b x y = S * S := by unfold ax5; rw [e0, i64w (by omega) (by omega)]
  have e19 : ax19 a b x y = H * H := by unfold ax19; rw [e1, i64w (by omega) (by omega)]
  have ad : addS (x * x * 65536) (x * x * 65536) (y * y * 65536) (y * y * 65536) = ⟨(x * x + y * y) * 65536, (x * x + y * y) * 65536, 0⟩ := by
    unfold addS both toldS
    rw [okSp_iff.2 (by omega), okSp_iff.2 (by omega), okF_iff.2 (by omega)]
    show (⟨_, _, 0⟩ : Sp) = _
    rw [← Int.add_mul]
  refine ⟨S, H, x * x + y * y, S0, S1, H0, H1, by omega, by omega, ⟨SS0, by omega⟩, ⟨HH0, by omega⟩, e0, e1, s2, s3, ?_, ?_, ad, ?_, ?_, ?_, ?_, ?_, ?_, ?_⟩
  · rw [e2]; exact okSp_iff.2 (by omega)
  · rw [e3]; exact okSp_iff.2 (by omega)
  · unfold ax6; rw [e5, u64w (by omega) (by omega)]
  · unfold ax8; rw [s2, s3]; show IntKind.u64.wrap (addS (x * x * 65536) (x * x * 65536) (y * y * 65536) (y * y * 65536)).lo = _
    rw [ad]; exact u64w (n := (x * x + y * y) * 65536) (by omega) (by omega)
  · unfold ax18; rw [s2, s3]; show IntKind.u64.wrap (addS (x * x * 65536) (x * x * 65536) (y * y * 65536) (y * y * 65536)).hi = _
    rw [ad]; exact u64w (n := (x * x + y * y) * 65536) (by omega) (by omega)
  · unfold ax20; rw [e19, u64w (by omega) (by omega)]
  · unfold ax31; rw [i64w (n := x) (by omega) (by omega), i64w (n := y) (by omega) (by omega), i64w (n := x * x) (by omega) (by omega), i64w (n := y * y) (by omega) (by omega), i64w (n := x * x + y * y) (by omega) (by omega), i64w (by omega) (by omega)]
  · unfold ax32; rw [e5, i64w (by omega) (by omega)]
  · unfold ax33; rw [e19, i64w (by omega) (by omega)]

theorem f7 {a b x y S H Q : Int} (n : AxIs a b x y S H Q) : ax7 a b x y = 4294967296 := rfl
theorem f9 {a b x y S H Q : Int} (n : AxIs a b x y S H Q) : ax9 a b x y = 1000000000000 := rfl
theorem f10 {a b x y S H Q : Int} (n : AxIs a b x y S H Q) : ax10 a b x y = S * S * 4294967296 := by unfold ax10; rw [n.e6]; rfl
theorem f12 {a b x y S H Q : Int} (n : AxIs a b x y S H Q) : ax12 a b x y = Q * 65536 * 1000000000000 := by unfold ax12; rw [n.e8]; rfl
theorem f21 {a b x y S H Q : Int} (n : AxIs a b x y S H Q) : ax21 a b x y = Q * 65536 * 1000000000000 := by unfold ax21; rw [n.e18]; rfl
theorem f23 {a b x y S H Q : Int} (n : AxIs a b x y S H Q) : ax23 a b x y = H * H * 4294967296 := by unfold ax23; rw [n.e20]; rfl
theorem f16 {a b x y S H Q : Int} (n : AxIs a b x y S H Q) : ax16 a b x y = decide (S * S * 4294967296 < Q * 65536 * 1000000000000) := by
  have := n.SS; have := n.Q0
  unfold ax16 ax11 ax13 ax14 ax15; rw [f10 n, f12 n]; exact two_words _ _ (by omega) (by omega)
theorem f29 {a b x y S H Q : Int} (n : AxIs a b x y S H Q) : ax29 a b x y = decide (S * S * 4294967296 < Q * 65536 * 1000000000000) := by
  have := n.SS; have := n.Q0
  unfold ax29 ax11 ax22 ax14 ax25; rw [f10 n, f21 n]; exact two_words _ _ (by omega) (by omega)
theorem f27 {a b x y S H Q : Int} (n : AxIs a b x y S H Q) : ax27 a b x y = decide (Q * 65536 * 1000000000000 < H * H * 4294967296) := by
  have hh := n.HH; have := n.Q0
  unfold ax27 ax22 ax24 ax25 ax26 ax17; rw [f21 n, f23 n, two_words _ _ (by omega) (by omega), n.e1]
  cases h : H != 0 with
  | true => rfl
  | false =>
    have h0 : H = 0 := by simpa using h
    subst h0
    rw [decide_eq_false (by omega)]; rfl
theorem f30 {a b x y S H Q : Int} (n : AxIs a b x y S H Q) : ax30 a b x y = decide (Q * 65536 * 1000000000000 < H * H * 4294967296) := by
  have hh := n.HH; have := n.Q0
  unfold ax30 ax13 ax24 ax15 ax26 ax17; rw [f12 n, f23 n, two_words _ _ (by omega) (by omega), n.e1]
  cases h : H != 0 with
  | true => rfl
  | false =>
    have h0 : H = 0 := by simpa using h
    subst h0
    rw [decide_eq_false (by omega)]; rfl
theorem f4 {a b x y S H Q : Int} (n : AxIs a b x y S H Q) : ax4 a b x y = true := by
  have := n.S0
  unfold ax4; rw [n.e0]; simp; omega
theorem f28 {a b x y S H Q : Int} (n : AxIs a b x y S H Q) : ax28 a b x y = !(decide (S * S * 4294967296 < Q * 65536 * 1000000000000) || decide (Q * 65536 * 1000000000000 < H * H * 4294967296)) := by
  unfold ax28; rw [f4 n, f16 n, f27 n]
  cases decide (S * S * 4294967296 < Q * 65536 * 1000000000000) <;> rfl
theorem exact_v {a b x y S H Q : Int} (n : AxIs a b x y S H Q) : axV a b x y = true := by
  unfold axV
  rw [f28 n, f4 n, f29 n, f30 n, n.e31, n.e32, n.e33]
  have := n.Q0
  rcases Int.lt_or_le (S * S * 4294967296) (Q * 65536 * 1000000000000) with h | h
  · rw [decide_eq_true h, decide_eq_false (show ¬ Q * 1000000000000 ≤ S * S * 65536 by omega)]; rfl
  · rw [decide_eq_false (Int.not_lt.2 h), decide_eq_true (show Q * 1000000000000 ≤ S * S * 65536 by omega)]
    rcases Int.lt_or_le (Q * 65536 * 1000000000000) (H * H * 4294967296) with k | k
    · rw [decide_eq_true k, decide_eq_false (show ¬ Q * 1000000000000 ≥ H * H * 65536 by omega)]; rfl
    · rw [decide_eq_false (Int.not_lt.2 k), decide_eq_true (show Q * 1000000000000 ≥ H * H * 65536 by omega)]; rfl
theorem exact_n {a b x y S H Q : Int} (n : AxIs a b x y S H Q) : axN a b x y := by
  have h1 := n.SS; have h2 := n.HH; have h3 := n.Q0; have h4 := n.Q1; have h5 := n.S0; have h6 := n.S1; have h7 := n.H0; have h8 := n.H1
  have w6 : decide (0 ≤ ax6 a b x y ∧ ax6 a b x y < 18446744073709551616 ∧ 0 ≤ ax7 a b x y ∧ ax7 a b x y < 18446744073709551616) = true := by
    rw [n.e6, f7 n]; exact decide_eq_true (by omega)
  have w8 : decide (0 ≤ ax8 a b x y ∧ ax8 a b x y < 18446744073709551616 ∧ 0 ≤ ax9 a b x y ∧ ax9 a b x y < 18446744073709551616) = true := by
    rw [n.e8, f9 n]; exact decide_eq_true (by omega)
  have w18 : decide (0 ≤ ax18 a b x y ∧ ax18 a b x y < 18446744073709551616 ∧ 0 ≤ ax9 a b x y ∧ ax9 a b x y < 18446744073709551616) = true := by
    rw [n.e18, f9 n]; exact decide_eq_true (by omega)
  have w20 : decide (0 ≤ ax20 a b x y ∧ ax20 a b x y < 18446744073709551616 ∧ 0 ≤ ax7 a b x y ∧ ax7 a b x y < 18446744073709551616) = true := by
    rw [n.e20, f7 n]; exact decide_eq_true (by omega)
  unfold axN
  refine ⟨by rw [n.e0]; omega, rfl, by rw [n.e0, n.e1]; omega, ⟨n.o2, n.o3⟩, ⟨by rw [n.e2], by rw [n.e3], by rw [n.e2, n.e3]; show (addS (x * x * 65536) (x * x * 65536) (y * y * 65536) (y * y * 65536)).e = 0; rw [n.ad]⟩, ⟨fun _ => ⟨⟨w6, w8⟩, fun _ _ => ⟨w18, w20⟩⟩, fun _ _ => ⟨w18, w20⟩⟩, fun _ => ⟨fun _ => ⟨⟨w6, w18⟩, fun _ _ => ⟨w8, w20⟩⟩, fun _ _ => ⟨w8, w20⟩⟩⟩
theorem exact_law {a b x y : Int} (n : AxIn a b x y) : axN a b x y ∧ axV a b x y = true := by
  obtain ⟨S, H, Q, h⟩ := ax_is n
  exact ⟨exact_n h, exact_v h⟩
end Go.Rd

/- The names of drafts' glasses. No program. -/
namespace Go.Rd
def g1 : ByteArray := ⟨#[66, 75, 55]⟩
def g2 : ByteArray := ⟨#[83, 70, 45, 49]⟩
def g3 : ByteArray := ⟨#[77, 73, 82, 82, 79, 82]⟩
def g4 : ByteArray := ⟨#[102, 95, 50]⟩
/-- One of the drafts' names. -/
def isG (b : ByteArray) : Prop := b = g1 ∨ b = g2 ∨ b = g3 ∨ b = g4
end Go.Rd

/- Printed: what surface.Check reckons on surfaces of each kind (without films). No program. -/
namespace Go.Rd
open Go Go.Eng Go.Ar
def cs0 (c : Int) (k : Int) (a0 : Int) (a1 : Int) (a2 : Int) (a3 : Int) (f0 : Int) (f1 : Int) (o : Int) (th : Int) (s : ByteArray) (se : Int) (ho : Int) : Bool := bif o != 0 then !eqBytes s { data := #[77, 73, 82, 82, 79, 82] } else false
def cs1 (c : Int) (k : Int) (a0 : Int) (a1 : Int) (a2 : Int) (a3 : Int) (f0 : Int) (f1 : Int) (o : Int) (th : Int) (s : ByteArray) (se : Int) (ho : Int) : Int := bif cs0 c k a0 a1 a2 a3 f0 f1 o th s se ho then a0 else a0
def cs2 (c : Int) (k : Int) (a0 : Int) (a1 : Int) (a2 : Int) (a3 : Int) (f0 : Int) (f1 : Int) (o : Int) (th : Int) (s : ByteArray) (se : Int) (ho : Int) : Int := bif cs0 c k a0 a1 a2 a3 f0 f1 o th s se ho then a1 else a1
def cs3 (c : Int) (k : Int) (a0 : Int) (a1 : Int) (a2 : Int) (a3 : Int) (f0 : Int) (f1 : Int) (o : Int) (th : Int) (s : ByteArray) (se : Int) (ho : Int) : Int := bif cs0 c k a0 a1 a2 a3 f0 f1 o th s se ho then a2 else a2
def cs4 (c : Int) (k : Int) (a0 : Int) (a1 : Int) (a2 : Int) (a3 : Int) (f0 : Int) (f1 : Int) (o : Int) (th : Int) (s : ByteArray) (se : Int) (ho : Int) : Int := bif cs0 c k a0 a1 a2 a3 f0 f1 o th s se ho then a3 else a3
def cs5 (c : Int) (k : Int) (a0 : Int) (a1 : Int) (a2 : Int) (a3 : Int) (f0 : Int) (f1 : Int) (o : Int) (th : Int) (s : ByteArray) (se : Int) (ho : Int) : Int := bif cs0 c k a0 a1 a2 a3 f0 f1 o th s se ho then f0 else 0
def cs6 (c : Int) (k : Int) (a0 : Int) (a1 : Int) (a2 : Int) (a3 : Int) (f0 : Int) (f1 : Int) (o : Int) (th : Int) (s : ByteArray) (se : Int) (ho : Int) : Int := bif cs0 c k a0 a1 a2 a3 f0 f1 o th s se ho then f1 else 0
def cs7 (c : Int) (k : Int) (a0 : Int) (a1 : Int) (a2 : Int) (a3 : Int) (f0 : Int) (f1 : Int) (o : Int) (th : Int) (s : ByteArray) (se : Int) (ho : Int) : Int := bif cs0 c k a0 a1 a2 a3 f0 f1 o th s se ho then o else 0
def cs8 (c : Int) (k : Int) (a0 : Int) (a1 : Int) (a2 : Int) (a3 : Int) (f0 : Int) (f1 : Int) (o : Int) (th : Int) (s : ByteArray) (se : Int) (ho : Int) : Int := bif cs0 c k a0 a1 a2 a3 f0 f1 o th s se ho then th else th
def cs9 (c : Int) (k : Int) (a0 : Int) (a1 : Int) (a2 : Int) (a3 : Int) (f0 : Int) (f1 : Int) (o : Int) (th : Int) (s : ByteArray) (se : Int) (ho : Int) : Bool := !bif
      (1 : Int) == 1 &&
        (c == c &&
          (k == k &&
            ((0 : Int) == 0 &&
              ((0 : Int) == 0 &&
                (o == cs7 c k a0 a1 a2 a3 f0 f1 o th s se ho &&
                  (th == cs8 c k a0 a1 a2 a3 f0 f1 o th s se ho &&
                    (se == se &&
                      (ho == ho &&
                        ((0 : Int) == 0 &&
                          ((0 : Int) == 0 &&
                            ((0 : Int) == 0 &&
                              ((0 : Int) == 0 &&
                                ((0 : Int) == 0 &&
                                  ((0 : Int) == 0 &&
                                    ((0 : Int) == 0 &&
                                      (a0 == cs1 c k a0 a1 a2 a3 f0 f1 o th s se ho &&
                                        (a1 == cs2 c k a0 a1 a2 a3 f0 f1 o th s se ho &&
                                          (a2 == cs3 c k a0 a1 a2 a3 f0 f1 o th s se ho &&
                                            (a3 == cs4 c k a0 a1 a2 a3 f0 f1 o th s se ho &&
                                              (f0 == cs5 c k a0 a1 a2 a3 f0 f1 o th s se ho &&
                                                (f1 == cs6 c k a0 a1 a2 a3 f0 f1 o th s se ho &&
                                                  (eqBytes s s && true)))))))))))))))))))))) then
    true
  else false
def cs11 (c : Int) (k : Int) (a0 : Int) (a1 : Int) (a2 : Int) (a3 : Int) (f0 : Int) (f1 : Int) (o : Int) (th : Int) (s : ByteArray) (se : Int) (ho : Int) : Bool := bif decide (c < (-1000000000 : Int)) then true else decide (c > 1000000000)
def cs14 (c : Int) (k : Int) (a0 : Int) (a1 : Int) (a2 : Int) (a3 : Int) (f0 : Int) (f1 : Int) (o : Int) (th : Int) (s : ByteArray) (se : Int) (ho : Int) : Int := bif
    !cs11 c k a0 a1 a2 a3 f0 f1 o th s se ho &&
      !bif decide (th < (-1000000000 : Int)) then true
        else decide (th > 1000000000) then
  (-1 : Int)
else
  bif cs11 c k a0 a1 a2 a3 f0 f1 o th s se ho then 0
  else (2 : Int)
def cs15 (c : Int) (k : Int) (a0 : Int) (a1 : Int) (a2 : Int) (a3 : Int) (f0 : Int) (f1 : Int) (o : Int) (th : Int) (s : ByteArray) (se : Int) (ho : Int) : Bool := bif decide (a0 < (-1000000000 : Int)) then true else decide (a0 > 1000000000)
def cs16 (c : Int) (k : Int) (a0 : Int) (a1 : Int) (a2 : Int) (a3 : Int) (f0 : Int) (f1 : Int) (o : Int) (th : Int) (s : ByteArray) (se : Int) (ho : Int) : Bool := bif decide (a1 < (-1000000000 : Int)) then true else decide (a1 > 1000000000)
def cs17 (c : Int) (k : Int) (a0 : Int) (a1 : Int) (a2 : Int) (a3 : Int) (f0 : Int) (f1 : Int) (o : Int) (th : Int) (s : ByteArray) (se : Int) (ho : Int) : Bool := bif decide (a2 < (-1000000000 : Int)) then true else decide (a2 > 1000000000)
def cs19 (c : Int) (k : Int) (a0 : Int) (a1 : Int) (a2 : Int) (a3 : Int) (f0 : Int) (f1 : Int) (o : Int) (th : Int) (s : ByteArray) (se : Int) (ho : Int) : Int := bif
    !cs15 c k a0 a1 a2 a3 f0 f1 o th s se ho &&
      (!cs16 c k a0 a1 a2 a3 f0 f1 o th s se ho &&
        (!cs17 c k a0 a1 a2 a3 f0 f1 o th s se ho &&
          !bif decide (a3 < (-1000000000 : Int)) then true
            else decide (a3 > 1000000000))) then
  (-1 : Int)
else
  bif cs15 c k a0 a1 a2 a3 f0 f1 o th s se ho then 0
  else
    bif cs16 c k a0 a1 a2 a3 f0 f1 o th s se ho then (1 : Int)
    else
      bif cs17 c k a0 a1 a2 a3 f0 f1 o th s se ho then (2 : Int)
      else (3 : Int)
def cs20 (c : Int) (k : Int) (a0 : Int) (a1 : Int) (a2 : Int) (a3 : Int) (f0 : Int) (f1 : Int) (o : Int) (th : Int) (s : ByteArray) (se : Int) (ho : Int) : Bool := bif decide (f0 < (-1000000000 : Int)) then true else decide (f0 > 1000000000)
def cs21 (c : Int) (k : Int) (a0 : Int) (a1 : Int) (a2 : Int) (a3 : Int) (f0 : Int) (f1 : Int) (o : Int) (th : Int) (s : ByteArray) (se : Int) (ho : Int) : Int := bif
    !cs20 c k a0 a1 a2 a3 f0 f1 o th s se ho &&
      !bif decide (f1 < (-1000000000 : Int)) then true
        else decide (f1 > 1000000000) then
  (-1 : Int)
else
  bif cs20 c k a0 a1 a2 a3 f0 f1 o th s se ho then 0
  else (1 : Int)
def cs22 (c : Int) (k : Int) (a0 : Int) (a1 : Int) (a2 : Int) (a3 : Int) (f0 : Int) (f1 : Int) (o : Int) (th : Int) (s : ByteArray) (se : Int) (ho : Int) : Bool := !bif !decide (cs14 c k a0 a1 a2 a3 f0 f1 o th s se ho ≥ 0) then
    bif !decide (cs19 c k a0 a1 a2 a3 f0 f1 o th s se ho ≥ 0) then
      !decide (cs21 c k a0 a1 a2 a3 f0 f1 o th s se ho ≥ 0)
    else false
  else false
def cs24 (c : Int) (k : Int) (a0 : Int) (a1 : Int) (a2 : Int) (a3 : Int) (f0 : Int) (f1 : Int) (o : Int) (th : Int) (s : ByteArray) (se : Int) (ho : Int) : Int := bif bif decide (k < (-100000000 : Int)) then true else decide (k > 100000000) then 0
else (-1 : Int)
def cs25 (c : Int) (k : Int) (a0 : Int) (a1 : Int) (a2 : Int) (a3 : Int) (f0 : Int) (f1 : Int) (o : Int) (th : Int) (s : ByteArray) (se : Int) (ho : Int) : Bool := !bif !decide (cs24 c k a0 a1 a2 a3 f0 f1 o th s se ho ≥ 0) then true else false
def cs27 (c : Int) (k : Int) (a0 : Int) (a1 : Int) (a2 : Int) (a3 : Int) (f0 : Int) (f1 : Int) (o : Int) (th : Int) (s : ByteArray) (se : Int) (ho : Int) : Int := bif bif decide (o < (-3 : Int)) then true else decide (o > 3) then 0
else (-1 : Int)
def cs28 (c : Int) (k : Int) (a0 : Int) (a1 : Int) (a2 : Int) (a3 : Int) (f0 : Int) (f1 : Int) (o : Int) (th : Int) (s : ByteArray) (se : Int) (ho : Int) : Bool := bif decide (se < 0) then true else decide (se > 1000000000)
def cs29 (c : Int) (k : Int) (a0 : Int) (a1 : Int) (a2 : Int) (a3 : Int) (f0 : Int) (f1 : Int) (o : Int) (th : Int) (s : ByteArray) (se : Int) (ho : Int) : Int := bif
    !cs28 c k a0 a1 a2 a3 f0 f1 o th s se ho &&
      !bif decide (ho < 0) then true else decide (ho > 1000000000) then
  (-1 : Int)
else
  bif cs28 c k a0 a1 a2 a3 f0 f1 o th s se ho then 0
  else (1 : Int)
def cs30 (c : Int) (k : Int) (a0 : Int) (a1 : Int) (a2 : Int) (a3 : Int) (f0 : Int) (f1 : Int) (o : Int) (th : Int) (s : ByteArray) (se : Int) (ho : Int) : Bool := !bif !decide (cs27 c k a0 a1 a2 a3 f0 f1 o th s se ho ≥ 0) then
    !decide (cs29 c k a0 a1 a2 a3 f0 f1 o th s se ho ≥ 0)
  else false
def cs31 (c : Int) (k : Int) (a0 : Int) (a1 : Int) (a2 : Int) (a3 : Int) (f0 : Int) (f1 : Int) (o : Int) (th : Int) (s : ByteArray) (se : Int) (ho : Int) : Bool := !bif se == 0 then true else decide (ho < se)
def csN (c : Int) (k : Int) (a0 : Int) (a1 : Int) (a2 : Int) (a3 : Int) (f0 : Int) (f1 : Int) (o : Int) (th : Int) (s : ByteArray) (se : Int) (ho : Int) : Prop := ((((cs0 c k a0 a1 a2 a3 f0 f1 o th s se ho = true → f0 = f0 ∧ f1 = f1) ∧
            (ho = ho ∧ se = se ∧ s = s ∧ k = k) ∧
              (ho = ho ∧ se = se ∧ s = s) ∧ (ho = ho ∧ se = se) ∧ ho = ho) ∧
          (c = c ∧
              k = k ∧
                a0 = a0 ∧
                  a1 = a1 ∧
                    a2 = a2 ∧
                      a3 = a3 ∧ f0 = f0 ∧ f1 = f1 ∧ o = o ∧ th = th ∧ s = s ∧ se = se ∧ ho = ho) ∧
            c = c ∧
              k = k ∧
                cs1 c k a0 a1 a2 a3 f0 f1 o th s se ho =
                    cs1 c k a0 a1 a2 a3 f0 f1 o th s se ho ∧
                  cs2 c k a0 a1 a2 a3 f0 f1 o th s se ho =
                      cs2 c k a0 a1 a2 a3 f0 f1 o th s se ho ∧
                    cs3 c k a0 a1 a2 a3 f0 f1 o th s se ho =
                        cs3 c k a0 a1 a2 a3 f0 f1 o th s se ho ∧
                      cs4 c k a0 a1 a2 a3 f0 f1 o th s se ho =
                          cs4 c k a0 a1 a2 a3 f0 f1 o th s se ho ∧
                        cs5 c k a0 a1 a2 a3 f0 f1 o th s se ho =
                            cs5 c k a0 a1 a2 a3 f0 f1 o th s se ho ∧
                          cs6 c k a0 a1 a2 a3 f0 f1 o th s se ho =
                              cs6 c k a0 a1 a2 a3 f0 f1 o th s se ho ∧
                            cs7 c k a0 a1 a2 a3 f0 f1 o th s se ho =
                                cs7 c k a0 a1 a2 a3 f0 f1 o th s se ho ∧
                              cs8 c k a0 a1 a2 a3 f0 f1 o th s se ho =
                                  cs8 c k a0 a1 a2 a3 f0 f1 o th s se ho ∧
                                s = s ∧ se = se ∧ ho = ho) ∧
        ((!cs9 c k a0 a1 a2 a3 f0 f1 o th s se ho) = true →
          (!cs22 c k a0 a1 a2 a3 f0 f1 o th s se ho) = true →
            (!cs25 c k a0 a1 a2 a3 f0 f1 o th s se ho) = true →
              (!cs30 c k a0 a1 a2 a3 f0 f1 o th s se ho) = true →
                (!cs31 c k a0 a1 a2 a3 f0 f1 o th s se ho) = true →
                  eqBytes s { data := #[] } = false → isG s))
def csV (c : Int) (k : Int) (a0 : Int) (a1 : Int) (a2 : Int) (a3 : Int) (f0 : Int) (f1 : Int) (o : Int) (th : Int) (s : ByteArray) (se : Int) (ho : Int) : Int := (bif cs9 c k a0 a1 a2 a3 f0 f1 o th s se ho then 110
      else
        bif cs22 c k a0 a1 a2 a3 f0 f1 o th s se ho then 110
        else
          bif cs25 c k a0 a1 a2 a3 f0 f1 o th s se ho then 110
          else
            bif cs30 c k a0 a1 a2 a3 f0 f1 o th s se ho then 110
            else bif cs31 c k a0 a1 a2 a3 f0 f1 o th s se ho then 110 else 0)
def cb0 (c : Int) (k : Int) (l : Int) (m : Int) (th : Int) (s : ByteArray) (se : Int) (ho : Int) : Bool := !bif
      (2 : Int) == 2 &&
        (c == c &&
          (k == k &&
            (l == l &&
              (m == m &&
                ((0 : Int) == 0 &&
                  (th == th &&
                    (se == se &&
                      (ho == ho &&
                        ((0 : Int) == 0 &&
                          ((0 : Int) == 0 &&
                            ((0 : Int) == 0 &&
                              ((0 : Int) == 0 &&
                                ((0 : Int) == 0 &&
                                  ((0 : Int) == 0 &&
                                    ((0 : Int) == 0 &&
                                      ((0 : Int) == 0 &&
                                        ((0 : Int) == 0 &&
                                          ((0 : Int) == 0 &&
                                            ((0 : Int) == 0 &&
                                              ((0 : Int) == 0 && ((0 : Int) == 0 && (eqBytes s s && true)))))))))))))))))))))) then
    true
  else false
def cb2 (c : Int) (k : Int) (l : Int) (m : Int) (th : Int) (s : ByteArray) (se : Int) (ho : Int) : Bool := bif decide (c < (-1000000000 : Int)) then true else decide (c > 1000000000)
def cb3 (c : Int) (k : Int) (l : Int) (m : Int) (th : Int) (s : ByteArray) (se : Int) (ho : Int) : Bool := bif decide (l < (-1000000000 : Int)) then true else decide (l > 1000000000)
def cb6 (c : Int) (k : Int) (l : Int) (m : Int) (th : Int) (s : ByteArray) (se : Int) (ho : Int) : Int := bif
    cb2 c k l m th s se ho ||
      !cb2 c k l m th s se ho &&
        (cb3 c k l m th s se ho ||
          !cb3 c k l m th s se ho &&
            bif decide (th < (-1000000000 : Int)) then true else decide (th > 1000000000)) then
  bif cb2 c k l m th s se ho then 0
  else bif cb3 c k l m th s se ho then (1 : Int) else (2 : Int)
else (-1 : Int)
def cb7 (c : Int) (k : Int) (l : Int) (m : Int) (th : Int) (s : ByteArray) (se : Int) (ho : Int) : Bool := !bif !decide (cb6 c k l m th s se ho ≥ 0) then true else false
def cb9 (c : Int) (k : Int) (l : Int) (m : Int) (th : Int) (s : ByteArray) (se : Int) (ho : Int) : Bool := bif decide (k < (-100000000 : Int)) then true else decide (k > 100000000)
def cb10 (c : Int) (k : Int) (l : Int) (m : Int) (th : Int) (s : ByteArray) (se : Int) (ho : Int) : Int := bif
    !cb9 c k l m th s se ho &&
      !bif decide (m < (-100000000 : Int)) then true else decide (m > 100000000) then
  (-1 : Int)
else bif cb9 c k l m th s se ho then 0 else (1 : Int)
def cb11 (c : Int) (k : Int) (l : Int) (m : Int) (th : Int) (s : ByteArray) (se : Int) (ho : Int) : Bool := !bif !decide (cb10 c k l m th s se ho ≥ 0) then true else false
def cb12 (c : Int) (k : Int) (l : Int) (m : Int) (th : Int) (s : ByteArray) (se : Int) (ho : Int) : Bool := bif decide (se < 0) then true else decide (se > 1000000000)
def cb13 (c : Int) (k : Int) (l : Int) (m : Int) (th : Int) (s : ByteArray) (se : Int) (ho : Int) : Int := bif !cb12 c k l m th s se ho && !bif decide (ho < 0) then true else decide (ho > 1000000000) then
  (-1 : Int)
else bif cb12 c k l m th s se ho then 0 else (1 : Int)
def cb14 (c : Int) (k : Int) (l : Int) (m : Int) (th : Int) (s : ByteArray) (se : Int) (ho : Int) : Bool := !!decide (cb13 c k l m th s se ho ≥ 0)
def cb15 (c : Int) (k : Int) (l : Int) (m : Int) (th : Int) (s : ByteArray) (se : Int) (ho : Int) : Bool := !bif se == 0 then true else decide (ho < se)
def cbN (c : Int) (k : Int) (l : Int) (m : Int) (th : Int) (s : ByteArray) (se : Int) (ho : Int) : Prop := (((m = m ∧
            (ho = ho ∧ se = se ∧ s = s ∧ k = k) ∧
              (ho = ho ∧ se = se ∧ s = s) ∧ (ho = ho ∧ se = se) ∧ ho = ho) ∧
          (c = c ∧ k = k ∧ l = l ∧ m = m ∧ th = th ∧ s = s ∧ se = se ∧ ho = ho) ∧
            c = c ∧ k = k ∧ l = l ∧ m = m ∧ th = th ∧ s = s ∧ se = se ∧ ho = ho) ∧
        ((!cb0 c k l m th s se ho) = true →
          (!cb7 c k l m th s se ho) = true →
            (!cb11 c k l m th s se ho) = true →
              (!cb14 c k l m th s se ho) = true →
                (!cb15 c k l m th s se ho) = true → eqBytes s { data := #[] } = false → isG s))
def cbV (c : Int) (k : Int) (l : Int) (m : Int) (th : Int) (s : ByteArray) (se : Int) (ho : Int) : Int := (bif cb0 c k l m th s se ho then 110
      else
        bif cb7 c k l m th s se ho then 110
        else
          bif cb11 c k l m th s se ho then 110
          else bif cb14 c k l m th s se ho then 110 else bif cb15 c k l m th s se ho then 110 else 0)
def cr1 (th : Int) (dx : Int) (dy : Int) (ax : Int) (ay : Int) (az : Int) : Bool := bif decide (th < (-1000000000 : Int)) then true else decide (th > 1000000000)
def cr2 (th : Int) (dx : Int) (dy : Int) (ax : Int) (ay : Int) (az : Int) : Bool := bif decide (dx < (-1000000000 : Int)) then true else decide (dx > 1000000000)
def cr5 (th : Int) (dx : Int) (dy : Int) (ax : Int) (ay : Int) (az : Int) : Int := bif
    cr1 th dx dy ax ay az ||
      !cr1 th dx dy ax ay az &&
        (cr2 th dx dy ax ay az ||
          !cr2 th dx dy ax ay az &&
            bif decide (dy < (-1000000000 : Int)) then true else decide (dy > 1000000000)) then
  bif cr1 th dx dy ax ay az then (2 : Int)
  else bif cr2 th dx dy ax ay az then (3 : Int) else (4 : Int)
else (-1 : Int)
def cr7 (th : Int) (dx : Int) (dy : Int) (ax : Int) (ay : Int) (az : Int) : Bool := bif decide (ax < (-90000000 : Int)) then true else decide (ax > 90000000)
def cr8 (th : Int) (dx : Int) (dy : Int) (ax : Int) (ay : Int) (az : Int) : Bool := bif decide (ay < (-90000000 : Int)) then true else decide (ay > 90000000)
def cr9 (th : Int) (dx : Int) (dy : Int) (ax : Int) (ay : Int) (az : Int) : Int := bif
    cr7 th dx dy ax ay az ||
      !cr7 th dx dy ax ay az &&
        (cr8 th dx dy ax ay az ||
          !cr8 th dx dy ax ay az &&
            bif decide (az < (-90000000 : Int)) then true else decide (az > 90000000)) then
  bif cr7 th dx dy ax ay az then 0
  else bif cr8 th dx dy ax ay az then (1 : Int) else (2 : Int)
else (-1 : Int)
def crN (th : Int) (dx : Int) (dy : Int) (ax : Int) (ay : Int) (az : Int) : Prop := (((az = az ∧ ay = ay ∧ ax = ax ∧ dy = dy) ∧
          (az = az ∧ ay = ay ∧ ax = ax) ∧ (az = az ∧ ay = ay) ∧ az = az) ∧
        (th = th ∧ dx = dx ∧ dy = dy ∧ ax = ax ∧ ay = ay ∧ az = az) ∧
          th = th ∧ dx = dx ∧ dy = dy ∧ ax = ax ∧ ay = ay ∧ az = az)
def crV (th : Int) (dx : Int) (dy : Int) (ax : Int) (ay : Int) (az : Int) : Int := (bif
          !bif
                (3 : Int) == 3 &&
                  ((0 : Int) == 0 &&
                    ((0 : Int) == 0 &&
                      ((0 : Int) == 0 &&
                        ((0 : Int) == 0 &&
                          ((0 : Int) == 0 &&
                            (th == th &&
                              ((0 : Int) == 0 &&
                                ((0 : Int) == 0 &&
                                  (dx == dx &&
                                    (dy == dy &&
                                      (ax == ax &&
                                        (ay == ay &&
                                          (az == az &&
                                            ((0 : Int) == 0 &&
                                              ((0 : Int) == 0 &&
                                                ((0 : Int) == 0 &&
                                                  ((0 : Int) == 0 &&
                                                    ((0 : Int) == 0 &&
                                                      ((0 : Int) == 0 &&
                                                        ((0 : Int) == 0 &&
                                                          ((0 : Int) == 0 &&
                                                            (eqBytes { data := #[] } { data := #[] } &&
                                                              true)))))))))))))))))))))) then
              true
            else false then
        110
      else
        bif !bif !decide (cr5 th dx dy ax ay az ≥ 0) then true else false then 110
        else bif !!decide (cr9 th dx dy ax ay az ≥ 0) then 110 else 0)
def ci1 (c : Int) (th : Int) (se : Int) (ho : Int) : Bool := bif decide (c < (-1000000000 : Int)) then true else decide (c > 1000000000)
def ci3 (c : Int) (th : Int) (se : Int) (ho : Int) : Int := bif !ci1 c th se ho && !bif decide (th < (-1000000000 : Int)) then true else decide (th > 1000000000) then
  (-1 : Int)
else bif ci1 c th se ho then 0 else (2 : Int)
def ci4 (c : Int) (th : Int) (se : Int) (ho : Int) : Bool := bif decide (se < 0) then true else decide (se > 1000000000)
def ci5 (c : Int) (th : Int) (se : Int) (ho : Int) : Int := bif !ci4 c th se ho && !bif decide (ho < 0) then true else decide (ho > 1000000000) then (-1 : Int)
else bif ci4 c th se ho then 0 else (1 : Int)
def ciN (c : Int) (th : Int) (se : Int) (ho : Int) : Prop := (((ho = ho ∧ se = se) ∧ ho = ho) ∧
        (c = c ∧ th = th ∧ se = se ∧ ho = ho) ∧ c = c ∧ th = th ∧ se = se ∧ ho = ho)
def ciV (c : Int) (th : Int) (se : Int) (ho : Int) : Int := (bif
          !bif
                (4 : Int) == 4 &&
                  (c == c &&
                    ((0 : Int) == 0 &&
                      ((0 : Int) == 0 &&
                        ((0 : Int) == 0 &&
                          ((0 : Int) == 0 &&
                            (th == th &&
                              (se == se &&
                                (ho == ho &&
                                  ((0 : Int) == 0 &&
                                    ((0 : Int) == 0 &&
                                      ((0 : Int) == 0 &&
                                        ((0 : Int) == 0 &&
                                          ((0 : Int) == 0 &&
                                            ((0 : Int) == 0 &&
                                              ((0 : Int) == 0 &&
                                                ((0 : Int) == 0 &&
                                                  ((0 : Int) == 0 &&
                                                    ((0 : Int) == 0 &&
                                                      ((0 : Int) == 0 &&
                                                        ((0 : Int) == 0 &&
                                                          ((0 : Int) == 0 &&
                                                            (eqBytes { data := #[] } { data := #[] } &&
                                                              true)))))))))))))))))))))) then
              true
            else false then
        110
      else
        bif !bif !decide (ci3 c th se ho ≥ 0) then true else false then 110
        else
          bif !!decide (ci5 c th se ho ≥ 0) then 110
          else bif !bif se == 0 then true else decide (ho < se) then 110 else 0)
end Go.Rd

/- Valid surfaces have no fault (what surface.Check reckons). No program. -/
namespace Go.Rd
open Go Go.Eng Go.Ar

def inL (x : Int) : Prop := -1000000000 ≤ x ∧ x ≤ 1000000000
def inK (x : Int) : Prop := -100000000 ≤ x ∧ x ≤ 100000000
def inA (x : Int) : Prop := -90000000 ≤ x ∧ x ≤ 90000000
/-- Semi and Hole. -/
def inSH (se ho : Int) : Prop := 0 ≤ se ∧ se ≤ 1000000000 ∧ 0 ≤ ho ∧ ho ≤ 1000000000 ∧ (se = 0 ∨ ho < se)
/-- Glass. -/
def inG (s : ByteArray) : Prop := s = ⟨#[]⟩ ∨ isG s

structure vStd (c k a0 a1 a2 a3 f0 f1 o th : Int) (s : ByteArray) (se ho : Int) : Prop where
  hc : inL c
  hk : inK k
  h0 : inL a0
  h1 : inL a1
  h2 : inL a2
  h3 : inL a3
  hf : inL f0
  hg : inL f1
  ho' : -3 ≤ o ∧ o ≤ 3
  ht : inL th
  hs : inG s
  sh : inSH se ho
  ph : (f0 = 0 ∧ f1 = 0 ∧ o = 0) ∨ (o ≠ 0 ∧ s ≠ g3)

theorem lo_f {x : Int} (h : inL x) : decide (x < (-1000000000 : Int)) = false := decide_eq_false (by unfold inL at h; omega)
theorem hi_f {x : Int} (h : inL x) : decide (x > 1000000000) = false := decide_eq_false (by unfold inL at h; omega)
theorem klo_f {x : Int} (h : inK x) : decide (x < (-100000000 : Int)) = false := decide_eq_false (by unfold inK at h; omega)
theorem khi_f {x : Int} (h : inK x) : decide (x > 100000000) = false := decide_eq_false (by unfold inK at h; omega)
theorem alo_f {x : Int} (h : inA x) : decide (x < (-90000000 : Int)) = false := decide_eq_false (by unfold inA at h; omega)
theorem ahi_f {x : Int} (h : inA x) : decide (x > 90000000) = false := decide_eq_false (by unfold inA at h; omega)
theorem eqB_self (s : ByteArray) : eqBytes s s = true := (eqBytes_iff _ _).2 rfl
theorem eqB_ne {s t : ByteArray} (h : s ≠ t) : eqBytes s t = false := by
  cases e : eqBytes s t with
  | false => rfl
  | true => exact absurd ((eqBytes_iff _ _).1 e) h
theorem sh_f {se ho : Int} (h : inSH se ho) : (bif se == 0 then true else decide (ho < se)) = true := by
  obtain ⟨_, _, _, _, h1 | h1⟩ := h
  · subst h1; rfl
  · rw [decide_eq_true h1]; cases se == 0 <;> rfl

theorem std_0 {c k a0 a1 a2 a3 f0 f1 o th : Int} {s : ByteArray} {se ho : Int} (h : vStd c k a0 a1 a2 a3 f0 f1 o th s se ho) : csV c k a0 a1 a2 a3 f0 f1 o th s se ho = 0 := by
  have e1 := lo_f h.hc; have e2 := hi_f h.hc; have e3 := klo_f h.hk; have e4 := khi_f h.hk
  have e5 := lo_f h.h0; have e6 := hi_f h.h0; have e7 := lo_f h.h1; have e8 := hi_f h.h1; have e9 := lo_f h.h2; have e10 := hi_f h.h2; have e11 := lo_f h.h3; have e12 := hi_f h.h3
  have e13 := lo_f h.hf; have e14 := hi_f h.hf; have e15 := lo_f h.hg; have e16 := hi_f h.hg; have e17 := lo_f h.ht; have e18 := hi_f h.ht
  have e19 : decide (o < (-3 : Int)) = false := decide_eq_false (by have := h.ho'; omega)
  have e20 : decide (o > 3) = false := decide_eq_false (by have := h.ho'; omega)
  have hsh := h.sh
  have e21 : decide (se < 0) = false := decide_eq_false (by unfold inSH at hsh; omega)
  have e22 : decide (se > 1000000000) = false := decide_eq_false (by unfold inSH at hsh; omega)
  have e23 : decide (ho < 0) = false := decide_eq_false (by unfold inSH at hsh; omega)
  have e24 : decide (ho > 1000000000) = false := decide_eq_false (by unfold inSH at hsh; omega)
  have e25 := sh_f hsh
  have e26 := eqB_self s
  have keep : (bif o != 0 then !eqBytes s ⟨#[77, 73, 82, 82, 79, 82]⟩ else false) = (o != 0) := by
    rcases h.ph with ⟨_, _, rfl⟩ | ⟨h1, h2⟩
    · rfl
    · rw [show eqBytes s ⟨#[77, 73, 82, 82, 79, 82]⟩ = false from eqB_ne h2]; cases o != 0 <;> rfl
  have q5 : (bif o != 0 then f0 else 0) = f0 := by
    rcases h.ph with ⟨rfl, _, rfl⟩ | ⟨h1, h2⟩
    · rfl
    · rw [show (o != 0) = true by simpa using h1]; rfl
  have q6 : (bif o != 0 then f1 else 0) = f1 := by
    rcases h.ph with ⟨_, rfl, rfl⟩ | ⟨h1, h2⟩
    · rfl
    · rw [show (o != 0) = true by simpa using h1]; rfl
  have q7 : (bif o != 0 then o else 0) = o := by
    cases h1 : o != 0 with
    | true => rfl
    | false => have : o = 0 := by simpa using h1
               subst this; rfl
  have qq : ∀ x : Int, (bif o != 0 then x else x) = x := fun x => by cases o != 0 <;> rfl
  simp only [csV, cs0, cs1, cs2, cs3, cs4, cs5, cs6, cs7, cs8, cs9, cs11, cs14, cs15, cs16, cs17, cs19, cs20, cs21, cs22, cs24, cs25, cs27, cs28, cs29, cs30, cs31, keep, q5, q6, q7, qq, e1, e2, e3, e4, e5, e6, e7, e8, e9, e10, e11, e12, e13, e14, e15, e16, e17, e18, e19, e20, e21, e22, e23, e24, e25, e26, beq_self_eq_true, Bool.and_true, Bool.and_self, cond_true, cond_false, Bool.not_true, Bool.not_false]
  rfl


theorem isG_of {s : ByteArray} (h : inG s) (e : eqBytes s ⟨#[]⟩ = false) : isG s := by
  rcases h with rfl | h
  · rw [eqB_self] at e; cases e
  · exact h
theorem std_n {c k a0 a1 a2 a3 f0 f1 o th : Int} {s : ByteArray} {se ho : Int} (h : inG s) : csN c k a0 a1 a2 a3 f0 f1 o th s se ho := by
  unfold csN
  repeat' first | with_reducible exact rfl | refine And.intro ?_ ?_ | intro _
  exact isG_of h (by assumption)

structure vBic (c k l m th : Int) (s : ByteArray) (se ho : Int) : Prop where
  hc : inL c
  hk : inK k
  hl : inL l
  hm : inK m
  ht : inL th
  hs : inG s
  sh : inSH se ho
theorem bic_0 {c k l m th : Int} {s : ByteArray} {se ho : Int} (h : vBic c k l m th s se ho) : cbV c k l m th s se ho = 0 := by
  have e1 := lo_f h.hc; have e2 := hi_f h.hc; have e3 := klo_f h.hk; have e4 := khi_f h.hk
  have e5 := lo_f h.hl; have e6 := hi_f h.hl; have e7 := klo_f h.hm; have e8 := khi_f h.hm; have e17 := lo_f h.ht; have e18 := hi_f h.ht
  have hsh := h.sh
  have e21 : decide (se < 0) = false := decide_eq_false (by unfold inSH at hsh; omega)
  have e22 : decide (se > 1000000000) = false := decide_eq_false (by unfold inSH at hsh; omega)
  have e23 : decide (ho < 0) = false := decide_eq_false (by unfold inSH at hsh; omega)
  have e24 : decide (ho > 1000000000) = false := decide_eq_false (by unfold inSH at hsh; omega)
  have e25 := sh_f hsh
  have e26 := eqB_self s
  simp only [cb0, cb2, cb3, cb6, cb7, cb9, cb10, cb11, cb12, cb13, cb14, cb15, cbV, e1, e2, e3, e4, e5, e6, e7, e8, e17, e18, e21, e22, e23, e24, e25, e26, beq_self_eq_true, Bool.and_true, Bool.and_self, cond_true, cond_false, Bool.not_true, Bool.not_false]
  rfl
theorem bic_n {c k l m th : Int} {s : ByteArray} {se ho : Int} (h : inG s) : cbN c k l m th s se ho := by
  unfold cbN
  repeat' first | with_reducible exact rfl | refine And.intro ?_ ?_ | intro _
  exact isG_of h (by assumption)

structure vBrk (th dx dy ax ay az : Int) : Prop where
  ht : inL th
  hx : inL dx
  hy : inL dy
  ha : inA ax
  hb : inA ay
  hc : inA az
theorem brk_0 {th dx dy ax ay az : Int} (h : vBrk th dx dy ax ay az) : crV th dx dy ax ay az = 0 := by
  have e1 := lo_f h.ht; have e2 := hi_f h.ht; have e3 := lo_f h.hx; have e4 := hi_f h.hx; have e5 := lo_f h.hy; have e6 := hi_f h.hy
  have e7 := alo_f h.ha; have e8 := ahi_f h.ha; have e9 := alo_f h.hb; have e10 := ahi_f h.hb; have e11 := alo_f h.hc; have e12 := ahi_f h.hc
  simp only [cr1, cr2, cr5, cr7, cr8, cr9, crV, e1, e2, e3, e4, e5, e6, e7, e8, e9, e10, e11, e12, beq_self_eq_true, eqB_self, Bool.and_true, Bool.and_self, cond_true, cond_false, Bool.not_true, Bool.not_false]
  rfl
theorem brk_n {th dx dy ax ay az : Int} : crN th dx dy ax ay az := by
  unfold crN
  repeat' first | with_reducible exact rfl | refine And.intro ?_ ?_ | intro _

structure vIdl (c th se ho : Int) : Prop where
  hc : inL c
  ht : inL th
  sh : inSH se ho
theorem idl_0 {c th se ho : Int} (h : vIdl c th se ho) : ciV c th se ho = 0 := by
  have e1 := lo_f h.hc; have e2 := hi_f h.hc; have e17 := lo_f h.ht; have e18 := hi_f h.ht
  have hsh := h.sh
  have e21 : decide (se < 0) = false := decide_eq_false (by unfold inSH at hsh; omega)
  have e22 : decide (se > 1000000000) = false := decide_eq_false (by unfold inSH at hsh; omega)
  have e23 : decide (ho < 0) = false := decide_eq_false (by unfold inSH at hsh; omega)
  have e24 : decide (ho > 1000000000) = false := decide_eq_false (by unfold inSH at hsh; omega)
  have e25 := sh_f hsh
  simp only [ci1, ci3, ci4, ci5, ciV, e1, e2, e17, e18, e21, e22, e23, e24, e25, beq_self_eq_true, eqB_self, Bool.and_true, Bool.and_self, cond_true, cond_false, Bool.not_true, Bool.not_false]
  rfl
theorem idl_n {c th se ho : Int} : ciN c th se ho := by
  unfold ciN
  repeat' first | with_reducible exact rfl | refine And.intro ?_ ?_ | intro _
end Go.Rd
