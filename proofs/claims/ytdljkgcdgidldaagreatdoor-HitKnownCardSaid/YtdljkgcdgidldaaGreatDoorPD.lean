/- What is proved: HitKnown returns true (part 4 of 26). No conditions beyond those of the row. -/
import Derived.Test.YtdljkgcdgidldaaGreatDoorPC
import Derived.WideKeyElems2
import Derived.ChangeSlices
import Derived.MakeChecks
import Derived.WalkKit
import Derived.ProofKit
import Derived.OpenShut
import Derived.WideKeyArgs
set_option linter.unusedVariables false
set_option linter.unusedSimpArgs false
set_option linter.unusedSectionVars false
/- The engine, part 36: loops with an invariant. -/
namespace Go.Eng
noncomputable section

/-- What is told of a state anew: temporaries, blocks that lay there, new blocks (the last one first). -/
structure Patch where
  tm : List (Nat × AV)
  old : List (Nat × ABody)
  new : List ABody

def putTs {β : Type} (c : Nat) : List (Nat × AV) → List AT → (List AT → β) → β
  | [], l, k => k l
  | (i, v) :: p, l, k => setC l i ⟨c, v⟩ fun l => putTs c p l k

def putHs {β : Type} (c size : Nat) : List (Nat × ABody) → List ABlk → (List ABlk → β) → β
  | [], l, k => k l
  | (i, b) :: p, l, k => setC l (size - 1 - i) ⟨c, b⟩ fun l => putHs c size p l k

def newBlks (c : Nat) : List ABody → List ABlk → List ABlk
  | [], l => l
  | b :: p, l => ⟨c, b⟩ :: newBlks c p l

def patch (s : St) (p : Patch) : St :=
  putTs s.hp.clock p.tm s.tmps fun t => putHs s.hp.clock s.hp.size p.old s.hp.blks fun b => forceNat (s.hp.size + p.new.length) fun n => forceNat (s.hp.clock + 1) fun c =>
    ⟨t, s.defs, ⟨newBlks s.hp.clock p.new b, n, c⟩⟩

def isLoop : Option ABlk → Bool
  | some ⟨_, .loop _⟩ => true
  | _ => false

/-- Only blocks that lie there, and no loop's record. -/
def oldsOk (h : Hp) : List (Nat × ABody) → Bool
  | [] => true
  | (i, _) :: p => Nat.blt i h.size && !isLoop (h.get i) && oldsOk h p

def setTs (c : Nat) : List (Nat × AV) → List AT → List AT
  | [], l => l
  | (i, v) :: p, l => setTs c p (l.set i ⟨c, v⟩)

def setHs (c size : Nat) : List (Nat × ABody) → List ABlk → List ABlk
  | [], l => l
  | (i, b) :: p, l => setHs c size p (l.set (size - 1 - i) ⟨c, b⟩)

theorem putTs_eq {β : Type} (c : Nat) : ∀ (p : List (Nat × AV)) (l : List AT) (k : List AT → β), putTs c p l k = k (setTs c p l)
  | [], _, _ => rfl
  | (i, v) :: p, l, k => by simp only [putTs, setC_eq, setTs]; exact putTs_eq c p _ k

theorem putHs_eq {β : Type} (c size : Nat) : ∀ (p : List (Nat × ABody)) (l : List ABlk) (k : List ABlk → β), putHs c size p l k = k (setHs c size p l)
  | [], _, _ => rfl
  | (i, v) :: p, l, k => by simp only [putHs, setC_eq, setHs]; exact putHs_eq c size p _ k

theorem newBlks_eq (c : Nat) : ∀ (p : List ABody) (l : List ABlk), newBlks c p l = p.map (fun b => ⟨c, b⟩) ++ l
  | [], _ => rfl
  | b :: p, l => by simp [newBlks, newBlks_eq c p l]

theorem patch_eq (s : St) (p : Patch) : patch s p = ⟨setTs s.hp.clock p.tm s.tmps, s.defs, ⟨p.new.map (fun b => ⟨s.hp.clock, b⟩) ++ setHs s.hp.clock s.hp.size p.old s.hp.blks, s.hp.size + p.new.length, s.hp.clock + 1⟩⟩ := by
  simp [patch, putTs_eq, putHs_eq, newBlks_eq]

theorem setTs_spec (c : Nat) : ∀ (p : List (Nat × AV)) (l : List AT), (setTs c p l).length = l.length ∧ ∀ (t : Nat) (x : AT), (setTs c p l)[t]? = some x → l[t]? = some x ∨ x.st = c
  | [], l => ⟨rfl, fun t x h => .inl h⟩
  | (i, v) :: p, l => by
    obtain ⟨h1, h2⟩ := setTs_spec c p (l.set i ⟨c, v⟩)
    refine ⟨by simp only [setTs]; rw [h1]; simp, fun t x h => ?_⟩
    rcases h2 t x h with h3 | h3
    · by_cases he : t = i
      · subst he
        by_cases hl : t < l.length
        · rw [List.getElem?_set_self hl] at h3; cases h3; exact .inr rfl
        · rw [List.getElem?_eq_none (by simpa using hl)] at h3; cases h3
      · rw [List.getElem?_set_ne (Ne.symm he)] at h3; exact .inl h3
    · exact .inr h3

theorem setHs_spec (c size : Nat) : ∀ (p : List (Nat × ABody)) (l : List ABlk), (setHs c size p l).length = l.length ∧
    ∀ (t : Nat) (x : ABlk), (setHs c size p l)[t]? = some x → (l[t]? = some x) ∨ (x.wr = c ∧ ∃ i b, (i, b) ∈ p ∧ t = size - 1 - i)
  | [], l => ⟨rfl, fun t x h => .inl h⟩
  | (i, v) :: p, l => by
    obtain ⟨h1, h2⟩ := setHs_spec c size p (l.set (size - 1 - i) ⟨c, v⟩)
    refine ⟨by simp only [setHs]; rw [h1]; simp, fun t x h => ?_⟩
    rcases h2 t x h with h3 | ⟨h3, j, b, h4, h5⟩
    · by_cases he : t = size - 1 - i
      · subst he
        by_cases hl : size - 1 - i < l.length
        · rw [List.getElem?_set_self hl] at h3; cases h3; exact .inr ⟨rfl, i, v, by simp, rfl⟩
        · rw [List.getElem?_eq_none (by simpa using hl)] at h3; cases h3
      · rw [List.getElem?_set_ne (Ne.symm he)] at h3; exact .inl h3
    · exact .inr ⟨h3, j, b, by simp [h4], h5⟩

theorem oldsOk_spec {h : Hp} : ∀ {p : List (Nat × ABody)}, oldsOk h p = true → ∀ i b, (i, b) ∈ p → i < h.size ∧ isLoop (h.get i) = false
  | [], _, i, b, hm => by cases hm
  | (j, d) :: p, e, i, b, hm => by
    simp only [oldsOk, Bool.and_eq_true] at e
    rcases List.mem_cons.1 hm with h1 | h1
    · cases h1
      exact ⟨of_blt e.1.1, by simpa using e.1.2⟩
    · exact oldsOk_spec e.2 i b h1

theorem patch_next {s : St} (ok : s.hp.ok) {p : Patch} (h : oldsOk s.hp p.old = true) : Next1 s (patch s p) := by
  rw [patch_eq]
  obtain ⟨t1, t2⟩ := setTs_spec s.hp.clock p.tm s.tmps
  obtain ⟨b1, b2⟩ := setHs_spec s.hp.clock s.hp.size p.old s.hp.blks
  have ol := oldsOk_spec h
  have ok : s.hp.blks.length = s.hp.size := ok
  have get : ∀ i, i < s.hp.size → (⟨p.new.map (fun b => ⟨s.hp.clock, b⟩) ++ setHs s.hp.clock s.hp.size p.old s.hp.blks, s.hp.size + p.new.length, s.hp.clock + 1⟩ : Hp).get i = (setHs s.hp.clock s.hp.size p.old s.hp.blks)[s.hp.size - 1 - i]? := by
    intro i hi
    rw [Hp.get_eq, if_pos (by simp only; omega), List.getElem?_append_right (by simp; omega)]
    congr 1
    simp only [List.length_map]
    omega
  refine ⟨⟨t1, fun t x hx => ?_⟩, ⟨Nat.le_succ _, Nat.le_add_right _ _, fun i b c hb hc => ?_, fun i w c hb => ?_⟩, ?_, rfl⟩
  · rcases t2 t x hx with h1 | h1
    · exact .inl h1
    · exact .inr (by omega)
  · have hi := Hp.get_lt hb
    rw [get i hi] at hc
    rw [Hp.get_eq, if_pos hi] at hb
    rcases b2 _ c hc with h1 | ⟨h1, _⟩
    · rw [hb] at h1; cases h1; exact .inl rfl
    · exact .inr (by omega)
  · have hi := Hp.get_lt hb
    have hb' := hb
    rw [Hp.get_eq, if_pos hi] at hb'
    obtain ⟨x, hx⟩ : ∃ x, (setHs s.hp.clock s.hp.size p.old s.hp.blks)[s.hp.size - 1 - i]? = some x := ⟨_, List.getElem?_eq_getElem (by omega)⟩
    rcases b2 _ x hx with h1 | ⟨_, j, d, h2, h3⟩
    · rw [hb'] at h1; cases h1
      exact ⟨w, c.state, c.pending, by rw [get i hi]; exact hx⟩
    · obtain ⟨o1, o2⟩ := ol j d h2
      have : i = j := by omega
      subst this
      rw [hb] at o2; cases o2
  · simp only [Hp.ok, List.length_append, List.length_map]; omega

/-! ### The rule -/

/-- What must hold that every way out of a piece of code is one that is told. -/
def chkL (s0 : St) (P : Ex → Option (Patch × List Nat × Prop)) : List Ent → Option Nd
  | [] => some .tt
  | e :: l => match chkL s0 P l with
    | none => none
    | some q => match P e.x with
      | none => some ((e.g.on fun g => Nd.p (g = false)).and q)
      | some (p, ids, x) => match oldsOk s0.hp p.old with
        | false => none
        | true => match fit s0 e.s (patch s0 p) ids with
          | none => none
          | some nd => some ((e.g.on fun g => Nd.imp (g = true) (nd.and (.p x))).and q)

def chkR (s0 : St) (P : Ex → Option (Patch × List Nat × Prop)) : Option R → Option Nd
  | none => none
  | some ⟨nd, l⟩ => match chkL s0 P l with
    | none => none
    | some m => some (nd.and m)

theorem chkL_one {s0 : St} {P : Ex → Option (Patch × List Nat × Prop)} : ∀ {l : List Ent} {nd : Nd}, chkL s0 P l = some nd → nd.val → ∀ e, One l e → ∃ p ids x m, P e.x = some (p, ids, x) ∧ oldsOk s0.hp p.old = true ∧ fit s0 e.s (patch s0 p) ids = some m ∧ m.val ∧ x
  | [], _, _, _, e, h => by simp [One] at h
  | a :: l, nd, h, hn, e, ho => by
    simp only [chkL] at h
    split at h
    · cases h
    · rename_i q hq
      rcases one_cases ho with ⟨h1, h2, _⟩ | ⟨_, h2⟩
      · subst h2
        split at h
        · cases h
          have h3 := Nd.lv hn
          rw [G.on_eq] at h3
          rw [show _ = _ from h3] at h1
          cases h1
        · rename_i p ids x hP
          split at h
          · cases h
          · rename_i hold
            split at h
            · cases h
            · rename_i m hm
              cases h
              have h3 := Nd.lv hn
              rw [G.on_eq] at h3
              have h4 := Nd.iv h3 h1
              exact ⟨p, ids, x, m, hP, hold, hm, Nd.lv h4, Nd.rv h4⟩
      · refine chkL_one hq ?_ e h2
        split at h
        · cases h; exact Nd.rv hn
        · split at h
          · cases h
          · split at h
            · cases h
            · cases h; exact Nd.rv hn

/-- A loop's sum: S tells the state ahead of a round, next the following one, X the ways out, F what comes of it all. -/
structure Sum (α : Type) where
  S : α → Patch
  I : α → Prop
  μ : α → Nat
  F : α → Ex × Patch
  next : α → α
  ids : List Nat
  X : α → Ex → Option (Patch × List Nat)

def Sum.way {α : Type} (u : Sum α) (y : α) : Ex → Option (Patch × List Nat × Prop)
  | .normal => some (u.S (u.next y), u.ids, u.I (u.next y) ∧ u.μ (u.next y) < u.μ y ∧ u.F (u.next y) = u.F y)
  | x => match u.X y x with
    | none => none
    | some (p, ids) => some (p, ids, u.F y = (x, p))

def Holds (o : Option Nd) : Prop := ∃ nd, o = some nd ∧ nd.val

theorem sum_ok {C : Ctx} {r : Rec} (ro : RecOk C r) {fr : AFr} {a : Code} {s0 : St} {α : Type} (u : Sum α) {y0 : α} {ids0 : List Nat} (hI : u.I y0) (start : Holds (fit s0 s0 (patch s0 (u.S y0)) ids0)) (hs : oldsOk s0.hp (u.S y0).old = true)
    (body : ∀ y, u.I y → Holds (chkR s0 (u.way y) (r.code fr a (patch s0 (u.S y))))) {q : R} (hq : ∃ e, One q.l e ∧ e.x = (u.F y0).1 ∧ e.s = patch s0 (u.F y0).2) : CodeOk C fr (.loop a) s0 q := by
  intro σ T0 D0 W0 g sr b k todo cs hst fb _
  obtain ⟨e0, h1, h2, h3⟩ := hq
  refine ⟨e0, h1, ?_⟩
  rw [h2, h3]
  -- from the beginning of a round
  have main : ∀ (n : Nat) (y : α), u.μ y < n → u.I y → ∀ (τ : Sg) (T : Array Value) (D : List Deferred) (W : World), SRel τ (patch s0 (u.S y)) T D W → Step σ s0 W0 τ (patch s0 (u.S y)) W →
      Post σ s0 W0 (Arr C.P (lone (b.fr T D (.code a :: .inLoop a :: k)) cs W) b k cs) (u.F y).1 (patch s0 (u.F y).2) := by
    intro n
    induction n with
    | zero => intro y h; exact absurd h (Nat.not_lt_zero _)
    | succ n ih =>
      intro y hlt hy τ T D W sr1 st1
      obtain ⟨nd, e1, hn⟩ := body y hy
      unfold chkR at e1
      split at e1
      · cases e1
      · rename_i nd1 l hl
        split at e1
        · cases e1
        · rename_i m hm
          cases e1
          obtain ⟨e, o1, τ2, T2, D2, V2, sr2, st2, arr⟩ := ro.code _ _ _ _ hl τ T D W (g.mono st1.good.sub) sr1 b (.inLoop a :: k) _ cs (.inl rfl) (fb.mono st1.good.sub) (Nd.lv hn)
          obtain ⟨p, ids, x, m', hP, hold, hf, hm', hx⟩ := chkL_one hm (Nd.rv hn) e o1
          have st3 := Step.trans sr1.ko sr2.ko st1 st2
          obtain ⟨υ, sr4, st4⟩ := fit_ok sr sr2 st3 (patch_next sr.ko hold) hf hm'
          have later : ∀ ex, ex ≠ .normal → (match u.X y ex with | none => none | some (p, ids) => some (p, ids, u.F y = (ex, p))) = some (p, ids, x) → Arr C.P (lone (b.fr T D (.code a :: .inLoop a :: k)) cs W) b (.inLoop a :: k) cs ex T2 D2 V2 →
              Post σ s0 W0 (Arr C.P (lone (b.fr T D (.code a :: .inLoop a :: k)) cs W) b k cs) (u.F y).1 (patch s0 (u.F y).2) := by
            intro ex hne hP arr
            split at hP
            · cases hP
            · cases hP
              rw [show u.F y = _ from hx]
              exact ⟨υ, T2, D2, V2, sr4, st4, arr.pass rfl hne⟩
          cases hex : e.x with
          | normal =>
            rw [hex] at hP arr
            simp only [Sum.way] at hP
            cases hP
            obtain ⟨x1, x2, x3⟩ := hx
            have := ih (u.next y) (by omega) x1 υ T2 D2 V2 sr4 st4
            rw [x3] at this
            refine this.imp fun T3 D3 V3 h => .of_steps (Steps.trans arr (.one st_inLoop)) h
          | exit i => rw [hex] at hP arr; exact later (.exit i) (fun h => by cases h) hP arr
          | goto i => rw [hex] at hP arr; exact later (.goto i) (fun h => by cases h) hP arr
          | ret => rw [hex] at hP arr; exact later .ret (fun h => by cases h) hP arr
          | raise v => rw [hex] at hP arr; exact later (.raise v) (fun h => by cases h) hP arr
  obtain ⟨nd, e1, hn⟩ := start
  have refl : Step σ s0 W0 σ s0 W0 := ⟨Good.refl σ s0.hp W0 fun i B N h => (sr.h.dom i B N h).1, TMon.refl s0⟩
  obtain ⟨υ, sr1, st1⟩ := fit_ok sr sr refl (patch_next sr.ko hs) e1 hn
  have := main _ y0 (Nat.lt_succ_self _) hI υ T0 D0 W0 sr1 st1
  refine this.imp fun T3 D3 V3 h => ?_
  rcases hst with rfl | ⟨c, hc, rfl⟩
  · exact .of_steps (.one st_loop) h
  · cases hc
    exact .of_steps (.one st_inLoop) h

/-! ### Where a loop is met -/

/-- The place at which a loop is met, told by what it must be. -/
def At (fr fr' : AFr) (a a' : Code) (s s' : St) : Prop := fr = fr' ∧ a = a' ∧ s = s'

/-- A loop's sum at a place: function, clock, what must be met, and what comes of it. -/
structure Known where
  fn : FuncId
  clock : Nat
  fr : AFr
  a : Code
  s : St
  l : List Ent

def loopAt : List Known → AFr → Code → St → Option R
  | [], _, _, _ => none
  | x :: l, fr, a, s => match Nat.beq fr.fn x.fn && Nat.beq s.hp.clock x.clock with
    | true => some ⟨.p (At fr x.fr a x.a s x.s), x.l⟩
    | false => loopAt l fr a s

end
end Go.Eng

/- The engine, part 37: contracts of functions of numbers. -/
namespace Go.Eng
noncomputable section

/-- The shape of an argument: a number, something known, several. -/
inductive Sh where
  | i (k : IntKind)
  | b
  | c (v : AV)
  | a (l : List Sh)
  /-- a text -/
  | str
  /-- some value of one cell -/
  | one

/-- A number, or a truth value. -/
inductive Nu where
  | n (x : Int)
  | t (b : Bool)
  | s (b : ByteArray)

mutual
/-- The numbers of an argument, and whether one of them is symbolic. -/
def Sh.read : Sh → AV → Option (Bool × List Nu)
  | .i k, v => match v with
    | .int s k' x => if k = k' then some (s, [.n x]) else none
    | _ => none
  | .b, v => match v with
    | .bool s x => some (s, [.t x])
    | _ => none
  | .c w, v => match sameV v w with
    | true => some (false, [])
    | false => none
  | .a l, v => match v with
    | .agg m => Sh.readL l m
    | _ => none
  | .str, v => match v with
    | .str s x => some (s, [.s x])
    | _ => none
  | .one, v => match v.isCell with
    | true => some (false, [])
    | false => none
def Sh.readL : List Sh → List AV → Option (Bool × List Nu)
  | [], [] => some (false, [])
  | h :: l, v :: m => match Sh.read h v with
    | none => none
    | some (s, xs) => match Sh.readL l m with
      | none => none
      | some (s', ys) => some (s || s', xs ++ ys)
  | _, _ => none
end

mutual
/-- The argument of some numbers, which are symbolic; what is left of them. -/
def Sh.mk : Sh → List Nu → AV × List Nu
  | .i k, l => match l with
    | .n x :: l => (.int true k x, l)
    | _ => (.nil, [])
  | .b, l => match l with
    | .t x :: l => (.bool true x, l)
    | _ => (.nil, [])
  | .c w, l => (w, l)
  | .a hs, l => match Sh.mkL hs l with
    | (vs, l) => (.agg vs, l)
  | .str, l => match l with
    | .s x :: l => (.str true x, l)
    | _ => (.nil, [])
  | .one, l => (.any true, l)
def Sh.mkL : List Sh → List Nu → List AV × List Nu
  | [], l => ([], l)
  | h :: hs, l => match Sh.mk h l with
    | (v, l) => match Sh.mkL hs l with
      | (vs, l) => (v :: vs, l)
end

mutual
theorem Sh.read_mk : ∀ (h : Sh) (v : AV) (s : Bool) (xs ys : List Nu), Sh.read h v = some (s, xs) → (Sh.mk h (xs ++ ys)).2 = ys ∧ ∀ σ V, VRel σ v V → VRel σ (Sh.mk h (xs ++ ys)).1 V
  | .i k, v, s, xs, ys, e => by
    simp only [Sh.read] at e
    split at e
    · split at e
      · rename_i hk; subst hk; cases e
        exact ⟨rfl, fun σ V h => h⟩
      · cases e
    · cases e
  | .b, v, s, xs, ys, e => by
    simp only [Sh.read] at e
    split at e
    · cases e
      exact ⟨rfl, fun σ V h => h⟩
    · cases e
  | .c w, v, s, xs, ys, e => by
    simp only [Sh.read] at e
    split at e
    · rename_i hs; cases e
      rw [sameV_eq _ _ hs]
      exact ⟨rfl, fun σ V h => h⟩
    · cases e
  | .a l, v, s, xs, ys, e => by
    simp only [Sh.read] at e
    split at e
    · obtain ⟨h1, h2⟩ := Sh.readL_mk l _ s xs ys e
      refine ⟨h1, fun σ V h => ?_⟩
      obtain ⟨K, k1, k2⟩ := h
      exact ⟨K, k1, h2 σ _ k2⟩
    · cases e
  | .str, v, s, xs, ys, e => by
    simp only [Sh.read] at e
    split at e
    · cases e
      exact ⟨rfl, fun σ V h => h⟩
    · cases e
  | .one, v, s, xs, ys, e => by
    simp only [Sh.read] at e
    split at e
    · rename_i hc; cases e
      exact ⟨rfl, fun σ V h => oneCell_any (isCell_one h hc)⟩
    · cases e
theorem Sh.readL_mk : ∀ (h : List Sh) (v : List AV) (s : Bool) (xs ys : List Nu), Sh.readL h v = some (s, xs) → (Sh.mkL h (xs ++ ys)).2 = ys ∧ ∀ σ L, VRels σ v L → VRels σ (Sh.mkL h (xs ++ ys)).1 L
  | [], [], s, xs, ys, e => by
    simp only [Sh.readL] at e; cases e
    exact ⟨rfl, fun σ L h => h⟩
  | h :: l, v :: m, s, xs, ys, e => by
    simp only [Sh.readL] at e
    split at e
    · cases e
    · rename_i s1 x1 e1
      split at e
      · cases e
      · rename_i s2 x2 e2
        cases e
        obtain ⟨a1, a2⟩ := Sh.read_mk h v s1 x1 (x2 ++ ys) e1
        obtain ⟨b1, b2⟩ := Sh.readL_mk l m s2 x2 ys e2
        have e3 : x1 ++ x2 ++ ys = x1 ++ (x2 ++ ys) := List.append_assoc ..
        simp only [Sh.mkL, e3]
        rw [show Sh.mk h (x1 ++ (x2 ++ ys)) = ((Sh.mk h (x1 ++ (x2 ++ ys))).1, x2 ++ ys) from Prod.ext rfl a1]
        refine ⟨b1, fun σ L hL => ?_⟩
        obtain ⟨V, L', q1, q2, q3⟩ := hL
        exact ⟨V, L', q1, a2 σ V q2, b2 σ L' q3⟩
  | [], _ :: _, _, _, _, e => by simp [Sh.readL] at e
  | _ :: _, [], _, _, _, e => by simp [Sh.readL] at e
end

/-- A result. -/
inductive Tm where
  | n (k : IntKind) (x : Int)
  | t (b : Bool)
  | a (l : List Tm)
  | u (l : List Tm)
  | str (b : ByteArray)

mutual
def Tm.av (s : Bool) : Tm → AV
  | .n k x => mkInt s k x
  | .t b => mkBool s b
  | .a l => .agg (Tm.avL s l)
  | .u l => .tuple (Tm.avL s l)
  | .str b => .str s b
def Tm.avL (s : Bool) : List Tm → List AV
  | [] => []
  | x :: l => x.av s :: Tm.avL s l
end

mutual
theorem Tm.av_rel {σ τ : Sg} {s s' : Bool} : ∀ (x : Tm) (V : Value), VRel σ (x.av s) V → VRel τ (x.av s') V
  | .n k x, V, h => by simp only [Tm.av, mkInt_rel] at h ⊢; exact h
  | .t b, V, h => by simp only [Tm.av, mkBool_rel] at h ⊢; exact h
  | .a l, V, h => by
    simp only [Tm.av] at h ⊢
    obtain ⟨K, h1, h2⟩ := h
    exact ⟨K, h1, Tm.avL_rel l _ h2⟩
  | .u l, V, h => by
    simp only [Tm.av] at h ⊢
    obtain ⟨K, h1, h2⟩ := h
    exact ⟨K, h1, Tm.avL_rel l _ h2⟩
  | .str b, V, h => by
    simp only [Tm.av] at h ⊢
    exact h
theorem Tm.avL_rel {σ τ : Sg} {s s' : Bool} : ∀ (x : List Tm) (L : List Value), VRels σ (Tm.avL s x) L → VRels τ (Tm.avL s' x) L
  | [], L, h => h
  | x :: l, L, h => by
    simp only [Tm.avL] at h ⊢
    obtain ⟨V, L', h1, h2, h3⟩ := h
    exact ⟨V, L', h1, Tm.av_rel x V h2, Tm.avL_rel l L' h3⟩
end

def Nu.isN : Nu → Nat
  | .n _ => 0
  | .t _ => 1
  | .s _ => 2

mutual
def Sh.kinds : Sh → List Nat
  | .i _ => [0]
  | .b => [1]
  | .str => [2]
  | .one => []
  | .c _ => []
  | .a l => Sh.kindsL l
def Sh.kindsL : List Sh → List Nat
  | [] => []
  | h :: l => h.kinds ++ Sh.kindsL l
end

mutual
theorem Sh.read_kinds : ∀ (h : Sh) (v : AV) (s : Bool) (xs : List Nu), Sh.read h v = some (s, xs) → xs.map Nu.isN = h.kinds
  | .i k, v, s, xs, e => by
    simp only [Sh.read] at e
    split at e
    · split at e
      · cases e; rfl
      · cases e
    · cases e
  | .b, v, s, xs, e => by
    simp only [Sh.read] at e
    split at e
    · cases e; rfl
    · cases e
  | .c w, v, s, xs, e => by
    simp only [Sh.read] at e
    split at e
    · cases e; rfl
    · cases e
  | .a l, v, s, xs, e => by
    simp only [Sh.read] at e
    split at e
    · exact Sh.readL_kinds l _ s xs e
    · cases e
  | .str, v, s, xs, e => by
    simp only [Sh.read] at e
    split at e
    · cases e; rfl
    · cases e
  | .one, v, s, xs, e => by
    simp only [Sh.read] at e
    split at e
    · cases e; rfl
    · cases e
theorem Sh.readL_kinds : ∀ (h : List Sh) (v : List AV) (s : Bool) (xs : List Nu), Sh.readL h v = some (s, xs) → xs.map Nu.isN = Sh.kindsL h
  | [], [], s, xs, e => by simp only [Sh.readL] at e; cases e; rfl
  | h :: l, v :: m, s, xs, e => by
    simp only [Sh.readL] at e
    split at e
    · cases e
    · rename_i s1 x1 e1
      split at e
      · cases e
      · rename_i s2 x2 e2
        cases e
        simp only [List.map_append, Sh.kindsL, Sh.read_kinds h v s1 x1 e1, Sh.readL_kinds l m s2 x2 e2]
  | [], _ :: _, _, _, e => by simp [Sh.readL] at e
  | _ :: _, [], _, _, e => by simp [Sh.readL] at e
end

theorem kn {xs : List Nu} {l : List Nat} (h : xs.map Nu.isN = 0 :: l) : ∃ a ys, xs = .n a :: ys ∧ ys.map Nu.isN = l := by
  cases xs with
  | nil => cases h
  | cons x ys =>
    simp only [List.map_cons, List.cons.injEq] at h
    cases x with
    | n a => exact ⟨a, ys, rfl, h.2⟩
    | t b => exact absurd h.1 (by simp [Nu.isN])
    | s b => exact absurd h.1 (by simp [Nu.isN])

theorem kt {xs : List Nu} {l : List Nat} (h : xs.map Nu.isN = 1 :: l) : ∃ a ys, xs = .t a :: ys ∧ ys.map Nu.isN = l := by
  cases xs with
  | nil => cases h
  | cons x ys =>
    simp only [List.map_cons, List.cons.injEq] at h
    cases x with
    | n a => exact absurd h.1 (by simp [Nu.isN])
    | t b => exact ⟨b, ys, rfl, h.2⟩
    | s b => exact absurd h.1 (by simp [Nu.isN])

theorem ks {xs : List Nu} {l : List Nat} (h : xs.map Nu.isN = 2 :: l) : ∃ a ys, xs = .s a :: ys ∧ ys.map Nu.isN = l := by
  cases xs with
  | nil => cases h
  | cons x ys =>
    simp only [List.map_cons, List.cons.injEq] at h
    cases x with
    | n a => exact absurd h.1 (by simp [Nu.isN])
    | t b => exact absurd h.1 (by simp [Nu.isN])
    | s b => exact ⟨b, ys, rfl, h.2⟩

theorem k0 {xs : List Nu} (h : xs.map Nu.isN = []) : xs = [] := by
  cases xs with
  | nil => rfl
  | cons x ys => cases h

/-- A context with some loops' sums. -/
def withLoops (C : Ctx) (l : List Known) : Ctx := { C with loop := fun fr a s => match loopAt l fr a s with
  | some q => some q
  | none => C.loop fr a s }

/-- A loop's sum with one way out, at its place. -/
@[reducible] def oneLoop (f clock : Nat) (fr : AFr) (a : Code) (s : St) (x : Ex) (p : Patch) : Known := ⟨f, clock, fr, a, s, [⟨.tt, x, patch s p⟩]⟩

theorem withLoop_ok {C : Ctx} (co : CtxOk C) {f clock : Nat} {fr : AFr} {a : Code} {s : St} {x : Ex} {p : Patch} (h : CodeOk C fr (.loop a) s ⟨.tt, [⟨.tt, x, patch s p⟩]⟩) {l : List Known} (k : CtxOk (withLoops C l)) : CtxOk (withLoops C (oneLoop f clock fr a s x p :: l)) := by
  refine ⟨co.prog, co.con, co.ext, fun fr' a' s' q e => ?_, co.two⟩
  have e : (match loopAt (oneLoop f clock fr a s x p :: l) fr' a' s' with | some q => some q | none => C.loop fr' a' s') = some q := e
  simp only [loopAt] at e
  by_cases hc : (Nat.beq fr'.fn f && Nat.beq s'.hp.clock clock) = true
  · rw [hc] at e
    simp only at e
    cases e
    intro σ T D W g sr b k todo cs hst fb hn
    obtain ⟨rfl, rfl, rfl⟩ := hn
    exact h σ T D W g sr b k todo cs hst fb trivial
  · rw [Bool.not_eq_true] at hc
    rw [hc] at e
    exact k.loop fr' a' s' q e

/-- A loop's sum with two ways out, at its place. -/
@[reducible] def twoLoop (f clock : Nat) (fr : AFr) (a : Code) (s : St) (g : Bool) (x : Ex) (p : Patch) (x' : Ex) (p' : Patch) : Known := ⟨f, clock, fr, a, s, [⟨.b g, x, patch s p⟩, ⟨.b (!g), x', patch s p'⟩]⟩

theorem sum_two {C : Ctx} {r : Rec} (ro : RecOk C r) {fr : AFr} {a : Code} {s0 : St} {α : Type} (u : Sum α) {y0 : α} {ids0 : List Nat} (hI : u.I y0) (start : Holds (fit s0 s0 (patch s0 (u.S y0)) ids0)) (hs : oldsOk s0.hp (u.S y0).old = true)
    (body : ∀ y, u.I y → Holds (chkR s0 (u.way y) (r.code fr a (patch s0 (u.S y))))) {g : Bool} {x x' : Ex} {p p' : Patch} (hF : u.F y0 = bif g then (x, p) else (x', p')) : CodeOk C fr (.loop a) s0 ⟨.tt, [⟨.b g, x, patch s0 p⟩, ⟨.b (!g), x', patch s0 p'⟩]⟩ := by
  cases g with
  | true => exact sum_ok ro u hI start hs body ⟨⟨.b true, x, patch s0 p⟩, by simp [One, G.val], by rw [hF]; rfl, by rw [hF]; rfl⟩
  | false => exact sum_ok ro u hI start hs body ⟨⟨.b true, x', patch s0 p'⟩, by simp [One, G.val], by rw [hF]; rfl, by rw [hF]; rfl⟩

end
end Go.Eng

/- The engine, part 38: contracts of functions of numbers that read package-level variables; what the arguments of a law are. -/
namespace Go.Eng
noncomputable section

/-- A contract over given package-level variables: nothing turns. -/
structure GOk (P : Program) (glob : Nat → Option Nat) (hG : Hp) (f : FuncId) (spec : PSpec) : Prop where
  call : ∀ args nd v, spec args = some (nd, v) → ∀ h, globsSame hG h hG.size = true → CallOk (mkM P glob hG [] noExt) f args h ⟨nd, [⟨.tt, v, h⟩]⟩
  fn : ∃ fn : Func, P.funcs[f]? = some fn ∧ fn.body.isSome = true

theorem PureOk.g {P : Program} {f : FuncId} {spec : PSpec} (p : PureOk P f spec) (glob : Nat → Option Nat) (hG : Hp) : GOk P glob hG f spec :=
  ⟨fun args nd v e h _ => p.call (C := mkM P glob hG [] noExt) e h, p.fn⟩

def memoSpec (as : List AV) (v : AV) : PSpec := fun args => match sameL args as with
  | true => some (.tt, v)
  | false => none

theorem MemoOk.g {P : Program} {glob : Nat → Option Nat} {hG : Hp} {f : FuncId} {as : List AV} {v : AV} (m : MemoOk P glob hG (f, as, v)) : GOk P glob hG f (memoSpec as v) := by
  refine ⟨fun args nd w e h same => ?_, m.fn⟩
  unfold memoSpec at e
  split at e
  · rename_i hs
    cases e
    rw [sameL_eq _ _ hs]
    exact m.call h same
  · cases e

mutual
theorem Tm.under {s : Bool} {n : Nat} : ∀ x : Tm, (x.av s).under n = true
  | .n k x => by
    cases s with
    | true => rfl
    | false =>
      simp only [Tm.av, mkInt, forceInt_eq]; rfl
  | .t b => by
    cases s with
    | true => rfl
    | false => cases b <;> rfl
  | .a l => by simp only [Tm.av, AV.under]; exact Tm.underL l
  | .u l => by simp only [Tm.av, AV.under]; exact Tm.underL l
  | .str b => by simp only [Tm.av, AV.under]
theorem Tm.underL {s : Bool} {n : Nat} : ∀ l : List Tm, AV.underL n (Tm.avL s l) = true
  | [] => rfl
  | x :: l => by simp only [Tm.avL, AV.underL, Bool.and_eq_true]; exact ⟨Tm.under x, Tm.underL l⟩
end

/-! ### A law -/

/-- What is told of a cell of a type. -/
def Sh.of (P : Program) (t : TypeId) : Sh :=
  match P.underlying t with
  | some (.int k) => .i k
  | some .bool => .b
  | some .string => .str
  | _ => .c (.any true)

end
end Go.Eng

/- Contracts over package-level variables whose answer is any value with a condition. -/
namespace Go.Eng
open Go

end Go.Eng

/- Package-level variables of plain numbers: what is laid says of the heap. -/
namespace Go.Eng
open Go

/-- A variable that is laid, as it lies. -/
theorem laid_get {P : Program} {w : World} : ∀ {laid : List (String × DataW Unit)} {ps : List MemPlace}, DataW.LaidVars P w laid ps → ∀ {n : String} {d : DataW Unit}, (n, d) ∈ laid →
    ∃ g t cs fuel p, P.globalNamed n = some g ∧ (P.globals[g]?).map (·.type) = some t ∧ w.var? P n = some cs ∧ DataW.trod (fun _ => ()) P w 0 (fun _ => true) false fuel t cs.toList = some (d, p) ∧ ∀ x ∈ MemPlace.row ⟨g, 0, none⟩ cs.size, x ∈ ps
  | [], _, _, _, _, h => by cases h
  | (m, e) :: laid, ps, h, n, d, hm => by
    obtain ⟨g, t, cs, fuel, p, q, h1, h2, h3, h4, h5, rfl⟩ := h
    rcases List.mem_cons.1 hm with hm | hm
    · cases hm
      exact ⟨g, t, cs, fuel, p, h1, h2, h3, h4, fun x hx => by simp [hx]⟩
    · obtain ⟨g', t', cs', fuel', p', k1, k2, k3, k4, k5⟩ := laid_get h5 hm
      exact ⟨g', t', cs', fuel', p', k1, k2, k3, k4, fun x hx => by simp [k5 x hx]⟩

theorem laid_cells {P : Program} {w : World} {laid : List (String × DataW Unit)} (h : laidMetH P laid w) (hl : (laid.all fun x => x.2.handleName?.isNone) = true) {n : String} {d : DataW Unit} (hm : (n, d) ∈ laid) {g t : Nat} (hg : P.globalNamed n = some g) (ht : (P.globals[g]?).map (·.type) = some t) (hpos : 0 < P.cellsOf t)
    (hlen : ∀ fuel cs p, DataW.trod (fun _ => ()) P w 0 (fun _ => true) false fuel t cs = some (d, p) → cs.length = P.cellsOf t) :
    ∃ cs e fuel p, w.heap[g]? = some (.cells cs e (0, 0)) ∧ DataW.trod (fun _ => ()) P w 0 (fun _ => true) false fuel t cs.toList = some (d, p) := by
  rw [MakeChecks.laidMetH_plain _ _ _ hl] at h
  obtain ⟨ps, hv, hnd, hfr⟩ := h
  obtain ⟨g', t', cs, fuel, p, h1, h2, h3, h4, h5⟩ := laid_get hv hm
  obtain rfl := Option.some.inj (hg.symm.trans h1)
  obtain rfl := Option.some.inj (ht.symm.trans h2)
  have hs : cs.size = P.cellsOf t := by rw [← Array.length_toList]; exact hlen _ _ _ h4
  have hmem : MemPlace.cell g 0 ∈ ps := h5 _ (MemPlace.mem_row.2 ⟨0, by omega, rfl⟩)
  obtain ⟨⟨c, e, h6⟩, _⟩ := hfr g 0 hmem
  have hc : c = cs := by
    simp only [World.var?, hg, Option.bind_some, h6] at h3
    cases h3; rfl
  subst hc
  exact ⟨c, e, fuel, p, h6, h4⟩

/-- An array of numbers. -/
theorem arr_ints {P : Program} {w : World} {t e n : Nat} {k : IntKind} (ht : P.underlying t = some (.array n e)) (he : P.underlying e = some (.int k)) (c1 : P.cellsOf e = 1) (cn : P.cellsOf t = n) {ns : List Int} (hn : ns.length = n) {fuel : Nat} {cs : List Value} {p : List MemPlace}
    (h : DataW.trod (fun _ => ()) P w 0 (fun _ => true) false fuel t cs = some (.agg (ns.map fun n => .lit (.int k n)), p)) : cs = ns.map (Value.int k) := by
  obtain ⟨xs, m, _, hx, hl, hxl, hf⟩ := DataW.trod_array ht h
  obtain ⟨hx1, _⟩ := Prod.mk.inj hx
  injection hx1 with hx1
  rw [cn] at hl
  apply List.ext_getElem?
  intro i
  by_cases hi : i < n
  · have h1 := hf i hi
    rw [c1, Nat.mul_one, List.getElem?_eq_getElem (by omega)] at h1
    obtain ⟨z, q1, q2, _⟩ := DataW.trod_int he h1
    have h2 : cs[i]? = some (.int k z) := by
      have : ((cs.drop i).take 1)[0]? = some (.int k z) := by rw [q1]; rfl
      simpa using this
    have h3 := congrArg (fun l => l[i]?) hx1
    simp only [List.getElem?_map, List.getElem?_eq_getElem (show i < xs.length by omega), q2, Option.map_some] at h3
    rw [h2]
    cases hz : ns[i]? with
    | none => rw [hz] at h3; cases h3
    | some y =>
      rw [hz] at h3
      simp only [Option.map_some, Option.some.injEq, DataW.lit.injEq, Lit.int.injEq, true_and] at h3
      rw [List.getElem?_map, hz, Option.map_some, h3]
  · rw [List.getElem?_eq_none (by omega), List.getElem?_eq_none (by simp; omega)]

/-- A struct of two numbers. -/
theorem two_ints {P : Program} {w : World} {t e : Nat} {k : IntKind} {f0 f1 : Field} (ht : P.underlying t = some (.struct #[f0, f1])) (e0 : f0.type = e) (e1 : f1.type = e) (o0 : f0.offset = 0) (o1 : f1.offset = 1) (he : P.underlying e = some (.int k)) (c1 : P.cellsOf e = 1) (c2 : P.cellsOf t = 2) {x y : Int} {fuel : Nat} {cs : List Value} {p : List MemPlace}
    (h : DataW.trod (fun _ => ()) P w 0 (fun _ => true) false fuel t cs = some (.agg [.lit (.int k x), .lit (.int k y)], p)) : cs = [.int k x, .int k y] := by
  obtain ⟨y0, y1, n, hx, hl, h0, h1⟩ := ChangeShapes.trod_struct2 ht h
  rw [c2] at hl
  rw [e0, o0, c1] at h0
  rw [e1, o1, c1] at h1
  obtain ⟨n0, m1, m2, _⟩ := DataW.trod_int he h0
  obtain ⟨n1, m3, m4, _⟩ := DataW.trod_int he h1
  obtain ⟨hx1, _⟩ := Prod.mk.inj hx
  injection hx1 with hx1
  rw [m2, m4] at hx1
  match cs, hl with
  | [a, b], _ =>
    simp only [List.drop_zero, List.take_succ_cons, List.take_zero, List.cons.injEq, List.drop_succ_cons, and_true] at m1 m3
    simp only [List.cons.injEq, DataW.lit.injEq, Lit.int.injEq, true_and, and_true] at hx1
    rw [m1, m3, hx1.1, hx1.2]

theorem trod_len_arr {P : Program} {w : World} {t e n : Nat} (ht : P.underlying t = some (.array n e)) {d : DataW Unit} (fuel : Nat) (cs : List Value) (p : List MemPlace) (h : DataW.trod (fun _ => ()) P w 0 (fun _ => true) false fuel t cs = some (d, p)) : cs.length = P.cellsOf t := by
  obtain ⟨_, _, _, _, hl, _⟩ := DataW.trod_array ht h
  exact hl
theorem trod_len_struct {P : Program} {w : World} {t : Nat} {fs : Array Field} (ht : P.underlying t = some (.struct fs)) {d : DataW Unit} (fuel : Nat) (cs : List Value) (p : List MemPlace) (h : DataW.trod (fun _ => ()) P w 0 (fun _ => true) false fuel t cs = some (d, p)) : cs.length = P.cellsOf t := by
  obtain ⟨_, _, _, _, hl, _⟩ := DataW.trod_struct ht h
  exact hl

/-- The blocks of some variables of plain numbers: the variables (the last one first), and their numbers. -/
def intBlks : List (Nat × IntKind × List Int) → List ABlk
  | [] => []
  | (_, k, ns) :: l => ⟨0, .cells (ns.map fun n => .int false k n)⟩ :: intBlks l

def intSg (l : List (Nat × IntKind × List Int)) : Sg := fun i => match l[l.length - 1 - i]? with
  | some (g, _, ns) => if i < l.length then some (g, ns.length) else none
  | none => none

theorem rels_ints {σ : Sg} {k : IntKind} : ∀ ns : List Int, VRels σ (ns.map fun n => .int false k n) (ns.map (Value.int k))
  | [] => rfl
  | n :: ns => ⟨_, _, rfl, rfl, rels_ints ns⟩

theorem int_rel {W : World} {l : List (Nat × IntKind × List Int)} (hd : (l.map (·.1)).Nodup) (h : ∀ x ∈ l, ∃ cs e, W.heap[x.1]? = some (.cells cs e (0, 0)) ∧ cs.toList = x.2.2.map (Value.int x.2.1)) : HRel (intSg l) ⟨intBlks l, l.length, 1⟩ W := by
  have blk : ∀ (m : List (Nat × IntKind × List Int)) (j : Nat), (intBlks m)[j]? = (m[j]?).map fun x => ⟨0, .cells (x.2.2.map fun n => .int false x.2.1 n)⟩ := by
    intro m
    induction m with
    | nil => intro j; rfl
    | cons x m ih => intro j; cases j with
      | zero => rfl
      | succ j => simpa [intBlks] using ih j
  have len : ∀ m : List (Nat × IntKind × List Int), (intBlks m).length = m.length := by
    intro m
    induction m with
    | nil => rfl
    | cons x m ih => simp [intBlks, ih]
  have get : ∀ i b, (⟨intBlks l, l.length, 1⟩ : Hp).get i = some b → i < l.length ∧ ∃ x, l[l.length - 1 - i]? = some x ∧ b = ⟨0, .cells (x.2.2.map fun n => .int false x.2.1 n)⟩ := by
    intro i b hb
    have hi := Hp.get_lt hb
    rw [Hp.get_eq, if_pos hi] at hb
    simp only at hb hi
    rw [blk] at hb
    cases hx : l[l.length - 1 - i]? with
    | none => rw [hx] at hb; cases hb
    | some x => rw [hx] at hb; cases hb; exact ⟨hi, x, rfl, rfl⟩
  have sg : ∀ i x, i < l.length → l[l.length - 1 - i]? = some x → intSg l i = some (x.1, x.2.2.length) := by
    intro i x hi hx
    unfold intSg
    rw [hx]
    simp [hi]
  refine ⟨len l, fun i b hb hdd => ?_, fun i B N e => ?_, fun i j b c B N M hb hc _ _ e1 e2 => ?_⟩
  · obtain ⟨hi, x, hx, rfl⟩ := get i b hb
    obtain ⟨cs, e, h1, h2⟩ := h x (List.mem_of_getElem? hx)
    exact ⟨x.1, x.2.2.length, _, sg i x hi hx, h1, cs, e, rfl, by rw [h2]; exact rels_ints _, by rw [← Array.length_toList, h2, List.length_map]⟩
  · unfold intSg at e
    split at e
    · rename_i x g k ns hx
      split at e
      · rename_i hi
        cases e
        obtain ⟨cs, e', h1, _⟩ := h _ (List.mem_of_getElem? hx)
        exact ⟨hi, (Array.getElem?_eq_some_iff.1 h1).1⟩
      · cases e
    · cases e
  · obtain ⟨hi, x, hx, _⟩ := get i b hb
    obtain ⟨hj, y, hy, _⟩ := get j c hc
    rw [sg i x hi hx] at e1
    rw [sg j y hj hy] at e2
    left
    have hxy : x.1 = y.1 := by
      simp only [Option.some.injEq, Prod.mk.injEq] at e1 e2
      rw [e1.1, e2.1]
    have hx' : (l.map (·.1))[l.length - 1 - i]? = some x.1 := by rw [List.getElem?_map, hx]; rfl
    have hy' : (l.map (·.1))[l.length - 1 - j]? = some x.1 := by rw [List.getElem?_map, hy, hxy]; rfl
    have := (List.getElem?_inj (by simp; omega) hd).1 (hx'.trans hy'.symm)
    omega

end Go.Eng

/- Laws with arguments: what is known of them, and what a run of the law says. -/
namespace Go.Eng
open Go

mutual
def Sh.leaves : Sh → List Sh
  | .a l => Sh.leavesL l
  | .i k => [.i k]
  | .b => [.b]
  | .c v => [.c v]
  | .str => [.str]
  | .one => [.one]
def Sh.leavesL : List Sh → List Sh
  | [] => []
  | h :: l => h.leaves ++ Sh.leavesL l
end

end Go.Eng

/- Laws whose first argument ends with a list of bytes that is only read: its first bytes lie in a block of their own. -/
namespace Go.Eng
open Go

/-! ### The list's first bytes -/

/-- What is known of a list of bytes. -/
structure Bytes (W : World) (v : Value) (n : Int) (zs : List Int) : Prop where
  val : ∃ p c, v = .slice p zs.length c ∧ (zs ≠ [] → ∃ B N, p = some ⟨B, N, none⟩ ∧ ∀ i, i < zs.length → W.cell? ⟨B, N + i, none⟩ = some (.int .u8 (zs.getD i 0)))
  len : n = zs.length
  rng : ∀ z ∈ zs, 0 ≤ z ∧ z ≤ 255

end Go.Eng

/- Contracts that look at a list of numbers behind the first argument (its last cell). -/
namespace Go.Eng
open Go
noncomputable section

abbrev HSpec := List AV → Hp → Option (Nd × AV)

structure HOk (P : Program) (glob : Nat → Option Nat) (hG : Hp) (f : FuncId) (spec : HSpec) : Prop where
  call : ∀ args nd v h, spec args h = some (nd, v) → globsSame hG h hG.size = true → CallOk (mkM P glob hG [] noExt) f args h ⟨nd, [⟨.tt, v, h⟩]⟩
  fn : ∃ fn : Func, P.funcs[f]? = some fn ∧ fn.body.isSome = true

def gH (s : PSpec) : HSpec := fun args _ => s args
theorem GOk.h {P : Program} {glob : Nat → Option Nat} {hG : Hp} {f : FuncId} {s : PSpec} (g : GOk P glob hG f s) : HOk P glob hG f (gH s) :=
  ⟨fun args nd v h e same => g.call args nd v e h same, g.fn⟩

/-! ### One more block -/

/-! ### Surfaces with films -/

end
end Go.Eng

/- Contracts whose answer is told otherwise than the run tells it. -/
namespace Go.Eng
open Go
noncomputable section

open Classical in
end
end Go.Eng

/- Contracts with two ways. -/
namespace Go.Eng
open Go
noncomputable section

abbrev TSpec := List AV → Hp → Option (Nd × Bool × AV × AV)

structure TOk (P : Program) (glob : Nat → Option Nat) (hG : Hp) (f : FuncId) (spec : TSpec) : Prop where
  call : ∀ args nd p v w h, spec args h = some (nd, p, v, w) → globsSame hG h hG.size = true → CallOk (mkM P glob hG [] noExt) f args h ⟨nd, [⟨.b p, v, h⟩, ⟨.b !p, w, h⟩]⟩
  fn : ∃ fn : Func, P.funcs[f]? = some fn ∧ fn.body.isSome = true

end
end Go.Eng

/- Package-level variables that are arrays of arrays or structs of plain numbers. -/
namespace Go.Eng
open Go

end Go.Eng
