/- What is proved: SurfaceEven returns true, whatever the input (part 4 of 24). No conditions beyond those of the row. -/
import Derived.Test.YtiigkjnhmipnfaaGreatDoorPC
import Derived.WideKeyElems2
import Derived.ChangeSlices
import Derived.MakeChecks
import Derived.WalkKit
import Derived.ProofKit
import Derived.OpenShut
import Derived.WideKeyArgs
import Derived.Laws.Bits64b
import Derived.Lib.BitFns
import Derived.Laws.BitsLemmas
set_option linter.unusedVariables false
set_option linter.unusedSimpArgs false
set_option linter.unusedSectionVars false
namespace Go.Eng
noncomputable section
structure Patch where
  tm : List (Nat × AV)
  old : List (Nat × ABody)
  new : List ABody
def putTs {β : Type} (c : Nat) : List (Nat × AV) → List AT → (List AT → β) → β
  | [], l, k => k l
  | (i, v) :: p, l, k => setC l i ⟨c, v⟩ fun l => putTs c p l k
def putHs {β : Type} (c size : Nat) : List (Nat × ABody) → List ABlk → (List ABlk → β) → β
  | [], l, k => k l
  | (i, b) :: p, l, k => setC l (size - 1 - i) ⟨c, b⟩ fun l => putHs c size p l k
def newBlks (c : Nat) : List ABody → List ABlk → List ABlk
  | [], l => l
  | b :: p, l => ⟨c, b⟩ :: newBlks c p l
def patch (s : St) (p : Patch) : St :=
  putTs s.hp.clock p.tm s.tmps fun t => putHs s.hp.clock s.hp.size p.old s.hp.blks fun b => forceNat (s.hp.size + p.new.length) fun n => forceNat (s.hp.clock + 1) fun c =>
    ⟨t, s.defs, ⟨newBlks s.hp.clock p.new b, n, c⟩⟩
def isLoop : Option ABlk → Bool
  | some ⟨_, .loop _⟩ => true
  | _ => false
def oldsOk (h : Hp) : List (Nat × ABody) → Bool
  | [] => true
  | (i, _) :: p => Nat.blt i h.size && !isLoop (h.get i) && oldsOk h p
def setTs (c : Nat) : List (Nat × AV) → List AT → List AT
  | [], l => l
  | (i, v) :: p, l => setTs c p (l.set i ⟨c, v⟩)
def setHs (c size : Nat) : List (Nat × ABody) → List ABlk → List ABlk
  | [], l => l
  | (i, b) :: p, l => setHs c size p (l.set (size - 1 - i) ⟨c, b⟩)
theorem putTs_eq {β : Type} (c : Nat) : ∀ (p : List (Nat × AV)) (l : List AT) (k : List AT → β), putTs c p l k = k (setTs c p l)
  | [], _, _ => rfl
  | (i, v) :: p, l, k => by simp only [putTs, setC_eq, setTs]; exact putTs_eq c p _ k
theorem putHs_eq {β : Type} (c size : Nat) : ∀ (p : List (Nat × ABody)) (l : List ABlk) (k : List ABlk → β), putHs c size p l k = k (setHs c size p l)
  | [], _, _ => rfl
  | (i, v) :: p, l, k => by simp only [putHs, setC_eq, setHs]; exact putHs_eq c size p _ k
theorem newBlks_eq (c : Nat) : ∀ (p : List ABody) (l : List ABlk), newBlks c p l = p.map (fun b => ⟨c, b⟩) ++ l
  | [], _ => rfl
  | b :: p, l => by simp [newBlks, newBlks_eq c p l]
theorem patch_eq (s : St) (p : Patch) : patch s p = ⟨setTs s.hp.clock p.tm s.tmps, s.defs, ⟨p.new.map (fun b => ⟨s.hp.clock, b⟩) ++ setHs s.hp.clock s.hp.size p.old s.hp.blks, s.hp.size + p.new.length, s.hp.clock + 1⟩⟩ := by
  simp [patch, putTs_eq, putHs_eq, newBlks_eq]
theorem setTs_spec (c : Nat) : ∀ (p : List (Nat × AV)) (l : List AT), (setTs c p l).length = l.length ∧ ∀ (t : Nat) (x : AT), (setTs c p l)[t]? = some x → l[t]? = some x ∨ x.st = c
  | [], l => ⟨rfl, fun t x h => .inl h⟩
  | (i, v) :: p, l => by
    obtain ⟨h1, h2⟩ := setTs_spec c p (l.set i ⟨c, v⟩)
    refine ⟨by simp only [setTs]; rw [h1]; simp, fun t x h => ?_⟩
    rcases h2 t x h with h3 | h3
    · by_cases he : t = i
      · subst he
        by_cases hl : t < l.length
        · rw [List.getElem?_set_self hl] at h3; cases h3; exact .inr rfl
        · rw [List.getElem?_eq_none (by simpa using hl)] at h3; cases h3
      · rw [List.getElem?_set_ne (Ne.symm he)] at h3; exact .inl h3
    · exact .inr h3
theorem setHs_spec (c size : Nat) : ∀ (p : List (Nat × ABody)) (l : List ABlk), (setHs c size p l).length = l.length ∧
    ∀ (t : Nat) (x : ABlk), (setHs c size p l)[t]? = some x → (l[t]? = some x) ∨ (x.wr = c ∧ ∃ i b, (i, b) ∈ p ∧ t = size - 1 - i)
  | [], l => ⟨rfl, fun t x h => .inl h⟩
  | (i, v) :: p, l => by
    obtain ⟨h1, h2⟩ := setHs_spec c size p (l.set (size - 1 - i) ⟨c, v⟩)
    refine ⟨by simp only [setHs]; rw [h1]; simp, fun t x h => ?_⟩
    rcases h2 t x h with h3 | ⟨h3, j, b, h4, h5⟩
    · by_cases he : t = size - 1 - i
      · subst he
        by_cases hl : size - 1 - i < l.length
        · rw [List.getElem?_set_self hl] at h3; cases h3; exact .inr ⟨rfl, i, v, by simp, rfl⟩
        · rw [List.getElem?_eq_none (by simpa using hl)] at h3; cases h3
      · rw [List.getElem?_set_ne (Ne.symm he)] at h3; exact .inl h3
    · exact .inr ⟨h3, j, b, by simp [h4], h5⟩
theorem oldsOk_spec {h : Hp} : ∀ {p : List (Nat × ABody)}, oldsOk h p = true → ∀ i b, (i, b) ∈ p → i < h.size ∧ isLoop (h.get i) = false
  | [], _, i, b, hm => by cases hm
  | (j, d) :: p, e, i, b, hm => by
    simp only [oldsOk, Bool.and_eq_true] at e
    rcases List.mem_cons.1 hm with h1 | h1
    · cases h1
      exact ⟨of_blt e.1.1, by simpa using e.1.2⟩
    · exact oldsOk_spec e.2 i b h1
theorem patch_next {s : St} (ok : s.hp.ok) {p : Patch} (h : oldsOk s.hp p.old = true) : Next1 s (patch s p) := by
  rw [patch_eq]
  obtain ⟨t1, t2⟩ := setTs_spec s.hp.clock p.tm s.tmps
  obtain ⟨b1, b2⟩ := setHs_spec s.hp.clock s.hp.size p.old s.hp.blks
  have ol := oldsOk_spec h
  have ok : s.hp.blks.length = s.hp.size := ok
  have get : ∀ i, i < s.hp.size → (⟨p.new.map (fun b => ⟨s.hp.clock, b⟩) ++ setHs s.hp.clock s.hp.size p.old s.hp.blks, s.hp.size + p.new.length, s.hp.clock + 1⟩ : Hp).get i = (setHs s.hp.clock s.hp.size p.old s.hp.blks)[s.hp.size - 1 - i]? := by
    intro i hi
    rw [Hp.get_eq, if_pos (by simp only; omega), List.getElem?_append_right (by simp; omega)]
    congr 1
    simp only [List.length_map]
    omega
  refine ⟨⟨t1, fun t x hx => ?_⟩, ⟨Nat.le_succ _, Nat.le_add_right _ _, fun i b c hb hc => ?_, fun i w c hb => ?_⟩, ?_, rfl⟩
  · rcases t2 t x hx with h1 | h1
    · exact .inl h1
    · exact .inr (by omega)
  · have hi := Hp.get_lt hb
    rw [get i hi] at hc
    rw [Hp.get_eq, if_pos hi] at hb
    rcases b2 _ c hc with h1 | ⟨h1, _⟩
    · rw [hb] at h1; cases h1; exact .inl rfl
    · exact .inr (by omega)
  · have hi := Hp.get_lt hb
    have hb' := hb
    rw [Hp.get_eq, if_pos hi] at hb'
    obtain ⟨x, hx⟩ : ∃ x, (setHs s.hp.clock s.hp.size p.old s.hp.blks)[s.hp.size - 1 - i]? = some x := ⟨_, List.getElem?_eq_getElem (by omega)⟩
    rcases b2 _ x hx with h1 | ⟨_, j, d, h2, h3⟩
    · rw [hb'] at h1; cases h1
      exact ⟨w, c.state, c.pending, by rw [get i hi]; exact hx⟩
    · obtain ⟨o1, o2⟩ := ol j d h2
      have : i = j := by omega
      subst this
      rw [hb] at o2; cases o2
  · simp only [Hp.ok, List.length_append, List.length_map]; omega
def chkL (s0 : St) (P : Ex → Option (Patch × List Nat × Prop)) : List Ent → Option Nd
  | [] => some .tt
  | e :: l => match chkL s0 P l with
    | none => none
    | some q => match P e.x with
      | none => some ((e.g.on fun g => Nd.p (g = false)).and q)
      | some (p, ids, x) => match oldsOk s0.hp p.old with
        | false => none
        | true => match fit s0 e.s (patch s0 p) ids with
          | none => none
          | some nd => some ((e.g.on fun g => Nd.imp (g = true) (nd.and (.p x))).and q)
def chkR (s0 : St) (P : Ex → Option (Patch × List Nat × Prop)) : Option R → Option Nd
  | none => none
  | some ⟨nd, l⟩ => match chkL s0 P l with
    | none => none
    | some m => some (nd.and m)
theorem chkL_one {s0 : St} {P : Ex → Option (Patch × List Nat × Prop)} : ∀ {l : List Ent} {nd : Nd}, chkL s0 P l = some nd → nd.val → ∀ e, One l e → ∃ p ids x m, P e.x = some (p, ids, x) ∧ oldsOk s0.hp p.old = true ∧ fit s0 e.s (patch s0 p) ids = some m ∧ m.val ∧ x
  | [], _, _, _, e, h => by simp [One] at h
  | a :: l, nd, h, hn, e, ho => by
    simp only [chkL] at h
    split at h
    · cases h
    · rename_i q hq
      rcases one_cases ho with ⟨h1, h2, _⟩ | ⟨_, h2⟩
      · subst h2
        split at h
        · cases h
          have h3 := Nd.lv hn
          rw [G.on_eq] at h3
          rw [show _ = _ from h3] at h1
          cases h1
        · rename_i p ids x hP
          split at h
          · cases h
          · rename_i hold
            split at h
            · cases h
            · rename_i m hm
              cases h
              have h3 := Nd.lv hn
              rw [G.on_eq] at h3
              have h4 := Nd.iv h3 h1
              exact ⟨p, ids, x, m, hP, hold, hm, Nd.lv h4, Nd.rv h4⟩
      · refine chkL_one hq ?_ e h2
        split at h
        · cases h; exact Nd.rv hn
        · split at h
          · cases h
          · split at h
            · cases h
            · cases h; exact Nd.rv hn
structure Sum (α : Type) where
  S : α → Patch
  I : α → Prop
  μ : α → Nat
  F : α → Ex × Patch
  next : α → α
  ids : List Nat
  X : α → Ex → Option (Patch × List Nat)
def Sum.way {α : Type} (u : Sum α) (y : α) : Ex → Option (Patch × List Nat × Prop)
  | .normal => some (u.S (u.next y), u.ids, u.I (u.next y) ∧ u.μ (u.next y) < u.μ y ∧ u.F (u.next y) = u.F y)
  | x => match u.X y x with
    | none => none
    | some (p, ids) => some (p, ids, u.F y = (x, p))
def Holds (o : Option Nd) : Prop := ∃ nd, o = some nd ∧ nd.val
theorem sum_ok {C : Ctx} {r : Rec} (ro : RecOk C r) {fr : AFr} {a : Code} {s0 : St} {α : Type} (u : Sum α) {y0 : α} {ids0 : List Nat} (hI : u.I y0) (start : Holds (fit s0 s0 (patch s0 (u.S y0)) ids0)) (hs : oldsOk s0.hp (u.S y0).old = true)
    (body : ∀ y, u.I y → Holds (chkR s0 (u.way y) (r.code fr a (patch s0 (u.S y))))) {q : R} (hq : ∃ e, One q.l e ∧ e.x = (u.F y0).1 ∧ e.s = patch s0 (u.F y0).2) : CodeOk C fr (.loop a) s0 q := by
  intro σ T0 D0 W0 g sr b k todo cs hst fb _
  obtain ⟨e0, h1, h2, h3⟩ := hq
  refine ⟨e0, h1, ?_⟩
  rw [h2, h3]
  have main : ∀ (n : Nat) (y : α), u.μ y < n → u.I y → ∀ (τ : Sg) (T : Array Value) (D : List Deferred) (W : World), SRel τ (patch s0 (u.S y)) T D W → Step σ s0 W0 τ (patch s0 (u.S y)) W →
      Post σ s0 W0 (Arr C.P (lone (b.fr T D (.code a :: .inLoop a :: k)) cs W) b k cs) (u.F y).1 (patch s0 (u.F y).2) := by
    intro n
    induction n with
    | zero => intro y h; exact absurd h (Nat.not_lt_zero _)
    | succ n ih =>
      intro y hlt hy τ T D W sr1 st1
      obtain ⟨nd, e1, hn⟩ := body y hy
      unfold chkR at e1
      split at e1
      · cases e1
      · rename_i nd1 l hl
        split at e1
        · cases e1
        · rename_i m hm
          cases e1
          obtain ⟨e, o1, τ2, T2, D2, V2, sr2, st2, arr⟩ := ro.code _ _ _ _ hl τ T D W (g.mono st1.good.sub) sr1 b (.inLoop a :: k) _ cs (.inl rfl) (fb.mono st1.good.sub) (Nd.lv hn)
          obtain ⟨p, ids, x, m', hP, hold, hf, hm', hx⟩ := chkL_one hm (Nd.rv hn) e o1
          have st3 := Step.trans sr1.ko sr2.ko st1 st2
          obtain ⟨υ, sr4, st4⟩ := fit_ok sr sr2 st3 (patch_next sr.ko hold) hf hm'
          have later : ∀ ex, ex ≠ .normal → (match u.X y ex with | none => none | some (p, ids) => some (p, ids, u.F y = (ex, p))) = some (p, ids, x) → Arr C.P (lone (b.fr T D (.code a :: .inLoop a :: k)) cs W) b (.inLoop a :: k) cs ex T2 D2 V2 →
              Post σ s0 W0 (Arr C.P (lone (b.fr T D (.code a :: .inLoop a :: k)) cs W) b k cs) (u.F y).1 (patch s0 (u.F y).2) := by
            intro ex hne hP arr
            split at hP
            · cases hP
            · cases hP
              rw [show u.F y = _ from hx]
              exact ⟨υ, T2, D2, V2, sr4, st4, arr.pass rfl hne⟩
          cases hex : e.x with
          | normal =>
            rw [hex] at hP arr
            simp only [Sum.way] at hP
            cases hP
            obtain ⟨x1, x2, x3⟩ := hx
            have := ih (u.next y) (by omega) x1 υ T2 D2 V2 sr4 st4
            rw [x3] at this
            refine this.imp fun T3 D3 V3 h => .of_steps (Steps.trans arr (.one st_inLoop)) h
          | exit i => rw [hex] at hP arr; exact later (.exit i) (fun h => by cases h) hP arr
          | goto i => rw [hex] at hP arr; exact later (.goto i) (fun h => by cases h) hP arr
          | ret => rw [hex] at hP arr; exact later .ret (fun h => by cases h) hP arr
          | raise v => rw [hex] at hP arr; exact later (.raise v) (fun h => by cases h) hP arr
  obtain ⟨nd, e1, hn⟩ := start
  have refl : Step σ s0 W0 σ s0 W0 := ⟨Good.refl σ s0.hp W0 fun i B N h => (sr.h.dom i B N h).1, TMon.refl s0⟩
  obtain ⟨υ, sr1, st1⟩ := fit_ok sr sr refl (patch_next sr.ko hs) e1 hn
  have := main _ y0 (Nat.lt_succ_self _) hI υ T0 D0 W0 sr1 st1
  refine this.imp fun T3 D3 V3 h => ?_
  rcases hst with rfl | ⟨c, hc, rfl⟩
  · exact .of_steps (.one st_loop) h
  · cases hc
    exact .of_steps (.one st_inLoop) h
def At (fr fr' : AFr) (a a' : Code) (s s' : St) : Prop := fr = fr' ∧ a = a' ∧ s = s'
structure Known where
  fn : FuncId
  clock : Nat
  fr : AFr
  a : Code
  s : St
  l : List Ent
def loopAt : List Known → AFr → Code → St → Option R
  | [], _, _, _ => none
  | x :: l, fr, a, s => match Nat.beq fr.fn x.fn && Nat.beq s.hp.clock x.clock with
    | true => some ⟨.p (At fr x.fr a x.a s x.s), x.l⟩
    | false => loopAt l fr a s
def loopsIn : Code → List Code
  | .seq a b => loopsIn a ++ loopsIn b
  | .cond _ a b => loopsIn a ++ loopsIn b
  | .block _ a => loopsIn a
  | .scope a => loopsIn a
  | .loop a => a :: loopsIn a
  | .rangeFunc _ _ a b => loopsIn a ++ loopsIn b
  | _ => []
def loopOf (P : Program) (f : FuncId) (k : Nat) : Code :=
  match P.funcs[f]? with
  | none => .skip
  | some fn => match fn.body with
    | none => .skip
    | some c => (loopsIn c).getD k .skip
end
end Go.Eng
namespace Go.Eng
noncomputable section
theorem pure_runs {P : Program} {f : FuncId} {spec : PSpec} (h : ∀ args nd v, spec args = some (nd, v) → nd.val → ∃ (C : Ctx) (n : Nat) (args0 : List AV) (nd0 : Nd) (v0 : AV), CtxOk C ∧ C.P = P ∧ (∀ g, C.glob g = none) ∧
    (∀ σ L, VRels σ args L → VRels (fun _ => none) args0 L) ∧ oneV ((run C n).call f args0 ⟨[], 0, 1⟩) = some (nd0, v0) ∧ nd0.val ∧ ∀ τ V, VRel τ v0 V → ∀ σ, VRel σ v V) (fn : ∃ fn : Func, P.funcs[f]? = some fn ∧ fn.body.isSome = true) : PureOk P f spec := by
  refine ⟨fn, fun args nd v e hn σ A W ha cs => ?_⟩
  obtain ⟨C, n, args0, nd0, v0, co, hP, hg, h1, h2, h3, h4⟩ := h args nd v e hn
  subst hP
  obtain ⟨hp, h5, htm⟩ := oneV_some h2
  have r : HRel (fun _ => none) ⟨[], 0, 1⟩ W := ⟨rfl, fun i b h => (by rw [Hp.get_eq] at h; simp at h), fun i B N h => (by cases h), fun i j b c B N M h => (by rw [Hp.get_eq] at h; simp at h)⟩
  obtain ⟨x, k1, τ, V, X, fr, k2, k3, k4, k5, k6⟩ := (((run_sound co n).call f args0 _ _ h5).1.ok (tame_one htm)) (fun _ => none) A W (fun g i h => (by rw [hg] at h; cases h)) r (h1 σ _ ha) h3 cs
  have : x = ⟨.tt, v0, hp⟩ := by
    unfold OneC at k1
    simp [G.val] at k1
    exact k1.symm
  subst this
  exact ⟨V, X, fr, h4 τ V k2 σ, ⟨k4.ext, fun B hB => k4.keep B hB id fun i N c e => by cases e⟩, k5, k6⟩
inductive Sh where
  | i (k : IntKind)
  | b
  | c (v : AV)
  | a (l : List Sh)
  | str
  | one
inductive Nu where
  | n (x : Int)
  | t (b : Bool)
  | s (b : ByteArray)
mutual
def Sh.read : Sh → AV → Option (Bool × List Nu)
  | .i k, v => match v with
    | .int s k' x => if k = k' then some (s, [.n x]) else none
    | _ => none
  | .b, v => match v with
    | .bool s x => some (s, [.t x])
    | _ => none
  | .c w, v => match sameV v w with
    | true => some (false, [])
    | false => none
  | .a l, v => match v with
    | .agg m => Sh.readL l m
    | _ => none
  | .str, v => match v with
    | .str s x => some (s, [.s x])
    | _ => none
  | .one, v => match v.isCell with
    | true => some (false, [])
    | false => none
def Sh.readL : List Sh → List AV → Option (Bool × List Nu)
  | [], [] => some (false, [])
  | h :: l, v :: m => match Sh.read h v with
    | none => none
    | some (s, xs) => match Sh.readL l m with
      | none => none
      | some (s', ys) => some (s || s', xs ++ ys)
  | _, _ => none
end
mutual
def Sh.mk : Sh → List Nu → AV × List Nu
  | .i k, l => match l with
    | .n x :: l => (.int true k x, l)
    | _ => (.nil, [])
  | .b, l => match l with
    | .t x :: l => (.bool true x, l)
    | _ => (.nil, [])
  | .c w, l => (w, l)
  | .a hs, l => match Sh.mkL hs l with
    | (vs, l) => (.agg vs, l)
  | .str, l => match l with
    | .s x :: l => (.str true x, l)
    | _ => (.nil, [])
  | .one, l => (.any true, l)
def Sh.mkL : List Sh → List Nu → List AV × List Nu
  | [], l => ([], l)
  | h :: hs, l => match Sh.mk h l with
    | (v, l) => match Sh.mkL hs l with
      | (vs, l) => (v :: vs, l)
end
mutual
theorem Sh.read_mk : ∀ (h : Sh) (v : AV) (s : Bool) (xs ys : List Nu), Sh.read h v = some (s, xs) → (Sh.mk h (xs ++ ys)).2 = ys ∧ ∀ σ V, VRel σ v V → VRel σ (Sh.mk h (xs ++ ys)).1 V
  | .i k, v, s, xs, ys, e => by
    simp only [Sh.read] at e
    split at e
    · split at e
      · rename_i hk; subst hk; cases e
        exact ⟨rfl, fun σ V h => h⟩
      · cases e
    · cases e
  | .b, v, s, xs, ys, e => by
    simp only [Sh.read] at e
    split at e
    · cases e
      exact ⟨rfl, fun σ V h => h⟩
    · cases e
  | .c w, v, s, xs, ys, e => by
    simp only [Sh.read] at e
    split at e
    · rename_i hs; cases e
      rw [sameV_eq _ _ hs]
      exact ⟨rfl, fun σ V h => h⟩
    · cases e
  | .a l, v, s, xs, ys, e => by
    simp only [Sh.read] at e
    split at e
    · obtain ⟨h1, h2⟩ := Sh.readL_mk l _ s xs ys e
      refine ⟨h1, fun σ V h => ?_⟩
      obtain ⟨K, k1, k2⟩ := h
      exact ⟨K, k1, h2 σ _ k2⟩
    · cases e
  | .str, v, s, xs, ys, e => by
    simp only [Sh.read] at e
    split at e
    · cases e
      exact ⟨rfl, fun σ V h => h⟩
    · cases e
  | .one, v, s, xs, ys, e => by
    simp only [Sh.read] at e
    split at e
    · rename_i hc; cases e
      exact ⟨rfl, fun σ V h => oneCell_any (isCell_one h hc)⟩
    · cases e
theorem Sh.readL_mk : ∀ (h : List Sh) (v : List AV) (s : Bool) (xs ys : List Nu), Sh.readL h v = some (s, xs) → (Sh.mkL h (xs ++ ys)).2 = ys ∧ ∀ σ L, VRels σ v L → VRels σ (Sh.mkL h (xs ++ ys)).1 L
  | [], [], s, xs, ys, e => by
    simp only [Sh.readL] at e; cases e
    exact ⟨rfl, fun σ L h => h⟩
  | h :: l, v :: m, s, xs, ys, e => by
    simp only [Sh.readL] at e
    split at e
    · cases e
    · rename_i s1 x1 e1
      split at e
      · cases e
      · rename_i s2 x2 e2
        cases e
        obtain ⟨a1, a2⟩ := Sh.read_mk h v s1 x1 (x2 ++ ys) e1
        obtain ⟨b1, b2⟩ := Sh.readL_mk l m s2 x2 ys e2
        have e3 : x1 ++ x2 ++ ys = x1 ++ (x2 ++ ys) := List.append_assoc ..
        simp only [Sh.mkL, e3]
        rw [show Sh.mk h (x1 ++ (x2 ++ ys)) = ((Sh.mk h (x1 ++ (x2 ++ ys))).1, x2 ++ ys) from Prod.ext rfl a1]
        refine ⟨b1, fun σ L hL => ?_⟩
        obtain ⟨V, L', q1, q2, q3⟩ := hL
        exact ⟨V, L', q1, a2 σ V q2, b2 σ L' q3⟩
  | [], _ :: _, _, _, _, e => by simp [Sh.readL] at e
  | _ :: _, [], _, _, _, e => by simp [Sh.readL] at e
end
inductive Tm where
  | n (k : IntKind) (x : Int)
  | t (b : Bool)
  | a (l : List Tm)
  | u (l : List Tm)
  | str (b : ByteArray)
mutual
def Tm.av (s : Bool) : Tm → AV
  | .n k x => mkInt s k x
  | .t b => mkBool s b
  | .a l => .agg (Tm.avL s l)
  | .u l => .tuple (Tm.avL s l)
  | .str b => .str s b
def Tm.avL (s : Bool) : List Tm → List AV
  | [] => []
  | x :: l => x.av s :: Tm.avL s l
end
mutual
theorem Tm.av_rel {σ τ : Sg} {s s' : Bool} : ∀ (x : Tm) (V : Value), VRel σ (x.av s) V → VRel τ (x.av s') V
  | .n k x, V, h => by simp only [Tm.av, mkInt_rel] at h ⊢; exact h
  | .t b, V, h => by simp only [Tm.av, mkBool_rel] at h ⊢; exact h
  | .a l, V, h => by
    simp only [Tm.av] at h ⊢
    obtain ⟨K, h1, h2⟩ := h
    exact ⟨K, h1, Tm.avL_rel l _ h2⟩
  | .u l, V, h => by
    simp only [Tm.av] at h ⊢
    obtain ⟨K, h1, h2⟩ := h
    exact ⟨K, h1, Tm.avL_rel l _ h2⟩
  | .str b, V, h => by
    simp only [Tm.av] at h ⊢
    exact h
theorem Tm.avL_rel {σ τ : Sg} {s s' : Bool} : ∀ (x : List Tm) (L : List Value), VRels σ (Tm.avL s x) L → VRels τ (Tm.avL s' x) L
  | [], L, h => h
  | x :: l, L, h => by
    simp only [Tm.avL] at h ⊢
    obtain ⟨V, L', h1, h2, h3⟩ := h
    exact ⟨V, L', h1, Tm.av_rel x V h2, Tm.avL_rel l L' h3⟩
end
def Nu.isN : Nu → Nat
  | .n _ => 0
  | .t _ => 1
  | .s _ => 2
mutual
def Sh.kinds : Sh → List Nat
  | .i _ => [0]
  | .b => [1]
  | .str => [2]
  | .one => []
  | .c _ => []
  | .a l => Sh.kindsL l
def Sh.kindsL : List Sh → List Nat
  | [] => []
  | h :: l => h.kinds ++ Sh.kindsL l
end
mutual
theorem Sh.read_kinds : ∀ (h : Sh) (v : AV) (s : Bool) (xs : List Nu), Sh.read h v = some (s, xs) → xs.map Nu.isN = h.kinds
  | .i k, v, s, xs, e => by
    simp only [Sh.read] at e
    split at e
    · split at e
      · cases e; rfl
      · cases e
    · cases e
  | .b, v, s, xs, e => by
    simp only [Sh.read] at e
    split at e
    · cases e; rfl
    · cases e
  | .c w, v, s, xs, e => by
    simp only [Sh.read] at e
    split at e
    · cases e; rfl
    · cases e
  | .a l, v, s, xs, e => by
    simp only [Sh.read] at e
    split at e
    · exact Sh.readL_kinds l _ s xs e
    · cases e
  | .str, v, s, xs, e => by
    simp only [Sh.read] at e
    split at e
    · cases e; rfl
    · cases e
  | .one, v, s, xs, e => by
    simp only [Sh.read] at e
    split at e
    · cases e; rfl
    · cases e
theorem Sh.readL_kinds : ∀ (h : List Sh) (v : List AV) (s : Bool) (xs : List Nu), Sh.readL h v = some (s, xs) → xs.map Nu.isN = Sh.kindsL h
  | [], [], s, xs, e => by simp only [Sh.readL] at e; cases e; rfl
  | h :: l, v :: m, s, xs, e => by
    simp only [Sh.readL] at e
    split at e
    · cases e
    · rename_i s1 x1 e1
      split at e
      · cases e
      · rename_i s2 x2 e2
        cases e
        simp only [List.map_append, Sh.kindsL, Sh.read_kinds h v s1 x1 e1, Sh.readL_kinds l m s2 x2 e2]
  | [], _ :: _, _, _, e => by simp [Sh.readL] at e
  | _ :: _, [], _, _, e => by simp [Sh.readL] at e
end
theorem kn {xs : List Nu} {l : List Nat} (h : xs.map Nu.isN = 0 :: l) : ∃ a ys, xs = .n a :: ys ∧ ys.map Nu.isN = l := by
  cases xs with
  | nil => cases h
  | cons x ys =>
    simp only [List.map_cons, List.cons.injEq] at h
    cases x with
    | n a => exact ⟨a, ys, rfl, h.2⟩
    | t b => exact absurd h.1 (by simp [Nu.isN])
    | s b => exact absurd h.1 (by simp [Nu.isN])
theorem kt {xs : List Nu} {l : List Nat} (h : xs.map Nu.isN = 1 :: l) : ∃ a ys, xs = .t a :: ys ∧ ys.map Nu.isN = l := by
  cases xs with
  | nil => cases h
  | cons x ys =>
    simp only [List.map_cons, List.cons.injEq] at h
    cases x with
    | n a => exact absurd h.1 (by simp [Nu.isN])
    | t b => exact ⟨b, ys, rfl, h.2⟩
    | s b => exact absurd h.1 (by simp [Nu.isN])
theorem ks {xs : List Nu} {l : List Nat} (h : xs.map Nu.isN = 2 :: l) : ∃ a ys, xs = .s a :: ys ∧ ys.map Nu.isN = l := by
  cases xs with
  | nil => cases h
  | cons x ys =>
    simp only [List.map_cons, List.cons.injEq] at h
    cases x with
    | n a => exact absurd h.1 (by simp [Nu.isN])
    | t b => exact absurd h.1 (by simp [Nu.isN])
    | s b => exact ⟨b, ys, rfl, h.2⟩
theorem k0 {xs : List Nu} (h : xs.map Nu.isN = []) : xs = [] := by
  cases xs with
  | nil => rfl
  | cons x ys => cases h
def numSpec (ss : List Sh) (N : Option (List Nu → Bool)) (V : List Nu → Tm) : PSpec := fun args =>
  match Sh.readL ss args with
  | none => none
  | some (s, xs) => match N with
    | none => some (.tt, (V xs).av s)
    | some N => match s with
      | true => some (.p (N xs = true), (V xs).av true)
      | false => match N xs with
        | true => some (.tt, (V xs).av false)
        | false => none
def okN (N : Option (List Nu → Bool)) (xs : List Nu) : Prop :=
  match N with
  | none => True
  | some N => N xs = true
theorem num_ok {P : Program} {f : FuncId} {ss : List Sh} {N : Option (List Nu → Bool)} {V : List Nu → Tm}
    (h : ∀ xs, xs.map Nu.isN = Sh.kindsL ss → okN N xs → ∃ (C : Ctx) (n : Nat) (nd : Nd), CtxOk C ∧ C.P = P ∧ (∀ g, C.glob g = none) ∧ AV.underL 0 (Sh.mkL ss xs).1 = true ∧ oneV ((run C n).call f (Sh.mkL ss xs).1 ⟨[], 0, 1⟩) = some (nd, (V xs).av true) ∧ nd.val)
    (fn : ∃ fn : Func, P.funcs[f]? = some fn ∧ fn.body.isSome = true) : PureOk P f (numSpec ss N V) := by
  refine pure_runs (fun args nd v e hn => ?_) fn
  unfold numSpec at e
  split at e
  · cases e
  · rename_i s xs hr
    have key : okN N xs ∧ ∃ s', v = (V xs).av s' := by
      split at e
      · cases e; exact ⟨trivial, s, rfl⟩
      · split at e
        · cases e; exact ⟨hn, true, rfl⟩
        · split at e
          · rename_i hN; cases e; exact ⟨hN, false, rfl⟩
          · cases e
    obtain ⟨k1, s', rfl⟩ := key
    obtain ⟨C, n, nd0, co, hP, hg, h0, h1, h2⟩ := h xs (Sh.readL_kinds ss args s xs hr) k1
    refine ⟨C, n, _, nd0, _, co, hP, hg, fun σ L hL => ?_, h1, h2, fun τ W hW σ => Tm.av_rel _ _ hW⟩
    have := (Sh.readL_mk ss args s xs [] hr).2 σ L hL
    rw [List.append_nil] at this
    have := VRels.low _ _ this h0
    rwa [show σ.low 0 = fun _ => none from funext fun i => by simp [Sg.low]] at this
def withLoops (C : Ctx) (l : List Known) : Ctx := { C with loop := fun fr a s => match loopAt l fr a s with
  | some q => some q
  | none => C.loop fr a s }
theorem sum_one {C : Ctx} {r : Rec} (ro : RecOk C r) {fr : AFr} {a : Code} {s0 : St} {α : Type} (u : Sum α) {y0 : α} {ids0 : List Nat} (hI : u.I y0) (start : Holds (fit s0 s0 (patch s0 (u.S y0)) ids0)) (hs : oldsOk s0.hp (u.S y0).old = true)
    (body : ∀ y, u.I y → Holds (chkR s0 (u.way y) (r.code fr a (patch s0 (u.S y))))) {x : Ex} {p : Patch} (hF : u.F y0 = (x, p)) : CodeOk C fr (.loop a) s0 ⟨.tt, [⟨.tt, x, patch s0 p⟩]⟩ :=
  sum_ok ro u hI start hs body ⟨⟨.tt, x, patch s0 p⟩, rfl, by rw [hF], by rw [hF]⟩
@[reducible] def oneLoop (f clock : Nat) (fr : AFr) (a : Code) (s : St) (x : Ex) (p : Patch) : Known := ⟨f, clock, fr, a, s, [⟨.tt, x, patch s p⟩]⟩
theorem withLoop_ok {C : Ctx} (co : CtxOk C) {f clock : Nat} {fr : AFr} {a : Code} {s : St} {x : Ex} {p : Patch} (h : CodeOk C fr (.loop a) s ⟨.tt, [⟨.tt, x, patch s p⟩]⟩) {l : List Known} (k : CtxOk (withLoops C l)) : CtxOk (withLoops C (oneLoop f clock fr a s x p :: l)) := by
  refine ⟨co.prog, co.con, co.ext, fun fr' a' s' q e => ?_, co.two⟩
  have e : (match loopAt (oneLoop f clock fr a s x p :: l) fr' a' s' with | some q => some q | none => C.loop fr' a' s') = some q := e
  simp only [loopAt] at e
  by_cases hc : (Nat.beq fr'.fn f && Nat.beq s'.hp.clock clock) = true
  · rw [hc] at e
    simp only at e
    cases e
    intro σ T D W g sr b k todo cs hst fb hn
    obtain ⟨rfl, rfl, rfl⟩ := hn
    exact h σ T D W g sr b k todo cs hst fb trivial
  · rw [Bool.not_eq_true] at hc
    rw [hc] at e
    exact k.loop fr' a' s' q e
@[reducible] def twoLoop (f clock : Nat) (fr : AFr) (a : Code) (s : St) (g : Bool) (x : Ex) (p : Patch) (x' : Ex) (p' : Patch) : Known := ⟨f, clock, fr, a, s, [⟨.b g, x, patch s p⟩, ⟨.b (!g), x', patch s p'⟩]⟩
theorem sum_two {C : Ctx} {r : Rec} (ro : RecOk C r) {fr : AFr} {a : Code} {s0 : St} {α : Type} (u : Sum α) {y0 : α} {ids0 : List Nat} (hI : u.I y0) (start : Holds (fit s0 s0 (patch s0 (u.S y0)) ids0)) (hs : oldsOk s0.hp (u.S y0).old = true)
    (body : ∀ y, u.I y → Holds (chkR s0 (u.way y) (r.code fr a (patch s0 (u.S y))))) {g : Bool} {x x' : Ex} {p p' : Patch} (hF : u.F y0 = bif g then (x, p) else (x', p')) : CodeOk C fr (.loop a) s0 ⟨.tt, [⟨.b g, x, patch s0 p⟩, ⟨.b (!g), x', patch s0 p'⟩]⟩ := by
  cases g with
  | true => exact sum_ok ro u hI start hs body ⟨⟨.b true, x, patch s0 p⟩, by simp [One, G.val], by rw [hF]; rfl, by rw [hF]; rfl⟩
  | false => exact sum_ok ro u hI start hs body ⟨⟨.b true, x', patch s0 p'⟩, by simp [One, G.val], by rw [hF]; rfl, by rw [hF]; rfl⟩
theorem withNone_ok {C : Ctx} (co : CtxOk C) : CtxOk (withLoops C []) := ⟨co.prog, co.con, co.ext, fun fr a s q e => co.loop fr a s q e, co.two⟩
end
end Go.Eng
namespace Go.Eng
noncomputable section
structure GOk (P : Program) (glob : Nat → Option Nat) (hG : Hp) (f : FuncId) (spec : PSpec) : Prop where
  call : ∀ args nd v, spec args = some (nd, v) → ∀ h, globsSame hG h hG.size = true → CallOk (mkM P glob hG [] noExt) f args h ⟨nd, [⟨.tt, v, h⟩]⟩
  fn : ∃ fn : Func, P.funcs[f]? = some fn ∧ fn.body.isSome = true
theorem PureOk.g {P : Program} {f : FuncId} {spec : PSpec} (p : PureOk P f spec) (glob : Nat → Option Nat) (hG : Hp) : GOk P glob hG f spec :=
  ⟨fun args nd v e h _ => p.call (C := mkM P glob hG [] noExt) e h, p.fn⟩
def memoSpec (as : List AV) (v : AV) : PSpec := fun args => match sameL args as with
  | true => some (.tt, v)
  | false => none
theorem MemoOk.g {P : Program} {glob : Nat → Option Nat} {hG : Hp} {f : FuncId} {as : List AV} {v : AV} (m : MemoOk P glob hG (f, as, v)) : GOk P glob hG f (memoSpec as v) := by
  refine ⟨fun args nd w e h same => ?_, m.fn⟩
  unfold memoSpec at e
  split at e
  · rename_i hs
    cases e
    rw [sameL_eq _ _ hs]
    exact m.call h same
  · cases e
def conG (hG : Hp) : List (FuncId × PSpec) → FuncId → List AV → Hp → Option (Nd × AV × List ABody)
  | [], _, _, _ => none
  | (g, s) :: l, f, args, h => match Nat.beq f g with
    | true => match s args with
      | some (nd, v) => match globsSame hG h hG.size with
        | true => some (nd, v, [])
        | false => none
      | none => conG hG l f args h
    | false => conG hG l f args h
theorem conG_some {hG : Hp} : ∀ {l : List (FuncId × PSpec)} {f : FuncId} {args : List AV} {h : Hp} {nd : Nd} {v : AV} {bs : List ABody}, conG hG l f args h = some (nd, v, bs) → bs = [] ∧ globsSame hG h hG.size = true ∧ ∃ s, (f, s) ∈ l ∧ s args = some (nd, v)
  | [], _, _, _, _, _, _, e => by cases e
  | (g, s) :: l, f, args, h, nd, v, bs, e => by
    simp only [conG] at e
    split at e
    · rename_i hb
      have := Nat.eq_of_beq_eq_true hb
      subst this
      split at e
      · rename_i hs
        split at e
        · rename_i hg
          cases e
          exact ⟨rfl, hg, s, by simp, hs⟩
        · cases e
      · obtain ⟨h1, h2, s', h3, h4⟩ := conG_some e
        exact ⟨h1, h2, s', by simp [h3], h4⟩
    · obtain ⟨h1, h2, s', h3, h4⟩ := conG_some e
      exact ⟨h1, h2, s', by simp [h3], h4⟩
def mkG (P : Program) (glob : Nat → Option Nat) (hG : Hp) (tbl : List (FuncId × PSpec)) (ext : FuncId → List AV → Option (Nd × AV)) : Ctx := { P, glob, con := conG hG tbl, ext, loop := fun _ _ _ => none }
theorem mkG_ok {P : Program} {glob : Nat → Option Nat} {hG : Hp} (hp : ProgOk P) {tbl : List (FuncId × PSpec)} {ext : FuncId → List AV → Option (Nd × AV)} (he : ExtOk P ext) (ht : ∀ x ∈ tbl, GOk P glob hG x.1 x.2) : CtxOk (mkG P glob hG tbl ext) := by
  refine ⟨hp, fun f args h nd v bs e => ?_, he, fun _ _ _ _ e => (by cases e), fun _ _ _ _ _ _ _ e => (by cases e)⟩
  obtain ⟨rfl, hg, s, h1, h2⟩ := conG_some e
  have g := ht _ h1
  exact ⟨g.call args nd v h2 h hg, g.fn⟩
def oneG (n c : Nat) : Option CR → Option (Nd × AV)
  | some ⟨nd, [⟨.tt, v, hp⟩]⟩ => match v.isPanic with
    | true => none
    | false => match allOld c (dropN (hp.size - n) hp.blks) with
      | true => some (nd, v)
      | false => none
  | _ => none
theorem oneG_some {n c : Nat} {q : Option CR} {nd : Nd} {v : AV} (e : oneG n c q = some (nd, v)) : ∃ hp, q = some ⟨nd, [⟨.tt, v, hp⟩]⟩ ∧ allOld c (dropN (hp.size - n) hp.blks) = true ∧ v.isPanic = false := by
  unfold oneG at e
  split at e
  · split at e
    · cases e
    · rename_i hv
      split at e
      · rename_i h
        cases e
        exact ⟨_, rfl, h, hv⟩
      · cases e
  · cases e
mutual
theorem Tm.under {s : Bool} {n : Nat} : ∀ x : Tm, (x.av s).under n = true
  | .n k x => by
    cases s with
    | true => rfl
    | false =>
      simp only [Tm.av, mkInt, forceInt_eq]; rfl
  | .t b => by
    cases s with
    | true => rfl
    | false => cases b <;> rfl
  | .a l => by simp only [Tm.av, AV.under]; exact Tm.underL l
  | .u l => by simp only [Tm.av, AV.under]; exact Tm.underL l
  | .str b => by simp only [Tm.av, AV.under]
theorem Tm.underL {s : Bool} {n : Nat} : ∀ l : List Tm, AV.underL n (Tm.avL s l) = true
  | [] => rfl
  | x :: l => by simp only [Tm.avL, AV.underL, Bool.and_eq_true]; exact ⟨Tm.under x, Tm.underL l⟩
end
theorem glob_call {C : Ctx} (co : CtxOk C) {hG : Hp} (ok : hG.ok) (pl : blksPlain hG.size hG.blks = true) (hgl : ∀ g i, C.glob g = some i → i < hG.size) {n : Nat} {f : FuncId} {args : List AV} {v : AV} {nd : Nd} (ha : AV.underL hG.size args = true) (hv : v.under hG.size = true)
    (e : oneG hG.size hG.clock ((run C n).call f args hG) = some (nd, v)) (h : Hp) (same : globsSame hG h hG.size = true) : CallOk C f args h ⟨nd, [⟨.tt, v, h⟩]⟩ := by
  obtain ⟨k, h1, h2, htm⟩ := oneG_some e
  obtain ⟨hc, hf⟩ := (run_sound co n).call f args hG _ h1
  replace hc := hc.ok (tame_one htm)
  intro σ A W g r hA hn cs
  have gs := globsSame_get same
  have r0 : HRel (σ.low hG.size) hG W := by
    refine ⟨ok, fun i c hg hd => ?_, fun i B N e => ?_, fun i j b c B N M hb hc' hd hd' e1 e2 => ?_⟩
    · have hi := Hp.get_lt hg
      obtain ⟨b, c', hb, hc', hbc⟩ := gs i hi
      rw [hg] at hc'; cases hc'
      obtain ⟨B, N, o, q1, q2, q3⟩ := r.blk i b hb (by rw [hbc]; exact hd)
      refine ⟨B, N, o, by simp [Sg.low, hi, q1], q2, ?_⟩
      rw [hbc] at q3
      exact q3.low (blksPlain_mem pl c (get_mem hg))
    · unfold Sg.low at e
      split at e
      · rename_i hi
        exact ⟨hi, (r.dom i B N e).2⟩
      · cases e
    · have hi := Hp.get_lt hb
      have hj := Hp.get_lt hc'
      obtain ⟨b1, b2, p1, p2, p3⟩ := gs i hi
      obtain ⟨c1, c2, q1, q2, q3⟩ := gs j hj
      rw [hb] at p2; cases p2
      rw [hc'] at q2; cases q2
      have := r.inj i j b1 c1 B N M p1 q1 (by rw [p3]; exact hd) (by rw [q3]; exact hd') (Sg.low_sub σ _ _ _ e1) (Sg.low_sub σ _ _ _ e2)
      rw [p3, q3] at this
      exact this
  have g0 : GRel C (σ.low hG.size) := fun gl i hgi => by
    obtain ⟨N, hN⟩ := g gl i hgi
    exact ⟨N, by simp [Sg.low, hgl gl i hgi, hN]⟩
  obtain ⟨x, k1, τ, V, X, fr, k2, k3, k4, k5, k6⟩ := hc (σ.low hG.size) A W g0 r0 (VRels.low _ _ hA ha) hn cs
  have : x = ⟨.tt, v, k⟩ := by
    unfold OneC at k1
    simp [G.val] at k1
    exact k1.symm
  subst this
  have hq : Quiet W X := by
    refine ⟨k4.ext, fun B hB => k4.keep B hB id fun i N c e e2 => ?_⟩
    have hi := (r0.dom i B N e).1
    have e2 : k.get i = some c := e2
    have hlt := Hp.get_lt e2
    rw [Hp.get_eq, if_pos hlt] at e2
    refine allOld_mem h2 c ?_
    rw [dropN_eq]
    have : (k.blks.drop (k.size - hG.size))[hG.size - 1 - i]? = some c := by
      rw [List.getElem?_drop, ← e2]
      congr 1
      have := k4.mon.size
      simp only at this
      omega
    exact List.mem_of_getElem? this
  obtain ⟨r1, g1⟩ := r.quiet hq
  refine ⟨⟨.tt, v, h⟩, rfl, σ, V, X, fr, ?_, r1, g1, k5, k6⟩
  have l1 := VRel.low _ _ k2 hv
  refine VRel.mono (fun i x hx => ?_) _ _ l1
  unfold Sg.low at hx
  split at hx
  · rename_i hi
    exact Sg.low_sub σ _ _ _ (k4.only i x hx hi)
  · cases hx
theorem GOk.weaken {P : Program} {glob : Nat → Option Nat} {hG : Hp} {f : FuncId} {s t : PSpec} (g : GOk P glob hG f s) (h : ∀ args nd v, t args = some (nd, v) → ∃ nd0 v0, s args = some (nd0, v0) ∧ (nd.val → nd0.val ∧ ∀ σ V, VRel σ v0 V → VRel σ v V)) : GOk P glob hG f t := by
  refine ⟨fun args nd v e h' same σ A W gr r hA hn cs => ?_, g.fn⟩
  obtain ⟨nd0, v0, e0, k0⟩ := h args nd v e
  obtain ⟨k1, k2⟩ := k0 hn
  obtain ⟨x, q1, τ, V, X, fr, q2, q3⟩ := g.call args nd0 v0 e0 h' same σ A W gr r hA k1 cs
  have : x = ⟨.tt, v0, h'⟩ := by
    unfold OneC at q1
    simp [G.val] at q1
    exact q1.symm
  subst this
  exact ⟨⟨.tt, v, h'⟩, rfl, τ, V, X, fr, k2 τ V q2, q3⟩
def constSpec (ss : List Sh) (N : List Nu → Bool) (v : AV) : PSpec := fun args =>
  match Sh.readL ss args with
  | none => none
  | some (_, xs) => some (.p (N xs = true), v)
theorem const_ok {P : Program} {glob : Nat → Option Nat} {hG : Hp} {f : FuncId} {ss : List Sh} {M : Option (List Nu → Bool)} {V : List Nu → Tm} (g : GOk P glob hG f (numSpec ss M V)) {N : List Nu → Bool} {v : AV}
    (h : ∀ args s xs, Sh.readL ss args = some (s, xs) → ∃ nd0, numSpec ss M V args = some (nd0, (V xs).av s) ∧ (N xs = true → nd0.val ∧ ∀ σ W, VRel σ ((V xs).av s) W → VRel σ v W)) : GOk P glob hG f (constSpec ss N v) := by
  refine g.weaken fun args nd w e => ?_
  unfold constSpec at e
  split at e
  · cases e
  · rename_i s xs hr
    cases e
    obtain ⟨nd0, h1, h2⟩ := h args s xs hr
    exact ⟨nd0, _, h1, h2⟩
theorem const_of {P : Program} {glob : Nat → Option Nat} {hG : Hp} {f : FuncId} {ss : List Sh} {V : List Nu → Tm} (g : GOk P glob hG f (numSpec ss none V)) {N : List Nu → Bool} {k : IntKind} {c : Int}
    (h : ∀ xs, xs.map Nu.isN = Sh.kindsL ss → N xs = true → V xs = .n k c) : GOk P glob hG f (constSpec ss N (.int false k c)) := by
  refine const_ok g fun args s xs hr => ⟨.tt, by unfold numSpec; rw [hr], fun hn => ⟨trivial, fun σ W hW => ?_⟩⟩
  rw [h xs (Sh.readL_kinds ss args s xs hr) hn] at hW
  simp only [Tm.av, mkInt_rel] at hW
  exact hW
def Sh.of (P : Program) (t : TypeId) : Sh :=
  match P.underlying t with
  | some (.int k) => .i k
  | some .bool => .b
  | some .string => .str
  | _ => .c (.any true)
def Sh.ofL (P : Program) : List TypeId → List Sh
  | [] => []
  | t :: l => Sh.of P t :: Sh.ofL P l
def inRange : List Sh → List Nu → Prop
  | [], [] => True
  | .i k :: l, .n x :: m => k.has x ∧ inRange l m
  | .b :: l, .t _ :: m => inRange l m
  | .str :: l, .s _ :: m => inRange l m
  | .c _ :: l, m => inRange l m
  | _, _ => False
theorem cell_any {P : Program} {W : World} {base : Nat} {t : TypeId} {v : Value} (h : Cell.okWide P W .any base t v) : (∀ c, v ≠ .agg c) ∧ (∀ c, v ≠ .tuple c) := by
  refine ⟨fun c e => ?_, fun c e => ?_⟩
  · subst e
    unfold Cell.okWide at h
    split at h <;> first | (rename_i e1 e2; cases e2; done) | skip
    all_goals first | (unfold Cell.ok at h; split at h <;> first | (rename_i e1 e2; cases e2; done) | exact h) | simp_all
  · subst e
    unfold Cell.okWide at h
    split at h <;> first | (rename_i e1 e2; cases e2; done) | skip
    all_goals first | (unfold Cell.ok at h; split at h <;> first | (rename_i e1 e2; cases e2; done) | exact h) | simp_all
theorem law_cells {P : Program} {W : World} {base : Nat} {σ : Sg} : ∀ {ts : List TypeId} {cs : List Value}, cs.length = ts.length → (∀ (i : Nat) v, cs[i]? = some v → ∃ u, ts[i]? = some u ∧ Cell.okWide P W .any base u v) →
    ∃ xs, xs.map Nu.isN = Sh.kindsL (Sh.ofL P ts) ∧ inRange (Sh.ofL P ts) xs ∧ ∀ ys, (Sh.mkL (Sh.ofL P ts) (xs ++ ys)).2 = ys ∧ VRels σ (Sh.mkL (Sh.ofL P ts) (xs ++ ys)).1 cs
  | [], [], _, _ => ⟨[], rfl, trivial, fun ys => ⟨rfl, rfl⟩⟩
  | [], _ :: _, h, _ => by simp at h
  | _ :: _, [], h, _ => by simp at h
  | t :: ts, v :: cs, hl, h => by
    obtain ⟨xs, i1, i2, i3⟩ := law_cells (σ := σ) (ts := ts) (cs := cs) (by simpa using hl) fun i v hv => h (i + 1) v (by simpa using hv)
    obtain ⟨u, hu, hc⟩ := h 0 v rfl
    cases hu
    have main : ∃ x, x.map Nu.isN = (Sh.of P t).kinds ∧ (∀ m l, inRange l m → inRange (Sh.of P t :: l) (x ++ m)) ∧ ∀ ys, (Sh.mk (Sh.of P t) (x ++ ys)).2 = ys ∧ VRel σ (Sh.mk (Sh.of P t) (x ++ ys)).1 v := by
      unfold Sh.of
      split
      · rename_i k hk
        unfold Cell.okWide at hc
        rw [hk] at hc
        unfold Cell.ok at hc
        simp only at hc
        rw [hk] at hc
        cases v <;> simp only at hc <;> first | exact hc.elim | skip
        rename_i k' n
        obtain ⟨rfl, hn⟩ := hc
        exact ⟨[.n n], rfl, fun m l hm => ⟨hn, hm⟩, fun ys => ⟨rfl, rfl⟩⟩
      · rename_i hk
        unfold Cell.okWide at hc
        rw [hk] at hc
        unfold Cell.ok at hc
        simp only at hc
        rw [hk] at hc
        cases v <;> simp only at hc <;> first | exact hc.elim | skip
        rename_i b
        exact ⟨[.t b], rfl, fun m l hm => hm, fun ys => ⟨rfl, rfl⟩⟩
      · rename_i hk
        unfold Cell.okWide at hc
        rw [hk] at hc
        unfold Cell.ok at hc
        simp only at hc
        rw [hk] at hc
        cases v <;> simp only at hc <;> first | exact hc.elim | skip
        rename_i b
        exact ⟨[.s b], rfl, fun m l hm => hm, fun ys => ⟨rfl, rfl⟩⟩
      · exact ⟨[], rfl, fun m l hm => hm, fun ys => ⟨rfl, cell_any hc⟩⟩
    obtain ⟨x, j1, j2, j3⟩ := main
    refine ⟨x ++ xs, by simp [Sh.ofL, Sh.kindsL, i1, j1], j2 xs _ i2, fun ys => ?_⟩
    obtain ⟨a1, a2⟩ := j3 (xs ++ ys)
    obtain ⟨b1, b2⟩ := i3 ys
    have e3 : x ++ xs ++ ys = x ++ (xs ++ ys) := List.append_assoc ..
    simp only [Sh.ofL, Sh.mkL, e3]
    rw [show Sh.mk (Sh.of P t) (x ++ (xs ++ ys)) = ((Sh.mk (Sh.of P t) (x ++ (xs ++ ys))).1, xs ++ ys) from Prod.ext rfl a1]
    exact ⟨b1, v, cs, rfl, a2, b2⟩
theorem law_calls {C : Ctx} (co : CtxOk C) {hG : Hp} (old : allOld hG.clock hG.blks = true) {n : Nat} {f : FuncId} {args : List AV} {nd : Nd} {s p : Bool} (e : oneG hG.size hG.clock ((run C n).call f args hG) = some (nd, .bool s p)) (hn : nd.val) (hp : p = true) {σ : Sg} {W : World} {A : Array Value}
    (g : GRel C σ) (r : HRel σ hG W) (hA : VRels σ args A.toList) : Calls C.P f A W fun en w' => en = .returned (.bool true) ∧ RowKit.Grown W w' ∧ ∀ B, B < W.heap.size → w'.heap[B]? = W.heap[B]? := by
  intro cs
  obtain ⟨k, h1, h2, htm⟩ := oneG_some e
  obtain ⟨hc, hf⟩ := (run_sound co n).call f args hG _ h1
  replace hc := hc.ok (tame_one htm)
  obtain ⟨x, k1, τ, V, X, fr, k2, k3, k4, k5, k6, k7, k8, k9, k10⟩ := hc σ A W g r hA hn cs
  have : x = ⟨.tt, .bool s p, k⟩ := by
    unfold OneC at k1
    simp [G.val] at k1
    exact k1.symm
  subst this
  have hk : ∀ B, B < W.heap.size → X.heap[B]? = W.heap[B]? := fun B hB => k4.keep B hB id fun i N c e e2 => by
    have hi := (r.dom i B N e).1
    have e2 : k.get i = some c := e2
    have hlt := Hp.get_lt e2
    rw [Hp.get_eq, if_pos hlt] at e2
    refine allOld_mem h2 c ?_
    rw [dropN_eq]
    have : (k.blks.drop (k.size - hG.size))[hG.size - 1 - i]? = some c := by
      rw [List.getElem?_drop, ← e2]
      congr 1
      have := k4.mon.size
      simp only at this
      omega
    exact List.mem_of_getElem? this
  refine ⟨.returned V, X, fr, ⟨by rw [show V = _ from k2, hp], ⟨⟨k4.ext.os, k4.ext.output, fun i hi => ?_⟩, k4.ext.fz, k4.ext.size⟩, hk⟩, k5, k9, k6, k7, k8, k9 ▸ k10⟩
  rw [hk i hi]
  cases W.heap[i]? with
  | none => rfl
  | some o => cases o with
    | cells c t fr => exact ⟨rfl, rfl, rfl, fun _ _ => rfl⟩
    | map es c => exact .inr ⟨rfl, rfl⟩
    | _ => rfl
end
end Go.Eng
namespace Go.Eng
open Go
def gSpec (ss : List Sh) (V : List Nu → Option (Prop × AV)) : PSpec := fun args =>
  match Sh.readL ss args with
  | none => none
  | some (_, xs) => match V xs with
    | some (p, v) => some (.p p, v)
    | none => none
def orG (s t : PSpec) : PSpec := fun args => match s args with
  | some x => some x
  | none => t args
theorem orG_ok {P : Program} {glob : Nat → Option Nat} {hG : Hp} {f : FuncId} {s t : PSpec} (hs : GOk P glob hG f s) (ht : GOk P glob hG f t) : GOk P glob hG f (orG s t) := by
  refine ⟨fun args nd v e => ?_, hs.fn⟩
  unfold orG at e
  split at e
  · rename_i x hx
    cases e
    exact hs.call args nd v hx
  · exact ht.call args nd v e
def hinting (C : Ctx) (h : Nat → Nat → Option AV) : Ctx := { C with hint := h }
theorem hinting_ok {C : Ctx} (co : CtxOk C) (h : Nat → Nat → Option AV) : CtxOk (hinting C h) := ⟨co.prog, co.con, co.ext, fun fr a s q e => co.loop fr a s q e, co.two⟩
end Go.Eng
namespace Go.Eng
open Go
end Go.Eng
namespace Go.Eng
open Go
mutual
def Sh.leaves : Sh → List Sh
  | .a l => Sh.leavesL l
  | .i k => [.i k]
  | .b => [.b]
  | .c v => [.c v]
  | .str => [.str]
  | .one => [.one]
def Sh.leavesL : List Sh → List Sh
  | [] => []
  | h :: l => h.leaves ++ Sh.leavesL l
end
theorem inRange_append : ∀ {l m : List Sh} {xs ys : List Nu}, inRange l xs → inRange m ys → inRange (l ++ m) (xs ++ ys)
  | [], _, [], _, _, h => h
  | [], _, _ :: _, _, h, _ => by simp [inRange] at h
  | .i k :: l, m, .n x :: xs, ys, h, h' => ⟨h.1, inRange_append (l := l) h.2 h'⟩
  | .b :: l, m, .t x :: xs, ys, h, h' => inRange_append (l := l) (show inRange l xs from h) h'
  | .str :: l, m, .s x :: xs, ys, h, h' => inRange_append (l := l) (show inRange l xs from h) h'
  | .c v :: l, m, xs, ys, h, h' => by
    have h1 : inRange l xs := by cases xs <;> simpa [inRange] using h
    have := inRange_append h1 h'
    show inRange (.c v :: (l ++ m)) (xs ++ ys)
    cases hz : xs ++ ys <;> rw [hz] at this <;> simpa [inRange] using this
  | .i _ :: _, _, [], _, h, _ => by simp [inRange] at h
  | .i _ :: _, _, .t _ :: _, _, h, _ => by simp [inRange] at h
  | .b :: _, _, [], _, h, _ => by simp [inRange] at h
  | .str :: _, _, [], _, h, _ => by simp [inRange] at h
  | .str :: _, _, .n _ :: _, _, h, _ => by simp [inRange] at h
  | .str :: _, _, .t _ :: _, _, h, _ => by simp [inRange] at h
  | .b :: _, _, .s _ :: _, _, h, _ => by simp [inRange] at h
  | .i _ :: _, _, .s _ :: _, _, h, _ => by simp [inRange] at h
  | .one :: _, _, [], _, h, _ => by simp [inRange] at h
  | .one :: _, _, _ :: _, _, h, _ => by simp [inRange] at h
  | .b :: _, _, .n _ :: _, _, h, _ => by simp [inRange] at h
  | .a _ :: _, _, [], _, h, _ => by simp [inRange] at h
  | .a _ :: _, _, _ :: _, _, h, _ => by simp [inRange] at h
theorem leaves_ofL {P : Program} : ∀ ts : List TypeId, Sh.leavesL (Sh.ofL P ts) = Sh.ofL P ts
  | [] => rfl
  | t :: ts => by
    simp only [Sh.ofL, Sh.leavesL, leaves_ofL ts]
    unfold Sh.of
    split <;> rfl
def shapeT (P : Program) (t : TypeId) : Option Sh :=
  match P.underlying t with
  | some (.int k) => some (.i k)
  | some .bool => some .b
  | some (.struct _) => match P.cellTypes P.depth t with
    | some ts => match Nat.beq (P.cellsOf t) ts.length && Nat.blt 0 ts.length with
      | true => some (.a (Sh.ofL P ts))
      | false => none
    | none => none
  | some (.array _ _) => match P.cellTypes P.depth t with
    | some ts => match Nat.beq (P.cellsOf t) ts.length && Nat.blt 0 ts.length with
      | true => some (.a (Sh.ofL P ts))
      | false => none
    | none => none
  | _ => none
def shapesT (P : Program) : List TypeId → Option (List Sh)
  | [] => some []
  | t :: ts => match shapeT P t with
    | none => none
    | some s => match shapesT P ts with
      | none => none
      | some l => some (s :: l)
theorem law_one {P : Program} {W : World} {base : Nat} {σ : Sg} {t : TypeId} {v : Value} {s : Sh} (hs : shapeT P t = some s) (h : Value.okWide P W .any base t v) :
    ∃ xs, xs.map Nu.isN = s.kinds ∧ inRange s.leaves xs ∧ ∀ ys, (Sh.mk s (xs ++ ys)).2 = ys ∧ VRel σ (Sh.mk s (xs ++ ys)).1 v := by
  have agg : ∀ ts, isAggT P t = some true → P.cellTypes P.depth t = some ts → (Nat.beq (P.cellsOf t) ts.length && Nat.blt 0 ts.length) = true → ∃ xs, xs.map Nu.isN = (Sh.a (Sh.ofL P ts)).kinds ∧ inRange (Sh.a (Sh.ofL P ts)).leaves xs ∧ ∀ ys, (Sh.mk (.a (Sh.ofL P ts)) (xs ++ ys)).2 = ys ∧ VRel σ (Sh.mk (.a (Sh.ofL P ts)) (xs ++ ys)).1 v := by
    intro ts hag hts hc
    simp only [Bool.and_eq_true] at hc
    have hsz := Nat.eq_of_beq_eq_true hc.1
    have key : ∃ cs, v = .agg cs ∧ cs.size = P.cellsOf t ∧ Row.okWide P W .any base t cs := by
      unfold Value.okWide at h
      unfold isAggT at hag
      split at h
      · exact h
      · exact h
      · rename_i h1 h2
        split at hag
        · cases hag
        · rename_i fs hu; exact absurd hu (h1 fs)
        · rename_i n e hu; exact absurd hu (h2 n e)
        · cases hag
    obtain ⟨cs, rfl, hcs, ts', ht', _, hcell⟩ := key
    rw [hts] at ht'; cases ht'
    obtain ⟨xs, h1, h2, h3⟩ := law_cells (P := P) (W := W) (base := base) (σ := σ) (ts := ts) (cs := cs.toList) (by simp [hcs, hsz]) fun i v hv => by
      rw [Array.getElem?_toList] at hv
      obtain ⟨u, hu, ho⟩ := hcell i v hv
      have hi : i < ts.length := by
        have := (Array.getElem?_eq_some_iff.1 hv).1
        omega
      rw [Nat.mod_eq_of_lt hi] at hu
      exact ⟨u, hu, ho⟩
    refine ⟨xs, h1, by show inRange (Sh.leavesL (Sh.ofL P ts)) xs; rw [leaves_ofL]; exact h2, fun ys => ?_⟩
    obtain ⟨a1, a2⟩ := h3 ys
    have e : Sh.mk (.a (Sh.ofL P ts)) (xs ++ ys) = (.agg (Sh.mkL (Sh.ofL P ts) (xs ++ ys)).1, (Sh.mkL (Sh.ofL P ts) (xs ++ ys)).2) := rfl
    rw [e]
    exact ⟨a1, cs, rfl, a2⟩
  unfold shapeT at hs
  split at hs
  · rename_i k hu
    cases hs
    have hc : Cell.okWide P W .any base t v := by
      unfold Value.okWide at h
      rw [hu] at h
      exact h
    unfold Cell.okWide at hc
    rw [hu] at hc
    unfold Cell.ok at hc
    simp only at hc
    rw [hu] at hc
    cases v <;> simp only at hc <;> first | exact hc.elim | skip
    rename_i k' n
    obtain ⟨rfl, hn⟩ := hc
    exact ⟨[.n n], rfl, ⟨hn, trivial⟩, fun ys => ⟨rfl, rfl⟩⟩
  · rename_i hu
    cases hs
    have hc : Cell.okWide P W .any base t v := by
      unfold Value.okWide at h
      rw [hu] at h
      exact h
    unfold Cell.okWide at hc
    rw [hu] at hc
    unfold Cell.ok at hc
    simp only at hc
    rw [hu] at hc
    cases v <;> simp only at hc <;> first | exact hc.elim | skip
    rename_i b
    exact ⟨[.t b], rfl, trivial, fun ys => ⟨rfl, rfl⟩⟩
  · rename_i fs hu
    split at hs
    · rename_i ts hts
      split at hs
      · rename_i hc
        cases hs
        exact agg ts (by unfold isAggT; rw [hu]) hts hc
      · cases hs
    · cases hs
  · rename_i n e hu
    split at hs
    · rename_i ts hts
      split at hs
      · rename_i hc
        cases hs
        exact agg ts (by unfold isAggT; rw [hu]) hts hc
      · cases hs
    · cases hs
  · cases hs
theorem law_args {P : Program} {W : World} {base : Nat} {σ : Sg} : ∀ {ts : List TypeId} {shs : List Sh} {vs : List Value}, shapesT P ts = some shs → vs.length = ts.length → (∀ (j : Nat) t v, ts[j]? = some t → vs[j]? = some v → Value.okWide P W .any base t v) →
    ∃ xs, xs.map Nu.isN = Sh.kindsL shs ∧ inRange (Sh.leavesL shs) xs ∧ ∀ ys, (Sh.mkL shs (xs ++ ys)).2 = ys ∧ VRels σ (Sh.mkL shs (xs ++ ys)).1 vs
  | [], shs, vs, hs, hl, _ => by
    cases hs
    have : vs = [] := by simpa using hl
    subst this
    exact ⟨[], rfl, trivial, fun ys => ⟨rfl, rfl⟩⟩
  | t :: ts, shs, [], _, hl, _ => by simp at hl
  | t :: ts, shs, v :: vs, hs, hl, h => by
    simp only [shapesT] at hs
    split at hs
    · cases hs
    · rename_i s h1
      split at hs
      · cases hs
      · rename_i l h2
        cases hs
        obtain ⟨x, a1, a2, a3⟩ := law_one (σ := σ) h1 (h 0 t v rfl rfl)
        obtain ⟨xs, b1, b2, b3⟩ := law_args (σ := σ) (ts := ts) (vs := vs) h2 (by simpa using hl) fun j t' v' k1 k2 => h (j + 1) t' v' (by simpa using k1) (by simpa using k2)
        refine ⟨x ++ xs, by simp [Sh.kindsL, a1, b1], inRange_append a2 b2, fun ys => ?_⟩
        obtain ⟨c1, c2⟩ := a3 (xs ++ ys)
        obtain ⟨d1, d2⟩ := b3 ys
        have e : x ++ xs ++ ys = x ++ (xs ++ ys) := List.append_assoc ..
        simp only [Sh.mkL, e]
        rw [show Sh.mk s (x ++ (xs ++ ys)) = ((Sh.mk s (x ++ (xs ++ ys))).1, xs ++ ys) from Prod.ext rfl c1]
        exact ⟨d1, v, vs, rfl, c2, d2⟩
theorem same_at {W W' : World} (h : ∀ B, B < W.heap.size → W'.heap[B]? = W.heap[B]?) {p : MemPlace} (hp : p.block < W.heap.size) : W.sameAt W' p := by
  cases p with
  | cell b off =>
    show W'.cell? _ = W.cell? _
    unfold World.cell?
    rw [h b hp]
  | map b => exact h b hp
theorem trodAll_stays {H : Type} {enc : TypeId × Value → H} {P : Program} {base : Nat} (hl : laidOutB P = true) : ∀ {ts : List TypeId} {vs : List Value} {ds : List (DataW H)} {ps : List MemPlace} {W W' : World} {sp : Nat → Bool}, (ts.all fun t => P.readableRec t && decide (t < P.types.size)) = true →
    DataW.TrodAll enc P W base (fun _ => true) true ts vs ds ps → (∀ p ∈ ps, W.sameAt W' p) → (∀ p ∈ ps, sp p.block = true) → DataW.TrodAll enc P W' base sp true ts vs ds ps
  | [], [], [], _, _, _, _, _, h, _, _ => h
  | [], _ :: _, _, _, _, _, _, _, h, _, _ => by simp [DataW.TrodAll] at h
  | [], [], _ :: _, _, _, _, _, _, h, _, _ => by simp [DataW.TrodAll] at h
  | _ :: _, [], _, _, _, _, _, _, h, _, _ => by simp [DataW.TrodAll] at h
  | _ :: _, _ :: _, [], _, _, _, _, _, h, _, _ => by simp [DataW.TrodAll] at h
  | t :: ts, v :: vs, d :: ds, ps, W, W', sp, hr, h, h1, h2 => by
    obtain ⟨p, p', a, b, rfl⟩ := h
    simp only [List.all_cons, Bool.and_eq_true, decide_eq_true_eq] at hr
    exact ⟨p, p', Go.WideElems.Trod_stays hl hr.1.1 hr.1.2 a (fun x hx => h1 x (by simp [hx])) (fun x hx => h2 x (by simp [hx])), trodAll_stays hl hr.2 b (fun x hx => h1 x (by simp [hx])) (fun x hx => h2 x (by simp [hx])), rfl⟩
theorem trod_lens {H : Type} {enc : TypeId × Value → H} {P : Program} {W : World} {base : Nat} {sp : Nat → Bool} {hd : Bool} : ∀ {ts : List TypeId} {vs : List Value} {ds : List (DataW H)} {ps : List MemPlace}, DataW.TrodAll enc P W base sp hd ts vs ds ps → vs.length = ts.length ∧ ds.length = ts.length
  | [], [], [], _, _ => ⟨rfl, rfl⟩
  | [], _ :: _, _, _, h => by simp [DataW.TrodAll] at h
  | [], [], _ :: _, _, h => by simp [DataW.TrodAll] at h
  | _ :: _, [], _, _, h => by simp [DataW.TrodAll] at h
  | _ :: _, _ :: _, [], _, h => by simp [DataW.TrodAll] at h
  | t :: ts, v :: vs, d :: ds, ps, h => by
    obtain ⟨p, p', a, b, rfl⟩ := h
    obtain ⟨h1, h2⟩ := trod_lens b
    simp [h1, h2]
end Go.Eng
namespace Go.Eng
open Go
def Hp.push0 (h : Hp) (b : ABody) : Hp := ⟨⟨0, b⟩ :: h.blks, h.size + 1, h.clock⟩
theorem Hp.get_push0 {h : Hp} (b : ABody) (j : Nat) : (h.push0 b).get j = if j = h.size then some ⟨0, b⟩ else h.get j := by
  rw [Hp.get_eq, Hp.get_eq]
  simp only [Hp.push0]
  by_cases e : j = h.size
  · subst e; simp
  · by_cases hj : j < h.size
    · have : j < h.size + 1 := by omega
      simp only [this, if_true, e, if_false, hj]
      rw [show h.size + 1 - 1 - j = (h.size - 1 - j) + 1 by omega]
      simp
    · have : ¬ j < h.size + 1 := by omega
      simp [this, e, hj]
def noK (k : IntKind) : ABody → Bool
  | .cells l => l.all fun v => match v with
    | .int _ k' _ => !(k' == k)
    | .map _ => true
    | _ => false
  | .view _ => true
  | .map _ => true
  | _ => false
theorem add_view {σ : Sg} {h : Hp} {W : World} (r : HRel σ h W) {k : IntKind} (hb : (h.blks.all fun b => noK k b.body) = true) {B N : Nat} {fs : List Int} (hne : fs ≠ []) (hc : ∀ i, i < fs.length → W.cell? ⟨B, N + i, none⟩ = some (.int k (fs.getD i 0))) :
    HRel (σ.add h.size (B, N)) (h.push0 (.view (fs.map fun n => .int true k n))) W := by
  have hpos : 0 < fs.length := List.length_pos_iff.2 hne
  have row : ∃ K e fr, W.heap[B]? = some (.cells K e fr) ∧ ∀ i, i < fs.length → K[N + i]? = some (.int k (fs.getD i 0)) := by
    have h0 := hc 0 hpos
    unfold World.cell? at h0
    split at h0
    · rename_i K e fr hh
      refine ⟨K, e, fr, hh, fun i hi => ?_⟩
      have := hc i hi
      unfold World.cell? at this
      rw [hh] at this
      simpa using this
    · cases h0
  obtain ⟨K, e, fr, hB, hK⟩ := row
  have hs := Sub.add (x := (B, N)) r.fresh
  have main : BRel (σ.add h.size (B, N)) N (.view (fs.map fun n => .int true k n)) (.cells K e fr) := by
    refine ⟨K, e, fr, rfl, ?_⟩
    have : (K.toList.drop N).take (fs.map fun n => AV.int true k n).length = fs.map (Value.int k) := by
      apply List.ext_getElem?
      intro i
      rw [List.getElem?_take, List.length_map]
      by_cases hi : i < fs.length
      · rw [if_pos hi, List.getElem?_drop, Array.getElem?_toList, hK i hi]
        simp [List.getD_eq_getElem?_getD, hi]
      · rw [if_neg hi, List.getElem?_eq_none (by simpa using hi)]
    rw [this]
    have rels : ∀ l : List Int, VRels (σ.add h.size (B, N)) (l.map fun n => .int true k n) (l.map (Value.int k)) := by
      intro l
      induction l with
      | nil => exact rfl
      | cons a l ih => exact ⟨_, _, rfl, rfl, ih⟩
    exact rels fs
  have apart : ∀ i b M, h.get i = some b → b.body.isDead = false → σ i = some (B, M) → b.body.isView = true := by
    intro i b M hg hd hσ
    obtain ⟨B', M', o, h1, h2, h3⟩ := r.blk i b hg hd
    rw [hσ] at h1; cases h1
    rw [hB] at h2; cases h2
    have hbb := List.all_eq_true.1 hb b (by
      have hlt := Hp.get_lt hg
      rw [Hp.get_eq, if_pos hlt] at hg
      exact List.mem_of_getElem? hg)
    cases hbody : b.body with
    | cells l =>
      rw [hbody] at h3 hbb
      obtain ⟨K', e', h4, h5, h6⟩ := h3
      cases h4
      have h0 := hK 0 hpos
      have hlen : l.length = K.size := by have := VRels.length h5; simpa using this.symm
      have hN : N + 0 < K.size := (Array.getElem?_eq_some_iff.1 h0).1
      obtain ⟨a, ha⟩ : ∃ a, l[N + 0]? = some a := ⟨_, List.getElem?_eq_getElem (by omega)⟩
      obtain ⟨v, hv, hav⟩ := VRels.nth h5 (by rw [nth_eq]; exact ha)
      rw [Array.getElem?_toList, h0] at hv
      cases hv
      have := List.all_eq_true.1 hbb a (List.mem_of_getElem? ha)
      split at this
      · rename_i s' k' n'
        have h8 : Value.int k (fs.getD 0 0) = Value.int k' n' := hav
        cases h8
        simp at this
      · obtain ⟨_, _, _, h8⟩ := hav; cases h8
      · cases this
    | view l => rfl
    | map es =>
      rw [hbody] at h3
      obtain ⟨_, _, _, h4, _⟩ := h3
      cases h4
    | _ => rw [hbody] at hbb; cases hbb
  have dom := r.dom
  refine ⟨by have := r.ok; simp only [Hp.ok, Hp.push0, List.length_cons] at this ⊢; omega, fun i b hg hd => ?_, fun i B' M hσ => ?_, fun i j b c B' M M' hg hg' hd hd' e1 e2 => ?_⟩
  · rw [Hp.get_push0] at hg
    split at hg
    · rename_i hi; subst hi; cases hg
      exact ⟨B, N, _, add_here, hB, main⟩
    · obtain ⟨B', M, o, h1, h2, h3⟩ := r.blk i b hg hd
      exact ⟨B', M, o, hs _ _ h1, h2, h3.mono hs⟩
  · unfold Sg.add at hσ
    split at hσ
    · rename_i hi; subst hi; cases hσ
      exact ⟨Nat.lt_succ_self _, (Array.getElem?_eq_some_iff.1 hB).1⟩
    · have := dom i B' M hσ
      exact ⟨Nat.lt_succ_of_lt this.1, this.2⟩
  · rw [Hp.get_push0] at hg hg'
    unfold Sg.add at e1 e2
    by_cases hi : i = h.size <;> by_cases hj : j = h.size
    · exact .inl (hi.trans hj.symm)
    · right
      rw [if_pos hi] at e1 hg
      rw [if_neg hj] at e2 hg'
      cases e1; cases hg
      exact ⟨rfl, apart j c M' hg' hd' e2⟩
    · right
      rw [if_neg hi] at e1 hg
      rw [if_pos hj] at e2 hg'
      cases e2; cases hg'
      exact ⟨apart i b M hg hd e1, rfl⟩
    · rw [if_neg hi] at e1 hg
      rw [if_neg hj] at e2 hg'
      exact r.inj i j b c B' M M' hg hg' hd hd' e1 e2
def filmH (h : Hp) : List Int → Hp
  | [] => h
  | f :: fs => h.push0 (.view ((f :: fs).map fun n => .int true .u8 n))
def filmV (h : Hp) (fs : List Int) (n : Int) : AV := .pslice (match fs with | [] => 0 | _ => h.size) fs.length true n
structure Bytes (W : World) (v : Value) (n : Int) (zs : List Int) : Prop where
  val : ∃ p c, v = .slice p zs.length c ∧ (zs ≠ [] → ∃ B N, p = some ⟨B, N, none⟩ ∧ ∀ i, i < zs.length → W.cell? ⟨B, N + i, none⟩ = some (.int .u8 (zs.getD i 0)))
  len : n = zs.length
  rng : ∀ z ∈ zs, 0 ≤ z ∧ z ≤ 255
theorem bytes_of {H : Type} {enc : TypeId × Value → H} {P : Program} {w : World} {base : Nat} {spare : Nat → Bool} {held : Bool} {fuel t e : Nat} {v : Value} {x : DataW H × List MemPlace} (ht : P.underlying t = some (.slice e)) (he : P.underlying e = some (.int .u8)) (hc : P.cellsOf e = 1)
    (h : DataW.trod enc P w base spare held fuel t [v] = some x) : ∃ n zs, Bytes w v n zs := by
  rcases ChangeShapes.open_ints (k := .u8) ht he hc h with ⟨h1, _⟩ | ⟨a, len, cap, zs, h1, _, hle, _, hlen, _, hcell, hwf⟩
  · cases h1
    exact ⟨0, [], ⟨none, 0, rfl, fun h => absurd rfl h⟩, rfl, fun _ h => by cases h⟩
  · cases h1
    have hll : len ≤ zs.length := by rw [hlen]; split <;> omega
    have hl : (zs.take len).length = len := by simp; omega
    refine ⟨len, zs.take len, ⟨some a, cap, by rw [hl], fun hne => ?_⟩, by rw [hl], fun z hz => ?_⟩
    · have hpos : 0 < len := by
        rw [← hl]; exact List.length_pos_iff.2 hne
      obtain ⟨B, N, spot⟩ := a
      have c0 := hcell 0 (by omega)
      have hs : spot = none := by
        simp only [Addr.add, if_true, World.cell?] at c0
        split at c0
        · cases spot with
          | none => rfl
          | some s => simp at c0
        · cases c0
      subst hs
      refine ⟨B, N, rfl, fun i hi => ?_⟩
      have := hcell i (by omega)
      have e1 : (zs.take len).getD i 0 = zs.getD i 0 := by
        simp only [List.getD_eq_getElem?_getD, List.getElem?_take]
        rw [if_pos (by omega)]
      rw [e1]
      simp only [Addr.add] at this
      split at this
      · rename_i h0; subst h0; exact this
      · exact this
    · have := hwf z (List.mem_of_mem_take hz)
      simp [Lit.wf, IntKind.min, IntKind.max, IntKind.signed, IntKind.bits] at this
      omega
theorem film_rel {σ : Sg} {h : Hp} {W : World} (r : HRel σ h W) (hb : (h.blks.all fun b => noK .u8 b.body) = true) {v : Value} {n : Int} {zs : List Int} (b : Bytes W v n zs) (m : Nat) (hm : m ≤ zs.length) :
    ∃ τ, Sub σ τ ∧ HRel τ (filmH h (zs.take m)) W ∧ VRel τ (filmV h (zs.take m) n) v := by
  obtain ⟨⟨p, c, rfl, hp⟩, hn, _⟩ := b
  have hlen : (zs.take m).length = m := by simp; omega
  cases hz : zs.take m with
  | nil =>
    refine ⟨σ, Sub.refl _, r, p, zs.length, c, rfl, hn.symm, Nat.zero_le _, .inl rfl⟩
  | cons f fs =>
    have hne : zs ≠ [] := by rintro rfl; simp at hz
    obtain ⟨B, N, rfl, hc⟩ := hp hne
    have hm2 : (f :: fs).length = m := by rw [← hz, hlen]
    refine ⟨_, Sub.add r.fresh, add_view r hb (B := B) (N := N) (k := .u8) (fs := f :: fs) (by simp) (fun i hi => ?_), some ⟨B, N, none⟩, zs.length, c, rfl, hn.symm, by rw [hm2]; exact hm, .inr ⟨B, N, add_here, rfl⟩⟩
    have h1 := hc i (by omega)
    rw [h1, ← hz]
    simp only [List.getD_eq_getElem?_getD, List.getElem?_take]
    rw [if_pos (by omega)]
theorem rels_last {σ : Sg} {a b : AV} : ∀ {l : List AV} {L : List Value} {v : Value}, VRels σ (l ++ [a]) (L ++ [v]) → VRel σ b v → VRels σ (l ++ [b]) (L ++ [v])
  | [], [], v, h, hb => ⟨v, [], rfl, hb, rfl⟩
  | [], x :: L, v, h, _ => by
    have := VRels.length h
    simp at this
  | a' :: l, [], v, h, _ => by
    have := VRels.length h
    simp at this
  | a' :: l, x :: L, v, h, hb => by
    obtain ⟨u, us, e, h1, h2⟩ := h
    cases e
    exact ⟨x, L ++ [v], rfl, h1, rels_last h2 hb⟩
def LawTrueH (P : Program) (glob : Nat → Option Nat) (h : Hp) (f : FuncId) (args : List AV) : Prop :=
  ∃ (C : Ctx) (n : Nat) (nd : Nd) (s p : Bool), CtxOk C ∧ C.P = P ∧ C.glob = glob ∧ oneG h.size h.clock ((run C n).call f args h) = some (nd, .bool s p) ∧ nd.val ∧ p = true
theorem law_walkD {P : Program} {glob : Nat → Option Nat} {hG : Hp} (hb : (hG.blks.all fun b => noK .u8 b.body) = true) (old : allOld hG.clock hG.blks = true) (h1 : 0 < hG.clock) {f : FuncId} {t : TypeId} {ts : List TypeId} {sh : List Sh} {shs : List Sh} (hs : shapesT P (t :: ts) = some (.a (sh ++ [.c (.any true)]) :: shs))
    (hT : ∀ xs ys, xs.map Nu.isN = Sh.kindsL sh → inRange (Sh.leavesL sh) xs → ys.map Nu.isN = Sh.kindsL shs → inRange (Sh.leavesL shs) ys → ∀ (n : Int) (zs : List Int), n = zs.length → (∀ z ∈ zs, 0 ≤ z ∧ z ≤ 255) → ∃ m, m ≤ zs.length ∧ LawTrueH P glob (filmH hG (zs.take m)) f (.agg ((Sh.mkL sh xs).1 ++ [filmV hG (zs.take m) n]) :: (Sh.mkL shs ys).1))
    {W : World} {base : Nat} {σ : Sg} {A : Array Value} (g : ∀ gl i, glob gl = some i → ∃ N, σ i = some (gl, N)) (r : HRel σ hG W) {v : Value} {vs : List Value} (hA : A.toList = v :: vs) (hl : vs.length = ts.length) {cs : List Value} {last : Value} (hv : v = .agg (cs ++ [last]).toArray) (hlast : ∃ n zs, Bytes W last n zs)
    (hok : ∀ (j : Nat) t' v, (t :: ts)[j]? = some t' → A.toList[j]? = some v → Value.okWide P W .any base t' v) :
    Calls P f A W fun e w' => e = .returned (.bool true) ∧ RowKit.Grown W w' ∧ ∀ B, B < W.heap.size → w'.heap[B]? = W.heap[B]? := by
  obtain ⟨n, zs, bz⟩ := hlast
  have hs' := hs
  simp only [shapesT] at hs
  split at hs
  · cases hs
  · rename_i s h2
    split at hs
    · cases hs
    · rename_i l h3
      cases hs
      obtain ⟨ys, b1, b2, b3⟩ := law_args (P := P) (W := W) (base := base) (σ := σ) (ts := ts) (vs := vs) h3 hl fun j t' v' k1 k2 => hok (j + 1) t' v' (by simpa using k1) (by rw [hA]; simpa using k2)
      obtain ⟨xs, a1, a2, a3⟩ := law_one (σ := σ) h2 (hok 0 t v rfl (by rw [hA]; rfl))
      obtain ⟨_, a4⟩ := a3 []
      rw [List.append_nil] at a4
      obtain ⟨_, b4⟩ := b3 []
      rw [List.append_nil] at b4
      have kl : ∀ l m : List Sh, Sh.kindsL (l ++ m) = Sh.kindsL l ++ Sh.kindsL m := by
        intro l m
        induction l with
        | nil => rfl
        | cons a l ih => simp [Sh.kindsL, ih]
      have ll : ∀ l m : List Sh, Sh.leavesL (l ++ m) = Sh.leavesL l ++ Sh.leavesL m := by
        intro l m
        induction l with
        | nil => rfl
        | cons a l ih => simp [Sh.leavesL, ih]
      have a1' : xs.map Nu.isN = Sh.kindsL sh := by
        have : xs.map Nu.isN = Sh.kindsL (sh ++ [.c (.any true)]) := a1
        rw [kl] at this; simpa [Sh.kindsL, Sh.kinds] using this
      have drop_any : ∀ (l : List Sh) (zs : List Nu), inRange (l ++ [.c (.any true)]) zs → inRange l zs := by
        intro l
        induction l with
        | nil => intro zs h; cases zs with
          | nil => trivial
          | cons z zs => simp [inRange] at h
        | cons a l ih => intro zs h; cases a with
          | i k => cases zs with
            | nil => simp [inRange] at h
            | cons z zs => cases z with
              | n x => exact ⟨h.1, ih zs h.2⟩
              | t b => simp [inRange] at h
              | s b => simp [inRange] at h
          | b => cases zs with
            | nil => simp [inRange] at h
            | cons z zs => cases z with
              | n x => simp [inRange] at h
              | t b => exact ih zs h
              | s b => simp [inRange] at h
          | str => cases zs with
            | nil => simp [inRange] at h
            | cons z zs => cases z with
              | n x => simp [inRange] at h
              | t b => simp [inRange] at h
              | s b => exact ih zs h
          | one => cases zs <;> simp [inRange] at h
          | c w =>
            have h' : inRange (l ++ [.c (.any true)]) zs := by cases zs <;> simpa [inRange] using h
            have := ih zs h'
            cases zs <;> simpa [inRange] using this
          | a m => cases zs <;> simp [inRange] at h
      have a2' : inRange (Sh.leavesL sh) xs := by
        have : inRange (Sh.leavesL (sh ++ [.c (.any true)])) xs := a2
        rw [ll] at this
        exact drop_any _ _ this
      obtain ⟨m, hm, C, fuel, nd, s, p, co, rfl, rfl, e1, e2, e3⟩ := hT xs ys a1' a2' b1 b2 n zs bz.len bz.rng
      obtain ⟨τ, sub, hr, hfv⟩ := film_rel r hb bz m hm
      have mk_app : ∀ (l : List Sh) (xs : List Nu), (Sh.mkL (l ++ [.c (.any true)]) xs).1 = (Sh.mkL l xs).1 ++ [.any true] := by
        intro l
        induction l with
        | nil => intro xs; rfl
        | cons a l ih => intro xs; simp only [List.cons_append, Sh.mkL, ih]
      have hvr : VRel τ (.agg ((Sh.mkL sh xs).1 ++ [filmV hG (zs.take m) n])) v := by
        subst hv
        obtain ⟨K, hK, h5⟩ := a4
        have h6 := VRels.mono sub _ _ h5
        rw [mk_app] at h6
        cases hK
        refine ⟨_, rfl, ?_⟩
        rw [List.toList_toArray] at h6 ⊢
        exact rels_last h6 hfv
      have old' : allOld (filmH hG (zs.take m)).clock (filmH hG (zs.take m)).blks = true := by
        cases zs.take m with
        | nil => exact old
        | cons z zs =>
          show (Nat.blt 0 hG.clock && allOld hG.clock hG.blks) = true
          rw [old, Bool.and_true]
          exact Nat.ble_eq_true_of_le h1
      exact law_calls co old' e1 e2 e3 (fun gl i hi => by obtain ⟨N, hN⟩ := g gl i hi; exact ⟨N, sub _ _ hN⟩) hr (by rw [hA]; exact ⟨v, vs, rfl, hvr, VRels.mono sub _ _ b4⟩)
end Go.Eng
namespace Go.Eng
open Go
noncomputable section
abbrev HSpec := List AV → Hp → Option (Nd × AV)
structure HOk (P : Program) (glob : Nat → Option Nat) (hG : Hp) (f : FuncId) (spec : HSpec) : Prop where
  call : ∀ args nd v h, spec args h = some (nd, v) → globsSame hG h hG.size = true → CallOk (mkM P glob hG [] noExt) f args h ⟨nd, [⟨.tt, v, h⟩]⟩
  fn : ∃ fn : Func, P.funcs[f]? = some fn ∧ fn.body.isSome = true
def gH (s : PSpec) : HSpec := fun args _ => s args
theorem GOk.h {P : Program} {glob : Nat → Option Nat} {hG : Hp} {f : FuncId} {s : PSpec} (g : GOk P glob hG f s) : HOk P glob hG f (gH s) :=
  ⟨fun args nd v h e same => g.call args nd v e h same, g.fn⟩
def orH (s t : HSpec) : HSpec := fun args h => match s args h with
  | some x => some x
  | none => t args h
theorem orH_ok {P : Program} {glob : Nat → Option Nat} {hG : Hp} {f : FuncId} {s t : HSpec} (hs : HOk P glob hG f s) (ht : HOk P glob hG f t) : HOk P glob hG f (orH s t) := by
  refine ⟨fun args nd v h e => ?_, hs.fn⟩
  unfold orH at e
  split at e
  · rename_i x hx
    cases e
    exact hs.call args nd v h hx
  · exact ht.call args nd v h e
def conH (hG : Hp) : List (FuncId × HSpec) → FuncId → List AV → Hp → Option (Nd × AV × List ABody)
  | [], _, _, _ => none
  | (g, s) :: l, f, args, h => match Nat.beq f g with
    | true => match s args h with
      | some (nd, v) => match globsSame hG h hG.size with
        | true => some (nd, v, [])
        | false => none
      | none => conH hG l f args h
    | false => conH hG l f args h
theorem conH_some {hG : Hp} : ∀ {l : List (FuncId × HSpec)} {f : FuncId} {args : List AV} {h : Hp} {nd : Nd} {v : AV} {bs : List ABody}, conH hG l f args h = some (nd, v, bs) → bs = [] ∧ globsSame hG h hG.size = true ∧ ∃ s, (f, s) ∈ l ∧ s args h = some (nd, v)
  | [], f, args, h, nd, v, bs, e => by cases e
  | (g, s) :: l, f, args, h, nd, v, bs, e => by
    simp only [conH] at e
    split at e
    · rename_i hb
      have := Nat.eq_of_beq_eq_true hb
      subst this
      split at e
      · rename_i hs
        split at e
        · rename_i hg
          cases e
          exact ⟨rfl, hg, s, by simp, hs⟩
        · cases e
      · obtain ⟨h1, h2, s', h3, h4⟩ := conH_some e
        exact ⟨h1, h2, s', by simp [h3], h4⟩
    · obtain ⟨h1, h2, s', h3, h4⟩ := conH_some e
      exact ⟨h1, h2, s', by simp [h3], h4⟩
def mkH (P : Program) (glob : Nat → Option Nat) (hG : Hp) (tbl : List (FuncId × HSpec)) (ext : FuncId → List AV → Option (Nd × AV)) : Ctx := { P, glob, con := conH hG tbl, ext, loop := fun _ _ _ => none }
theorem mkH_ok {P : Program} {glob : Nat → Option Nat} {hG : Hp} (hp : ProgOk P) {tbl : List (FuncId × HSpec)} {ext : FuncId → List AV → Option (Nd × AV)} (he : ExtOk P ext) (ht : ∀ x ∈ tbl, HOk P glob hG x.1 x.2) : CtxOk (mkH P glob hG tbl ext) := by
  refine ⟨hp, fun f args h nd v bs e => ?_, he, fun _ _ _ _ e => (by cases e), fun _ _ _ _ _ _ _ e => (by cases e)⟩
  obtain ⟨rfl, hg, s, h1, h2⟩ := conH_some e
  have g := ht _ h1
  exact ⟨g.call args nd v h h2 hg, g.fn⟩
def coatH (hG : Hp) (l : List AV) : Hp := hG.push0 (.grown l)
def Sg.plus (σ : Sg) (n id : Nat) : Sg := fun i => if i < n then σ i else if i = n then σ id else none
theorem Sg.low_plus (σ : Sg) (n id : Nat) : Sub (σ.low n) (σ.plus n id) := fun i x e => by
  unfold Sg.low at e
  unfold Sg.plus
  split at e
  · rename_i hi; rw [if_pos hi]; exact e
  · cases e
theorem extra_call {C : Ctx} (co : CtxOk C) {hG : Hp} (ok : hG.ok) (pl : blksPlain hG.size hG.blks = true) (hgl : ∀ g i, C.glob g = some i → i < hG.size) {n : Nat} {f : FuncId} {args args0 : List AV} {v : AV} {nd : Nd} (hv : v.under hG.size = true) {fc fc0 : List AV} (hfc : AV.underL hG.size fc0 = true)
    (e : oneG (hG.size + 1) hG.clock ((run C n).call f args0 (coatH hG fc0)) = some (nd, v)) (h : Hp) (same : globsSame hG h hG.size = true) {id w : Nat} (hid : h.get id = some ⟨w, .grown fc⟩) (hge : hG.size ≤ id)
    (hf : ∀ (σ : Sg) L, VRels σ fc L → VRels σ fc0 L) (hargs : ∀ (σ : Sg) L, VRels σ args L → VRels (σ.plus hG.size id) args0 L) : CallOk C f args h ⟨nd, [⟨.tt, v, h⟩]⟩ := by
  obtain ⟨k, h1, h2, htm⟩ := oneG_some e
  obtain ⟨hc, hfn⟩ := (run_sound co n).call f args0 (coatH hG fc0) _ h1
  replace hc := hc.ok (tame_one htm)
  intro σ A W g r hA hn cs
  have gs := globsSame_get same
  have get0 : ∀ i c, (coatH hG fc0).get i = some c → (i = hG.size ∧ c = ⟨0, .grown fc0⟩) ∨ (i < hG.size ∧ hG.get i = some c) := by
    intro i c hg
    unfold coatH at hg
    rw [Hp.get_push0] at hg
    split at hg
    · rename_i hi; cases hg; exact .inl ⟨hi, rfl⟩
    · exact .inr ⟨Hp.get_lt hg, hg⟩
  obtain ⟨Bx, Nx, ox, x1, x2, x3⟩ := r.blk id _ hid rfl
  have sx : (σ.plus hG.size id) hG.size = some (Bx, Nx) := by unfold Sg.plus; rw [if_neg (Nat.lt_irrefl _), if_pos rfl]; exact x1
  have sl : ∀ i, i < hG.size → (σ.plus hG.size id) i = σ i := fun i hi => by unfold Sg.plus; rw [if_pos hi]
  have r0 : HRel (σ.plus hG.size id) (coatH hG fc0) W := by
    refine ⟨by have := ok; simp only [Hp.ok, coatH, Hp.push0, List.length_cons] at this ⊢; omega, fun i c hg hd => ?_, fun i B N e => ?_, fun i j b c B N M hb hc' hd hd' e1 e2 => ?_⟩
    · rcases get0 i c hg with ⟨rfl, rfl⟩ | ⟨hi, hg⟩
      · refine ⟨Bx, Nx, ox, sx, x2, ?_⟩
        obtain ⟨K, t, X, Y, y1, y2, y3, y4⟩ := x3
        exact ⟨K, t, X, Y, y1, y2, VRels.mono (Sg.low_plus σ _ id) _ _ (VRels.low _ _ (hf σ _ y3) hfc), y4⟩
      · obtain ⟨b, c', hb, hc', hbc⟩ := gs i hi
        rw [hg] at hc'; cases hc'
        obtain ⟨B, N, o, q1, q2, q3⟩ := r.blk i b hb (by rw [hbc]; exact hd)
        refine ⟨B, N, o, by rw [sl i hi]; exact q1, q2, ?_⟩
        rw [hbc] at q3
        exact (q3.low (blksPlain_mem pl c (get_mem hg))).mono (Sg.low_plus σ _ id)
    · unfold Sg.plus at e
      split at e
      · rename_i hi
        exact ⟨Nat.lt_succ_of_lt hi, (r.dom i B N e).2⟩
      · split at e
        · rename_i hi; subst hi
          exact ⟨Nat.lt_succ_self _, (r.dom id B N e).2⟩
        · cases e
    · rcases get0 i b hb with ⟨rfl, rfl⟩ | ⟨hi, hb⟩ <;> rcases get0 j c hc' with ⟨rfl, rfl⟩ | ⟨hj, hc'⟩
      · exact .inl rfl
      · exfalso
        obtain ⟨c1, c2, q1, q2, q3⟩ := gs j hj
        rw [hc'] at q2; cases q2
        rw [sx] at e1; cases e1
        rw [sl j hj] at e2
        rcases r.inj id j _ c1 _ _ M hid q1 rfl (by rw [q3]; exact hd') x1 e2 with h8 | ⟨h8, _⟩
        · omega
        · cases h8
      · exfalso
        obtain ⟨c1, c2, q1, q2, q3⟩ := gs i hi
        rw [hb] at q2; cases q2
        rw [sx] at e2; cases e2
        rw [sl i hi] at e1
        rcases r.inj i id c1 _ _ N _ q1 hid (by rw [q3]; exact hd) rfl e1 x1 with h8 | ⟨_, h8⟩
        · omega
        · cases h8
      · obtain ⟨b1, b2, p1, p2, p3⟩ := gs i hi
        obtain ⟨c1, c2, q1, q2, q3⟩ := gs j hj
        rw [hb] at p2; cases p2
        rw [hc'] at q2; cases q2
        rw [sl i hi] at e1
        rw [sl j hj] at e2
        have := r.inj i j b1 c1 B N M p1 q1 (by rw [p3]; exact hd) (by rw [q3]; exact hd') e1 e2
        rw [p3, q3] at this
        exact this
  have g0 : GRel C (σ.plus hG.size id) := fun gl i hgi => by
    obtain ⟨N, hN⟩ := g gl i hgi
    exact ⟨N, by rw [sl i (hgl gl i hgi)]; exact hN⟩
  obtain ⟨x, k1, τ, V, X, fr, k2, k3, k4, k5, k6⟩ := hc _ A W g0 r0 (hargs σ _ hA) hn cs
  have : x = ⟨.tt, v, k⟩ := by
    unfold OneC at k1
    simp [G.val] at k1
    exact k1.symm
  subst this
  have hq : Quiet W X := by
    refine ⟨k4.ext, fun B hB => k4.keep B hB (fun h => h) fun i N c e e2 => ?_⟩
    have hi := (r0.dom i B N e).1
    have e2 : k.get i = some c := e2
    have hlt := Hp.get_lt e2
    rw [Hp.get_eq, if_pos hlt] at e2
    refine allOld_mem h2 c ?_
    rw [dropN_eq]
    have : (k.blks.drop (k.size - (hG.size + 1)))[hG.size + 1 - 1 - i]? = some c := by
      rw [List.getElem?_drop, ← e2]
      congr 1
      have h9 : (coatH hG fc0).size ≤ k.size := k4.mon.size
      have h8 : (coatH hG fc0).size = hG.size + 1 := rfl
      omega
    exact List.mem_of_getElem? this
  obtain ⟨r1, g1⟩ := r.quiet hq
  refine ⟨⟨.tt, v, h⟩, rfl, σ, V, X, fr, ?_, r1, g1, k5, k6⟩
  have l1 := VRel.low _ _ k2 hv
  refine VRel.mono (fun i x hx => ?_) _ _ l1
  unfold Sg.low at hx
  split at hx
  · rename_i hi
    have := k4.only i x hx (Nat.lt_succ_of_lt hi)
    rw [sl i hi] at this
    exact this
  · cases hx
def splitL : List AV → Option (List AV × AV)
  | [] => none
  | [a] => some ([], a)
  | a :: l => match splitL l with
    | none => none
    | some (i, z) => some (a :: i, z)
theorem splitL_eq : ∀ {l i : List AV} {z : AV}, splitL l = some (i, z) → l = i ++ [z]
  | [], _, _, e => by cases e
  | [a], i, z, e => by simp only [splitL, Option.some.injEq, Prod.mk.injEq] at e; rw [← e.1, ← e.2]; rfl
  | a :: b :: l, i, z, e => by
    simp only [splitL] at e
    split at e
    · cases e
    · rename_i i' z' h
      cases e
      rw [splitL_eq h]; rfl
def filmSh : Nat → List Sh
  | 0 => []
  | n + 1 => .i .i64 :: .i .i64 :: .i .i64 :: filmSh n
theorem rels_split {σ : Sg} : ∀ {l m : List AV} {L : List Value}, VRels σ (l ++ m) L → ∃ A B, L = A ++ B ∧ VRels σ l A ∧ VRels σ m B
  | [], m, L, h => ⟨[], L, rfl, rfl, h⟩
  | a :: l, m, L, h => by
    obtain ⟨v, vs, rfl, h1, h2⟩ := h
    obtain ⟨A, B, rfl, h3, h4⟩ := rels_split h2
    exact ⟨v :: A, B, rfl, ⟨v, A, rfl, h1, h3⟩, h4⟩
def coatSpec (hG : Hp) (n : Nat) (sh shs : List Sh) (V : List Nu → List Nu → List Nu → Option (Prop × AV)) : HSpec := fun args h =>
  match args with
  | .agg cells :: rest => match splitL cells with
    | some (init, .gslice id off m z) => match Nat.beq m n && Nat.beq off 0 && Nat.beq z 3 && Nat.ble hG.size id with
      | true => match h.get id with
        | some ⟨_, .grown fc⟩ => match Sh.readL sh init with
          | some (_, xs) => match Sh.readL (filmSh n) fc with
            | some (_, ys) => match Sh.readL shs rest with
              | some (_, zs) => match V xs ys zs with
                | some (p, v) => some (.p p, v)
                | none => none
              | none => none
            | none => none
          | none => none
        | _ => none
      | false => none
    | _ => none
  | _ => none
theorem coat_ok {P : Program} {glob : Nat → Option Nat} {hG : Hp} (ok : hG.ok) (pl : blksPlain hG.size hG.blks = true) (hgl : ∀ g i, glob g = some i → i < hG.size) {f : FuncId} {n : Nat} {sh shs : List Sh} {V : List Nu → List Nu → List Nu → Option (Prop × AV)}
    (h : ∀ xs ys zs p v, V xs ys zs = some (p, v) → p → ∃ (C : Ctx) (m : Nat) (nd : Nd), CtxOk C ∧ C.P = P ∧ C.glob = glob ∧ AV.underL hG.size (Sh.mkL sh xs).1 = true ∧ AV.underL hG.size (Sh.mkL shs zs).1 = true ∧ AV.underL hG.size (Sh.mkL (filmSh n) ys).1 = true ∧ v.under hG.size = true ∧
      oneG (hG.size + 1) hG.clock ((run C m).call f (.agg ((Sh.mkL sh xs).1 ++ [.gslice hG.size 0 n 3]) :: (Sh.mkL shs zs).1) (coatH hG (Sh.mkL (filmSh n) ys).1)) = some (nd, v) ∧ nd.val)
    (fn : ∃ fn : Func, P.funcs[f]? = some fn ∧ fn.body.isSome = true) : HOk P glob hG f (coatSpec hG n sh shs V) := by
  refine ⟨fun args nd v hp e same => ?_, fn⟩
  unfold coatSpec at e
  split at e
  · rename_i cells rest
    split at e
    · rename_i init id off m z hs
      split at e
      · rename_i hb
        simp only [Bool.and_eq_true] at hb
        obtain ⟨⟨⟨b1, b2⟩, b3⟩, b4⟩ := hb
        have := Nat.eq_of_beq_eq_true b1; subst this
        have := Nat.eq_of_beq_eq_true b2; subst this
        have := Nat.eq_of_beq_eq_true b3; subst this
        have hge := Nat.le_of_ble_eq_true b4
        split at e
        · rename_i w fc hid
          split at e
          · rename_i s1 xs r1
            split at e
            · rename_i s2 ys r2
              split at e
              · rename_i s3 zs r3
                split at e
                · rename_i p v' hV
                  cases e
                  intro σ A W g r hA hn
                  obtain ⟨C, fuel, nd0, co, rfl, rfl, u1, u2, u3, hv, hrun, hn0⟩ := h xs ys zs p v hV hn
                  rw [splitL_eq hs] at hA
                  refine extra_call (C := C) co ok pl hgl hv u3 hrun hp same hid hge (fun σ L hL => ?_) (args := .agg (init ++ [.gslice id 0 m 3]) :: rest) (fun σ L hL => ?_) σ A W g r hA hn0
                  · have := (Sh.readL_mk (filmSh m) fc s2 ys [] r2).2 σ L hL
                    rwa [List.append_nil] at this
                  · obtain ⟨v0, vs, rfl, hv0, hvs⟩ := hL
                    obtain ⟨K, rfl, hK⟩ := hv0
                    obtain ⟨I, Z, hIZ, h1, h2⟩ := rels_split hK
                    obtain ⟨zv, zl, rfl, h3, h4⟩ := h2
                    obtain rfl : zl = [] := h4
                    obtain ⟨b, N, q, c, e1, rfl, e2, e3⟩ := h3
                    have h5 := (Sh.readL_mk sh init s1 xs [] r1).2 σ I h1
                    rw [List.append_nil] at h5
                    have h6 := VRels.mono (Sg.low_plus σ _ id) _ _ (VRels.low _ _ h5 u1)
                    have h7 := (Sh.readL_mk shs rest s3 zs [] r3).2 σ vs hvs
                    rw [List.append_nil] at h7
                    have h8 := VRels.mono (Sg.low_plus σ _ id) _ _ (VRels.low _ _ h7 u2)
                    refine ⟨_, vs, rfl, ⟨K, rfl, ?_⟩, h8⟩
                    rw [hIZ]
                    exact VRels.append h6 ⟨_, [], rfl, ⟨b, N, q, c, by unfold Sg.plus; rw [if_neg (Nat.lt_irrefl _), if_pos rfl]; exact e1, rfl, e2, e3⟩, rfl⟩
                · cases e
              · cases e
            · cases e
          · cases e
        · cases e
      · cases e
    · cases e
  · cases e
end
end Go.Eng
namespace Go.Eng
open Go
noncomputable section
theorem CallOk.tell {C : Ctx} {f : FuncId} {args : List AV} {h : Hp} {nd : Nd} {v v' : AV} (c : CallOk C f args h ⟨nd, [⟨.tt, v, h⟩]⟩) (hv : ∀ σ V, VRel σ v V → VRel σ v' V) : CallOk C f args h ⟨nd, [⟨.tt, v', h⟩]⟩ := by
  intro σ A W g r hA hn cs
  obtain ⟨x, q1, τ, V, X, fr, q2, q3⟩ := c σ A W g r hA hn cs
  have : x = ⟨.tt, v, h⟩ := by
    unfold OneC at q1
    simp [G.val] at q1
    exact q1.symm
  subst this
  exact ⟨⟨.tt, v', h⟩, rfl, τ, V, X, fr, hv τ V q2, q3⟩
theorem gsp_rel {P : Program} {glob : Nat → Option Nat} {hG : Hp} (ok : hG.ok) (pl : blksPlain hG.size hG.blks = true) (hgl : ∀ g i, glob g = some i → i < hG.size) {f : FuncId} {ss : List Sh} {V : List Nu → Option (Prop × AV)}
    (h : ∀ xs p v, V xs = some (p, v) → p → ∃ (C : Ctx) (n : Nat) (nd : Nd) (v0 : AV), CtxOk C ∧ C.P = P ∧ C.glob = glob ∧ AV.underL hG.size (Sh.mkL ss xs).1 = true ∧ v0.under hG.size = true ∧ oneG hG.size hG.clock ((run C n).call f (Sh.mkL ss xs).1 hG) = some (nd, v0) ∧ nd.val ∧ ∀ σ V, VRel σ v0 V → VRel σ v V)
    (fn : ∃ fn : Func, P.funcs[f]? = some fn ∧ fn.body.isSome = true) : GOk P glob hG f (gSpec ss V) := by
  refine ⟨fun args nd v e h' same => ?_, fn⟩
  unfold gSpec at e
  split at e
  · cases e
  · rename_i s xs hr
    split at e
    · rename_i p v' hV
      cases e
      intro σ A W g r hA hn cs
      obtain ⟨C, n, nd0, v0, co, hP, hG', h0, hv, h1, h2, h3⟩ := h xs p v hV hn
      subst hP hG'
      have hA' := (Sh.readL_mk ss args s xs [] hr).2 σ _ hA
      rw [List.append_nil] at hA'
      exact ((glob_call co ok pl hgl h0 hv h1 h' same).tell h3) σ A W g r hA' h2 cs
    · cases e
open Classical in
theorem coat_rel {P : Program} {glob : Nat → Option Nat} {hG : Hp} (ok : hG.ok) (pl : blksPlain hG.size hG.blks = true) (hgl : ∀ g i, glob g = some i → i < hG.size) {f : FuncId} {n : Nat} {sh shs : List Sh} {V : List Nu → List Nu → List Nu → Option (Prop × AV)}
    (h : ∀ xs ys zs p v, V xs ys zs = some (p, v) → p → ∃ (C : Ctx) (m : Nat) (nd : Nd) (v0 : AV), CtxOk C ∧ C.P = P ∧ C.glob = glob ∧ AV.underL hG.size (Sh.mkL sh xs).1 = true ∧ AV.underL hG.size (Sh.mkL shs zs).1 = true ∧ AV.underL hG.size (Sh.mkL (filmSh n) ys).1 = true ∧ v0.under hG.size = true ∧
      oneG (hG.size + 1) hG.clock ((run C m).call f (.agg ((Sh.mkL sh xs).1 ++ [.gslice hG.size 0 n 3]) :: (Sh.mkL shs zs).1) (coatH hG (Sh.mkL (filmSh n) ys).1)) = some (nd, v0) ∧ nd.val ∧ ∀ σ V, VRel σ v0 V → VRel σ v V)
    (fn : ∃ fn : Func, P.funcs[f]? = some fn ∧ fn.body.isSome = true) : HOk P glob hG f (coatSpec hG n sh shs V) := by
  refine ⟨fun args nd v hp e same => ?_, fn⟩
  have e0 := e
  unfold coatSpec at e
  split at e
  · rename_i cells rest
    split at e
    · rename_i init id off m z hs
      split at e
      · rename_i hb
        split at e
        · rename_i w fc hid
          split at e
          · rename_i s1 xs r1
            split at e
            · rename_i s2 ys r2
              split at e
              · rename_i s3 zs r3
                split at e
                · rename_i p v' hV
                  cases e
                  intro σ A W g r hA hn
                  obtain ⟨C, fuel, nd0, v0, co, hP, hG', u1, u2, u3, hv, hrun, hn0, hrel⟩ := h xs ys zs p v hV hn
                  have key : HOk P glob hG f (coatSpec hG n sh shs fun a b c => if a = xs ∧ b = ys ∧ c = zs then some (p, v0) else none) := by
                    refine coat_ok ok pl hgl (fun xs' ys' zs' p' v1 hV' hp' => ?_) fn
                    split at hV'
                    · rename_i hx
                      obtain ⟨rfl, rfl, rfl⟩ := hx
                      cases hV'
                      exact ⟨C, fuel, nd0, co, hP, hG', u1, u2, u3, hv, hrun, hn0⟩
                    · cases hV'
                  refine ((key.call (.agg cells :: rest) (.p p) v0 hp ?_ same).tell hrel) σ A W g r hA hn
                  unfold coatSpec
                  simp only [hs, hb, hid, r1, r2, r3]
                  rw [if_pos ⟨trivial, trivial, trivial⟩]
                · cases e
              · cases e
            · cases e
          · cases e
        · cases e
      · cases e
    · cases e
  · cases e
end
end Go.Eng
namespace Go.Eng
open Go
noncomputable section
abbrev TSpec := List AV → Hp → Option (Nd × Bool × AV × AV)
structure TOk (P : Program) (glob : Nat → Option Nat) (hG : Hp) (f : FuncId) (spec : TSpec) : Prop where
  call : ∀ args nd p v w h, spec args h = some (nd, p, v, w) → globsSame hG h hG.size = true → CallOk (mkM P glob hG [] noExt) f args h ⟨nd, [⟨.b p, v, h⟩, ⟨.b !p, w, h⟩]⟩
  fn : ∃ fn : Func, P.funcs[f]? = some fn ∧ fn.body.isSome = true
def twoG (hG : Hp) : List (FuncId × TSpec) → FuncId → List AV → Hp → Option (Nd × Bool × AV × AV)
  | [], _, _, _ => none
  | (g, s) :: l, f, args, h => match Nat.beq f g with
    | true => match s args h with
      | some x => match globsSame hG h hG.size with
        | true => some x
        | false => none
      | none => twoG hG l f args h
    | false => twoG hG l f args h
theorem twoG_some {hG : Hp} : ∀ {l : List (FuncId × TSpec)} {f : FuncId} {args : List AV} {h : Hp} {x : Nd × Bool × AV × AV}, twoG hG l f args h = some x → globsSame hG h hG.size = true ∧ ∃ s, (f, s) ∈ l ∧ s args h = some x
  | [], _, _, _, _, e => by cases e
  | (g, s) :: l, f, args, h, x, e => by
    simp only [twoG] at e
    split at e
    · rename_i hb
      have := Nat.eq_of_beq_eq_true hb
      subst this
      split at e
      · rename_i hs
        split at e
        · rename_i hg
          cases e
          exact ⟨hg, s, by simp, hs⟩
        · cases e
      · obtain ⟨h2, s', h3, h4⟩ := twoG_some e
        exact ⟨h2, s', by simp [h3], h4⟩
    · obtain ⟨h2, s', h3, h4⟩ := twoG_some e
      exact ⟨h2, s', by simp [h3], h4⟩
def mkT (P : Program) (glob : Nat → Option Nat) (hG : Hp) (tbl : List (FuncId × HSpec)) (tt : List (FuncId × TSpec)) (ext : FuncId → List AV → Option (Nd × AV)) : Ctx := { mkH P glob hG tbl ext with two := twoG hG tt }
theorem mkT_ok {P : Program} {glob : Nat → Option Nat} {hG : Hp} (hp : ProgOk P) {tbl : List (FuncId × HSpec)} {tt : List (FuncId × TSpec)} {ext : FuncId → List AV → Option (Nd × AV)} (he : ExtOk P ext) (ht : ∀ x ∈ tbl, HOk P glob hG x.1 x.2) (h2 : ∀ x ∈ tt, TOk P glob hG x.1 x.2) : CtxOk (mkT P glob hG tbl tt ext) := by
  have co := mkH_ok hp he ht
  refine ⟨co.prog, co.con, co.ext, fun _ _ _ _ e => (by cases e), fun f args h nd p v w e => ?_⟩
  obtain ⟨hg, s, h1, h3⟩ := twoG_some e
  have g := h2 _ h1
  exact ⟨g.call args nd p v w h h3 hg, g.fn⟩
theorem two_of {P : Program} {glob : Nat → Option Nat} {hG : Hp} {f : FuncId} {s : HSpec} {t : TSpec} (g : HOk P glob hG f s)
    (h : ∀ args hp nd p v w, t args hp = some (nd, p, v, w) → ∃ nd0 v0, s args hp = some (nd0, v0) ∧ (nd.val → nd0.val ∧ (p = true → ∀ σ V, VRel σ v0 V → VRel σ v V) ∧ (p = false → ∀ σ V, VRel σ v0 V → VRel σ w V))) : TOk P glob hG f t := by
  refine ⟨fun args nd p v w hp e same => ?_, g.fn⟩
  obtain ⟨nd0, v0, h1, h2⟩ := h args hp nd p v w e
  intro σ A W gr r hA hn cs
  obtain ⟨k0, k1, k2⟩ := h2 hn
  obtain ⟨x, q1, τ, V, X, fr, q2, q3⟩ := g.call args nd0 v0 hp h1 same σ A W gr r hA k0 cs
  have : x = ⟨.tt, v0, hp⟩ := by
    unfold OneC at q1
    simp [G.val] at q1
    exact q1.symm
  subst this
  cases p with
  | true => exact ⟨⟨.b true, v, hp⟩, rfl, τ, V, X, fr, k1 rfl τ V q2, q3⟩
  | false => exact ⟨⟨.b (!false), w, hp⟩, rfl, τ, V, X, fr, k2 rfl τ V q2, q3⟩
def listSpec (hG : Hp) (n z : Nat) (shl shs : List Sh) (V : List Nu → List Nu → Option (Prop × AV)) : HSpec := fun args h =>
  match args with
  | .gslice id off m z' :: rest => match Nat.beq m n && Nat.beq off 0 && Nat.beq z' z && Nat.ble hG.size id with
    | true => match h.get id with
      | some ⟨_, .grown fc⟩ => match Sh.readL shl fc with
        | some (_, ys) => match Sh.readL shs rest with
          | some (_, zs) => match V ys zs with
            | some (p, v) => some (.p p, v)
            | none => none
          | none => none
        | none => none
      | _ => none
    | false => none
  | _ => none
theorem list_ok {P : Program} {glob : Nat → Option Nat} {hG : Hp} (ok : hG.ok) (pl : blksPlain hG.size hG.blks = true) (hgl : ∀ g i, glob g = some i → i < hG.size) {f : FuncId} {n z : Nat} {shl shs : List Sh} {V : List Nu → List Nu → Option (Prop × AV)}
    (h : ∀ ys zs p v, V ys zs = some (p, v) → p → ∃ (C : Ctx) (m : Nat) (nd : Nd), CtxOk C ∧ C.P = P ∧ C.glob = glob ∧ AV.underL hG.size (Sh.mkL shs zs).1 = true ∧ AV.underL hG.size (Sh.mkL shl ys).1 = true ∧ v.under hG.size = true ∧
      oneG (hG.size + 1) hG.clock ((run C m).call f (.gslice hG.size 0 n z :: (Sh.mkL shs zs).1) (coatH hG (Sh.mkL shl ys).1)) = some (nd, v) ∧ nd.val)
    (fn : ∃ fn : Func, P.funcs[f]? = some fn ∧ fn.body.isSome = true) : HOk P glob hG f (listSpec hG n z shl shs V) := by
  refine ⟨fun args nd v hp e same => ?_, fn⟩
  unfold listSpec at e
  split at e
  · rename_i id off m z' rest
    split at e
    · rename_i hb
      simp only [Bool.and_eq_true] at hb
      obtain ⟨⟨⟨b1, b2⟩, b3⟩, b4⟩ := hb
      have := Nat.eq_of_beq_eq_true b1; subst this
      have := Nat.eq_of_beq_eq_true b2; subst this
      have := Nat.eq_of_beq_eq_true b3; subst this
      have hge := Nat.le_of_ble_eq_true b4
      split at e
      · rename_i w fc hid
        split at e
        · rename_i s2 ys r2
          split at e
          · rename_i s3 zs r3
            split at e
            · rename_i p v' hV
              cases e
              intro σ A W g r hA hn
              obtain ⟨C, fuel, nd0, co, rfl, rfl, u2, u3, hv, hrun, hn0⟩ := h ys zs p v hV hn
              refine extra_call (C := C) co ok pl hgl hv u3 hrun hp same hid hge (fun σ L hL => ?_) (args := .gslice id 0 m z' :: rest) (fun σ L hL => ?_) σ A W g r hA hn0
              · have := (Sh.readL_mk shl fc s2 ys [] r2).2 σ L hL
                rwa [List.append_nil] at this
              · obtain ⟨v0, vs, rfl, hv0, hvs⟩ := hL
                obtain ⟨b, N, q, c, e1, rfl, e2, e3⟩ := hv0
                have h7 := (Sh.readL_mk shs rest s3 zs [] r3).2 σ vs hvs
                rw [List.append_nil] at h7
                exact ⟨_, vs, rfl, ⟨b, N, q, c, by unfold Sg.plus; rw [if_neg (Nat.lt_irrefl _), if_pos rfl]; exact e1, rfl, e2, e3⟩, VRels.mono (Sg.low_plus σ _ id) _ _ (VRels.low _ _ h7 u2)⟩
            · cases e
          · cases e
        · cases e
      · cases e
    · cases e
  · cases e
end
end Go.Eng
namespace Go.Eng
def lc (q r y0 u : Int) : Bool := bif decide (q ≥ 4294967296) then true else decide (IntKind.u64.wrap (q * y0) > IntKind.u64.wrap (IntKind.u64.wrap (4294967296 * r) + u))
def lq (q r y1 y0 u : Int) : Int :=
  bif (lc q r y0 u && decide (IntKind.u64.wrap (r + y1) ≥ 4294967296)) || !lc q r y0 u then
    bif lc q r y0 u && decide (IntKind.u64.wrap (r + y1) ≥ 4294967296) then IntKind.u64.wrap (q - 1) else q
  else
    bif (lc (IntKind.u64.wrap (q - 1)) (IntKind.u64.wrap (r + y1)) y0 u && decide (IntKind.u64.wrap (IntKind.u64.wrap (r + y1) + y1) ≥ 4294967296)) || !lc (IntKind.u64.wrap (q - 1)) (IntKind.u64.wrap (r + y1)) y0 u then
      bif lc (IntKind.u64.wrap (q - 1)) (IntKind.u64.wrap (r + y1)) y0 u && decide (IntKind.u64.wrap (IntKind.u64.wrap (r + y1) + y1) ≥ 4294967296) then IntKind.u64.wrap (IntKind.u64.wrap (q - 1) - 1) else IntKind.u64.wrap (q - 1)
    else
      bif lc (IntKind.u64.wrap (IntKind.u64.wrap (q - 1) - 1)) (IntKind.u64.wrap (IntKind.u64.wrap (r + y1) + y1)) y0 u && decide (IntKind.u64.wrap (IntKind.u64.wrap (IntKind.u64.wrap (r + y1) + y1) + y1) ≥ 4294967296) then
        IntKind.u64.wrap (IntKind.u64.wrap (IntKind.u64.wrap (q - 1) - 1) - 1)
      else IntKind.u64.wrap (IntKind.u64.wrap (q - 1) - 1)
def lneed (q r y1 y0 u : Int) : Prop :=
  (lc q r y0 u && !decide (IntKind.u64.wrap (r + y1) ≥ 4294967296)) = true →
    (lc (IntKind.u64.wrap (q - 1)) (IntKind.u64.wrap (r + y1)) y0 u && !decide (IntKind.u64.wrap (IntKind.u64.wrap (r + y1) + y1) ≥ 4294967296)) = true →
      (lc (IntKind.u64.wrap (IntKind.u64.wrap (q - 1) - 1)) (IntKind.u64.wrap (IntKind.u64.wrap (r + y1) + y1)) y0 u && !decide (IntKind.u64.wrap (IntKind.u64.wrap (IntKind.u64.wrap (r + y1) + y1) + y1) ≥ 4294967296)) = true → False
theorem wrapU {n : Int} (h0 : 0 ≤ n) (h1 : n < 18446744073709551616) : IntKind.u64.wrap n = n := by rw [IntKind.wrap_u64]; omega
section step
variable {u Y y1 y0 d Q : Int}
theorem over_iff (hY : 9223372036854775808 ≤ Y) (e : Y = y1 * 4294967296 + y0) (hQ1 : Q * Y ≤ u * 4294967296 + d) (hQ2 : u * 4294967296 + d < (Q + 1) * Y) {q r : Int} (hu : u = q * y1 + r) :
    q * y0 > r * 4294967296 + d ↔ q > Q := by
  have h1 : q * Y = q * y1 * 4294967296 + q * y0 := by rw [e, Int.mul_add, Int.mul_assoc]
  constructor
  · intro h
    rcases Int.lt_or_le Q q with h2 | h2
    · exact h2
    · have := Int.mul_le_mul_of_nonneg_right h2 (show 0 ≤ Y by omega)
      omega
  · intro h
    have := Int.mul_le_mul_of_nonneg_right (show Q + 1 ≤ q by omega) (show 0 ≤ Y by omega)
    omega
theorem lc_iff (hY : 9223372036854775808 ≤ Y) (e : Y = y1 * 4294967296 + y0) (h0 : 0 ≤ y0) (h0' : y0 < 4294967296) (hd : 0 ≤ d) (hd' : d < 4294967296) (hQ : Q < 4294967296) (hQ1 : Q * Y ≤ u * 4294967296 + d) (hQ2 : u * 4294967296 + d < (Q + 1) * Y)
    {q r : Int} (hu : u = q * y1 + r) (hq : 0 ≤ q) (hr : 0 ≤ r) (hr' : r < 4294967296) : lc q r y0 d = decide (q > Q) := by
  unfold lc
  by_cases h : q ≥ 4294967296
  · simp only [h, decide_true, cond_true]
    symm; simp; omega
  · simp only [h, decide_false, cond_false]
    have h1 : q * y0 ≤ 4294967295 * y0 := Int.mul_le_mul_of_nonneg_right (by omega) h0
    have h2 : 0 ≤ q * y0 := Int.mul_nonneg hq h0
    rw [wrapU h2 (by omega), wrapU (n := 4294967296 * r) (by omega) (by omega), wrapU (by omega) (by omega)]
    have := over_iff hY e hQ1 hQ2 hu
    congr 1
    apply propext
    rw [← this]
    omega
theorem lq_spec (hY : 9223372036854775808 ≤ Y) (hY' : Y < 18446744073709551616) (e : Y = y1 * 4294967296 + y0) (h0 : 0 ≤ y0) (h0' : y0 < 4294967296) (hu : 0 ≤ u) (hu' : u < Y) (hd : 0 ≤ d) (hd' : d < 4294967296) :
    lq (u / y1) (u % y1) y1 y0 d = (u * 4294967296 + d) / Y ∧ lneed (u / y1) (u % y1) y1 y0 d := by
  have hy1 : 2147483648 ≤ y1 := by omega
  have hy1' : y1 < 4294967296 := by omega
  generalize hQ : (u * 4294967296 + d) / Y = Q
  have hdm := Int.mul_ediv_add_emod (u * 4294967296 + d) Y
  rw [hQ] at hdm
  have hm0 := Int.emod_nonneg (u * 4294967296 + d) (show Y ≠ 0 by omega)
  have hm1 := Int.emod_lt_of_pos (u * 4294967296 + d) (show 0 < Y by omega)
  have hc : Y * Q = Q * Y := Int.mul_comm _ _
  have hQ1 : Q * Y ≤ u * 4294967296 + d := by omega
  have hQ2 : u * 4294967296 + d < (Q + 1) * Y := by rw [Int.add_mul]; omega
  have hQ0 : 0 ≤ Q := by rw [← hQ]; exact Int.ediv_nonneg (by omega) (by omega)
  have hQlt : Q < 4294967296 := by
    rcases Int.lt_or_le Q 4294967296 with h | h
    · exact h
    · have := Int.mul_le_mul_of_nonneg_right h (show 0 ≤ Y by omega)
      omega
  have hqr := Int.mul_ediv_add_emod u y1
  have hr0 := Int.emod_nonneg u (show y1 ≠ 0 by omega)
  have hr1 := Int.emod_lt_of_pos u (show 0 < y1 by omega)
  generalize hq : u / y1 = q at *
  generalize hr : u % y1 = r at *
  have hq0 : 0 ≤ q := by rw [← hq]; exact Int.ediv_nonneg hu (by omega)
  have hc1 : y1 * q = q * y1 := Int.mul_comm _ _
  have hu1 : u = q * y1 + r := by omega
  have hqle : q ≤ 4294967297 := by
    rcases Int.lt_or_le 4294967297 q with h | h
    · have := Int.mul_le_mul_of_nonneg_right (show 4294967298 ≤ q by omega) (show 0 ≤ y1 by omega)
      omega
    · exact h
  have hge : Q ≤ q := by
    rcases Int.lt_or_le q Q with h | h
    · have h1 := Int.mul_le_mul_of_nonneg_right (show q + 1 ≤ Q by omega) (show 0 ≤ Y by omega)
      have h2 : (q + 1) * Y = q * y1 * 4294967296 + y1 * 4294967296 + (q + 1) * y0 := by rw [e, Int.mul_add, Int.add_mul, ← Int.mul_assoc, Int.add_mul, Int.one_mul, Int.one_mul]
      have h3 : 0 ≤ (q + 1) * y0 := Int.mul_nonneg (by omega) h0
      omega
    · exact h
  have hle : q ≤ Q + 2 := by
    rcases Int.lt_or_le (Q + 2) q with h | h
    · have h1 := Int.mul_le_mul_of_nonneg_right (show Q + 1 ≤ q - 2 by omega) (show 0 ≤ Y by omega)
      have h2 : (q - 2) * Y = q * y1 * 4294967296 - 2 * y1 * 4294967296 + (q - 2) * y0 := by rw [e, Int.mul_add, Int.sub_mul, ← Int.mul_assoc, Int.sub_mul, Int.mul_assoc 2]
      have h3 : (q - 2) * y0 ≤ 4294967295 * y0 := Int.mul_le_mul_of_nonneg_right (by omega) h0
      omega
    · exact h
  have C1 : lc q r y0 d = decide (q > Q) := lc_iff hY e h0 h0' hd hd' hQlt hQ1 hQ2 hu1 hq0 hr0 (by omega)
  have w1 : IntKind.u64.wrap (r + y1) = r + y1 := wrapU (by omega) (by omega)
  by_cases g1 : q > Q
  · have v1 : IntKind.u64.wrap (q - 1) = q - 1 := wrapU (by omega) (by omega)
    have hu2 : u = (q - 1) * y1 + (r + y1) := by rw [Int.sub_mul]; omega
    by_cases b1 : r + y1 ≥ 4294967296
    · -- the second guess must be right
      have hq1 : q - 1 = Q := by
        have := over_iff hY e hQ1 hQ2 hu2
        have h3 : (q - 1) * y0 ≤ 4294967296 * y0 := Int.mul_le_mul_of_nonneg_right (by omega) h0
        rcases Int.lt_or_le Q (q - 1) with h | h
        · have := this.2 h
          omega
        · omega
      refine ⟨?_, ?_⟩
      · simp only [lq, C1, w1, v1, g1, b1, decide_true, Bool.and_self, Bool.true_or, cond_true]
        exact hq1
      · intro h
        simp [C1, w1, b1] at h
    · have C2 : lc (q - 1) (r + y1) y0 d = decide (q - 1 > Q) := lc_iff hY e h0 h0' hd hd' hQlt hQ1 hQ2 hu2 (by omega) (by omega) (by omega)
      by_cases g2 : q - 1 > Q
      · have v2 : IntKind.u64.wrap (q - 1 - 1) = q - 1 - 1 := wrapU (by omega) (by omega)
        have w2 : IntKind.u64.wrap (r + y1 + y1) = r + y1 + y1 := wrapU (by omega) (by omega)
        have hq2 : q - 1 - 1 = Q := by omega
        by_cases b2 : r + y1 + y1 ≥ 4294967296
        · refine ⟨?_, ?_⟩
          · simp only [lq, C1, w1, v1, g1, b1, C2, g2, v2, w2, b2, decide_true, decide_false, Bool.and_self, Bool.and_false, Bool.not_true, Bool.or_self, Bool.true_or, Bool.or_false, cond_true, cond_false]
            exact hq2
          · intro _ h
            simp [C2, w1, v1, w2, b2] at h
        · have hu3 : u = (q - 1 - 1) * y1 + (r + y1 + y1) := by rw [Int.sub_mul]; omega
          have C3 : lc (q - 1 - 1) (r + y1 + y1) y0 d = decide (q - 1 - 1 > Q) := lc_iff hY e h0 h0' hd hd' hQlt hQ1 hQ2 hu3 (by omega) (by omega) (by omega)
          have g3 : ¬ q - 1 - 1 > Q := by omega
          refine ⟨?_, ?_⟩
          · simp only [lq, C1, w1, v1, g1, b1, C2, g2, v2, w2, b2, C3, g3, decide_true, decide_false, Bool.and_self, Bool.and_false, Bool.false_and, Bool.not_true, Bool.or_self, Bool.true_or, Bool.or_false, cond_true, cond_false]
            exact hq2
          · intro _ _ h
            simp [v1, w1, v2, w2, C3, g3] at h
      · refine ⟨?_, ?_⟩
        · simp only [lq, C1, w1, v1, g1, b1, C2, g2, decide_true, decide_false, Bool.and_self, Bool.and_false, Bool.false_and, Bool.not_true, Bool.not_false, Bool.or_self, Bool.true_or, Bool.or_true, Bool.or_false, cond_true, cond_false]
          omega
        · intro _ h
          simp [v1, w1, C2, g2] at h
  · refine ⟨?_, ?_⟩
    · simp only [lq, C1, g1, decide_false, Bool.false_and, Bool.not_false, Bool.or_true, cond_true, cond_false]
      omega
    · intro h
      simp [C1, g1] at h
end step
end Go.Eng
namespace Go.Eng
def dS (y : Int) : Int := IntKind.u64.wrap (64 - ((Lib.bitLen y.toNat : Nat) : Int))
def dP (y : Int) : Int := 2 ^ min (dS y).toNat IntKind.u64.bits
def dH : Int := 2 ^ min (Int.toNat 32) IntKind.u64.bits
def dLow (n : Int) : Int := IntKind.u64.wrap ((BitVec.ofInt IntKind.u64.bits n &&& BitVec.ofInt IntKind.u64.bits 4294967295).toNat : Int)
def dY (y : Int) : Int := IntKind.u64.wrap (y * dP y)
def dY1 (y : Int) : Int := (dY y).fdiv dH
def dY0 (y : Int) : Int := dLow (dY y)
def dU32 (hi lo y : Int) : Int := IntKind.u64.wrap ((BitVec.ofInt IntKind.u64.bits (IntKind.u64.wrap (hi * dP y)) ||| BitVec.ofInt IntKind.u64.bits (lo.fdiv (2 ^ min (IntKind.u64.wrap (64 - dS y)).toNat IntKind.u64.bits))).toNat : Int)
def dU10 (lo y : Int) : Int := IntKind.u64.wrap (lo * dP y)
def dU1 (lo y : Int) : Int := (dU10 lo y).fdiv dH
def dU0 (lo y : Int) : Int := dLow (dU10 lo y)
def dq (u y : Int) : Int := IntKind.u64.wrap (u.tdiv (dY1 y))
def dr (u y : Int) : Int := IntKind.u64.wrap (u - IntKind.u64.wrap (dq u y * dY1 y))
def dStep (u y d : Int) : Int := lq (dq u y) (dr u y) (dY1 y) (dY0 y) d
def dStepNeed (u y d : Int) : Prop := lneed (dq u y) (dr u y) (dY1 y) (dY0 y) d
def dLeft (u y d : Int) : Int := IntKind.u64.wrap (IntKind.u64.wrap (IntKind.u64.wrap (u * 4294967296) + d) - IntKind.u64.wrap (dStep u y d * dY y))
def dU21 (hi lo y : Int) : Int := dLeft (dU32 hi lo y) y (dU1 lo y)
def dQuo (hi lo y : Int) : Int := bif hi == 0 then IntKind.u64.wrap (lo.tdiv y) else IntKind.u64.wrap (IntKind.u64.wrap (dStep (dU32 hi lo y) y (dU1 lo y) * 4294967296) + dStep (dU21 hi lo y) y (dU0 lo y))
def dRem (hi lo y : Int) : Int := bif hi == 0 then lo.tmod y else (dLeft (dU21 hi lo y) y (dU0 lo y)).fdiv (dP y)
def dNeed (hi lo y : Int) : Prop :=
  ((y == 0) = true → False) ∧ (decide (y ≤ hi) = true → False) ∧ ((hi == 0) = true → y ≠ 0 ∧ y ≠ 0) ∧ ((!(hi == 0)) = true → (0 ≤ y ∧ y ≤ 18446744073709551615) ∧ 0 ≤ dS y ∧ (0 ≤ dS y ∧ 0 ≤ IntKind.u64.wrap (64 - dS y)) ∧ 0 ≤ dS y ∧
    dY1 y ≠ 0 ∧ dStepNeed (dU32 hi lo y) y (dU1 lo y) ∧ dY1 y ≠ 0 ∧ dStepNeed (dU21 hi lo y) y (dU0 lo y) ∧ 0 ≤ dS y)
end Go.Eng
namespace Go.Eng
theorem bitLenAux_bounds : ∀ (f x : Nat), x < 2 ^ f → 0 < x → 2 ^ (Lib.bitLenAux f x - 1) ≤ x ∧ x < 2 ^ (Lib.bitLenAux f x) ∧ 1 ≤ Lib.bitLenAux f x
  | 0, x, h, h0 => by simp at h; omega
  | f + 1, x, h, h0 => by
    simp only [Lib.bitLenAux, if_neg (show ¬ x = 0 by omega)]
    rw [Nat.pow_succ] at h
    by_cases hx : x / 2 = 0
    · have : x = 1 := by omega
      subst this
      have hz : Lib.bitLenAux f (1 / 2) = 0 := by cases f <;> simp [Lib.bitLenAux]
      rw [hz]; simp
    · obtain ⟨h1, h2, h3⟩ := bitLenAux_bounds f (x / 2) (by omega) (by omega)
      obtain ⟨k, hk⟩ : ∃ k, Lib.bitLenAux f (x / 2) = k + 1 := ⟨_, (Nat.sub_add_cancel h3).symm⟩
      rw [hk] at h1 h2 ⊢
      rw [show 1 + (k + 1) - 1 = k + 1 from by omega, show 1 + (k + 1) = (k + 1) + 1 from by omega]
      rw [show k + 1 - 1 = k from rfl] at h1
      rw [Nat.pow_succ] at h2 ⊢
      rw [Nat.pow_succ]
      refine ⟨by omega, by rw [Nat.pow_succ]; omega, by omega⟩
theorem bitLen_bounds (x : Nat) (h : x < 2 ^ 64) (h0 : 0 < x) : 2 ^ (Lib.bitLen x - 1) ≤ x ∧ x < 2 ^ (Lib.bitLen x) ∧ 1 ≤ Lib.bitLen x := bitLenAux_bounds 64 x h h0
theorem dLow_eq (n : Nat) (h : n < 18446744073709551616) : dLow (n : Int) = ((n % 4294967296 : Nat) : Int) := by
  have h1 := bits_and_u64_nat n 4294967295 h (by omega)
  have e : n &&& 4294967295 = n % 4294967296 := Nat.and_two_pow_sub_one_eq_mod n 32
  rw [e] at h1
  exact h1
theorem dOr_eq (a b : Nat) (ha : a < 18446744073709551616) (hb : b < 18446744073709551616) : IntKind.u64.wrap ((BitVec.ofInt IntKind.u64.bits (a : Int) ||| BitVec.ofInt IntKind.u64.bits (b : Int)).toNat : Int) = ((a ||| b : Nat) : Int) := bits_or_u64_nat a b ha hb
theorem dH_eq : dH = 4294967296 := rfl
theorem step_ok {y Y u d : Int} (hy : dY y = Y) (hY : 9223372036854775808 ≤ Y) (hY' : Y < 18446744073709551616) (hu : 0 ≤ u) (hu' : u < Y) (hd : 0 ≤ d) (hd' : d < 4294967296) :
    dStep u y d = (u * 4294967296 + d) / Y ∧ dStepNeed u y d ∧ dLeft u y d = (u * 4294967296 + d) % Y ∧ dY1 y ≠ 0 := by
  have h1 : dY1 y = Y / 4294967296 := by unfold dY1; rw [hy, dH_eq, Int.fdiv_eq_ediv_of_nonneg _ (by omega)]
  have h0 : dY0 y = Y % 4294967296 := by
    unfold dY0; rw [hy]
    have := dLow_eq Y.toNat (by omega)
    rw [Int.toNat_of_nonneg (by omega)] at this
    rw [this]; omega
  have hp : 0 < Y / 4294967296 := by omega
  have hq : dq u y = u / (Y / 4294967296) := by
    unfold dq; rw [h1, Int.tdiv_eq_ediv_of_nonneg hu]
    have a1 := Int.ediv_nonneg hu (show 0 ≤ Y / 4294967296 by omega)
    have a2 : u / (Y / 4294967296) ≤ u := Int.ediv_le_self _ hu
    exact wrapU a1 (by omega)
  have hdm := Int.mul_ediv_add_emod u (Y / 4294967296)
  have hm0 := Int.emod_nonneg u (show Y / 4294967296 ≠ 0 by omega)
  have hc := Int.mul_comm (Y / 4294967296) (u / (Y / 4294967296))
  have hn : 0 ≤ u / (Y / 4294967296) * (Y / 4294967296) := Int.mul_nonneg (Int.ediv_nonneg hu (by omega)) (by omega)
  have hr : dr u y = u % (Y / 4294967296) := by
    unfold dr; rw [hq, h1, wrapU hn (by omega), wrapU (by omega) (by omega)]; omega
  have main := lq_spec (u := u) (y1 := Y / 4294967296) (y0 := Y % 4294967296) (d := d) hY hY' (by omega) (by omega) (by omega) hu hu' hd hd'
  have hs : dStep u y d = (u * 4294967296 + d) / Y := by unfold dStep; rw [hq, hr, h1, h0]; exact main.1
  refine ⟨hs, by unfold dStepNeed; rw [hq, hr, h1, h0]; exact main.2, ?_, by omega⟩
  unfold dLeft
  rw [hs, hy]
  have e1 := Int.mul_ediv_add_emod (u * 4294967296 + d) Y
  have e2 := Int.mul_comm Y ((u * 4294967296 + d) / Y)
  have e3 := Int.emod_nonneg (u * 4294967296 + d) (show Y ≠ 0 by omega)
  have e4 := Int.emod_lt_of_pos (u * 4294967296 + d) (show 0 < Y by omega)
  rw [IntKind.wrap_u64, IntKind.wrap_u64, IntKind.wrap_u64, IntKind.wrap_u64]
  omega
theorem div_spec (h l z : Nat) (hz : h < z) (hz' : z < 18446744073709551616) (hl : l < 18446744073709551616) :
    dNeed h l z ∧ dQuo h l z = (h * 18446744073709551616 + l) / z ∧ dRem h l z = (h * 18446744073709551616 + l) % z := by
  by_cases hh : h = 0
  · subst hh
    have e : (((0 : Nat) : Int) == 0) = true := rfl
    refine ⟨⟨?_, ?_, ?_, ?_⟩, ?_, ?_⟩
    · simp; omega
    · simp; omega
    · intro _; constructor <;> omega
    · rw [e]; intro h; cases h
    · unfold dQuo
      rw [e, cond_true, Int.tdiv_eq_ediv_of_nonneg (by omega)]
      have a1 := Int.ediv_nonneg (show (0 : Int) ≤ l by omega) (show (0 : Int) ≤ z by omega)
      have a2 : (l : Int) / z ≤ l := Int.ediv_le_self _ (by omega)
      rw [wrapU a1 (by omega)]; simp
    · unfold dRem
      rw [e, cond_true, Int.tmod_eq_emod_of_nonneg (by omega)]; simp
  · have e : (((h : Nat) : Int) == 0) = false := by simp; omega
    obtain ⟨b1, b2, b3⟩ := bitLen_bounds z hz' (by omega)
    have b4 := Lib.bitLen_le z 64 (by omega) hz'
    generalize hL : Lib.bitLen z = L at *
    have s1 : dS z = ((64 - L : Nat) : Int) := by
      unfold dS
      rw [Int.toNat_natCast, hL, wrapU (by omega) (by omega)]; omega
    have s2 : dP z = ((2 ^ (64 - L) : Nat) : Int) := by
      unfold dP
      rw [s1, Int.toNat_natCast, show IntKind.u64.bits = 64 from rfl, Nat.min_eq_left (by omega)]
      simp
    have s3 : IntKind.u64.wrap (64 - dS z) = (L : Int) := by rw [s1, wrapU (by omega) (by omega)]; omega
    have s4 : ((2 : Int) ^ min (IntKind.u64.wrap (64 - dS z)).toNat IntKind.u64.bits) = ((2 ^ L : Nat) : Int) := by
      rw [s3, Int.toNat_natCast, show IntKind.u64.bits = 64 from rfl, Nat.min_eq_left b4]
      simp
    have pr : 2 ^ L * 2 ^ (64 - L) = 18446744073709551616 := by rw [← Nat.pow_add, show L + (64 - L) = 64 by omega]
    have pr2 : 2 ^ (L - 1) * 2 ^ (64 - L) = 9223372036854775808 := by rw [← Nat.pow_add, show L - 1 + (64 - L) = 63 by omega]
    have hPpos : 0 < 2 ^ (64 - L) := Nat.pow_pos (by omega)
    have hRpos : 0 < 2 ^ L := Nat.pow_pos (by omega)
    have hlt2 : ∀ x : Nat, x < 2 ^ (64 - L) → 2 ^ (64 - L) * h + x = 2 ^ (64 - L) * h ||| x := fun x hx => Nat.two_pow_add_eq_or_of_lt hx h
    generalize hPn : 2 ^ (64 - L) = Pn at *
    generalize hR : 2 ^ L = R at *
    generalize hR1 : 2 ^ (L - 1) = R1 at *
    have Y1 : 9223372036854775808 ≤ z * Pn := by rw [← pr2]; exact Nat.mul_le_mul_right _ b1
    have Y2 : z * Pn < 18446744073709551616 := by rw [← pr]; exact Nat.mul_lt_mul_of_pos_right b2 hPpos
    have hYe : dY z = ((z * Pn : Nat) : Int) := by
      unfold dY
      rw [s2, ← Int.natCast_mul, wrapU (by omega) (by omega)]
    have hhP : h * Pn < z * Pn := Nat.mul_lt_mul_of_pos_right hz hPpos
    have hlR : l / R < Pn := by rw [Nat.div_lt_iff_lt_mul hRpos, Nat.mul_comm, pr]; exact hl
    have hU : dU32 h l z = ((h * Pn + l / R : Nat) : Int) := by
      unfold dU32
      rw [s4, s2, Int.fdiv_eq_ediv_of_nonneg _ (by omega), ← Int.natCast_mul, ← Int.natCast_ediv, wrapU (n := ((h * Pn : Nat) : Int)) (by omega) (by omega), dOr_eq _ _ (by omega) (Nat.lt_of_le_of_lt (Nat.div_le_self _ _) hl)]
      have := hlt2 (l / R) hlR
      rw [Nat.mul_comm Pn h] at this
      rw [this]
    have hlm := Nat.div_add_mod l R
    have hlm2 := Nat.mod_lt l hRpos
    have hlP : l * Pn = l / R * 18446744073709551616 + l % R * Pn := by
      conv => lhs; rw [← hlm]
      rw [Nat.add_mul, Nat.mul_comm R, Nat.mul_assoc, pr]
    have hlP2 : l % R * Pn < 18446744073709551616 := by rw [← pr]; exact Nat.mul_lt_mul_of_pos_right hlm2 hPpos
    have hU10 : dU10 l z = ((l % R * Pn : Nat) : Int) := by
      unfold dU10
      rw [s2, ← Int.natCast_mul, hlP, IntKind.wrap_u64]
      omega
    generalize hV : l % R * Pn = V at *
    generalize hUn : h * Pn + l / R = U at *
    have hN : (h * 18446744073709551616 + l) * Pn = U * 18446744073709551616 + V := by
      rw [Nat.add_mul, hlP, ← hUn, Nat.add_mul, Nat.mul_assoc, Nat.mul_comm 18446744073709551616 Pn, ← Nat.mul_assoc]; omega
    have hUY : U < z * Pn := by
      have : (h * 18446744073709551616 + l) * Pn < z * 18446744073709551616 * Pn := Nat.mul_lt_mul_of_pos_right (by omega) hPpos
      rw [hN, Nat.mul_assoc, Nat.mul_comm 18446744073709551616 Pn, ← Nat.mul_assoc] at this
      omega
    generalize hY : z * Pn = Y at *
    have hU1 : dU1 l z = ((V / 4294967296 : Nat) : Int) := by
      unfold dU1; rw [hU10, dH_eq, Int.fdiv_eq_ediv_of_nonneg _ (by omega)]; omega
    have hU0 : dU0 l z = ((V % 4294967296 : Nat) : Int) := by unfold dU0; rw [hU10, dLow_eq _ hlP2]
    obtain ⟨p1, p2, p3, p4⟩ := step_ok (u := (U : Int)) (d := ((V / 4294967296 : Nat) : Int)) hYe (by omega) (by omega) (by omega) (by omega) (by omega) (by omega)
    have hU21 : dU21 h l z = ((U : Int) * 4294967296 + ((V / 4294967296 : Nat) : Int)) % (Y : Int) := by unfold dU21; rw [hU, hU1]; exact p3
    have e1 := Int.mul_ediv_add_emod ((U : Int) * 4294967296 + ((V / 4294967296 : Nat) : Int)) (Y : Int)
    have e3 := Int.emod_nonneg ((U : Int) * 4294967296 + ((V / 4294967296 : Nat) : Int)) (show (Y : Int) ≠ 0 by omega)
    have e4 := Int.emod_lt_of_pos ((U : Int) * 4294967296 + ((V / 4294967296 : Nat) : Int)) (show (0 : Int) < Y by omega)
    have a0 := Int.ediv_nonneg (show (0 : Int) ≤ (U : Int) * 4294967296 + ((V / 4294967296 : Nat) : Int) by omega) (show (0 : Int) ≤ Y by omega)
    have a1 : ((U : Int) * 4294967296 + ((V / 4294967296 : Nat) : Int)) / Y < 4294967296 := Int.ediv_lt_of_lt_mul (by omega) (by omega)
    rw [← hU21] at e1 e3 e4
    obtain ⟨q1, q2, q3, _⟩ := step_ok (u := dU21 h l z) (d := ((V % 4294967296 : Nat) : Int)) hYe (by omega) (by omega) e3 e4 (by omega) (by omega)
    have f1 := Int.mul_ediv_add_emod (dU21 h l z * 4294967296 + ((V % 4294967296 : Nat) : Int)) (Y : Int)
    have f3 := Int.emod_nonneg (dU21 h l z * 4294967296 + ((V % 4294967296 : Nat) : Int)) (show (Y : Int) ≠ 0 by omega)
    have f4 := Int.emod_lt_of_pos (dU21 h l z * 4294967296 + ((V % 4294967296 : Nat) : Int)) (show (0 : Int) < Y by omega)
    have c0 := Int.ediv_nonneg (show (0 : Int) ≤ dU21 h l z * 4294967296 + ((V % 4294967296 : Nat) : Int) by omega) (show (0 : Int) ≤ Y by omega)
    have c1 : (dU21 h l z * 4294967296 + ((V % 4294967296 : Nat) : Int)) / Y < 4294967296 := Int.ediv_lt_of_lt_mul (by omega) (by omega)
    generalize hA : ((U : Int) * 4294967296 + ((V / 4294967296 : Nat) : Int)) / (Y : Int) = A at *
    generalize hB : (dU21 h l z * 4294967296 + ((V % 4294967296 : Nat) : Int)) / (Y : Int) = B at *
    generalize hM : (dU21 h l z * 4294967296 + ((V % 4294967296 : Nat) : Int)) % (Y : Int) = M at *
    have hNI : ((h : Int) * 18446744073709551616 + l) * Pn = (U : Int) * 18446744073709551616 + V := by
      have := congrArg (fun n : Nat => (n : Int)) hN
      simp only [Int.natCast_mul, Int.natCast_add, Int.cast_ofNat_Int] at this
      exact this
    have hYI : (z : Int) * Pn = Y := by rw [← Int.natCast_mul, hY]
    have tot : ((h : Int) * 18446744073709551616 + l) * Pn = Y * (A * 4294967296 + B) + M := by
      rw [hNI, Int.mul_add, ← Int.mul_assoc]
      omega
    have hdiv : ((h : Int) * 18446744073709551616 + l) / z = A * 4294967296 + B := by
      have k1 : ((h : Int) * 18446744073709551616 + l) / z = ((h : Int) * 18446744073709551616 + l) * Pn / (z * Pn) := (Int.mul_ediv_mul_of_pos_left _ _ (by omega)).symm
      rw [k1, hYI, tot, Int.mul_add_ediv_left _ _ (by omega), Int.ediv_eq_zero_of_lt f3 f4]; omega
    have hmod : ((h : Int) * 18446744073709551616 + l) % z * Pn = M := by
      have k1 : ((h : Int) * 18446744073709551616 + l) % z * Pn = (((h : Int) * 18446744073709551616 + l) * Pn) % (z * Pn) := by
        rw [Int.mul_comm _ (Pn : Int), Int.mul_comm _ (Pn : Int), Int.mul_comm _ (Pn : Int), Int.mul_emod_mul_of_pos _ _ (by omega)]
      rw [k1, hYI, tot, Int.mul_add_emod_self_left, Int.emod_eq_of_lt f3 f4]
    refine ⟨⟨?_, ?_, ?_, fun _ => ⟨⟨by omega, by omega⟩, by omega, ⟨by omega, by rw [s3]; omega⟩, by omega, p4, ?_, p4, ?_, by omega⟩⟩, ?_, ?_⟩
    · simp; omega
    · simp; omega
    · rw [e]; intro h; cases h
    · rw [hU, hU1]; exact p2
    · rw [hU0]; exact q2
    · unfold dQuo
      rw [e, cond_false, hU, hU1, p1, hU0, q1, hdiv, wrapU (n := A * 4294967296) (by omega) (by omega), wrapU (by omega) (by omega)]
    · unfold dRem
      rw [e, cond_false, hU0, q3, s2, Int.fdiv_eq_ediv_of_nonneg _ (by omega), ← hmod]
      exact Int.mul_ediv_cancel _ (by omega)
end Go.Eng
namespace Go.Ar
open Go
def two64 : Int := 18446744073709551616
def okF (a : Int) : Bool := decide (-4503599627370496 ≤ a) && decide (a ≤ 4503599627370496)
def rd (n d : Int) (up : Bool) : Int := bif up then -(-n / d) else n / d
def fitV (v : Int) : Int := bif okF v then v else 0
def fitE (v : Int) : Int := bif okF v then 0 else 6
def sg (a b : Int) : Int := bif decide (b < 0) then -a else a
def divV (a b : Int) (up : Bool) : Int := bif okF a && okF b then (bif b == 0 then 0 else fitV (rd (sg (a * 4294967296) b) (sg b b) up)) else 0
def okS (a n d : Int) : Bool := okF a && (decide (-4611686018427387904 ≤ n) && decide (n ≤ 4611686018427387904) && decide (1 ≤ d) && decide (d ≤ 4611686018427387904))
def xC (a : Int) : Int := bif bif decide (a < -4503599627370496) then true else decide (a > 4503599627370496) then 2 else 0
def xAll (a b : Int) : Int := bif !(xC a != 0) && !(xC b != 0) then 0 else bif xC a != 0 then xC a else xC b
def xSz (a : Int) : Int := bif decide (a < 0) then IntKind.u64.wrap (IntKind.u64.wrap (IntKind.i64.wrap (0 - IntKind.i64.wrap (a + 1))) + 1) else IntKind.u64.wrap a
def xHi (p : Int) : Int := p / two64
def xLo (p : Int) : Int := p % two64
def xNo (p d : Int) : Bool := decide (xHi p ≥ d)
def xN (p d : Int) (up neg : Bool) : Int := bif xNo p d then 0 else
  bif bif !(up == neg) then decide ((xHi p * two64 + xLo p) % d > 0) else false then IntKind.u64.wrap ((xHi p * two64 + xLo p) / d + 1) else (xHi p * two64 + xLo p) / d
def xBig (p d : Int) (up neg : Bool) : Bool := bif !(bif xNo p d then false else true) then true else decide (xN p d up neg > 4503599627370496)
def xV (p d : Int) (up neg : Bool) : Int := bif xBig p d up neg then 0 else bif neg then IntKind.i64.wrap (0 - IntKind.i64.wrap (xN p d up neg)) else IntKind.i64.wrap (xN p d up neg)
def xE (p d : Int) (up neg : Bool) : Int := bif xBig p d up neg then 6 else 0
def xNeg (a b : Int) : Bool := !(decide (a < 0) == decide (b < 0))
def xIn (a b : Int) : Prop := decide (0 ≤ a ∧ a < 18446744073709551616 ∧ 0 ≤ b ∧ b < 18446744073709551616) = true
def xDiv (p d : Int) : Prop := decide (0 ≤ xHi p ∧ xHi p < d ∧ d < 18446744073709551616 ∧ 0 ≤ xLo p ∧ xLo p < 18446744073709551616) = true
theorem i64w {n : Int} (h0 : -9223372036854775808 ≤ n) (h1 : n < 9223372036854775808) : IntKind.i64.wrap n = n := by rw [IntKind.wrap_i64]; omega
theorem u64w {n : Int} (h0 : 0 ≤ n) (h1 : n < 18446744073709551616) : IntKind.u64.wrap n = n := by rw [IntKind.wrap_u64]; omega
theorem xSz_eq {a : Int} (h0 : -9223372036854775808 ≤ a) (h1 : a < 9223372036854775808) : xSz a = sg a a := by
  unfold xSz sg
  by_cases h : a < 0
  · simp only [h, decide_true, cond_true]
    rw [i64w (n := a + 1) (by omega) (by omega), i64w (n := 0 - (a + 1)) (by omega) (by omega), u64w (n := 0 - (a + 1)) (by omega) (by omega), u64w (by omega) (by omega)]
    omega
  · simp only [h, decide_false, cond_false]
    rw [u64w (by omega) (by omega)]
theorem sg_nonneg (a : Int) : 0 ≤ sg a a := by
  unfold sg
  by_cases h : a < 0
  · simp only [h, decide_true, cond_true]; omega
  · simp only [h, decide_false, cond_false]; omega
theorem okF_iff {a : Int} : okF a = true ↔ -4503599627370496 ≤ a ∧ a ≤ 4503599627370496 := by simp [okF]
theorem okF_false {a : Int} : okF a = false ↔ a < -4503599627370496 ∨ 4503599627370496 < a := by
  rw [← Bool.not_eq_true, okF_iff]; omega
theorem xC_eq (a : Int) : xC a = bif okF a then 0 else 2 := by
  unfold xC
  cases h : okF a with
  | true =>
    have := okF_iff.1 h
    simp [show ¬ a < -4503599627370496 by omega, show ¬ a > 4503599627370496 by omega]
  | false =>
    rcases okF_false.1 h with h | h
    · simp [h]
    · simp [show ¬ a < -4503599627370496 by omega, h]
theorem xAll_eq (a b : Int) : xAll a b = bif okF a && okF b then 0 else 2 := by
  unfold xAll
  rw [xC_eq, xC_eq]
  cases okF a <;> cases okF b <;> rfl
theorem neg_div {p d : Int} (hd : 0 < d) : -p / d = -(p / d) - (if 0 < p % d then 1 else 0) := by
  have h1 := Int.mul_ediv_add_emod p d
  have h2 := Int.emod_nonneg p (show d ≠ 0 by omega)
  have h3 := Int.emod_lt_of_pos p hd
  split
  · have h4 : (-p) / d = -(p / d) - 1 ∧ (-p) % d = d - p % d := by
      rw [Int.ediv_emod_unique hd]
      refine ⟨?_, by omega, by omega⟩
      rw [Int.mul_sub, Int.mul_neg]
      omega
    exact h4.1
  · have : p % d = 0 := by omega
    have h4 : (-p) / d = -(p / d) ∧ (-p) % d = 0 := by
      rw [Int.ediv_emod_unique hd]
      refine ⟨?_, by omega, by omega⟩
      rw [Int.mul_neg]
      omega
    omega
theorem xN_eq {p d : Int} (hp : 0 ≤ p) (hp' : p < 340282366920938463463374607431768211456) (hd : 0 < d) (hd' : d < 18446744073709551616) (up neg : Bool) (n : Int) (hn : n = bif neg then -p else p) (hx : p < 18446744073709551615 * d ∨ (!(up == neg)) = false) :
    xV p d up neg = fitV (rd n d up) ∧ xE p d up neg = fitE (rd n d up) ∧ (xNo p d = false → xDiv p d) := by
  have e1 : xHi p * two64 + xLo p = p := by unfold xHi xLo; have := Int.mul_ediv_add_emod p two64; rw [Int.mul_comm] at this; exact this
  have l0 : 0 ≤ xLo p := Int.emod_nonneg p (by decide)
  have l1 : xLo p < 18446744073709551616 := Int.emod_lt_of_pos p (by decide)
  have h0 : 0 ≤ xHi p := Int.ediv_nonneg hp (by decide)
  have q0 : 0 ≤ p / d := Int.ediv_nonneg hp (by omega)
  have r0 := Int.emod_nonneg p (show d ≠ 0 by omega)
  have rv : rd n d up = bif neg then -(p / d + (if (!(up == neg)) = true ∧ 0 < p % d then 1 else 0)) else p / d + (if (!(up == neg)) = true ∧ 0 < p % d then 1 else 0) := by
    subst hn
    unfold rd
    cases neg <;> cases up <;> simp [neg_div hd] <;> split <;> omega
  by_cases hno : xHi p ≥ d
  · -- the quotient does not fit
    have e2 : xNo p d = true := by simp [xNo, hno]
    have big : 18446744073709551616 ≤ p / d := by
      rw [Int.le_ediv_iff_mul_le hd]
      have h2 : d * two64 ≤ xHi p * two64 := Int.mul_le_mul_of_nonneg_right hno (by decide)
      have h3 : (18446744073709551616 : Int) * d = d * two64 := by rw [Int.mul_comm]; rfl
      omega
    have hb : xBig p d up neg = true := by simp [xBig, e2]
    have hf : okF (rd n d up) = false := by
      rw [okF_false, rv]
      cases neg <;> simp <;> split <;> omega
    refine ⟨by simp [xV, hb, fitV, hf], by simp [xE, hb, fitE, hf], fun h => by rw [e2] at h; cases h⟩
  · have e2 : xNo p d = false := by simp [xNo]; omega
    have hlt : p < d * 18446744073709551616 := by
      have h2 : (xHi p + 1) * two64 ≤ d * two64 := Int.mul_le_mul_of_nonneg_right (by omega) (by decide)
      rw [Int.add_mul] at h2
      unfold two64 at *
      omega
    have q1 : p / d < 18446744073709551616 := by
      rw [Int.ediv_lt_iff_lt_mul hd]
      rw [Int.mul_comm]; exact hlt
    have ex : xV p d up neg = fitV (rd n d up) ∧ xE p d up neg = fitE (rd n d up) := by
      have hN : xN p d up neg = p / d + (if (!(up == neg)) = true ∧ 0 < p % d then 1 else 0) := by
        unfold xN
        rw [e2, e1]
        cases hu : !(up == neg) with
        | false => simp
        | true =>
          by_cases hr : 0 < p % d
          · simp only [cond_true, cond_false, hr, decide_true, gt_iff_lt, and_self, if_true]
            rw [u64w (by omega)]
            have : p / d ≠ 18446744073709551615 := by
              intro hq
              have h5 : p / d * d ≤ p := Int.ediv_mul_le p (by omega)
              rw [hq] at h5
              rcases hx with hx | hx
              · omega
              · rw [hu] at hx; cases hx
            omega
          · simp [hr]
      generalize hk : p / d + (if (!(up == neg)) = true ∧ 0 < p % d then 1 else 0) = k at hN rv
      have k0 : 0 ≤ k := by rw [← hk]; split <;> omega
      unfold xV xE xBig
      rw [e2, hN, rv]
      by_cases hb : k > 4503599627370496
      · have hf : okF (bif neg then -k else k) = false := by
          rw [okF_false]
          cases neg <;> simp <;> omega
        simp [hb, fitV, fitE, hf]
      · have hf : okF (bif neg then -k else k) = true := by
          rw [okF_iff]
          cases neg <;> simp <;> omega
        simp only [hb, decide_false, cond_true, cond_false, Bool.not_true, fitV, fitE, hf]
        refine ⟨?_, trivial⟩
        rw [i64w (n := k) (by omega) (by omega), i64w (n := 0 - k) (by omega) (by omega)]
        cases neg <;> simp
    refine ⟨ex.1, ex.2, fun _ => ?_⟩
    unfold xDiv
    rw [decide_eq_true_eq]
    exact ⟨h0, by omega, hd', l0, l1⟩
theorem xE_far {p d : Int} (hp : 0 ≤ p) (hd : 0 < d) (hd' : d < 18446744073709551616) (neg : Bool) (n : Int) (hn : n = bif neg then -p else p) (hx : 18446744073709551615 * d ≤ p) :
    xE p d neg neg = 6 ∧ (∀ up, fitE (rd n d up) = 6) ∧ (xNo p d = false → xDiv p d) := by
  have e1 : xHi p * two64 + xLo p = p := by unfold xHi xLo; have := Int.mul_ediv_add_emod p two64; rw [Int.mul_comm] at this; exact this
  have l0 : 0 ≤ xLo p := Int.emod_nonneg p (by decide)
  have l1 : xLo p < 18446744073709551616 := Int.emod_lt_of_pos p (by decide)
  have h0 : 0 ≤ xHi p := Int.ediv_nonneg hp (by decide)
  have q0 : 18446744073709551615 ≤ p / d := by rw [Int.le_ediv_iff_mul_le hd]; exact hx
  refine ⟨?_, fun up => ?_, fun h => ?_⟩
  · unfold xE xBig xN
    cases h : xNo p d with
    | true => simp
    | false =>
      rw [e1]
      simp only [beq_self_eq_true, Bool.not_true, Bool.not_false, cond_true, cond_false]
      rw [decide_eq_true (by omega)]; rfl
  · have hf : okF (rd n d up) = false := by
      rw [okF_false]
      subst hn
      unfold rd
      cases neg <;> cases up <;> simp [neg_div hd] <;> (try split) <;> omega
    simp [fitE, hf]
  · unfold xDiv
    rw [decide_eq_true_eq]
    refine ⟨h0, ?_, hd', l0, l1⟩
    simp [xNo] at h
    omega
def xMulV (a b : Int) (up : Bool) : Int := bif xAll a b != 0 then 0 else xV (xSz a * xSz b) 4294967296 up (xNeg a b)
def xMulE (a b : Int) (up : Bool) : Int := bif xAll a b != 0 then xAll a b else xE (xSz a * xSz b) 4294967296 up (xNeg a b)
def xMulN (a b : Int) : Prop := (!(xAll a b != 0)) = true → b = b ∧ xIn (xSz a) (xSz b) ∧ ((!xNo (xSz a * xSz b) 4294967296) = true → xDiv (xSz a * xSz b) 4294967296)
def xDivV (a b : Int) (up : Bool) : Int := bif xAll a b != 0 then 0 else bif b == 0 then 0 else xV (xSz a * 4294967296) (xSz b) up (xNeg a b)
def xDivE (a b : Int) (up : Bool) : Int := bif xAll a b != 0 then xAll a b else bif b == 0 then 7 else xE (xSz a * 4294967296) (xSz b) up (xNeg a b)
def xDivN (a b : Int) : Prop := (!(xAll a b != 0)) = true → (!(b == 0)) = true → b = b ∧ xIn (xSz a) 4294967296 ∧ b = b ∧ ((!xNo (xSz a * 4294967296) (xSz b)) = true → xDiv (xSz a * 4294967296) (xSz b))
def xOkS (a n d : Int) : Bool := bif xC a != 0 then true else bif decide (n < -4611686018427387904) then true else bif decide (n > 4611686018427387904) then true else bif decide (d < 1) then true else decide (d > 4611686018427387904)
def xScV (a n d : Int) (up : Bool) : Int := bif xOkS a n d then 0 else xV (xSz a * xSz n) (IntKind.u64.wrap d) up (xNeg a n)
def xScE (a n d : Int) (up : Bool) : Int := bif xOkS a n d then 2 else xE (xSz a * xSz n) (IntKind.u64.wrap d) up (xNeg a n)
def xScN (a n d : Int) : Prop := (!xOkS a n d) = true → (d = d ∧ n = n) ∧ d = d ∧ xIn (xSz a) (xSz n) ∧ d = d ∧ ((!xNo (xSz a * xSz n) (IntKind.u64.wrap d)) = true → xDiv (xSz a * xSz n) (IntKind.u64.wrap d))
theorem sg_cases (a : Int) : (a < 0 ∧ sg a a = -a) ∨ (0 ≤ a ∧ sg a a = a) := by
  unfold sg
  by_cases h : a < 0
  · left; simp [h]
  · right; simp [h]; omega
theorem xNeg_mul (a b : Int) : a * b = bif xNeg a b then -(sg a a * sg b b) else sg a a * sg b b := by
  unfold xNeg sg
  by_cases h : a < 0 <;> by_cases k : b < 0 <;> simp [h, k, Int.neg_mul, Int.mul_neg]
theorem xDiv_all {p d : Int} (hp : 0 ≤ p) (hd' : d < 18446744073709551616) (h : xNo p d = false) : xDiv p d := by
  unfold xDiv
  rw [decide_eq_true_eq]
  simp [xNo] at h
  exact ⟨Int.ediv_nonneg hp (by decide), by omega, hd', Int.emod_nonneg p (by decide), Int.emod_lt_of_pos p (by decide)⟩
theorem xAll_ok {a b : Int} (h : (!(xAll a b != 0)) = true) : okF a = true ∧ okF b = true := by
  rw [xAll_eq] at h
  cases ha : okF a <;> cases hb : okF b <;> simp [ha, hb] at h ⊢
theorem xIn_of {a b : Int} (ha : 0 ≤ a) (ha' : a < 18446744073709551616) (hb : 0 ≤ b) (hb' : b < 18446744073709551616) : xIn a b := by
  unfold xIn; rw [decide_eq_true_eq]; exact ⟨ha, ha', hb, hb'⟩
theorem sz_of {a : Int} (h : okF a = true) : xSz a = sg a a ∧ 0 ≤ sg a a ∧ sg a a ≤ 4503599627370496 := by
  have h := okF_iff.1 h
  refine ⟨xSz_eq (by omega) (by omega), sg_nonneg a, ?_⟩
  rcases sg_cases a with ⟨_, e⟩ | ⟨_, e⟩ <;> omega
theorem xMul_need (a b : Int) : xMulN a b := by
  intro h
  obtain ⟨ha, hb⟩ := xAll_ok h
  obtain ⟨a1, a2, a3⟩ := sz_of ha
  obtain ⟨b1, b2, b3⟩ := sz_of hb
  rw [a1, b1]
  refine ⟨rfl, xIn_of a2 (by omega) b2 (by omega), fun hn => ?_⟩
  exact xDiv_all (Int.mul_nonneg a2 b2) (by decide) (by simpa using hn)
theorem xDiv_need (a b : Int) : xDivN a b := by
  intro h h0
  obtain ⟨ha, hb⟩ := xAll_ok h
  obtain ⟨a1, a2, a3⟩ := sz_of ha
  obtain ⟨b1, b2, b3⟩ := sz_of hb
  rw [a1, b1]
  refine ⟨rfl, xIn_of a2 (by omega) (by omega) (by omega), rfl, fun hn => ?_⟩
  exact xDiv_all (by omega) (by omega) (by simpa using hn)
theorem xOkS_eq (a n d : Int) : xOkS a n d = !okS a n d := by
  unfold xOkS okS
  rw [xC_eq]
  rw [Bool.eq_iff_iff]
  cases okF a with
  | false => simp
  | true =>
    simp only [cond_true, bne_self_eq_false, cond_false, Bool.true_and, Bool.not_eq_true', Bool.and_eq_false_iff, decide_eq_false_iff_not]
    by_cases h1 : n < -4611686018427387904
    · simp [h1]
    · by_cases h2 : n > 4611686018427387904
      · simp [h1, h2]
      · by_cases h3 : d < 1
        · simp [h1, h2, h3]
        · simp [h1, h2, h3] <;> omega
theorem xSc_need (a n d : Int) : xScN a n d := by
  intro h
  rw [xOkS_eq, Bool.not_not] at h
  simp only [okS, Bool.and_eq_true, decide_eq_true_eq] at h
  obtain ⟨ha, ⟨⟨n1, n2⟩, d1⟩, d2⟩ := h
  obtain ⟨a1, a2, a3⟩ := sz_of ha
  have e1 : xSz n = sg n n := xSz_eq (by omega) (by omega)
  have e2 := sg_cases n
  rw [a1, e1, u64w (n := d) (by omega) (by omega)]
  refine ⟨⟨rfl, rfl⟩, rfl, xIn_of a2 (by omega) (by omega) (by omega), rfl, fun hn => ?_⟩
  exact xDiv_all (Int.mul_nonneg a2 (by omega)) (by omega) (by simpa using hn)
theorem pair_law {p d : Int} (hp : 0 ≤ p) (hp' : p < 340282366920938463463374607431768211456) (hd : 0 < d) (hd' : d < 18446744073709551616) (neg : Bool) (n : Int) (hn : n = bif neg then -p else p) :
    ((xE p d false neg = 0 ∧ xE p d true neg = 0) ↔ (fitE (rd n d false) = 0 ∧ fitE (rd n d true) = 0)) ∧
    (fitE (rd n d false) = 0 → fitE (rd n d true) = 0 → xV p d false neg = rd n d false ∧ xV p d true neg = rd n d true) := by
  by_cases hx : p < 18446744073709551615 * d
  · obtain ⟨f1, f2, _⟩ := xN_eq hp hp' hd hd' false neg n hn (.inl hx)
    obtain ⟨t1, t2, _⟩ := xN_eq hp hp' hd hd' true neg n hn (.inl hx)
    rw [f2, t2, f1, t1]
    refine ⟨Iff.rfl, fun h1 h2 => ?_⟩
    unfold fitE at h1 h2
    unfold fitV
    cases e1 : okF (rd n d false) <;> cases e2 : okF (rd n d true) <;> simp_all
  · obtain ⟨h1, h2, _⟩ := xE_far hp hd hd' neg n hn (by omega)
    refine ⟨⟨fun ⟨h3, h4⟩ => ?_, fun ⟨h3, _⟩ => ?_⟩, fun h3 => ?_⟩
    · cases neg <;> omega
    · rw [h2] at h3; omega
    · rw [h2] at h3; omega
theorem fitE_cases (v : Int) : (fitE v = 0 ∧ okF v = true ∧ fitV v = v) ∨ (fitE v = 6 ∧ okF v = false ∧ fitV v = 0) := by
  unfold fitE fitV
  cases okF v <;> simp
def sqQ (i r : Int) : Int := IntKind.u64.wrap ↑(BitVec.ofInt IntKind.u64.bits r ||| BitVec.ofInt IntKind.u64.bits (IntKind.u64.wrap (1 * 2 ^ min (IntKind.i64.wrap (42 - i)).toNat IntKind.u64.bits))).toNat
def sqLe (H L t : Int) : Bool := bif decide (xHi (t * t) < H) then true else bif xHi (t * t) == H then decide (xLo (t * t) ≤ L) else false
def sqStep (H L i r : Int) : Int := bif sqLe H L (sqQ i r) then sqQ i r else r
def sqFin (H L : Int) : Nat → Int → Int → Int
  | 0, _, r => r
  | n + 1, i, r => sqFin H L n (IntKind.i64.wrap (i + 1)) (sqStep H L i r)
theorem u64_range (n : Int) : 0 ≤ IntKind.u64.wrap n ∧ IntKind.u64.wrap n < 18446744073709551616 := by
  rw [IntKind.wrap_u64]; omega
end Go.Ar
namespace Go.Ar
open Go
theorem sqQ_eq (i k : Nat) (hi : i ≤ 42) (hr : 2 ^ (43 - i) * k < 2 ^ 43) : sqQ (i : Int) ((2 ^ (43 - i) * k : Nat) : Int) = ((2 ^ (43 - i) * k + 2 ^ (42 - i) : Nat) : Int) := by
  have e1 : IntKind.i64.wrap (42 - (i : Int)) = ((42 - i : Nat) : Int) := by rw [i64w (by omega) (by omega)]; omega
  have e2 : min (((42 - i : Nat) : Int)).toNat IntKind.u64.bits = 42 - i := by
    rw [Int.toNat_natCast]; exact Nat.min_eq_left (Nat.le_trans (Nat.sub_le _ _) (by decide))
  have p1 : 2 ^ (42 - i) ≤ 2 ^ 42 := Nat.pow_le_pow_right (by decide) (by omega)
  have e3 : IntKind.u64.wrap (1 * 2 ^ (42 - i)) = ((2 ^ (42 - i) : Nat) : Int) := by
    rw [Int.one_mul, show (2 : Int) ^ (42 - i) = ((2 ^ (42 - i) : Nat) : Int) from (Int.natCast_pow 2 _).symm]
    generalize 2 ^ (42 - i) = P at p1
    exact u64w (by omega) (by omega)
  unfold sqQ
  rw [e1, e2, e3]
  rw [Go.Eng.dOr_eq _ _ (by omega) (by omega)]
  congr 1
  rw [← Nat.two_pow_add_eq_or_of_lt (Nat.pow_lt_pow_right (by decide) (by omega)) k]
theorem lex_iff (t n : Nat) (ht : t < 18446744073709551616) : sqLe (xHi (n : Int)) (xLo (n : Int)) (t : Int) = decide (t * t ≤ n) := by
  unfold sqLe xHi xLo two64
  have e1 : ((t : Int) * t) / 18446744073709551616 = ((t * t / 18446744073709551616 : Nat) : Int) := by rw [Int.natCast_ediv, Int.natCast_mul]; rfl
  have e2 : ((t : Int) * t) % 18446744073709551616 = ((t * t % 18446744073709551616 : Nat) : Int) := by rw [Int.natCast_emod, Int.natCast_mul]; rfl
  have e3 : (n : Int) / 18446744073709551616 = ((n / 18446744073709551616 : Nat) : Int) := by rw [Int.natCast_ediv]; rfl
  have e4 : (n : Int) % 18446744073709551616 = ((n % 18446744073709551616 : Nat) : Int) := by rw [Int.natCast_emod]; rfl
  rw [e1, e2, e3, e4]
  generalize t * t = m
  rw [Bool.eq_iff_iff]
  by_cases h1 : m / 18446744073709551616 < n / 18446744073709551616
  · have : ((m / 18446744073709551616 : Nat) : Int) < ((n / 18446744073709551616 : Nat) : Int) := by omega
    simp only [this, decide_true, cond_true, true_iff, decide_eq_true_eq]
    omega
  · have : ¬ ((m / 18446744073709551616 : Nat) : Int) < ((n / 18446744073709551616 : Nat) : Int) := by omega
    simp only [this, decide_false, cond_false, decide_eq_true_eq]
    by_cases h2 : m / 18446744073709551616 = n / 18446744073709551616
    · rw [h2]
      simp only [beq_self_eq_true, cond_true, decide_eq_true_eq]
      omega
    · have : (((m / 18446744073709551616 : Nat) : Int) == ((n / 18446744073709551616 : Nat) : Int)) = false := by
        rw [beq_eq_false_iff_ne]; omega
      rw [this]
      simp only [cond_false, Bool.false_eq_true, false_iff]
      omega
theorem sqFin_spec (n : Nat) : ∀ (m i k : Nat), i + m = 43 → 2 ^ (43 - i) * k < 2 ^ 43 → (2 ^ (43 - i) * k) * (2 ^ (43 - i) * k) ≤ n → n < (2 ^ (43 - i) * k + 2 ^ (43 - i)) * (2 ^ (43 - i) * k + 2 ^ (43 - i)) →
    ∃ r : Nat, sqFin (xHi (n : Int)) (xLo (n : Int)) m (i : Int) ((2 ^ (43 - i) * k : Nat) : Int) = (r : Int) ∧ r * r ≤ n ∧ n < (r + 1) * (r + 1) ∧ r < 2 ^ 43
  | 0, i, k, hi, h1, h2, h3 => by
    have : i = 43 := by omega
    subst this
    exact ⟨2 ^ (43 - 43) * k, rfl, h2, h3, h1⟩
  | m + 1, i, k, hi, h1, h2, h3 => by
    have p : 2 ^ (43 - i) = 2 * 2 ^ (43 - (i + 1)) := by
      rw [show 43 - i = (43 - (i + 1)) + 1 by omega, Nat.pow_succ]; omega
    have e1 : IntKind.i64.wrap ((i : Int) + 1) = ((i + 1 : Nat) : Int) := by rw [i64w (by omega) (by omega)]; omega
    have e2 := sqQ_eq i k (by omega) h1
    rw [show 42 - i = 43 - (i + 1) by omega] at e2
    simp only [sqFin]
    rw [e1]
    unfold sqStep
    rw [e2]
    generalize hq : 2 ^ (43 - (i + 1)) = q at *
    have hq1 : 1 ≤ q := by rw [← hq]; exact Nat.one_le_two_pow
    have hb : 2 ^ (43 - i) * k + q < 2 ^ 43 := by
      rw [p]
      have h4 : 2 ^ (43 - i) * (2 ^ i) = 2 ^ 43 := by rw [← Nat.pow_add]; congr 1; omega
      rw [p] at h4
      have : k < 2 ^ i := by
        rw [p, ← h4] at h1
        exact Nat.lt_of_mul_lt_mul_left h1
      have h5 : 2 * q * (k + 1) ≤ 2 * q * 2 ^ i := Nat.mul_le_mul_left _ this
      rw [h4, Nat.mul_add] at h5
      omega
    rw [lex_iff _ n (by omega)]
    by_cases h : (2 ^ (43 - i) * k + q) * (2 ^ (43 - i) * k + q) ≤ n
    · rw [decide_eq_true h, cond_true]
      have hk : 2 ^ (43 - i) * k + q = q * (2 * k + 1) := by rw [p, Nat.mul_add, Nat.mul_one, ← Nat.mul_assoc, Nat.mul_comm q 2]
      have hs : q * (2 * k + 1) + q = 2 ^ (43 - i) * k + 2 ^ (43 - i) := by rw [← hk, p]; omega
      rw [hk] at h hb ⊢
      have := sqFin_spec n m (i + 1) (2 * k + 1) (by omega) (by rw [hq]; exact hb) (by rw [hq]; exact h) (by rw [hq, hs]; exact h3)
      rw [hq] at this
      exact this
    · rw [decide_eq_false h, cond_false]
      have hk : 2 ^ (43 - i) * k = q * (2 * k) := by rw [p, ← Nat.mul_assoc, Nat.mul_comm q 2]
      rw [hk] at h h1 h2 ⊢
      have := sqFin_spec n m (i + 1) (2 * k) (by omega) (by rw [hq]; exact h1) (by rw [hq]; exact h2) (by rw [hq]; omega)
      rw [hq] at this
      exact this
theorem sq_spec (a : Nat) (ha : a ≤ 4503599627370496) : ∃ r : Nat, sqFin (xHi (IntKind.u64.wrap a * 4294967296)) (xLo (IntKind.u64.wrap a * 4294967296)) 43 0 0 = (r : Int) ∧ r * r ≤ a * 4294967296 ∧ a * 4294967296 < (r + 1) * (r + 1) ∧ r < 2 ^ 43 := by
  rw [u64w (n := (a : Int)) (by omega) (by omega)]
  have := sqFin_spec (a * 4294967296) 43 0 0 rfl (by decide) (by omega) (by simp; omega)
  simpa using this
def sqP2 (a : Int) : Int := IntKind.u64.wrap a * 4294967296
def sqR (a : Int) : Int := sqFin (xHi (sqP2 a)) (xLo (sqP2 a)) 43 0 0
def sqBad (a : Int) : Bool := bif xC a != 0 then true else decide (a < 0)
def sqUp (a : Int) : Int := bif !(sqR a * sqR a / two64 == xHi (sqP2 a) && (sqR a * sqR a % two64 == xLo (sqP2 a) && true)) then IntKind.u64.wrap (sqR a + 1) else sqR a
def xSqV (a : Int) (up : Bool) : Int := bif sqBad a then 0 else bif decide ((bif up then sqUp a else sqR a) > 4503599627370496) then 0 else IntKind.i64.wrap (bif up then sqUp a else sqR a)
def xSqE (a : Int) (up : Bool) : Int := bif sqBad a then 2 else bif decide ((bif up then sqUp a else sqR a) > 4503599627370496) then 6 else 0
def rtV (a : Int) (up : Bool) : Int := bif up && !(sqR a * sqR a == a * 4294967296) then sqR a + 1 else sqR a
def sqOk (a : Int) : Bool := okF a && decide (0 ≤ a)
def sqrtV (a : Int) (up : Bool) : Int := bif sqOk a then rtV a up else 0
def sqrtE (a : Int) : Int := bif sqOk a then 0 else 2
theorem sqBad_eq (a : Int) : sqBad a = !sqOk a := by
  unfold sqBad sqOk
  rw [xC_eq]
  cases okF a with
  | false => simp
  | true => by_cases h : a < 0 <;> simp [h] <;> omega
theorem sqR_spec {a : Int} (h : sqOk a = true) : 0 ≤ sqR a ∧ sqR a * sqR a ≤ a * 4294967296 ∧ a * 4294967296 < (sqR a + 1) * (sqR a + 1) ∧ sqR a < 8796093022208 := by
  simp only [sqOk, Bool.and_eq_true, decide_eq_true_eq] at h
  obtain ⟨h1, h2⟩ := h
  have h1 := okF_iff.1 h1
  obtain ⟨r, e, r1, r2, r3⟩ := sq_spec a.toNat (by omega)
  rw [Int.toNat_of_nonneg h2] at e
  have e : sqR a = r := e
  rw [e]
  have c1 : ((r * r : Nat) : Int) = (r : Int) * r := Int.natCast_mul r r
  have c2 : (((r + 1) * (r + 1) : Nat) : Int) = ((r : Int) + 1) * (r + 1) := by rw [Int.natCast_mul]; rfl
  refine ⟨by omega, by omega, by omega, by omega⟩
theorem xSq_law (a : Int) (up : Bool) : xSqV a up = sqrtV a up ∧ xSqE a up = sqrtE a := by
  unfold xSqV xSqE sqrtV sqrtE
  rw [sqBad_eq]
  cases h : sqOk a with
  | false => simp
  | true =>
    obtain ⟨r0, r1, r2, r3⟩ := sqR_spec h
    simp only [sqOk, Bool.and_eq_true, decide_eq_true_eq] at h
    obtain ⟨h1, h2⟩ := h
    have h1 := okF_iff.1 h1
    have key : (bif up then sqUp a else sqR a) = rtV a up := by
      cases up with
      | false => rfl
      | true =>
        have e0 : sqP2 a = a * 4294967296 := by unfold sqP2; rw [u64w (by omega) (by omega)]
        have : (sqR a * sqR a / two64 == xHi (sqP2 a) && (sqR a * sqR a % two64 == xLo (sqP2 a) && true)) = (sqR a * sqR a == a * 4294967296) := by
          rw [e0]
          unfold xHi xLo two64
          rw [Bool.eq_iff_iff]
          simp only [Bool.and_true, Bool.and_eq_true, beq_iff_eq]
          omega
        unfold sqUp rtV
        rw [this, u64w (by omega) (by omega)]
        rfl
    rw [key]
    have hb : 0 ≤ rtV a up ∧ rtV a up ≤ 8796093022208 := by
      unfold rtV
      cases up && !(sqR a * sqR a == a * 4294967296) <;> simp <;> omega
    simp only [Bool.not_true, cond_false, cond_true]
    rw [decide_eq_false (by omega), i64w (by omega) (by omega)]
    exact ⟨rfl, rfl⟩
end Go.Ar
namespace Go.Ar
open Go Go.Eng
noncomputable section
def two (a b : Int) : Tm := .u [.n .i64 a, .n .i64 b]
def sMul (up : Bool) : PSpec := numSpec [.i .i64, .i .i64] none fun
  | [.n a, .n b] => two (xMulV a b up) (xMulE a b up)
  | _ => .u []
def sDiv (up : Bool) : PSpec := numSpec [.i .i64, .i .i64] none fun
  | [.n a, .n b] => two (xDivV a b up) (xDivE a b up)
  | _ => .u []
def sScale (up : Bool) : PSpec := numSpec [.i .i64, .i .i64, .i .i64] none fun
  | [.n a, .n n, .n d] => two (xScV a n d up) (xScE a n d up)
  | _ => .u []
def sSqrt (up : Bool) : PSpec := numSpec [.i .i64] none fun
  | [.n a] => two (xSqV a up) (xSqE a up)
  | _ => .u []
end
end Go.Ar
namespace Go.Ar
open Go
structure Sp where
  lo : Int
  hi : Int
  e : Int
def err (e : Int) : Sp := ⟨0, 0, e⟩
def okSp (a b : Int) : Bool := decide (-4503599627370496 ≤ a) && (decide (a ≤ b) && decide (b ≤ 4503599627370496))
def toldS (lo hi : Int) : Sp := bif okF lo && okF hi then ⟨lo, hi, 0⟩ else err 6
def mn (a b : Int) : Int := bif decide (b < a) then b else a
def mx (a b : Int) : Int := bif decide (a < b) then b else a
def both (a b c d : Int) (r : Sp) : Sp := bif okSp a b && okSp c d then r else err 20
def addS (a b c d : Int) : Sp := both a b c d (toldS (a + c) (b + d))
def subS (a b c d : Int) : Sp := both a b c d (toldS (a - d) (b - c))
def hull4 (F : Int → Int → Bool → Int) (a b c d : Int) : Sp :=
  toldS (mn (mn (mn (F a c false) (F a d false)) (F b c false)) (F b d false)) (mx (mx (mx (F a c true) (F a d true)) (F b c true)) (F b d true))
def mF (x y : Int) (up : Bool) : Int := rd (x * y) 4294967296 up
def dF (x y : Int) (up : Bool) : Int := rd (sg (x * 4294967296) y) (sg y y) up
def mulS (a b c d : Int) : Sp := both a b c d (hull4 mF a b c d)
def divS (a b c d : Int) : Sp := both a b c d (bif decide (c ≤ 0) && decide (0 ≤ d) then err 7 else hull4 dF a b c d)
def abL (a b : Int) : Int := mx (mx a (-b)) 0
def abH (a b : Int) : Int := mx b (-a)
def sqrS (a b : Int) : Sp := bif okSp a b then toldS (rd (abL a b * abL a b) 4294967296 false) (rd (abH a b * abH a b) 4294967296 true) else err 20
def sqrtS (a b : Int) : Sp := bif okSp a b then (bif decide (a < 0) then err 2 else ⟨rtV a false, rtV b true, 0⟩) else err 20
def okR (n d : Int) : Bool := decide (-4611686018427387904 ≤ n) && decide (n ≤ 4611686018427387904) && decide (1 ≤ d) && decide (d ≤ 4611686018427387904)
def scaleS (a b n d : Int) : Sp := bif okSp a b then (bif okR n d then toldS (rd (mn (a * n) (b * n)) d false) (rd (mx (a * n) (b * n)) d true) else err 2) else err 20
def xCS (a b : Int) : Int := bif bif decide (a < -4503599627370496) then true else bif decide (a > b) then true else decide (b > 4503599627370496) then 20 else 0
def xAll2 (a b c d : Int) : Int := bif !(xCS a b != 0) && !(xCS c d != 0) then 0 else bif xCS a b != 0 then xCS a b else xCS c d
def xTb (l h : Int) : Bool := bif decide (l < -4503599627370496) then true else decide (h > 4503599627370496)
def xTold (g l h : Int) : Sp := ⟨bif g != 0 then 0 else bif xTb l h then 0 else l, bif g != 0 then 0 else bif xTb l h then 0 else h, bif g != 0 then g else bif xTb l h then 6 else 0⟩
def xAddS (a b c d : Int) : Sp := xTold (xAll2 a b c d) (IntKind.i64.wrap (a + c)) (IntKind.i64.wrap (b + d))
def xSubS (a b c d : Int) : Sp := xTold (xAll2 a b c d) (IntKind.i64.wrap (a - d)) (IntKind.i64.wrap (b - c))
def xSqrtS (a b : Int) : Sp :=
  ⟨bif xCS a b != 0 then 0 else bif decide (a < 0) then 0 else bif xTb (xSqV a false) (xSqV b true) then 0 else xSqV a false,
   bif xCS a b != 0 then 0 else bif decide (a < 0) then 0 else bif xTb (xSqV a false) (xSqV b true) then 0 else xSqV b true,
   bif xCS a b != 0 then xCS a b else bif decide (a < 0) then 2 else bif xTb (xSqV a false) (xSqV b true) then 6 else 0⟩
def tL (low lo : Int) : Int := bif decide (low < lo) then low else lo
def tH (low lo hi : Int) : Int := bif decide (low < lo) then hi else hi
def nL (low high lo hi : Int) : Int := bif decide (high > tH low lo hi) then tL low lo else tL low lo
def nH (low high lo hi : Int) : Int := bif decide (high > tH low lo hi) then high else tH low lo hi
def l1 (V : Int → Int → Bool → Int) (a c d : Int) : Int := nL (V a d false) (V a d true) (V a c false) (V a c true)
def h1 (V : Int → Int → Bool → Int) (a c d : Int) : Int := nH (V a d false) (V a d true) (V a c false) (V a c true)
def l2 (V : Int → Int → Bool → Int) (a b c d : Int) : Int := nL (V b c false) (V b c true) (l1 V a c d) (h1 V a c d)
def h2 (V : Int → Int → Bool → Int) (a b c d : Int) : Int := nH (V b c false) (V b c true) (l1 V a c d) (h1 V a c d)
def l3 (V : Int → Int → Bool → Int) (a b c d : Int) : Int := nL (V b d false) (V b d true) (l2 V a b c d) (h2 V a b c d)
def h3 (V : Int → Int → Bool → Int) (a b c d : Int) : Int := nH (V b d false) (V b d true) (l2 V a b c d) (h2 V a b c d)
def bad2 (E : Int → Int → Bool → Int) (x y : Int) : Bool := bif E x y false != 0 then true else E x y true != 0
def ok4 (E : Int → Int → Bool → Int) (a b c d : Int) : Bool := (!bad2 E a c && !bad2 E a d) && (!bad2 E b c && !bad2 E b d)
def bL (V E : Int → Int → Bool → Int) (a b c d : Int) : Int := bif ok4 E a b c d then (bif xTb (l3 V a b c d) (h3 V a b c d) then 0 else l3 V a b c d) else 0
def bH (V E : Int → Int → Bool → Int) (a b c d : Int) : Int := bif ok4 E a b c d then (bif xTb (l3 V a b c d) (h3 V a b c d) then 0 else h3 V a b c d) else 0
def bE (V E : Int → Int → Bool → Int) (a b c d : Int) : Int := bif ok4 E a b c d then (bif xTb (l3 V a b c d) (h3 V a b c d) then 6 else 0) else 6
def xMulS (a b c d : Int) : Sp := ⟨bif xAll2 a b c d != 0 then 0 else bL xMulV xMulE a b c d, bif xAll2 a b c d != 0 then 0 else bH xMulV xMulE a b c d, bif xAll2 a b c d != 0 then xAll2 a b c d else bE xMulV xMulE a b c d⟩
def xZ (c d : Int) : Bool := bif decide (c ≤ 0) then decide (d ≥ 0) else false
def xDivS (a b c d : Int) : Sp := ⟨bif xAll2 a b c d != 0 then 0 else bif xZ c d then 0 else bL xDivV xDivE a b c d, bif xAll2 a b c d != 0 then 0 else bif xZ c d then 0 else bH xDivV xDivE a b c d,
  bif xAll2 a b c d != 0 then xAll2 a b c d else bif xZ c d then 7 else bE xDivV xDivE a b c d⟩
def xsA (a b n : Int) : Int := bif decide (n < 0) then IntKind.i64.wrap (0 - b) else a
def xsB (a b n : Int) : Int := bif decide (n < 0) then IntKind.i64.wrap (0 - a) else b
def xsN (n : Int) : Int := bif decide (n < 0) then IntKind.i64.wrap (0 - n) else n
def xsOk (n : Int) : Bool := bif decide (n < 0) then !decide (n < -4611686018427387904) else true
def xsBad (a b n d : Int) : Bool := bif xScE (xsA a b n) (xsN n) d false != 0 then true else xScE (xsB a b n) (xsN n) d true != 0
def xScaleS (a b n d : Int) : Sp :=
  ⟨bif xCS a b != 0 then 0 else bif xsOk n then (bif xsBad a b n d then 0 else xScV (xsA a b n) (xsN n) d false) else 0,
   bif xCS a b != 0 then 0 else bif xsOk n then (bif xsBad a b n d then 0 else xScV (xsB a b n) (xsN n) d true) else 0,
   bif xCS a b != 0 then xCS a b else bif xsOk n then (bif xsBad a b n d then (if xScE (xsB a b n) (xsN n) d true > xScE (xsA a b n) (xsN n) d false then xScE (xsB a b n) (xsN n) d true else xScE (xsA a b n) (xsN n) d false) else 0) else 2⟩
theorem okSp_iff {a b : Int} : okSp a b = true ↔ -4503599627370496 ≤ a ∧ a ≤ b ∧ b ≤ 4503599627370496 := by simp [okSp]
theorem xCS_eq (a b : Int) : xCS a b = bif okSp a b then 0 else 20 := by
  unfold xCS
  cases h : okSp a b with
  | true =>
    have := okSp_iff.1 h
    simp [show ¬ a < -4503599627370496 by omega, show ¬ a > b by omega, show ¬ b > 4503599627370496 by omega]
  | false =>
    have : ¬ (-4503599627370496 ≤ a ∧ a ≤ b ∧ b ≤ 4503599627370496) := fun k => by rw [okSp_iff.2 k] at h; cases h
    by_cases h1 : a < -4503599627370496
    · simp [h1]
    · by_cases h2 : a > b
      · simp [h1, h2]
      · simp [h1, h2, show b > 4503599627370496 by omega]
theorem xAll2_eq (a b c d : Int) : xAll2 a b c d = bif okSp a b && okSp c d then 0 else 20 := by
  unfold xAll2
  rw [xCS_eq, xCS_eq]
  cases okSp a b <;> cases okSp c d <;> rfl
theorem xTb_eq {l h : Int} (k : l ≤ h) : xTb l h = !(okF l && okF h) := by
  unfold xTb okF
  rw [Bool.eq_iff_iff]
  by_cases h1 : l < -4503599627370496
  · simp [h1] <;> omega
  · simp [h1] <;> omega
theorem xTold_eq (a b c d l h : Int) (k : okSp a b = true → okSp c d = true → l ≤ h) : xTold (xAll2 a b c d) l h = both a b c d (toldS l h) := by
  unfold xTold both
  rw [xAll2_eq]
  cases h1 : okSp a b with
  | false => simp [err]
  | true =>
    cases h2 : okSp c d with
    | false => simp [err]
    | true =>
      rw [xTb_eq (k h1 h2)]
      unfold toldS
      cases okF l && okF h <;> simp [err]
theorem xAddS_eq (a b c d : Int) : xAddS a b c d = addS a b c d := by
  unfold xAddS addS
  rw [xTold_eq]
  · unfold both
    cases h1 : okSp a b <;> cases h2 : okSp c d <;> try rfl
    have := okSp_iff.1 h1; have := okSp_iff.1 h2
    rw [i64w (by omega) (by omega), i64w (by omega) (by omega)]
  · intro h1 h2
    have := okSp_iff.1 h1; have := okSp_iff.1 h2
    rw [i64w (by omega) (by omega), i64w (by omega) (by omega)]; omega
theorem xSubS_eq (a b c d : Int) : xSubS a b c d = subS a b c d := by
  unfold xSubS subS
  rw [xTold_eq]
  · unfold both
    cases h1 : okSp a b <;> cases h2 : okSp c d <;> try rfl
    have := okSp_iff.1 h1; have := okSp_iff.1 h2
    rw [i64w (by omega) (by omega), i64w (by omega) (by omega)]
  · intro h1 h2
    have := okSp_iff.1 h1; have := okSp_iff.1 h2
    rw [i64w (by omega) (by omega), i64w (by omega) (by omega)]; omega
theorem rtV_range {a : Int} (h : sqOk a = true) (up : Bool) : 0 ≤ rtV a up ∧ rtV a up ≤ 8796093022208 := by
  obtain ⟨r0, r1, r2, r3⟩ := sqR_spec h
  unfold rtV
  cases up && !(sqR a * sqR a == a * 4294967296) <;> simp <;> omega
theorem xSqrtS_eq (a b : Int) : xSqrtS a b = sqrtS a b := by
  unfold xSqrtS sqrtS
  rw [xCS_eq]
  cases h1 : okSp a b with
  | false => simp [err]
  | true =>
    have h := okSp_iff.1 h1
    by_cases h2 : a < 0
    · simp [h2, err]
    · have ha : sqOk a = true := by simp [sqOk, okF]; omega
      have hb : sqOk b = true := by simp [sqOk, okF]; omega
      have ra := rtV_range ha false
      have rb := rtV_range hb true
      rw [(xSq_law a false).1, (xSq_law b true).1]
      unfold sqrtV
      rw [ha, hb]
      have ht : xTb (rtV a false) (rtV b true) = false := by
        unfold xTb
        rw [decide_eq_false (by omega), decide_eq_false (by omega)]; rfl
      simp [h2, ht]
theorem nL_eq (low high lo hi : Int) : nL low high lo hi = mn lo low := by
  unfold nL tL mn
  cases decide (high > tH low lo hi) <;> rfl
theorem nH_eq (low high lo hi : Int) : nH low high lo hi = mx hi high := by
  unfold nH tH mx
  cases decide (low < lo) <;> rfl
theorem mn_le (a b : Int) : mn a b ≤ a ∧ mn a b ≤ b ∧ (mn a b = a ∨ mn a b = b) := by
  unfold mn
  by_cases h : b < a <;> simp [h] <;> omega
theorem le_mx (a b : Int) : a ≤ mx a b ∧ b ≤ mx a b ∧ (mx a b = a ∨ mx a b = b) := by
  unfold mx
  by_cases h : a < b <;> simp [h] <;> omega
theorem rd_le (n d : Int) (hd : 0 < d) : rd n d false ≤ rd n d true := by
  unfold rd
  simp only [cond_true, cond_false]
  have h1 := Int.mul_ediv_add_emod n d
  have h2 := Int.emod_nonneg n (show d ≠ 0 by omega)
  have h3 := Int.emod_lt_of_pos n hd
  have := neg_div (p := n) hd
  rw [this]; split <;> omega
theorem hull_law (V E F : Int → Int → Bool → Int) (a b c d : Int) (hF : ∀ x y, (x = a ∨ x = b) → (y = c ∨ y = d) → F x y false ≤ F x y true)
    (hE : ∀ x y, (x = a ∨ x = b) → (y = c ∨ y = d) → (bad2 E x y = !(okF (F x y false) && okF (F x y true)) ∧ (bad2 E x y = false → V x y false = F x y false ∧ V x y true = F x y true))) :
    (⟨bL V E a b c d, bH V E a b c d, bE V E a b c d⟩ : Sp) = hull4 F a b c d := by
  obtain ⟨e1, v1⟩ := hE a c (.inl rfl) (.inl rfl)
  obtain ⟨e2, v2⟩ := hE a d (.inl rfl) (.inr rfl)
  obtain ⟨e3, v3⟩ := hE b c (.inr rfl) (.inl rfl)
  obtain ⟨e4, v4⟩ := hE b d (.inr rfl) (.inr rfl)
  have f1 := hF a c (.inl rfl) (.inl rfl)
  have f2 := hF a d (.inl rfl) (.inr rfl)
  have f3 := hF b c (.inr rfl) (.inl rfl)
  have f4 := hF b d (.inr rfl) (.inr rfl)
  unfold bL bH bE
  cases hk : ok4 E a b c d with
  | false =>
    have : (okF (mn (mn (mn (F a c false) (F a d false)) (F b c false)) (F b d false)) && okF (mx (mx (mx (F a c true) (F a d true)) (F b c true)) (F b d true))) = false := by
      cases hh : okF (mn (mn (mn (F a c false) (F a d false)) (F b c false)) (F b d false)) && okF (mx (mx (mx (F a c true) (F a d true)) (F b c true)) (F b d true)) with
      | false => rfl
      | true =>
        simp only [Bool.and_eq_true, okF_iff] at hh
        have m1 := mn_le (F a c false) (F a d false); have m2 := mn_le (mn (F a c false) (F a d false)) (F b c false); have m3 := mn_le (mn (mn (F a c false) (F a d false)) (F b c false)) (F b d false)
        have n1 := le_mx (F a c true) (F a d true); have n2 := le_mx (mx (F a c true) (F a d true)) (F b c true); have n3 := le_mx (mx (mx (F a c true) (F a d true)) (F b c true)) (F b d true)
        have g : ∀ x y, F x y false ≤ F x y true → -4503599627370496 ≤ F x y false → F x y true ≤ 4503599627370496 → (okF (F x y false) && okF (F x y true)) = true := by
          intro x y k1 k2 k3
          rw [Bool.and_eq_true, okF_iff, okF_iff]; omega
        unfold ok4 at hk
        rw [e1, e2, e3, e4, g a c f1 (by omega) (by omega), g a d f2 (by omega) (by omega), g b c f3 (by omega) (by omega), g b d f4 (by omega) (by omega)] at hk
        cases hk
    unfold hull4 toldS
    rw [this]; rfl
  | true =>
    unfold ok4 at hk
    simp only [Bool.and_eq_true, Bool.not_eq_true'] at hk
    obtain ⟨⟨k1, k2⟩, k3, k4⟩ := hk
    obtain ⟨a1, a2⟩ := v1 k1; obtain ⟨b1, b2⟩ := v2 k2; obtain ⟨c1, c2⟩ := v3 k3; obtain ⟨d1, d2⟩ := v4 k4
    have el : l3 V a b c d = mn (mn (mn (F a c false) (F a d false)) (F b c false)) (F b d false) := by
      unfold l3 l2 l1; rw [nL_eq, nL_eq, nL_eq, a1, b1, c1, d1]
    have eh : h3 V a b c d = mx (mx (mx (F a c true) (F a d true)) (F b c true)) (F b d true) := by
      unfold h3 h2 h1; rw [nH_eq, nH_eq, nH_eq, a2, b2, c2, d2]
    rw [el, eh]
    have m1 := mn_le (F a c false) (F a d false); have m2 := mn_le (mn (F a c false) (F a d false)) (F b c false); have m3 := mn_le (mn (mn (F a c false) (F a d false)) (F b c false)) (F b d false)
    have n1 := le_mx (F a c true) (F a d true); have n2 := le_mx (mx (F a c true) (F a d true)) (F b c true); have n3 := le_mx (mx (mx (F a c true) (F a d true)) (F b c true)) (F b d true)
    rw [xTb_eq (by omega)]
    unfold hull4 toldS
    simp only [cond_true]
    cases okF (mn (mn (mn (F a c false) (F a d false)) (F b c false)) (F b d false)) && okF (mx (mx (mx (F a c true) (F a d true)) (F b c true)) (F b d true)) <;> rfl
theorem bad2_of {e f : Int → Int → Bool → Int} {F : Int → Int → Bool → Int} {x y : Int} (h : (e x y false = 0 ∧ e x y true = 0) ↔ (fitE (F x y false) = 0 ∧ fitE (F x y true) = 0)) : bad2 e x y = !(okF (F x y false) && okF (F x y true)) := by
  unfold bad2
  rcases fitE_cases (F x y false) with ⟨p1, p2, _⟩ | ⟨p1, p2, _⟩ <;> rcases fitE_cases (F x y true) with ⟨q1, q2, _⟩ | ⟨q1, q2, _⟩ <;> rw [p1, q1] at h <;> rw [p2, q2]
  · have := h.2 ⟨rfl, rfl⟩; simp [this.1, this.2]
  all_goals
    simp only [Bool.and_true, Bool.and_false, Bool.not_false, Bool.false_and]
    by_cases h0 : e x y false = 0
    · by_cases h1 : e x y true = 0
      · have := h.1 ⟨h0, h1⟩; omega
      · simp [h0, h1]
    · simp [h0]
theorem mul_corner {x y : Int} (hx : okF x = true) (hy : okF y = true) : bad2 xMulE x y = !(okF (mF x y false) && okF (mF x y true)) ∧ (bad2 xMulE x y = false → xMulV x y false = mF x y false ∧ xMulV x y true = mF x y true) := by
  obtain ⟨a1, a2, a3⟩ := sz_of hx
  obtain ⟨b1, b2, b3⟩ := sz_of hy
  have hb : sg x x * sg y y ≤ 4503599627370496 * 4503599627370496 := Int.mul_le_mul a3 b3 b2 (by decide)
  obtain ⟨p1, p2⟩ := pair_law (p := sg x x * sg y y) (d := 4294967296) (Int.mul_nonneg a2 b2) (by omega) (by decide) (by decide) (xNeg x y) (x * y) (xNeg_mul x y)
  have e0 : xAll x y = 0 := by rw [xAll_eq, hx, hy]; rfl
  have eE : ∀ up, xMulE x y up = xE (sg x x * sg y y) 4294967296 up (xNeg x y) := fun up => by unfold xMulE; rw [e0, a1, b1]; rfl
  have eV : ∀ up, xMulV x y up = xV (sg x x * sg y y) 4294967296 up (xNeg x y) := fun up => by unfold xMulV; rw [e0, a1, b1]; rfl
  have key := bad2_of (e := xMulE) (f := xMulE) (F := mF) (x := x) (y := y) (by rw [eE, eE]; exact p1)
  refine ⟨key, fun h => ?_⟩
  rw [key] at h
  simp only [Bool.not_eq_false', Bool.and_eq_true] at h
  rw [eV, eV]
  refine p2 ?_ ?_
  · unfold fitE; rw [show rd (x * y) 4294967296 false = mF x y false from rfl, h.1]; rfl
  · unfold fitE; rw [show rd (x * y) 4294967296 true = mF x y true from rfl, h.2]; rfl
theorem okF_of_sp {a b : Int} (h : okSp a b = true) : okF a = true ∧ okF b = true := by
  have := okSp_iff.1 h
  exact ⟨okF_iff.2 (by omega), okF_iff.2 (by omega)⟩
theorem xMulS_eq (a b c d : Int) : xMulS a b c d = mulS a b c d := by
  unfold xMulS mulS both
  rw [xAll2_eq]
  cases h1 : okSp a b with
  | false => simp [err]
  | true =>
    cases h2 : okSp c d with
    | false => simp [err]
    | true =>
      obtain ⟨ha, hb⟩ := okF_of_sp h1
      obtain ⟨hc, hd⟩ := okF_of_sp h2
      rw [← hull_law xMulV xMulE mF a b c d (fun x y _ _ => rd_le _ _ (by decide)) fun x y hx hy => mul_corner (by rcases hx with rfl | rfl <;> assumption) (by rcases hy with rfl | rfl <;> assumption)]
      rfl
theorem xNeg_div (a b : Int) : sg (a * 4294967296) b = bif xNeg a b then -(sg a a * 4294967296) else sg a a * 4294967296 := by
  unfold xNeg sg
  by_cases h : a < 0 <;> by_cases k : b < 0 <;> simp [h, k, Int.neg_mul]
theorem div_corner {x y : Int} (hx : okF x = true) (hy : okF y = true) (h0 : y ≠ 0) : bad2 xDivE x y = !(okF (dF x y false) && okF (dF x y true)) ∧ (bad2 xDivE x y = false → xDivV x y false = dF x y false ∧ xDivV x y true = dF x y true) := by
  obtain ⟨a1, a2, a3⟩ := sz_of hx
  obtain ⟨b1, b2, b3⟩ := sz_of hy
  have hpos : 0 < sg y y := by rcases sg_cases y with ⟨_, e⟩ | ⟨_, e⟩ <;> omega
  obtain ⟨p1, p2⟩ := pair_law (p := sg x x * 4294967296) (d := sg y y) (by omega) (by omega) hpos (by omega) (xNeg x y) (sg (x * 4294967296) y) (xNeg_div x y)
  have e0 : xAll x y = 0 := by rw [xAll_eq, hx, hy]; rfl
  have e00 : (y == 0) = false := by simp [h0]
  have eE : ∀ up, xDivE x y up = xE (sg x x * 4294967296) (sg y y) up (xNeg x y) := fun up => by unfold xDivE; rw [e0, a1, b1, e00]; rfl
  have eV : ∀ up, xDivV x y up = xV (sg x x * 4294967296) (sg y y) up (xNeg x y) := fun up => by unfold xDivV; rw [e0, a1, b1, e00]; rfl
  have key := bad2_of (e := xDivE) (f := xDivE) (F := dF) (x := x) (y := y) (by rw [eE, eE]; exact p1)
  refine ⟨key, fun h => ?_⟩
  rw [key] at h
  simp only [Bool.not_eq_false', Bool.and_eq_true] at h
  rw [eV, eV]
  refine p2 ?_ ?_
  · unfold fitE; rw [show rd (sg (x * 4294967296) y) (sg y y) false = dF x y false from rfl, h.1]; rfl
  · unfold fitE; rw [show rd (sg (x * 4294967296) y) (sg y y) true = dF x y true from rfl, h.2]; rfl
theorem xZ_eq (c d : Int) : xZ c d = (decide (c ≤ 0) && decide (0 ≤ d)) := by
  unfold xZ
  by_cases h : c ≤ 0 <;> simp [h]
theorem xDivS_eq (a b c d : Int) : xDivS a b c d = divS a b c d := by
  unfold xDivS divS both
  rw [xAll2_eq, xZ_eq]
  cases h1 : okSp a b with
  | false => simp [err]
  | true =>
    cases h2 : okSp c d with
    | false => simp [err]
    | true =>
      cases h3 : (decide (c ≤ 0) && decide (0 ≤ d)) with
      | true => simp [err]
      | false =>
        obtain ⟨ha, hb⟩ := okF_of_sp h1
        obtain ⟨hc, hd⟩ := okF_of_sp h2
        have h2 := okSp_iff.1 h2
        have nz : ∀ y, (y = c ∨ y = d) → y ≠ 0 := by
          intro y hy h0
          simp only [Bool.and_eq_false_iff, decide_eq_false_iff_not] at h3
          rcases hy with rfl | rfl <;> omega
        rw [← hull_law xDivV xDivE dF a b c d (fun x y _ hy => rd_le _ _ (by have := nz y hy; rcases sg_cases y with ⟨_, e⟩ | ⟨_, e⟩ <;> omega))
          fun x y hx hy => div_corner (by rcases hx with rfl | rfl <;> assumption) (by rcases hy with rfl | rfl <;> assumption) (nz y hy)]
        rfl
end Go.Ar
namespace Go.Ar
open Go
def pwS (v : Int) : Int := IntKind.u64.wrap (if IntKind.i64.wrap (0 - v) > v then IntKind.i64.wrap (0 - v) else v)
def pw2 (v : Int) : Int := 1 * pwS v
def pw3 (v : Int) : Int := pw2 v % two64
def pw4 (v : Int) : Int := pw3 v + 0 + 0
def pw5 (v : Int) : Int := pw4 v % 18446744073709551616
def pw6 (v : Int) : Int := pw5 v * pwS v
def pw7 (v : Int) : Int := pw6 v % two64
def pw8 (v : Int) : Int := IntKind.u64.wrap (pw2 v / two64 + pw4 v / 18446744073709551616)
def pw9 (v : Int) : Int := pw8 v * pwS v
def pw10 (v : Int) : Int := pw9 v % two64
def pw11 (v : Int) : Int := pw7 v + 0 + 0
def pw12 (v : Int) : Int := IntKind.u64.wrap (pw6 v / two64 + pw11 v / 18446744073709551616)
def pw13 (v : Int) : Int := pw10 v + pw12 v + 0
def pw14 (v : Int) : Int := pw13 v % 18446744073709551616
def pw15 : Int := 2 ^ min (Int.ofNat 32).toNat IntKind.u64.bits
def pw16 (v : Int) : Bool := decide ((pw14 v).fdiv pw15 > 0)
def pw17 (v : Int) : Int := IntKind.u64.wrap (pw9 v / two64 + pw13 v / 18446744073709551616)
def pw18 (v : Int) : Bool := decide (pw17 v > 0)
def pw19 (v : Int) : Int := pw11 v % 18446744073709551616
def pw20 (v : Int) : Int := bif pw16 v then 0 else bif pw18 v then 0 else
  IntKind.u64.wrap ↑(BitVec.ofInt IntKind.u64.bits ((pw19 v).fdiv pw15) ||| BitVec.ofInt IntKind.u64.bits (IntKind.u64.wrap (pw14 v * pw15))).toNat
def pw21 (v : Int) : Int := IntKind.u64.wrap ↑(BitVec.ofInt IntKind.u64.bits (pw19 v) &&& BitVec.ofInt IntKind.u64.bits 4294967295).toNat
def pwBig (v : Int) : Bool := bif !(bif pw16 v then false else bif pw18 v then false else true) then true else decide (pw20 v > 4503599627370496)
def pwD (v : Int) : Int := bif pwBig v then 0 else IntKind.i64.wrap (pw20 v)
def pwU (v : Int) : Int := bif pwBig v then 0 else bif bif pw16 v then false else bif pw18 v then false else decide (pw21 v > 0) then IntKind.i64.wrap (IntKind.i64.wrap (pw20 v) + 1) else IntKind.i64.wrap (pw20 v)
def pwE (v : Int) : Int := bif pwBig v then 6 else 0
def xAdd (x y : Int) : Prop := decide (0 ≤ x ∧ 0 ≤ y ∧ (0 : Int) ≤ 0 ∧ (0 : Int) ≤ 1) = true
def pwN (v : Int) : Prop := (xIn 1 (pwS v) ∧ xAdd (pw3 v) 0) ∧ (xIn (pw5 v) (pwS v) ∧ xAdd (pw7 v) 0) ∧ xIn (pw8 v) (pwS v) ∧ xAdd (pw10 v) (pw12 v)
def sqD (v : Int) : Int := bif decide (v * v / 4294967296 > 4503599627370496) then 0 else rd (v * v) 4294967296 false
def sqU (v : Int) : Int := bif decide (v * v / 4294967296 > 4503599627370496) then 0 else rd (v * v) 4294967296 true
def sqE (v : Int) : Int := bif decide (v * v / 4294967296 > 4503599627370496) then 6 else 0
theorem pwS_eq {v : Int} (h : okF v = true) : pwS v = sg v v := by
  have h := okF_iff.1 h
  unfold pwS
  rw [i64w (n := 0 - v) (by omega) (by omega)]
  rcases sg_cases v with ⟨h1, e⟩ | ⟨h1, e⟩ <;> rw [e] <;> split <;> rw [u64w (by omega) (by omega)] <;> omega
theorem and32 (n : Nat) (h : n < 18446744073709551616) : IntKind.u64.wrap ↑(BitVec.ofInt IntKind.u64.bits (n : Int) &&& BitVec.ofInt IntKind.u64.bits 4294967295).toNat = ((n % 4294967296 : Nat) : Int) := Go.Eng.dLow_eq n h
theorem pw_law {v : Int} (h : okF v = true) : pwD v = sqD v ∧ pwU v = sqU v ∧ pwE v = sqE v ∧ pwN v := by
  obtain ⟨_, s1, s2⟩ := sz_of h
  have e1 := pwS_eq h
  have es : v * v = sg v v * sg v v := by
    rcases sg_cases v with ⟨_, e⟩ | ⟨_, e⟩ <;> rw [e]
    rw [Int.neg_mul, Int.mul_neg, Int.neg_neg]
  have hq : sg v v * sg v v ≤ 4503599627370496 * 4503599627370496 := Int.mul_le_mul s2 s2 s1 (by decide)
  have hq0 : 0 ≤ sg v v * sg v v := Int.mul_nonneg s1 s1
  have q2 : pw2 v = sg v v := by unfold pw2; rw [e1]; omega
  have q3 : pw3 v = sg v v := by unfold pw3 two64; rw [q2]; omega
  have q4 : pw4 v = sg v v := by unfold pw4; rw [q3]; omega
  have q5 : pw5 v = sg v v := by unfold pw5; rw [q4]; omega
  have q6 : pw6 v = sg v v * sg v v := by unfold pw6; rw [q5, e1]
  have q8 : pw8 v = 0 := by unfold pw8 two64; rw [q2, q4, u64w] <;> omega
  have q9 : pw9 v = 0 := by unfold pw9; rw [q8]; omega
  have q10 : pw10 v = 0 := by unfold pw10 two64; rw [q9]; rfl
  generalize hP : sg v v * sg v v = P at *
  have q7 : pw7 v = P % 18446744073709551616 := by unfold pw7 two64; rw [q6]
  have q11 : pw11 v = P % 18446744073709551616 := by unfold pw11; rw [q7]; omega
  have q12 : pw12 v = P / 18446744073709551616 := by unfold pw12 two64; rw [q6, q11, u64w] <;> omega
  have q13 : pw13 v = P / 18446744073709551616 := by unfold pw13; rw [q10, q12]; omega
  have q14 : pw14 v = P / 18446744073709551616 := by unfold pw14; rw [q13]; omega
  have q15 : pw15 = 4294967296 := by decide
  have q16 : pw16 v = decide (4294967296 ≤ P / 18446744073709551616) := by
    unfold pw16
    rw [q14, q15, Int.fdiv_eq_ediv_of_nonneg _ (by decide)]
    rw [Bool.eq_iff_iff]; simp only [decide_eq_true_eq]; omega
  have q17 : pw17 v = 0 := by unfold pw17 two64; rw [q9, q13, u64w] <;> omega
  have q18 : pw18 v = false := by unfold pw18; rw [q17]; rfl
  have q19 : pw19 v = P % 18446744073709551616 := by unfold pw19; rw [q11]; omega
  have nd : pwN v := by
    unfold pwN
    rw [e1, q3, q5, q7, q8, q10, q12]
    refine ⟨⟨xIn_of (by omega) (by omega) (by omega) (by omega), ?_⟩, ⟨xIn_of (by omega) (by omega) (by omega) (by omega), ?_⟩, xIn_of (by omega) (by omega) (by omega) (by omega), ?_⟩ <;> unfold xAdd <;> rw [decide_eq_true_eq] <;> omega
  have e21 : pw21 v = P % 4294967296 := by
    unfold pw21
    rw [q19]
    obtain ⟨n, hn⟩ := Int.eq_ofNat_of_zero_le (show 0 ≤ P % 18446744073709551616 by omega)
    rw [hn, and32 n (by omega)]
    omega
  have big : pwBig v = decide (v * v / 4294967296 > 4503599627370496) ∧ (pwBig v = false → pw20 v = P / 4294967296 ∧ pw16 v = false) := by
    unfold pwBig
    rw [q18, q16]
    by_cases hb : 4294967296 ≤ P / 18446744073709551616
    · refine ⟨?_, fun h => by simp [hb] at h⟩
      rw [es]
      simp [hb]; omega
    · have hor : pw20 v = P / 4294967296 := by
        unfold pw20
        rw [q16, q18, q19, q14, q15, decide_eq_false hb]
        simp only [cond_false]
        rw [Int.fdiv_eq_ediv_of_nonneg _ (by decide), u64w (n := P / 18446744073709551616 * 4294967296) (by omega) (by omega)]
        obtain ⟨n, hn⟩ := Int.eq_ofNat_of_zero_le (show 0 ≤ P % 18446744073709551616 / 4294967296 by omega)
        obtain ⟨m, hm⟩ := Int.eq_ofNat_of_zero_le (show 0 ≤ P / 18446744073709551616 by omega)
        rw [hn, hm, show (m : Int) * 4294967296 = ((m * 4294967296 : Nat) : Int) by omega, Go.Eng.dOr_eq _ _ (by omega) (by omega)]
        have : n ||| m * 4294967296 = m * 4294967296 + n := by
          rw [Nat.or_comm, Nat.mul_comm]
          exact (Nat.two_pow_add_eq_or_of_lt (i := 32) (show n < 2 ^ 32 by omega) m).symm
        rw [this]
        omega
      rw [hor, decide_eq_false hb, es]
      exact ⟨rfl, fun _ => ⟨rfl, rfl⟩⟩
  obtain ⟨b1, b2⟩ := big
  refine ⟨?_, ?_, ?_, nd⟩
  · unfold pwD sqD
    cases hb : pwBig v with
    | true => rw [← b1, hb]; rfl
    | false =>
      rw [← b1, hb, (b2 hb).1, es]
      rw [hb] at b1
      have b1 := of_decide_eq_false b1.symm
      rw [es] at b1
      simp only [cond_false]
      rw [i64w (by omega) (by omega)]; rfl
  · unfold pwU sqU
    cases hb : pwBig v with
    | true => rw [← b1, hb]; rfl
    | false =>
      obtain ⟨b3, b4⟩ := b2 hb
      rw [← b1, hb, b3, b4, q18, e21, es]
      rw [hb] at b1
      have b1 := of_decide_eq_false b1.symm
      rw [es] at b1
      simp only [cond_false]
      rw [i64w (n := P / 4294967296) (by omega) (by omega), i64w (n := P / 4294967296 + 1) (by omega) (by omega)]
      unfold rd
      simp only [cond_true]
      by_cases hr : P % 4294967296 > 0
      · rw [decide_eq_true hr]; simp only [cond_true]; omega
      · rw [decide_eq_false hr]; simp only [cond_false]; omega
  · unfold pwE sqE; rw [b1]
end Go.Ar
namespace Go.Ar
open Go
def xaM (a b : Int) : Int := if IntKind.i64.wrap (0 - b) > a then IntKind.i64.wrap (0 - b) else a
def xaL0 (a b : Int) : Int := if 0 > xaM a b then 0 else xaM a b
def xaH0 (a b : Int) : Int := if IntKind.i64.wrap (0 - a) > b then IntKind.i64.wrap (0 - a) else b
def xaL (a b : Int) : Int := bif xCS a b != 0 then 0 else bif xTb (xaL0 a b) (xaH0 a b) then 0 else xaL0 a b
def xaH (a b : Int) : Int := bif xCS a b != 0 then 0 else bif xTb (xaL0 a b) (xaH0 a b) then 0 else xaH0 a b
def xsqBad (a b : Int) : Bool := bif sqE (xaL a b) != 0 then true else sqE (xaH a b) != 0
def xSqrS (a b : Int) : Sp :=
  ⟨bif xCS a b != 0 then 0 else bif xsqBad a b then 0 else bif xTb (sqD (xaL a b)) (sqU (xaH a b)) then 0 else sqD (xaL a b),
   bif xCS a b != 0 then 0 else bif xsqBad a b then 0 else bif xTb (sqD (xaL a b)) (sqU (xaH a b)) then 0 else sqU (xaH a b),
   bif xCS a b != 0 then xCS a b else bif xsqBad a b then 6 else bif xTb (sqD (xaL a b)) (sqU (xaH a b)) then 6 else 0⟩
def xSqrN (a b : Int) : Prop := (!(xCS a b != 0)) = true → okF (xaL a b) = true ∧ okF (xaH a b) = true
theorem xa_eq {a b : Int} (h : okSp a b = true) : xaL a b = abL a b ∧ xaH a b = abH a b ∧ 0 ≤ abL a b ∧ abL a b ≤ abH a b ∧ abH a b ≤ 4503599627370496 := by
  have k := okSp_iff.1 h
  have l0 : xaL0 a b = abL a b := by
    unfold xaL0 xaM abL mx
    rw [i64w (by omega) (by omega)]
    by_cases h1 : a < -b
    · rw [if_pos (show 0 - b > a by omega), decide_eq_true h1]
      simp only [cond_true]
      by_cases h2 : -b < 0
      · rw [if_pos (by omega), decide_eq_true h2]; rfl
      · rw [if_neg (by omega), decide_eq_false h2]; simp only [cond_false]; omega
    · rw [if_neg (show ¬ 0 - b > a by omega), decide_eq_false h1]
      simp only [cond_false]
      by_cases h2 : a < 0
      · rw [if_pos (by omega), decide_eq_true h2]; rfl
      · rw [if_neg (by omega), decide_eq_false h2]; rfl
  have h0 : xaH0 a b = abH a b := by
    unfold xaH0 abH mx
    rw [i64w (by omega) (by omega)]
    by_cases h1 : b < -a
    · rw [if_pos (show 0 - a > b by omega), decide_eq_true h1]; simp only [cond_true]; omega
    · rw [if_neg (show ¬ 0 - a > b by omega), decide_eq_false h1]; rfl
  have bl : 0 ≤ abL a b ∧ abL a b ≤ abH a b ∧ abH a b ≤ 4503599627370496 := by
    unfold abL abH
    have m1 := le_mx a (-b); have m2 := le_mx (mx a (-b)) 0; have m3 := le_mx b (-a)
    omega
  have ht : xTb (abL a b) (abH a b) = false := by
    unfold xTb; rw [decide_eq_false (by omega), decide_eq_false (by omega)]; rfl
  unfold xaL xaH
  rw [l0, h0, ht, xCS_eq, h]
  exact ⟨rfl, rfl, bl⟩
theorem xSqrN_all (a b : Int) : xSqrN a b := by
  intro h
  rw [xCS_eq] at h
  cases k : okSp a b with
  | false => rw [k] at h; cases h
  | true =>
    obtain ⟨e1, e2, b1, b2, b3⟩ := xa_eq k
    rw [e1, e2, okF_iff, okF_iff]; omega
theorem xSqrS_eq (a b : Int) : xSqrS a b = sqrS a b := by
  unfold xSqrS sqrS
  rw [xCS_eq]
  cases h : okSp a b with
  | false => simp [err]
  | true =>
    obtain ⟨e1, e2, b1, b2, b3⟩ := xa_eq h
    unfold xsqBad
    rw [e1, e2]
    have q : abL a b * abL a b ≤ abH a b * abH a b := Int.mul_le_mul b2 b2 b1 (by omega)
    have q0 : 0 ≤ abL a b * abL a b := Int.mul_nonneg b1 b1
    unfold sqE sqD sqU toldS
    generalize hP : abL a b * abL a b = P at *
    generalize hQ : abH a b * abH a b = Q at *
    have u1 : rd P 4294967296 false = P / 4294967296 := rfl
    have u2 : rd Q 4294967296 true = Q / 4294967296 + (if 0 < Q % 4294967296 then 1 else 0) := by
      unfold rd; simp only [cond_true]; rw [neg_div (by decide)]; omega
    have okl : okF (rd P 4294967296 false) = !decide (P / 4294967296 > 4503599627370496) := by
      rw [u1]; unfold okF
      rw [decide_eq_true (show (-4503599627370496 : Int) ≤ P / 4294967296 by omega), Bool.true_and, Bool.eq_iff_iff]
      simp only [decide_eq_true_eq, Bool.not_eq_true', decide_eq_false_iff_not]; omega
    cases hp : decide (P / 4294967296 > 4503599627370496) with
    | true => rw [okl, hp]; simp [err]
    | false =>
      have hp' := of_decide_eq_false hp
      cases hq : decide (Q / 4294967296 > 4503599627370496) with
      | true =>
        have hq' := of_decide_eq_true hq
        have : okF (rd Q 4294967296 true) = false := by rw [okF_false, u2]; split <;> omega
        rw [this]; simp [err]
      | false =>
        have hq' := of_decide_eq_false hq
        simp only [cond_false, cond_true, bne_self_eq_false]
        rw [xTb_eq (by rw [u1, u2]; split <;> omega)]
        cases okF (rd P 4294967296 false) && okF (rd Q 4294967296 true) <;> simp [err]
theorem rd_lt_rd {n m d : Int} (hd : 0 < d) (h : n ≤ m) (up : Bool) : rd n d up ≤ rd m d up := by
  unfold rd
  cases up with
  | false => exact Int.ediv_le_ediv hd h
  | true =>
    have := Int.ediv_le_ediv hd (show -m ≤ -n by omega)
    simp only [cond_true]; omega
theorem sc_law {x n d : Int} (hx : okF x = true) (hn : 0 ≤ n) (hr : okR n d = true) (hb : sg x x * n < 18446744073709551615 * d) (up : Bool) : xScV x n d up = fitV (rd (x * n) d up) ∧ xScE x n d up = fitE (rd (x * n) d up) := by
  obtain ⟨a1, a2, a3⟩ := sz_of hx
  simp only [okR, Bool.and_eq_true, decide_eq_true_eq] at hr
  obtain ⟨⟨⟨n1, n2⟩, d1⟩, d2⟩ := hr
  have en : xSz n = n := by rw [xSz_eq (by omega) (by omega)]; rcases sg_cases n with ⟨_, e⟩ | ⟨_, e⟩ <;> omega
  have esn : sg n n = n := by rcases sg_cases n with ⟨_, e⟩ | ⟨_, e⟩ <;> omega
  have ed : IntKind.u64.wrap d = d := u64w (by omega) (by omega)
  have ok : xOkS x n d = false := by
    rw [xOkS_eq]; unfold okS; rw [hx, decide_eq_true n1, decide_eq_true n2, decide_eq_true d1, decide_eq_true d2]; rfl
  have hm : sg x x * n ≤ 4503599627370496 * 4611686018427387904 := Int.mul_le_mul a3 n2 hn (by decide)
  obtain ⟨v, e, _⟩ := xN_eq (p := sg x x * n) (d := d) (Int.mul_nonneg a2 hn) (by omega) (by omega) (by omega) up (xNeg x n) (x * n) (by have := xNeg_mul x n; rw [esn] at this; exact this) (.inl hb)
  unfold xScV xScE
  rw [ok, a1, en, ed]
  exact ⟨v, e⟩
theorem sc_bad {x n d : Int} (h : okR n d = false) (up : Bool) : xScE x n d up = 2 := by
  unfold xScE
  have : xOkS x n d = true := by
    rw [xOkS_eq]; unfold okS okR at *; rw [h, Bool.and_false]; rfl
  rw [this]; rfl
theorem xScaleS_eq (a b n d : Int) (hb : okSp a b = true → okR n d = true → abH a b * sg n n < 18446744073709551615 * d) : xScaleS a b n d = scaleS a b n d := by
  unfold xScaleS scaleS
  rw [xCS_eq]
  cases h : okSp a b with
  | false => simp [err]
  | true =>
    have k := okSp_iff.1 h
    cases hr : okR n d with
    | false =>
      have hx : xsOk n = true → xsBad a b n d = true ∧ xScE (xsA a b n) (xsN n) d false = 2 ∧ xScE (xsB a b n) (xsN n) d true = 2 := by
        intro ho
        have hr2 : okR (xsN n) d = false := by
          unfold xsN
          by_cases hn : n < 0
          · simp only [xsOk, hn, decide_true, cond_true, Bool.not_eq_true', decide_eq_false_iff_not] at ho
            rw [decide_eq_true hn, cond_true, i64w (by omega) (by omega)]
            simp only [okR, Bool.and_eq_false_iff, decide_eq_false_iff_not] at hr ⊢
            omega
          · rw [decide_eq_false hn]; exact hr
        have e1 := sc_bad (x := xsA a b n) hr2 false
        have e2 := sc_bad (x := xsB a b n) hr2 true
        exact ⟨by unfold xsBad; rw [e1]; rfl, e1, e2⟩
      cases ho : xsOk n with
      | false => simp [err]
      | true =>
        obtain ⟨h1, h2, h3⟩ := hx ho
        simp [h1, h2, h3, err]
    | true =>
      have hb := hb h hr
      have hr' := hr
      simp only [okR, Bool.and_eq_true, decide_eq_true_eq] at hr'
      obtain ⟨⟨⟨n1, n2⟩, d1⟩, d2⟩ := hr'
      have ho : xsOk n = true := by
        unfold xsOk
        by_cases hn : n < 0
        · rw [decide_eq_true hn, decide_eq_false (by omega)]; rfl
        · rw [decide_eq_false hn]; rfl
      have m3 := le_mx b (-a)
      have core : ∀ (x y m : Int), 0 ≤ m → m ≤ 4611686018427387904 → okF x = true → okF y = true → x ≤ y → sg x x ≤ abH a b → sg y y ≤ abH a b → abH a b * m < 18446744073709551615 * d →
          (⟨bif (bif xScE x m d false != 0 then true else xScE y m d true != 0) then 0 else xScV x m d false, bif (bif xScE x m d false != 0 then true else xScE y m d true != 0) then 0 else xScV y m d true,
            bif (bif xScE x m d false != 0 then true else xScE y m d true != 0) then (if xScE y m d true > xScE x m d false then xScE y m d true else xScE x m d false) else 0⟩ : Sp) = toldS (rd (x * m) d false) (rd (y * m) d true) := by
        intro x y m m0 m1 hx hy hxy sx sy hbm
        have hr2 : okR m d = true := by simp [okR]; omega
        have bx : sg x x * m < 18446744073709551615 * d := Int.lt_of_le_of_lt (Int.mul_le_mul_of_nonneg_right sx m0) hbm
        have by' : sg y y * m < 18446744073709551615 * d := Int.lt_of_le_of_lt (Int.mul_le_mul_of_nonneg_right sy m0) hbm
        obtain ⟨v1, e1⟩ := sc_law hx m0 hr2 bx false
        obtain ⟨v2, e2⟩ := sc_law hy m0 hr2 by' true
        rw [v1, e1, v2, e2]
        unfold toldS
        rcases fitE_cases (rd (x * m) d false) with ⟨p1, p2, p3⟩ | ⟨p1, p2, p3⟩ <;> rcases fitE_cases (rd (y * m) d true) with ⟨q1, q2, q3⟩ | ⟨q1, q2, q3⟩ <;> rw [p1, p2, p3, q1, q2, q3] <;> rfl
      unfold xsBad
      rw [ho]
      simp only [bne_self_eq_false, cond_false, cond_true]
      by_cases hn : n < 0
      · have ea : xsA a b n = -b := by unfold xsA; rw [decide_eq_true hn, cond_true, i64w (by omega) (by omega)]; omega
        have eb : xsB a b n = -a := by unfold xsB; rw [decide_eq_true hn, cond_true, i64w (by omega) (by omega)]; omega
        have en : xsN n = -n := by unfold xsN; rw [decide_eq_true hn, cond_true, i64w (by omega) (by omega)]; omega
        have esn : sg n n = -n := by rcases sg_cases n with ⟨_, e⟩ | ⟨_, e⟩ <;> omega
        rw [esn] at hb
        rw [ea, eb, en]
        rw [core (-b) (-a) (-n) (by omega) (by omega) (okF_iff.2 (by omega)) (okF_iff.2 (by omega)) (by omega)
          (by unfold abH; rcases sg_cases (-b) with ⟨_, e⟩ | ⟨_, e⟩ <;> omega) (by unfold abH; rcases sg_cases (-a) with ⟨_, e⟩ | ⟨_, e⟩ <;> omega) hb]
        have hmul : b * n ≤ a * n := Int.mul_le_mul_of_nonpos_right k.2.1 (by omega)
        have e1 : mn (a * n) (b * n) = b * n := by
          unfold mn; by_cases h2 : b * n < a * n
          · rw [decide_eq_true h2]; rfl
          · rw [decide_eq_false h2]; simp only [cond_false]; omega
        have e2 : mx (a * n) (b * n) = a * n := by
          unfold mx; rw [decide_eq_false (by omega)]; rfl
        rw [e1, e2, Int.neg_mul_neg, Int.neg_mul_neg]
      · have ea : xsA a b n = a := by unfold xsA; rw [decide_eq_false hn]; rfl
        have eb : xsB a b n = b := by unfold xsB; rw [decide_eq_false hn]; rfl
        have en : xsN n = n := by unfold xsN; rw [decide_eq_false hn]; rfl
        have esn : sg n n = n := by rcases sg_cases n with ⟨_, e⟩ | ⟨_, e⟩ <;> omega
        rw [esn] at hb
        rw [ea, eb, en]
        rw [core a b n (by omega) n2 (okF_iff.2 (by omega)) (okF_iff.2 (by omega)) k.2.1
          (by unfold abH; rcases sg_cases a with ⟨_, e⟩ | ⟨_, e⟩ <;> omega) (by unfold abH; rcases sg_cases b with ⟨_, e⟩ | ⟨_, e⟩ <;> omega) hb]
        have hmul : a * n ≤ b * n := Int.mul_le_mul_of_nonneg_right k.2.1 (by omega)
        have e1 : mn (a * n) (b * n) = a * n := by
          unfold mn; rw [decide_eq_false (by omega)]; rfl
        have e2 : mx (a * n) (b * n) = b * n := by
          unfold mx; by_cases h2 : a * n < b * n
          · rw [decide_eq_true h2]; rfl
          · rw [decide_eq_false h2]; simp only [cond_false]; omega
        rw [e1, e2]
end Go.Ar
namespace Go.Ar
open Go Go.Eng
end Go.Ar
namespace Go.Ar
open Go Go.Eng
end Go.Ar
namespace Go.Ar
open Go Go.Eng
end Go.Ar
namespace Go.Ar
open Go Go.Eng
noncomputable section
def shS : Sh := .a [.i .i64, .i .i64]
def outS (s : Sp) : Tm := .u [.a [.n .i64 s.lo, .n .i64 s.hi], .n .i64 s.e]
def sBin (F : Int → Int → Int → Int → Sp) : PSpec := numSpec [shS, shS] none fun
  | [.n a, .n b, .n c, .n d] => outS (F a b c d)
  | _ => .u []
def sUn (F : Int → Int → Sp) : PSpec := numSpec [shS] none fun
  | [.n a, .n b] => outS (F a b)
  | _ => .u []
def sSc (F : Int → Int → Int → Int → Sp) : PSpec := numSpec [shS, .i .i64, .i .i64] none fun
  | [.n a, .n b, .n n, .n d] => outS (F a b n d)
  | _ => .u []
def chkS (a b : Int) : Int := bif okSp a b then 0 else 20
def sChk : PSpec := numSpec [shS] none fun
  | [.n a, .n b] => .n .i64 (chkS a b)
  | _ => .u []
def sPow : PSpec := numSpec [.i .i64, .c (.int false .i64 2)] (some fun
  | [.n v] => okF v
  | _ => false) fun
  | [.n v] => .u [.n .i64 (sqD v), .n .i64 (sqU v), .n .i64 (sqE v)]
  | _ => .u []
end
end Go.Ar
namespace Go.Rd
open Go Go.Eng Go.Ar
def okCK (c k : Int) : Prop := (-1000000000 ≤ c ∧ c ≤ 1000000000) ∧ (-100000000 ≤ k ∧ k ≤ 100000000)
def s0 (c k a b d e : Int) : Sp := (sqrS a b)
def s1 (c k a b d e : Int) : Sp := (sqrS d e)
def s2 (c k a b d e : Int) : Sp := (addS (s0 c k a b d e).lo (s0 c k a b d e).hi (s1 c k a b d e).lo (s1 c k a b d e).hi)
def s3 (c k a b d e : Int) : Sp := (xScaleS (s2 c k a b d e).lo (s2 c k a b d e).hi c 1000000000)
def s4 (c k a b d e : Int) : Sp := (xScaleS (s3 c k a b d e).lo (s3 c k a b d e).hi c 1000000000)
def s5 (c k a b d e : Int) : Sp := (xScaleS (s4 c k a b d e).lo (s4 c k a b d e).hi (IntKind.i64.wrap (1000000 + k)) 1000000)
def s6 (c k a b d e : Int) : Sp := (subS 4294967296 4294967296 (s5 c k a b d e).lo (s5 c k a b d e).hi)
def s7 (c k a b d e : Int) : Sp := (sqrtS (s6 c k a b d e).lo (s6 c k a b d e).hi)
def s8 (c k a b d e : Int) : Sp := (addS (s3 c k a b d e).lo (s3 c k a b d e).hi 0 0)
def s9 (c k a b d e : Int) : Sp := (addS 4294967296 4294967296 (s7 c k a b d e).lo (s7 c k a b d e).hi)
def s10 (c k a b d e : Int) : Sp := (divS (s8 c k a b d e).lo (s8 c k a b d e).hi (s9 c k a b d e).lo (s9 c k a b d e).hi)
def s11 (c k a b d e : Int) : Sp := (xScaleS d e c 1000000000)
def s12 (c k a b d e : Int) : Sp := (divS (s11 c k a b d e).lo (s11 c k a b d e).hi (s7 c k a b d e).lo (s7 c k a b d e).hi)
def s13 (c k a b d e : Int) : Sp := (xScaleS a b c 1000000000)
def s14 (c k a b d e : Int) : Sp := (divS (s13 c k a b d e).lo (s13 c k a b d e).hi (s7 c k a b d e).lo (s7 c k a b d e).hi)
def b0 (c k l m a b d e : Int) : Sp := (sqrS a b)
def b1 (c k l m a b d e : Int) : Sp := (xScaleS (b0 c k l m a b d e).lo (b0 c k l m a b d e).hi l 1000000000)
def b2 (c k l m a b d e : Int) : Sp := (sqrS d e)
def b3 (c k l m a b d e : Int) : Sp := (xScaleS (b2 c k l m a b d e).lo (b2 c k l m a b d e).hi c 1000000000)
def b4 (c k l m a b d e : Int) : Sp := (xScaleS (b1 c k l m a b d e).lo (b1 c k l m a b d e).hi l 1000000000)
def b5 (c k l m a b d e : Int) : Sp := (xScaleS (b3 c k l m a b d e).lo (b3 c k l m a b d e).hi c 1000000000)
def b6 (c k l m a b d e : Int) : Sp := (xScaleS (b4 c k l m a b d e).lo (b4 c k l m a b d e).hi (IntKind.i64.wrap (1000000 + m)) 1000000)
def b7 (c k l m a b d e : Int) : Sp := (xScaleS (b5 c k l m a b d e).lo (b5 c k l m a b d e).hi (IntKind.i64.wrap (1000000 + k)) 1000000)
def b8 (c k l m a b d e : Int) : Sp := (addS (b6 c k l m a b d e).lo (b6 c k l m a b d e).hi (b7 c k l m a b d e).lo (b7 c k l m a b d e).hi)
def b9 (c k l m a b d e : Int) : Sp := (subS 4294967296 4294967296 (b8 c k l m a b d e).lo (b8 c k l m a b d e).hi)
def b10 (c k l m a b d e : Int) : Sp := (sqrtS (b9 c k l m a b d e).lo (b9 c k l m a b d e).hi)
def b11 (c k l m a b d e : Int) : Sp := (addS (b1 c k l m a b d e).lo (b1 c k l m a b d e).hi (b3 c k l m a b d e).lo (b3 c k l m a b d e).hi)
def b12 (c k l m a b d e : Int) : Sp := (addS 4294967296 4294967296 (b10 c k l m a b d e).lo (b10 c k l m a b d e).hi)
def b13 (c k l m a b d e : Int) : Sp := (divS (b11 c k l m a b d e).lo (b11 c k l m a b d e).hi (b12 c k l m a b d e).lo (b12 c k l m a b d e).hi)
def b14 (c k l m a b d e : Int) : Sp := (xScaleS a b l 1000000000)
def b15 (c k l m a b d e : Int) : Sp := (xScaleS (b14 c k l m a b d e).lo (b14 c k l m a b d e).hi l 1000000000)
def b16 (c k l m a b d e : Int) : Sp := (xScaleS (b15 c k l m a b d e).lo (b15 c k l m a b d e).hi (IntKind.i64.wrap (1000000 + m)) 1000000)
def b17 (c k l m a b d e : Int) : Sp := (divS (b16 c k l m a b d e).lo (b16 c k l m a b d e).hi (b10 c k l m a b d e).lo (b10 c k l m a b d e).hi)
def b18 (c k l m a b d e : Int) : Sp := (xScaleS d e c 1000000000)
def b19 (c k l m a b d e : Int) : Sp := (xScaleS (b18 c k l m a b d e).lo (b18 c k l m a b d e).hi c 1000000000)
def b20 (c k l m a b d e : Int) : Sp := (xScaleS (b19 c k l m a b d e).lo (b19 c k l m a b d e).hi (IntKind.i64.wrap (1000000 + k)) 1000000)
def b21 (c k l m a b d e : Int) : Sp := (divS (b20 c k l m a b d e).lo (b20 c k l m a b d e).hi (b10 c k l m a b d e).lo (b10 c k l m a b d e).hi)
def b22 (c k l m a b d e : Int) : Sp := (mulS (b13 c k l m a b d e).lo (b13 c k l m a b d e).hi (b21 c k l m a b d e).lo (b21 c k l m a b d e).hi)
def b23 (c k l m a b d e : Int) : Sp := (xScaleS (b18 c k l m a b d e).lo (b18 c k l m a b d e).hi 2 1)
def b24 (c k l m a b d e : Int) : Sp := (addS (b23 c k l m a b d e).lo (b23 c k l m a b d e).hi (b22 c k l m a b d e).lo (b22 c k l m a b d e).hi)
def b25 (c k l m a b d e : Int) : Sp := (divS (b24 c k l m a b d e).lo (b24 c k l m a b d e).hi (b12 c k l m a b d e).lo (b12 c k l m a b d e).hi)
def b26 (c k l m a b d e : Int) : Sp := (mulS (b13 c k l m a b d e).lo (b13 c k l m a b d e).hi (b17 c k l m a b d e).lo (b17 c k l m a b d e).hi)
def b27 (c k l m a b d e : Int) : Sp := (xScaleS (b14 c k l m a b d e).lo (b14 c k l m a b d e).hi 2 1)
def b28 (c k l m a b d e : Int) : Sp := (addS (b27 c k l m a b d e).lo (b27 c k l m a b d e).hi (b26 c k l m a b d e).lo (b26 c k l m a b d e).hi)
def b29 (c k l m a b d e : Int) : Sp := (divS (b28 c k l m a b d e).lo (b28 c k l m a b d e).hi (b12 c k l m a b d e).lo (b12 c k l m a b d e).hi)
structure PsagSF (c k a b d e : Int) : Prop where
  h0 : okCK c k
  h1 : okSp a b = true
  h2 : okSp d e = true
  h3 : (s0 c k a b d e).e = 0
  h4 : (s1 c k a b d e).e = 0
  h5 : (s2 c k a b d e).e = 0
  h6 : (s3 c k a b d e).e = 0
  h7 : (s4 c k a b d e).e = 0
  h8 : (s5 c k a b d e).e = 0
  h9 : (s6 c k a b d e).e = 0
  h10 : decide ((s6 c k a b d e).lo ≤ 0) = true
structure PsagSG (c k a b d e : Int) : Prop where
  h0 : okCK c k
  h1 : okSp a b = true
  h2 : okSp d e = true
  h3 : (s0 c k a b d e).e = 0
  h4 : (s1 c k a b d e).e = 0
  h5 : (s2 c k a b d e).e = 0
  h6 : (s3 c k a b d e).e = 0
  h7 : (s4 c k a b d e).e = 0
  h8 : (s5 c k a b d e).e = 0
  h9 : (s6 c k a b d e).e = 0
  h10 : decide ((s6 c k a b d e).lo ≤ 0) = false
  h11 : (s7 c k a b d e).e = 0
  h12 : (s8 c k a b d e).e = 0
  h13 : (s9 c k a b d e).e = 0
  h14 : (s10 c k a b d e).e = 0
structure PsagBF (c k l m a b d e : Int) : Prop where
  h0 : okCK c k
  h1 : okCK l m
  h2 : okSp a b = true
  h3 : okSp d e = true
  h4 : (b0 c k l m a b d e).e = 0
  h5 : (b1 c k l m a b d e).e = 0
  h6 : (b2 c k l m a b d e).e = 0
  h7 : (b3 c k l m a b d e).e = 0
  h8 : (b4 c k l m a b d e).e = 0
  h9 : (b6 c k l m a b d e).e = 0
  h10 : (b5 c k l m a b d e).e = 0
  h11 : (b7 c k l m a b d e).e = 0
  h12 : (b8 c k l m a b d e).e = 0
  h13 : (b9 c k l m a b d e).e = 0
  h14 : decide ((b9 c k l m a b d e).lo ≤ 0) = true
structure PsagBG (c k l m a b d e : Int) : Prop where
  h0 : okCK c k
  h1 : okCK l m
  h2 : okSp a b = true
  h3 : okSp d e = true
  h4 : (b0 c k l m a b d e).e = 0
  h5 : (b1 c k l m a b d e).e = 0
  h6 : (b2 c k l m a b d e).e = 0
  h7 : (b3 c k l m a b d e).e = 0
  h8 : (b4 c k l m a b d e).e = 0
  h9 : (b6 c k l m a b d e).e = 0
  h10 : (b5 c k l m a b d e).e = 0
  h11 : (b7 c k l m a b d e).e = 0
  h12 : (b8 c k l m a b d e).e = 0
  h13 : (b9 c k l m a b d e).e = 0
  h14 : decide ((b9 c k l m a b d e).lo ≤ 0) = false
  h15 : (b10 c k l m a b d e).e = 0
  h16 : (b11 c k l m a b d e).e = 0
  h17 : (b12 c k l m a b d e).e = 0
  h18 : (b13 c k l m a b d e).e = 0
structure PslopeS (c k a b d e : Int) : Prop where
  h0 : okCK c k
  h1 : okSp a b = true
  h2 : okSp d e = true
  h3 : (s0 c k a b d e).e = 0
  h4 : (s1 c k a b d e).e = 0
  h5 : (s2 c k a b d e).e = 0
  h6 : (s3 c k a b d e).e = 0
  h7 : (s4 c k a b d e).e = 0
  h8 : (s5 c k a b d e).e = 0
  h9 : (s6 c k a b d e).e = 0
  h10 : decide ((s6 c k a b d e).lo ≤ 0) = false
  h11 : (s7 c k a b d e).e = 0
  h12 : (s8 c k a b d e).e = 0
  h13 : (s9 c k a b d e).e = 0
  h14 : (s10 c k a b d e).e = 0
  h15 : (s13 c k a b d e).e = 0
  h16 : (s14 c k a b d e).e = 0
  h17 : (s11 c k a b d e).e = 0
  h18 : (s12 c k a b d e).e = 0
structure PslopeB (c k l m a b d e : Int) : Prop where
  h0 : okCK c k
  h1 : okCK l m
  h2 : okSp a b = true
  h3 : okSp d e = true
  h4 : (b0 c k l m a b d e).e = 0
  h5 : (b1 c k l m a b d e).e = 0
  h6 : (b2 c k l m a b d e).e = 0
  h7 : (b3 c k l m a b d e).e = 0
  h8 : (b4 c k l m a b d e).e = 0
  h9 : (b6 c k l m a b d e).e = 0
  h10 : (b5 c k l m a b d e).e = 0
  h11 : (b7 c k l m a b d e).e = 0
  h12 : (b8 c k l m a b d e).e = 0
  h13 : (b9 c k l m a b d e).e = 0
  h14 : decide ((b9 c k l m a b d e).lo ≤ 0) = false
  h15 : (b10 c k l m a b d e).e = 0
  h16 : (b11 c k l m a b d e).e = 0
  h17 : (b12 c k l m a b d e).e = 0
  h18 : (b13 c k l m a b d e).e = 0
  h19 : (b14 c k l m a b d e).e = 0
  h20 : (b15 c k l m a b d e).e = 0
  h21 : (b16 c k l m a b d e).e = 0
  h22 : (b17 c k l m a b d e).e = 0
  h23 : (b27 c k l m a b d e).e = 0
  h24 : (b26 c k l m a b d e).e = 0
  h25 : (b28 c k l m a b d e).e = 0
  h26 : (b29 c k l m a b d e).e = 0
  h27 : (b18 c k l m a b d e).e = 0
  h28 : (b19 c k l m a b d e).e = 0
  h29 : (b20 c k l m a b d e).e = 0
  h30 : (b21 c k l m a b d e).e = 0
  h31 : (b23 c k l m a b d e).e = 0
  h32 : (b22 c k l m a b d e).e = 0
  h33 : (b24 c k l m a b d e).e = 0
  h34 : (b25 c k l m a b d e).e = 0
end Go.Rd
namespace Go.Rd
open Go Go.Eng Go.Ar
def cc (n : Int) : Int := IntKind.i64.wrap (1000 * IntKind.i64.wrap n)
def kk (n : Int) : Int := IntKind.i64.wrap (1000 * IntKind.i64.wrap (n.tmod 3000))
def pp (n : Int) : Int := IntKind.i64.wrap (IntKind.i64.wrap n * 16777216)
end Go.Rd
namespace Go.Rd
open Go Go.Eng Go.Ar
structure Bd (s : Sp) (M : Int) : Prop where
  e : s.e = 0
  lo : -M ≤ s.lo
  le : s.lo ≤ s.hi
  hi : s.hi ≤ M
structure En (s : Sp) (N D : Int) : Prop where
  lo : s.lo * D ≤ N
  hi : N ≤ s.hi * D
theorem rd_f {n d : Int} (hd : 0 < d) : rd n d false * d ≤ n ∧ n < rd n d false * d + d := by
  have h1 := Int.mul_ediv_add_emod n d
  have h2 := Int.emod_nonneg n (show d ≠ 0 by omega)
  have h3 := Int.emod_lt_of_pos n hd
  show n / d * d ≤ n ∧ n < n / d * d + d
  rw [Int.mul_comm] at h1
  omega
theorem rd_t {n d : Int} (hd : 0 < d) : n ≤ rd n d true * d ∧ rd n d true * d < n + d := by
  have := rd_f (n := -n) hd
  have e : rd n d true = -(rd (-n) d false) := rfl
  rw [e, Int.neg_mul]
  omega
theorem rd_le_of {n d M : Int} (hd : 0 < d) (h : n ≤ M * d) : rd n d true ≤ M := by
  have := (rd_t (n := n) hd).2
  rcases Int.lt_or_le M (rd n d true) with c | c
  · have : (M + 1) * d ≤ rd n d true * d := Int.mul_le_mul_of_nonneg_right (by omega) (by omega)
    rw [Int.add_mul] at this
    omega
  · exact c
theorem le_rd_of {n d M : Int} (hd : 0 < d) (h : M * d ≤ n) : M ≤ rd n d false := by
  have := (rd_f (n := n) hd).2
  rcases Int.lt_or_le (rd n d false) M with c | c
  · have : (rd n d false + 1) * d ≤ M * d := Int.mul_le_mul_of_nonneg_right (by omega) (by omega)
    rw [Int.add_mul] at this
    omega
  · exact c
theorem mul_bd {a n M L : Int} (h1 : -M ≤ a) (h2 : a ≤ M) (h3 : -L ≤ n) (h4 : n ≤ L) : -(M * L) ≤ a * n ∧ a * n ≤ M * L := by
  have k1 := Int.mul_nonneg (show 0 ≤ M - a by omega) (show 0 ≤ L - n by omega)
  have k2 := Int.mul_nonneg (show 0 ≤ M + a by omega) (show 0 ≤ L + n by omega)
  have k3 := Int.mul_nonneg (show 0 ≤ M - a by omega) (show 0 ≤ L + n by omega)
  have k4 := Int.mul_nonneg (show 0 ≤ M + a by omega) (show 0 ≤ L - n by omega)
  constructor <;> grind
theorem scale_op {s : Sp} {n d M L M' : Int} (h : Bd s M) (hM : M ≤ 4503599627370496) (hn : -L ≤ n ∧ n ≤ L) (hL : L ≤ 4611686018427387904) (hd : 1 ≤ d) (hd' : d ≤ 4611686018427387904) (hb : M * L ≤ M' * d) (hM' : M' ≤ 4503599627370496) (hbig : M * L < 18446744073709551615 * d) :
    Bd (xScaleS s.lo s.hi n d) M' ∧ (xScaleS s.lo s.hi n d).lo = rd (mn (s.lo * n) (s.hi * n)) d false ∧ (xScaleS s.lo s.hi n d).hi = rd (mx (s.lo * n) (s.hi * n)) d true := by
  obtain ⟨_, h1, h2, h3⟩ := h
  have ha := mul_bd (n := n) (L := L) h1 (show s.lo ≤ M by omega) hn.1 hn.2
  have hb' := mul_bd (n := n) (L := L) (show -M ≤ s.hi by omega) h3 hn.1 hn.2
  have hx : xScaleS s.lo s.hi n d = scaleS s.lo s.hi n d := xScaleS_eq _ _ _ _ fun _ _ => by
    have q : 0 ≤ abH s.lo s.hi ∧ abH s.lo s.hi ≤ M := by
      have := le_mx s.hi (-s.lo); unfold abH; omega
    have q' : 0 ≤ sg n n ∧ sg n n ≤ L := by
      unfold sg; cases hh : decide (n < 0) <;> simp at hh ⊢ <;> omega
    have := Int.mul_le_mul q.2 q'.2 q'.1 (by omega)
    omega
  have o1 : okSp s.lo s.hi = true := okSp_iff.2 (by omega)
  have o2 : okR n d = true := by simp [okR]; omega
  rw [hx]
  unfold scaleS
  rw [o1, o2, cond_true, cond_true]
  have m := mn_le (s.lo * n) (s.hi * n)
  have k := le_mx (s.lo * n) (s.hi * n)
  have l1 : -M' ≤ rd (mn (s.lo * n) (s.hi * n)) d false := le_rd_of (by omega) (by rw [Int.neg_mul]; omega)
  have l2 : rd (mx (s.lo * n) (s.hi * n)) d true ≤ M' := rd_le_of (by omega) (by omega)
  have l3 := rd_le (mn (s.lo * n) (s.hi * n)) d (by omega)
  have l4 := rd_lt_rd (n := mn (s.lo * n) (s.hi * n)) (m := mx (s.lo * n) (s.hi * n)) (d := d) (by omega) (by omega) true
  unfold toldS
  rw [okF_iff.2 (by omega), okF_iff.2 (by omega)]
  exact ⟨⟨rfl, l1, Int.le_trans l3 l4, l2⟩, rfl, rfl⟩
end Go.Rd
namespace Go.Rd
open Go Go.Eng Go.Ar
theorem le_of_sq {a b : Int} (hb : 0 ≤ b) (h : a * a ≤ b * b) : a ≤ b := by
  rcases Int.lt_or_le b a with c | c
  · have := Int.mul_le_mul (show b + 1 ≤ a by omega) (show b + 1 ≤ a by omega) (show 0 ≤ b + 1 by omega) (show 0 ≤ a by omega)
    rw [Int.add_mul, Int.mul_add] at this
    omega
  · exact c
theorem lt_of_sq {a b : Int} (hb : 0 ≤ b) (h : a * a < b * b) : a < b := by
  rcases Int.lt_or_le a b with c | c
  · exact c
  · have := Int.mul_le_mul c c hb (Int.le_trans hb c)
    omega
theorem rtV_t {a : Int} (h : sqOk a = true) : 0 ≤ rtV a true ∧ a * 4294967296 ≤ rtV a true * rtV a true ∧ (rtV a true = sqR a ∨ rtV a true = sqR a + 1 ∧ sqR a * sqR a < a * 4294967296) := by
  obtain ⟨q0, q1, q2, _⟩ := sqR_spec h
  unfold rtV
  cases hh : sqR a * sqR a == a * 4294967296 with
  | true =>
    have := of_decide_eq_true (show decide (sqR a * sqR a = a * 4294967296) = true from hh)
    exact ⟨q0, by show _ ≤ sqR a * sqR a; omega, .inl rfl⟩
  | false =>
    have := of_decide_eq_false (show decide (sqR a * sqR a = a * 4294967296) = false from hh)
    exact ⟨by show 0 ≤ sqR a + 1; omega, by show _ ≤ (sqR a + 1) * (sqR a + 1); omega, .inr ⟨rfl, by omega⟩⟩
end Go.Rd
namespace Go.Rd
open Go Go.Eng Go.Ar
theorem mn4 (p q r s : Int) : mn (mn (mn p q) r) s ≤ p ∧ mn (mn (mn p q) r) s ≤ q ∧ mn (mn (mn p q) r) s ≤ r ∧ mn (mn (mn p q) r) s ≤ s ∧ (∀ m, m ≤ p → m ≤ q → m ≤ r → m ≤ s → m ≤ mn (mn (mn p q) r) s) := by
  have h1 := mn_le p q
  have h2 := mn_le (mn p q) r
  have h3 := mn_le (mn (mn p q) r) s
  refine ⟨by omega, by omega, by omega, by omega, fun m _ _ _ _ => by omega⟩
theorem mx4 (p q r s : Int) : p ≤ mx (mx (mx p q) r) s ∧ q ≤ mx (mx (mx p q) r) s ∧ r ≤ mx (mx (mx p q) r) s ∧ s ≤ mx (mx (mx p q) r) s ∧ (∀ m, p ≤ m → q ≤ m → r ≤ m → s ≤ m → mx (mx (mx p q) r) s ≤ m) := by
  have h1 := le_mx p q
  have h2 := le_mx (mx p q) r
  have h3 := le_mx (mx (mx p q) r) s
  refine ⟨by omega, by omega, by omega, by omega, fun m _ _ _ _ => by omega⟩
end Go.Rd
namespace Go.Rd
open Go Go.Eng Go.Ar
structure Wi (s t : Sp) : Prop where
  lo : t.lo ≤ s.lo
  le : s.lo ≤ s.hi
  hi : s.hi ≤ t.hi
structure Ri (s : Sp) : Prop where
  lo : -4503599627370496 ≤ s.lo
  le : s.lo ≤ s.hi
  hi : s.hi ≤ 4503599627370496
theorem Ri.ok {s : Sp} (h : Ri s) : okSp s.lo s.hi = true := okSp_iff.2 ⟨h.lo, h.le, h.hi⟩
theorem Ri.of {s : Sp} (h : okSp s.lo s.hi = true) : Ri s := let k := okSp_iff.1 h; ⟨k.1, k.2.1, k.2.2⟩
theorem Wi.ri {s t : Sp} (w : Wi s t) (h : Ri t) : Ri s := ⟨Int.le_trans h.lo w.lo, w.le, Int.le_trans w.hi h.hi⟩
theorem Wi.refl {s : Sp} (h : s.lo ≤ s.hi) : Wi s s := ⟨Int.le_refl _, h, Int.le_refl _⟩
theorem told_ok {lo hi : Int} (h : (toldS lo hi).e = 0) : toldS lo hi = ⟨lo, hi, 0⟩ ∧ -4503599627370496 ≤ lo ∧ lo ≤ 4503599627370496 ∧ -4503599627370496 ≤ hi ∧ hi ≤ 4503599627370496 := by
  unfold toldS at h ⊢
  cases h1 : okF lo <;> cases h2 : okF hi <;> rw [h1, h2] at h
  · cases h
  · cases h
  · cases h
  · have := okF_iff.1 h1
    have := okF_iff.1 h2
    exact ⟨rfl, by omega, by omega, by omega, by omega⟩
theorem told_of {lo hi : Int} (h1 : -4503599627370496 ≤ lo) (h2 : lo ≤ 4503599627370496) (h3 : -4503599627370496 ≤ hi) (h4 : hi ≤ 4503599627370496) : toldS lo hi = ⟨lo, hi, 0⟩ := by
  unfold toldS
  rw [okF_iff.2 (by omega), okF_iff.2 (by omega)]
  rfl
theorem both_ok {a b c d : Int} {r : Sp} (h : (both a b c d r).e = 0) : okSp a b = true ∧ okSp c d = true ∧ both a b c d r = r := by
  unfold both at h ⊢
  cases h1 : okSp a b <;> cases h2 : okSp c d <;> rw [h1, h2] at h
  · cases h
  · cases h
  · cases h
  · exact ⟨rfl, rfl, rfl⟩
theorem both_of {a b c d : Int} {r : Sp} (h1 : okSp a b = true) (h2 : okSp c d = true) : both a b c d r = r := by
  unfold both
  rw [h1, h2]
  rfl
def Mo2 (F : Int → Int → Int → Int → Sp) : Prop := ∀ {s t s' t' : Sp}, Wi s' s → Wi t' t → (F s.lo s.hi t.lo t.hi).e = 0 → (F s'.lo s'.hi t'.lo t'.hi).e = 0 ∧ Wi (F s'.lo s'.hi t'.lo t'.hi) (F s.lo s.hi t.lo t.hi)
def Mo1 (F : Int → Int → Sp) : Prop := ∀ {s s' : Sp}, Wi s' s → (F s.lo s.hi).e = 0 → (F s'.lo s'.hi).e = 0 ∧ Wi (F s'.lo s'.hi) (F s.lo s.hi)
theorem add_mo : Mo2 addS := by
  intro s t s' t' w v h
  unfold addS at h ⊢
  obtain ⟨h1, h2, h3⟩ := both_ok h
  rw [h3] at h ⊢
  obtain ⟨h4, h5, h6, h7, h8⟩ := told_ok h
  have r := Ri.of h1
  have q := Ri.of h2
  rw [both_of (w.ri r).ok (v.ri q).ok]
  obtain ⟨w1, w2, w3⟩ := w
  obtain ⟨v1, v2, v3⟩ := v
  rw [h4, told_of (by omega) (by omega) (by omega) (by omega)]
  exact ⟨rfl, by show s.lo + t.lo ≤ s'.lo + t'.lo; omega, by show s'.lo + t'.lo ≤ s'.hi + t'.hi; omega, by show s'.hi + t'.hi ≤ s.hi + t.hi; omega⟩
theorem sub_mo : Mo2 subS := by
  intro s t s' t' w v h
  unfold subS at h ⊢
  obtain ⟨h1, h2, h3⟩ := both_ok h
  rw [h3] at h ⊢
  obtain ⟨h4, h5, h6, h7, h8⟩ := told_ok h
  have r := Ri.of h1
  have q := Ri.of h2
  rw [both_of (w.ri r).ok (v.ri q).ok]
  obtain ⟨w1, w2, w3⟩ := w
  obtain ⟨v1, v2, v3⟩ := v
  rw [h4, told_of (by omega) (by omega) (by omega) (by omega)]
  exact ⟨rfl, by show s.lo - t.hi ≤ s'.lo - t'.hi; omega, by show s'.lo - t'.hi ≤ s'.hi - t'.lo; omega, by show s'.hi - t'.lo ≤ s.hi - t.lo; omega⟩
theorem mid_le {a b x n M : Int} (h1 : a ≤ x) (h2 : x ≤ b) (u1 : a * n ≤ M) (u2 : b * n ≤ M) : x * n ≤ M := by
  rcases Int.lt_or_le n 0 with c | c
  · have := Int.mul_le_mul_of_nonpos_right h1 (Int.le_of_lt c); omega
  · have := Int.mul_le_mul_of_nonneg_right h2 c; omega
theorem mid_ge {a b x n M : Int} (h1 : a ≤ x) (h2 : x ≤ b) (u1 : M ≤ a * n) (u2 : M ≤ b * n) : M ≤ x * n := by
  rcases Int.lt_or_le n 0 with c | c
  · have := Int.mul_le_mul_of_nonpos_right h2 (Int.le_of_lt c); omega
  · have := Int.mul_le_mul_of_nonneg_right h1 c; omega
theorem box_le {a b c d x y M : Int} (h1 : a ≤ x) (h2 : x ≤ b) (k1 : c ≤ y) (k2 : y ≤ d) (u1 : a * c ≤ M) (u2 : a * d ≤ M) (u3 : b * c ≤ M) (u4 : b * d ≤ M) : x * y ≤ M := by
  have e1 : x * c ≤ M := mid_le h1 h2 u1 u3
  have e2 : x * d ≤ M := mid_le h1 h2 u2 u4
  rw [Int.mul_comm] at e1 e2 ⊢
  exact mid_le k1 k2 e1 e2
theorem box_ge {a b c d x y M : Int} (h1 : a ≤ x) (h2 : x ≤ b) (k1 : c ≤ y) (k2 : y ≤ d) (u1 : M ≤ a * c) (u2 : M ≤ a * d) (u3 : M ≤ b * c) (u4 : M ≤ b * d) : M ≤ x * y := by
  have e1 : M ≤ x * c := mid_ge h1 h2 u1 u3
  have e2 : M ≤ x * d := mid_ge h1 h2 u2 u4
  rw [Int.mul_comm] at e1 e2 ⊢
  exact mid_ge k1 k2 e1 e2
theorem hull_mo {F : Int → Int → Bool → Int} {a b c d a' b' c' d' : Int} (h : (hull4 F a b c d).e = 0) (hF : ∀ x y, (x = a' ∨ x = b') → (y = c' ∨ y = d') → F x y false ≤ F x y true)
    (h1 : ∀ m x y, (x = a' ∨ x = b') → (y = c' ∨ y = d') → m ≤ F a c false → m ≤ F a d false → m ≤ F b c false → m ≤ F b d false → m ≤ F x y false)
    (h2 : ∀ m x y, (x = a' ∨ x = b') → (y = c' ∨ y = d') → F a c true ≤ m → F a d true ≤ m → F b c true ≤ m → F b d true ≤ m → F x y true ≤ m) :
    (hull4 F a' b' c' d').e = 0 ∧ Wi (hull4 F a' b' c' d') (hull4 F a b c d) := by
  unfold hull4 at h ⊢
  obtain ⟨h4, h5, h6, h7, h8⟩ := told_ok h
  obtain ⟨m1, m2, m3, m4, _⟩ := mn4 (F a c false) (F a d false) (F b c false) (F b d false)
  obtain ⟨k1, k2, k3, k4, _⟩ := mx4 (F a c true) (F a d true) (F b c true) (F b d true)
  obtain ⟨i1, i2, i3, i4, i5⟩ := mn4 (F a' c' false) (F a' d' false) (F b' c' false) (F b' d' false)
  obtain ⟨j1, j2, j3, j4, j5⟩ := mx4 (F a' c' true) (F a' d' true) (F b' c' true) (F b' d' true)
  rw [h4]
  generalize mn (mn (mn (F a c false) (F a d false)) (F b c false)) (F b d false) = lo at *
  generalize mx (mx (mx (F a c true) (F a d true)) (F b c true)) (F b d true) = hi at *
  have l := i5 lo (h1 lo _ _ (.inl rfl) (.inl rfl) m1 m2 m3 m4) (h1 lo _ _ (.inl rfl) (.inr rfl) m1 m2 m3 m4) (h1 lo _ _ (.inr rfl) (.inl rfl) m1 m2 m3 m4) (h1 lo _ _ (.inr rfl) (.inr rfl) m1 m2 m3 m4)
  have u := j5 hi (h2 hi _ _ (.inl rfl) (.inl rfl) k1 k2 k3 k4) (h2 hi _ _ (.inl rfl) (.inr rfl) k1 k2 k3 k4) (h2 hi _ _ (.inr rfl) (.inl rfl) k1 k2 k3 k4) (h2 hi _ _ (.inr rfl) (.inr rfl) k1 k2 k3 k4)
  have f := hF _ _ (.inl rfl) (.inl rfl)
  generalize mn (mn (mn (F a' c' false) (F a' d' false)) (F b' c' false)) (F b' d' false) = lo' at *
  generalize mx (mx (mx (F a' c' true) (F a' d' true)) (F b' c' true)) (F b' d' true) = hi' at *
  rw [told_of (by omega) (by omega) (by omega) (by omega)]
  exact ⟨rfl, l, by show lo' ≤ hi'; omega, u⟩
theorem rd_ge_iff {n d m : Int} (hd : 0 < d) : m ≤ rd n d false ↔ m * d ≤ n := by
  constructor
  · intro h
    have := (rd_f (n := n) hd).1
    have := Int.mul_le_mul_of_nonneg_right h (Int.le_of_lt hd)
    omega
  · exact le_rd_of hd
theorem rd_le_iff {n d m : Int} (hd : 0 < d) : rd n d true ≤ m ↔ n ≤ m * d := by
  constructor
  · intro h
    have := (rd_t (n := n) hd).1
    have := Int.mul_le_mul_of_nonneg_right h (Int.le_of_lt hd)
    omega
  · exact rd_le_of hd
theorem Wi.at {s t : Sp} (w : Wi s t) {x : Int} (h : x = s.lo ∨ x = s.hi) : t.lo ≤ x ∧ x ≤ t.hi := by
  obtain ⟨w1, w2, w3⟩ := w
  omega
theorem mul_mo : Mo2 mulS := by
  intro s t s' t' w v h
  unfold mulS at h ⊢
  obtain ⟨h1, h2, h3⟩ := both_ok h
  rw [h3] at h ⊢
  rw [both_of (w.ri (Ri.of h1)).ok (v.ri (Ri.of h2)).ok]
  refine hull_mo h (fun x y _ _ => rd_le _ _ (by decide)) ?_ ?_
  · intro m x y hx hy u1 u2 u3 u4
    have a := w.at hx
    have b := v.at hy
    exact (rd_ge_iff (by decide)).2 (box_ge a.1 a.2 b.1 b.2 ((rd_ge_iff (by decide)).1 u1) ((rd_ge_iff (by decide)).1 u2) ((rd_ge_iff (by decide)).1 u3) ((rd_ge_iff (by decide)).1 u4))
  · intro m x y hx hy u1 u2 u3 u4
    have a := w.at hx
    have b := v.at hy
    exact (rd_le_iff (by decide)).2 (box_le a.1 a.2 b.1 b.2 ((rd_le_iff (by decide)).1 u1) ((rd_le_iff (by decide)).1 u2) ((rd_le_iff (by decide)).1 u3) ((rd_le_iff (by decide)).1 u4))
theorem dF_ge_p {x y m : Int} (hy : 0 < y) : m ≤ dF x y false ↔ m * y ≤ x * 4294967296 := by
  unfold dF sg
  rw [decide_eq_false (show ¬ y < 0 by omega)]
  exact rd_ge_iff hy
theorem dF_le_p {x y m : Int} (hy : 0 < y) : dF x y true ≤ m ↔ x * 4294967296 ≤ m * y := by
  unfold dF sg
  rw [decide_eq_false (show ¬ y < 0 by omega)]
  exact rd_le_iff hy
theorem dF_ge_n {x y m : Int} (hy : y < 0) : m ≤ dF x y false ↔ x * 4294967296 ≤ m * y := by
  unfold dF sg
  rw [decide_eq_true hy, cond_true, cond_true, rd_ge_iff (by omega), Int.mul_neg]
  omega
theorem dF_le_n {x y m : Int} (hy : y < 0) : dF x y true ≤ m ↔ m * y ≤ x * 4294967296 := by
  unfold dF sg
  rw [decide_eq_true hy, cond_true, cond_true, rd_le_iff (by omega), Int.mul_neg]
  omega
theorem dF_le {x y : Int} (hy : y ≠ 0) : dF x y false ≤ dF x y true := by
  unfold dF sg
  cases h : decide (y < 0) with
  | true => exact rd_le _ _ (by show 0 < -y; have := of_decide_eq_true h; omega)
  | false => exact rd_le _ _ (by show 0 < y; have := of_decide_eq_false h; omega)
theorem lin_ge {a b c d x y m : Int} (h1 : a ≤ x) (_h2 : x ≤ b) (k1 : c ≤ y) (k2 : y ≤ d) (u1 : m * c ≤ a * 4294967296) (u2 : m * d ≤ a * 4294967296) : m * y ≤ x * 4294967296 := by
  have : y * m ≤ a * 4294967296 := mid_le k1 k2 (by rw [Int.mul_comm]; exact u1) (by rw [Int.mul_comm]; exact u2)
  rw [Int.mul_comm] at this
  omega
theorem lin_le {a b c d x y m : Int} (_h1 : a ≤ x) (h2 : x ≤ b) (k1 : c ≤ y) (k2 : y ≤ d) (u1 : b * 4294967296 ≤ m * c) (u2 : b * 4294967296 ≤ m * d) : x * 4294967296 ≤ m * y := by
  have : b * 4294967296 ≤ y * m := mid_ge k1 k2 (by rw [Int.mul_comm c m]; exact u1) (by rw [Int.mul_comm d m]; exact u2)
  rw [Int.mul_comm y m] at this
  omega
theorem div_ok {a b c d : Int} (h : (divS a b c d).e = 0) : okSp a b = true ∧ okSp c d = true ∧ (0 < c ∨ d < 0) ∧ divS a b c d = hull4 dF a b c d := by
  unfold divS at h ⊢
  obtain ⟨h1, h2, h3⟩ := both_ok h
  rw [h3] at h ⊢
  cases h4 : decide (c ≤ 0) <;> cases h5 : decide (0 ≤ d) <;> rw [h4, h5] at h
  · have := of_decide_eq_false h4; exact ⟨h1, h2, .inl (by omega), rfl⟩
  · have := of_decide_eq_false h4; exact ⟨h1, h2, .inl (by omega), rfl⟩
  · have := of_decide_eq_false h5; exact ⟨h1, h2, .inr (by omega), rfl⟩
  · cases h
theorem div_of {a b c d : Int} (h1 : okSp a b = true) (h2 : okSp c d = true) (h3 : 0 < c ∨ d < 0) : divS a b c d = hull4 dF a b c d := by
  unfold divS
  rw [both_of h1 h2]
  rcases h3 with h | h
  · rw [decide_eq_false (show ¬ c ≤ 0 by omega)]; rfl
  · rw [decide_eq_false (show ¬ 0 ≤ d by omega), Bool.and_false]; rfl
theorem div_mo : Mo2 divS := by
  intro s t s' t' w v h
  obtain ⟨h1, h2, h3, h4⟩ := div_ok h
  rw [h4] at h ⊢
  obtain ⟨v1, v2, v3⟩ := id v
  rw [div_of (w.ri (Ri.of h1)).ok (v.ri (Ri.of h2)).ok (by omega)]
  rcases h3 with h3 | h3
  · refine hull_mo h (fun x y _ hy => dF_le (by have := v.at hy; omega)) ?_ ?_
    · intro m x y hx hy u1 u2 u3 u4
      have a := w.at hx
      have b := v.at hy
      exact (dF_ge_p (by omega)).2 (lin_ge a.1 a.2 b.1 b.2 ((dF_ge_p (by omega)).1 u1) ((dF_ge_p (by omega)).1 u2))
    · intro m x y hx hy u1 u2 u3 u4
      have a := w.at hx
      have b := v.at hy
      exact (dF_le_p (by omega)).2 (lin_le a.1 a.2 b.1 b.2 ((dF_le_p (by omega)).1 u3) ((dF_le_p (by omega)).1 u4))
  · refine hull_mo h (fun x y _ hy => dF_le (by have := v.at hy; omega)) ?_ ?_
    · intro m x y hx hy u1 u2 u3 u4
      have a := w.at hx
      have b := v.at hy
      exact (dF_ge_n (by omega)).2 (lin_le a.1 a.2 b.1 b.2 ((dF_ge_n (by omega)).1 u3) ((dF_ge_n (by omega)).1 u4))
    · intro m x y hx hy u1 u2 u3 u4
      have a := w.at hx
      have b := v.at hy
      exact (dF_le_n (by omega)).2 (lin_ge a.1 a.2 b.1 b.2 ((dF_le_n (by omega)).1 u1) ((dF_le_n (by omega)).1 u2))
theorem abs_mo {s s' : Sp} (w : Wi s' s) : abL s.lo s.hi ≤ abL s'.lo s'.hi ∧ abH s'.lo s'.hi ≤ abH s.lo s.hi ∧ 0 ≤ abL s.lo s.hi ∧ abL s'.lo s'.hi ≤ abH s'.lo s'.hi := by
  obtain ⟨w1, w2, w3⟩ := w
  unfold abL abH
  have := le_mx s.lo (-s.hi)
  have := le_mx (mx s.lo (-s.hi)) 0
  have := le_mx s'.lo (-s'.hi)
  have := le_mx (mx s'.lo (-s'.hi)) 0
  have := le_mx s.hi (-s.lo)
  have := le_mx s'.hi (-s'.lo)
  omega
theorem sq_le {a b : Int} (h : 0 ≤ a) (k : a ≤ b) : a * a ≤ b * b := Int.mul_le_mul k k h (Int.le_trans h k)
theorem sqr_mo : Mo1 sqrS := by
  intro s s' w h
  unfold sqrS at h ⊢
  cases h1 : okSp s.lo s.hi <;> rw [h1] at h
  · cases h
  · rw [(w.ri (Ri.of h1)).ok]
    rw [cond_true] at h ⊢
    rw [cond_true]
    obtain ⟨h4, h5, h6, h7, h8⟩ := told_ok h
    obtain ⟨p1, p2, p3, p4⟩ := abs_mo w
    rw [h4]
    have l := rd_lt_rd (d := 4294967296) (by decide) (sq_le p3 p1) false
    have u := rd_lt_rd (d := 4294967296) (by decide) (sq_le (Int.le_trans (Int.le_trans p3 p1) p4) p2) true
    have m := Int.le_trans (rd_lt_rd (d := 4294967296) (by decide) (sq_le (Int.le_trans p3 p1) p4) false) (rd_le (abH s'.lo s'.hi * abH s'.lo s'.hi) 4294967296 (by decide))
    generalize rd (abL s.lo s.hi * abL s.lo s.hi) 4294967296 false = lo at *
    generalize rd (abH s.lo s.hi * abH s.lo s.hi) 4294967296 true = hi at *
    generalize rd (abL s'.lo s'.hi * abL s'.lo s'.hi) 4294967296 false = lo' at *
    generalize rd (abH s'.lo s'.hi * abH s'.lo s'.hi) 4294967296 true = hi' at *
    rw [told_of (by omega) (by omega) (by omega) (by omega)]
    exact ⟨rfl, l, m, u⟩
theorem sqR_mono {a b : Int} (ha : sqOk a = true) (hb : sqOk b = true) (h : a ≤ b) : sqR a ≤ sqR b := by
  obtain ⟨u0, u1, u2, _⟩ := sqR_spec ha
  obtain ⟨v0, v1, v2, _⟩ := sqR_spec hb
  have := lt_of_sq (a := sqR a) (b := sqR b + 1) (by omega) (by omega)
  omega
theorem rtT_mono {a b : Int} (ha : sqOk a = true) (hb : sqOk b = true) (h : a ≤ b) : rtV a true ≤ rtV b true := by
  obtain ⟨u0, u1, u2⟩ := rtV_t ha
  obtain ⟨v0, v1, v2⟩ := rtV_t hb
  rcases u2 with u2 | ⟨u2, u3⟩
  · obtain ⟨q0, q1, _, _⟩ := sqR_spec ha
    rw [u2]
    exact le_of_sq v0 (by omega)
  · have := lt_of_sq (a := sqR a) (b := rtV b true) v0 (by omega)
    omega
theorem sqrt_mo : Mo1 sqrtS := by
  intro s s' w h
  unfold sqrtS at h ⊢
  cases h1 : okSp s.lo s.hi <;> rw [h1] at h
  · cases h
  · have r := Ri.of h1
    have r' := w.ri r
    rw [r'.ok]
    rw [cond_true] at h ⊢
    rw [cond_true]
    obtain ⟨w1, w2, w3⟩ := w
    obtain ⟨r1, r2, r3⟩ := r
    cases h2 : decide (s.lo < 0) <;> rw [h2] at h
    · have := of_decide_eq_false h2
      rw [decide_eq_false (show ¬ s'.lo < 0 by omega)]
      have k1 : sqOk s.lo = true := by unfold sqOk; rw [okF_iff.2 (by omega)]; simpa using (show 0 ≤ s.lo by omega)
      have k2 : sqOk s.hi = true := by unfold sqOk; rw [okF_iff.2 (by omega)]; simpa using (show 0 ≤ s.hi by omega)
      have k3 : sqOk s'.lo = true := by unfold sqOk; rw [okF_iff.2 (by omega)]; simpa using (show 0 ≤ s'.lo by omega)
      have k4 : sqOk s'.hi = true := by unfold sqOk; rw [okF_iff.2 (by omega)]; simpa using (show 0 ≤ s'.hi by omega)
      obtain ⟨a0, a1, a2⟩ := rtV_t k4
      obtain ⟨b0, b1, _, _⟩ := sqR_spec k3
      exact ⟨rfl, sqR_mono k1 k3 w1, show sqR s'.lo ≤ rtV s'.hi true from le_of_sq a0 (by omega), rtT_mono k4 k2 w3⟩
    · cases h
theorem scale_mo (n d : Int) : Mo1 fun a b => scaleS a b n d := by
  intro s s' w h
  show (scaleS s'.lo s'.hi n d).e = 0 ∧ Wi (scaleS s'.lo s'.hi n d) (scaleS s.lo s.hi n d)
  have h : (scaleS s.lo s.hi n d).e = 0 := h
  unfold scaleS at h ⊢
  cases h1 : okSp s.lo s.hi <;> rw [h1] at h
  · cases h
  · rw [(w.ri (Ri.of h1)).ok]
    rw [cond_true] at h ⊢
    rw [cond_true]
    cases h2 : okR n d <;> rw [h2] at h
    · cases h
    · rw [cond_true] at h ⊢
      rw [cond_true]
      have hd : 0 < d := by
        unfold okR at h2
        simp only [Bool.and_eq_true, decide_eq_true_eq] at h2
        omega
      obtain ⟨h4, h5, h6, h7, h8⟩ := told_ok h
      have m1 := mn_le (s.lo * n) (s.hi * n)
      have m2 := mn_le (s'.lo * n) (s'.hi * n)
      have m3 := le_mx (s.lo * n) (s.hi * n)
      have m4 := le_mx (s'.lo * n) (s'.hi * n)
      obtain ⟨w1, w2, w3⟩ := w
      have c1 := mid_ge w1 (Int.le_trans w2 w3) m1.1 m1.2.1
      have c2 := mid_ge (Int.le_trans w1 w2) w3 m1.1 m1.2.1
      have c3 := mid_le w1 (Int.le_trans w2 w3) m3.1 m3.2.1
      have c4 := mid_le (Int.le_trans w1 w2) w3 m3.1 m3.2.1
      rw [h4]
      have l := rd_lt_rd hd (show mn (s.lo * n) (s.hi * n) ≤ mn (s'.lo * n) (s'.hi * n) by omega) false
      have u := rd_lt_rd hd (show mx (s'.lo * n) (s'.hi * n) ≤ mx (s.lo * n) (s.hi * n) by omega) true
      have m := Int.le_trans (rd_lt_rd hd (show mn (s'.lo * n) (s'.hi * n) ≤ mx (s'.lo * n) (s'.hi * n) by omega) false) (rd_le (mx (s'.lo * n) (s'.hi * n)) d hd)
      generalize rd (mn (s.lo * n) (s.hi * n)) d false = lo at *
      generalize rd (mx (s.lo * n) (s.hi * n)) d true = hi at *
      generalize rd (mn (s'.lo * n) (s'.hi * n)) d false = lo' at *
      generalize rd (mx (s'.lo * n) (s'.hi * n)) d true = hi' at *
      rw [told_of (by omega) (by omega) (by omega) (by omega)]
      exact ⟨rfl, l, m, u⟩
end Go.Rd
namespace Go.Rd
open Go Go.Eng Go.Ar
def ng (s : Sp) : Sp := ⟨-s.hi, -s.lo, s.e⟩
theorem okSp_ng (a b : Int) : okSp (-b) (-a) = okSp a b := by
  rw [Bool.eq_iff_iff, okSp_iff, okSp_iff]; omega
theorem okF_ng (a : Int) : okF (-a) = okF a := by
  rw [Bool.eq_iff_iff, okF_iff, okF_iff]; omega
theorem told_ng (a b : Int) : toldS (-b) (-a) = ng (toldS a b) := by
  unfold toldS
  rw [okF_ng, okF_ng, Bool.and_comm]
  cases okF a && okF b <;> rfl
theorem both_ng {a b c d a' b' c' d' : Int} {r r' : Sp} (h1 : okSp a' b' = okSp a b) (h2 : okSp c' d' = okSp c d) (h : r' = ng r) : both a' b' c' d' r' = ng (both a b c d r) := by
  unfold both
  rw [h1, h2, h]
  cases okSp a b && okSp c d <;> rfl
theorem add_ng (a b c d : Int) : addS (-b) (-a) (-d) (-c) = ng (addS a b c d) := by
  unfold addS
  refine both_ng (okSp_ng _ _) (okSp_ng _ _) ?_
  rw [← told_ng]
  congr 1 <;> omega
theorem mn_eq (a b : Int) : mn a b = if b < a then b else a := by
  unfold mn; by_cases h : b < a
  · rw [decide_eq_true h, if_pos h]; rfl
  · rw [decide_eq_false h, if_neg h]; rfl
theorem mx_eq (a b : Int) : mx a b = if a < b then b else a := by
  unfold mx; by_cases h : a < b
  · rw [decide_eq_true h, if_pos h]; rfl
  · rw [decide_eq_false h, if_neg h]; rfl
theorem mn_ng (a b : Int) : mn (-b) (-a) = -mx a b := by
  rw [mn_eq, mx_eq]; split <;> split <;> omega
theorem mx_ng (a b : Int) : mx (-b) (-a) = -mn a b := by
  rw [mn_eq, mx_eq]; split <;> split <;> omega
theorem sqr_ng (a b : Int) : sqrS (-b) (-a) = sqrS a b := by
  unfold sqrS
  have h1 : abL (-b) (-a) = abL a b := by unfold abL; rw [mx_eq, mx_eq, mx_eq, mx_eq]; repeat' split
                                          all_goals omega
  have h2 : abH (-b) (-a) = abH a b := by unfold abH; rw [mx_eq, mx_eq]; repeat' split
                                          all_goals omega
  rw [h1, h2, okSp_ng]
theorem rd_ng (n d : Int) (up : Bool) : rd (-n) d up = -rd n d !up := by
  unfold rd
  cases up
  · show -n / d = - - (-n / d); omega
  · show -(- -n / d) = -(n / d); rw [Int.neg_neg]
theorem scale_ng (a b n d : Int) : scaleS (-b) (-a) n d = ng (scaleS a b n d) := by
  unfold scaleS
  rw [okSp_ng, Int.neg_mul, Int.neg_mul, mn_ng, mx_ng, rd_ng, rd_ng, told_ng]
  cases okSp a b
  · rfl
  · cases okR n d <;> rfl
theorem hull_ng {F G : Int → Int → Bool → Int} {a b c d a' b' c' d' : Int} (h : ∀ up, (G a' c' up = -F b c (!up) ∧ G a' d' up = -F b d (!up) ∧ G b' c' up = -F a c (!up) ∧ G b' d' up = -F a d (!up)) ∨ (G a' c' up = -F a d (!up) ∧ G a' d' up = -F a c (!up) ∧ G b' c' up = -F b d (!up) ∧ G b' d' up = -F b c (!up))) :
    hull4 G a' b' c' d' = ng (hull4 F a b c d) := by
  unfold hull4
  rw [← told_ng]
  have h0 := h false
  have h1 := h true
  simp only [Bool.not_false, Bool.not_true] at h0 h1
  obtain ⟨m1, m2, m3, m4, m5⟩ := mn4 (F a c false) (F a d false) (F b c false) (F b d false)
  obtain ⟨k1, k2, k3, k4, k5⟩ := mx4 (F a c true) (F a d true) (F b c true) (F b d true)
  obtain ⟨i1, i2, i3, i4, i5⟩ := mn4 (G a' c' false) (G a' d' false) (G b' c' false) (G b' d' false)
  obtain ⟨j1, j2, j3, j4, j5⟩ := mx4 (G a' c' true) (G a' d' true) (G b' c' true) (G b' d' true)
  congr 1
  · have := i5 (-mx (mx (mx (F a c true) (F a d true)) (F b c true)) (F b d true)) (by omega) (by omega) (by omega) (by omega)
    have := k5 (-mn (mn (mn (G a' c' false) (G a' d' false)) (G b' c' false)) (G b' d' false)) (by omega) (by omega) (by omega) (by omega)
    omega
  · have := j5 (-mn (mn (mn (F a c false) (F a d false)) (F b c false)) (F b d false)) (by omega) (by omega) (by omega) (by omega)
    have := m5 (-mx (mx (mx (G a' c' true) (G a' d' true)) (G b' c' true)) (G b' d' true)) (by omega) (by omega) (by omega) (by omega)
    omega
theorem mF_ng (x y : Int) (up : Bool) : mF (-x) y up = -mF x y (!up) := by
  unfold mF; rw [Int.neg_mul, rd_ng]
theorem mF_ng' (x y : Int) (up : Bool) : mF x (-y) up = -mF x y (!up) := by
  unfold mF; rw [Int.mul_neg, rd_ng]
theorem dF_ng (x y : Int) (up : Bool) : dF (-x) y up = -dF x y (!up) := by
  unfold dF
  rw [← rd_ng]
  congr 1
  unfold sg
  rw [Int.neg_mul]
  cases decide (y < 0)
  · rfl
  · rfl
theorem mul_ng (a b c d : Int) : mulS (-b) (-a) c d = ng (mulS a b c d) := by
  unfold mulS
  refine both_ng (okSp_ng _ _) rfl (hull_ng fun up => .inl ⟨?_, ?_, ?_, ?_⟩) <;> exact mF_ng _ _ _
theorem mul_ng' (a b c d : Int) : mulS a b (-d) (-c) = ng (mulS a b c d) := by
  unfold mulS
  refine both_ng rfl (okSp_ng _ _) (hull_ng fun up => .inr ⟨?_, ?_, ?_, ?_⟩) <;> exact mF_ng' _ _ _
theorem div_ng (a b c d : Int) : divS (-b) (-a) c d = ng (divS a b c d) := by
  unfold divS
  refine both_ng (okSp_ng _ _) rfl ?_
  cases decide (c ≤ 0) && decide (0 ≤ d)
  · exact hull_ng fun up => .inl ⟨dF_ng _ _ _, dF_ng _ _ _, dF_ng _ _ _, dF_ng _ _ _⟩
  · rfl
end Go.Rd
