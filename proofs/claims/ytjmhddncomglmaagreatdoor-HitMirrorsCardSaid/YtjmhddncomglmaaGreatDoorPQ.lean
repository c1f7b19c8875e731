/- What is proved: a law of hits returns true, whatever the input (part 17). No conditions beyond those of the row. -/
import Derived.Test.YtjmhddncomglmaaGreatDoorPF
import Derived.Test.YtjmhddncomglmaaGreatDoorPH
import Derived.Test.YtjmhddncomglmaaGreatDoorPM
import Derived.Test.YtjmhddncomglmaaGreatDoorPN
import Derived.Test.YtjmhddncomglmaaGreatDoorPP
set_option linter.unusedVariables false
set_option linter.unusedSimpArgs false
set_option linter.unusedSectionVars false
namespace Go.Ht
open Go Go.Eng Go.Ar Go.Rd Go.Vc
section
variable (F : HF) (S : Su) (ys : List Int) (Q w : Ve)
theorem orA (b p q : Bool) : (b || (p && q)) = bif b then true else bif p then q else false := by cases b <;> cases p <;> rfl
theorem round_eq (t : Iv) (b : Bool) : roundP F S ys Q w t b = bif gd F S ys Q w t then some (nx F S ys Q w t, bif b then true else ct F S ys Q w t) else none := by
 unfold roundP gd te nx ct tc mS
 rcases near_tri F S ys Q w t with ⟨h1, _⟩ | ⟨h1, _⟩ | ⟨h1, _⟩
 .rw [h1]
  simp only [tryC, tryI, bne_self_eq_false, Bool.not_false, Bool.true_and]
  rw [bne, Bool.not_not, orA]
  cases (F.mt (nR F S ys Q w t).lo (nR F S ys Q w t).hi t.lo t.hi).e == 0
  .rfl
  .rfl
 .rw [h1]; rfl
 .rw [h1]; rfl
theorem rounds_eq : ∀ (n : Nat) (t : Iv) (b : Bool), roundsP F S ys Q w (n + 1) t b = bif gds F S ys Q w n t then some (fin F S ys Q w (n + 1) t, cts F S ys Q w n (bif b then true else ct F S ys Q w t) (nx F S ys Q w t)) else none
 | 0, t, b => by
  simp only [roundsP, round_eq, gds, fin, cts]
  cases gd F S ys Q w t <;> rfl
 | n + 1, t, b => by
  rw [roundsP, round_eq]
  rw [gds]
  cases gd F S ys Q w t with
  | false => rfl
  | true =>
   simp only [cond_true, Bool.true_and]
   rw [rounds_eq n]
   rfl
theorem bR_eq (t : Iv) : bR F S ys Q w t = !gd F S ys Q w t := by
 unfold bR gd
 cases tc F S ys Q w t <;> cases te F S ys Q w t <;> rfl
theorem bds_eq : ∀ (n : Nat) (t : Iv), bds F S ys Q w n t = !gds F S ys Q w n t
 | 0, t => bR_eq F S ys Q w t
 | n + 1, t => by
  rw [bds, gds, bds_eq n, bR_eq]
  cases gd F S ys Q w t <;> cases gds F S ys Q w n (nx F S ys Q w t) <;> rfl
variable (b : Iv)
theorem wNo_eq (n : Int) : wNo F S ys Q w b n = !wOk' F S ys Q w b n := by
 unfold wNo wOk'
 rw [bds_eq]
 cases wE F b n <;> cases gds F S ys Q w 7 (wT F b n) <;> cases crt F S ys Q w (wT F b n) <;> rfl
theorem wide_eq (n : Int) : wide F S ys Q w b n = bif wOk' F S ys Q w b n then some (wF F S ys Q w b n) else none := by
 unfold wide wOk'
 have h : ((F.ad b.lo b.hi (-n) n).e == 0) = !wE F b n := by unfold wE wA; rw [bne, Bool.not_not]
 rw [h, rounds_eq F S ys Q w 7]
 cases wE F b n with
 | true => rfl
 | false =>
  show (match bif gds F S ys Q w 7 (wT F b n) then some (wF F S ys Q w b n, crt F S ys Q w (wT F b n)) else none with | some (t, true) => some t | _ => none) = _
  cases gds F S ys Q w 7 (wT F b n) with
  | false => rfl
  | true => cases crt F S ys Q w (wT F b n) <;> rfl
theorem widths_all : (allOk F S ys Q w b = true /\ allNo F S ys Q w b = false /\ widths F S ys Q w b [1048576, 67108864, 2147483648, 34359738368] = .ok ⟨tLo F S ys Q w b, tHi F S ys Q w b⟩) ∨ (allOk F S ys Q w b = false /\ allNo F S ys Q w b = true /\ widths F S ys Q w b [1048576, 67108864, 2147483648, 34359738368] = .error 2) := by
 simp only [widths, wide_eq]
 unfold allOk allNo tLo tHi
 simp only [wNo_eq]
 cases wOk' F S ys Q w b 1048576
 .cases wOk' F S ys Q w b 67108864
  .cases wOk' F S ys Q w b 2147483648
   .cases wOk' F S ys Q w b 34359738368
    .exact .inr ⟨rfl, rfl, rfl⟩
    .exact .inl ⟨rfl, rfl, rfl⟩
   .exact .inl ⟨rfl, rfl, rfl⟩
  .exact .inl ⟨rfl, rfl, rfl⟩
 .exact .inl ⟨rfl, rfl, rfl⟩
def behind (l : Iv) (r : Except Int Iv) : HO := match (do
  let t <- r
  let at' <- toP F Q w t
  let b <- add F l t
  return (at', b)) with
 | .ok (a, t) => ⟨a, t, 0, 0⟩
 | .error c => ⟨ve0, ⟨0, 0⟩, c, 9⟩
def hoV (o : HO) : AV := .tuple [.agg o.at'.cells, .agg [.int true .i64 o.way.lo, .int true .i64 o.way.hi], .int true .i64 o.c, .int true .i64 o.e]
theorem end_tri (l : Sp) (x y : Int) : (behind F Q w ⟨l.lo, l.hi⟩ (.ok ⟨x, y⟩) = ⟨⟨(p2 F Q w x y).lo, (p2 F Q w x y).hi, (p4 F Q w x y).lo, (p4 F Q w x y).hi, (p5 F Q w x y).lo, (p5 F Q w x y).hi⟩, ⟨(aW F l x y).lo, (aW F l x y).hi⟩, 0, 0⟩ /\ tb F Q w q2 l x y = false /\ tb F Q w q6 l x y = false /\ (ptOk F Q w x y && ok0 (aW F l x y)) = true) ∨
  (behind F Q w ⟨l.lo, l.hi⟩ (.ok ⟨x, y⟩) = ⟨ve0, ⟨0, 0⟩, 2, 9⟩ /\ tb F Q w q2 l x y = true /\ tb F Q w q6 l x y = false /\ (ptOk F Q w x y && ok0 (aW F l x y)) = false) ∨ (behind F Q w ⟨l.lo, l.hi⟩ (.ok ⟨x, y⟩) = ⟨ve0, ⟨0, 0⟩, 5, 9⟩ /\ tb F Q w q2 l x y = false /\ tb F Q w q6 l x y = true /\ (ptOk F Q w x y && ok0 (aW F l x y)) = false) := by
 unfold behind tb
 simp only [add, bind, Except.bind, pure, Except.pure]
 rcases tri_to F Q w x y with ⟨a1, a2, a3, a4⟩ | ⟨a1, a2, a3, a4⟩ | ⟨a1, a2, a3, a4⟩
 .rw [a1]; simp only []
  rcases tri_op (aW F l x y) with ⟨v, b1, rfl, b2, b3, b4⟩ | ⟨b1, b2, b3, b4⟩ | ⟨b1, b2, b3, b4⟩ <;>
  .rw [show op (F.ad l.lo l.hi x y) = _ from b1]; simp [a2, a3, a4, b2, b3, b4]
 all_goals (rw [a1]; simp [a2, a3, a4])
theorem cAns_eq (l : Sp) : cAns F S ys Q w b l = hoV (behind F Q w ⟨l.lo, l.hi⟩ (widths F S ys Q w b [1048576, 67108864, 2147483648, 34359738368])) := by
 unfold cAns
 rcases widths_all F S ys Q w b with ⟨h1, h2, h3⟩ | ⟨h1, h2, h3⟩
 .rw [h3]
  have hb2 : cB2 F S ys Q w b l = tb F Q w q2 l (tLo F S ys Q w b) (tHi F S ys Q w b) := by unfold cB2; rw [h1, h2]; rfl
  have hb5 : cB5 F S ys Q w b l = tb F Q w q6 l (tLo F S ys Q w b) (tHi F S ys Q w b) := by unfold cB5; rw [h1]; rfl
  rw [hb2, hb5]
  rcases end_tri F Q w l (tLo F S ys Q w b) (tHi F S ys Q w b) with ⟨e1, e2, e3, _⟩ | ⟨e1, e2, e3, _⟩ | ⟨e1, e2, e3, _⟩ <;>
  .rw [e1, e2, e3]; rfl
 .rw [h3]
  have hb2 : cB2 F S ys Q w b l = true := by unfold cB2; rw [h2]; rfl
  rw [hb2]; rfl
end
section
variable (F : HF) (Q w : Ve) (c k : Int) (l : Sp)
theorem fAns_eq : fAns F Q w c k l = hoV (behind F Q w ⟨l.lo, l.hi⟩ (conicP F Q w c k)) := by
 unfold fAns
 rcases conic_tri F Q w c k with ⟨h1, h2, h3, h4, h5⟩ | ⟨h1, h2, h3, h4, h5⟩ | ⟨h1, h2, h3, h4, h5⟩ | ⟨h1, h2, h3, h4, h5⟩
 .rw [h1]
  have hb5 : fB5 F Q w c k l = tb F Q w q6 l (cT F Q w c k).lo (cT F Q w c k).hi := by unfold fB5; rw [h4, h5, Bool.or_false, Bool.true_and]
  have hb2 : fB2 F Q w c k l = tb F Q w q2 l (cT F Q w c k).lo (cT F Q w c k).hi := by unfold fB2; rw [h3, h4, Bool.false_or, Bool.true_and]
  have hok : fOk F Q w c k l = (ptOk F Q w (cT F Q w c k).lo (cT F Q w c k).hi && ok0 (aW F l (cT F Q w c k).lo (cT F Q w c k).hi)) := by unfold fOk; rw [h4, Bool.true_and]
  rw [hb5, hb2, hok]
  rcases end_tri F Q w l (cT F Q w c k).lo (cT F Q w c k).hi with ⟨e1, e2, e3, e4⟩ | ⟨e1, e2, e3, e4⟩ | ⟨e1, e2, e3, e4⟩ <;>
  .rw [e1, e2, e3, e4]; rfl
 .have hb5 : fB5 F Q w c k l = false := by unfold fB5; rw [h4, h5]; rfl
  have hb2 : fB2 F Q w c k l = false := by unfold fB2; rw [h3, h4]; rfl
  have hok : fOk F Q w c k l = false := by unfold fOk; rw [h4]; rfl
  rw [h1, hb5, hb2, hok]; rfl
 .have hb5 : fB5 F Q w c k l = false := by unfold fB5; rw [h4, h5]; rfl
  have hb2 : fB2 F Q w c k l = true := by unfold fB2; rw [h3]; rfl
  rw [h1, hb5, hb2]; rfl
 .have hb5 : fB5 F Q w c k l = true := by unfold fB5; rw [h4, h5]; rfl
  rw [h1, hb5]; rfl
end
end Go.Ht
namespace Go.Ht
open Go Go.Eng Go.Ar Go.Rd Go.Vc
theorem hf0_e : (∀ a b, inE (hf0.ng a b).e) /\ (∀ a b c d, inE (hf0.di a b c d).e) /\ (∀ a b c d, inE (hf0.mu a b c d).e) /\ (∀ a b c d, inE (hf0.ad a b c d).e) := ⟨neg_in, div_in, mul_in, add_in⟩
section
variable {s : Su} {ys : List Int} {p w : Ve}
theorem ans_bad (h : rightS s ys = false) : hitA hf0 s ys p w = ⟨ve0, ⟨0, 0⟩, 0, 110⟩ := by
 have : hf0.ck s ys = 110 := by show (bif rightS s ys then _ else _) = _; rw [h]; rfl
 unfold hitA
 rw [this]; rfl
theorem rc_two (F : HF) (p w : Ve) : rcE F p w = 0 /\ (F.vc p == 0 && F.vc w == 0) = true ∨ rcE F p w = 240 /\ (F.vc p == 0 && F.vc w == 0) = false := by
 unfold rcE
 rw [bne, bne, Bool.not_not, Bool.not_not]
 cases F.vc p == 0 <;> cases F.vc w == 0
 .exact .inr ⟨rfl, rfl⟩
 .exact .inr ⟨rfl, rfl⟩
 .exact .inr ⟨rfl, rfl⟩
 .exact .inl ⟨rfl, rfl⟩
theorem ck_ok (h : rightS s ys = true) : hf0.ck s ys = 0 := by show (bif rightS s ys then _ else _) = _; rw [h]; rfl
theorem ans_ray (h : rightS s ys = true) (hr : rcE hf0 p w = 240) : hitA hf0 s ys p w = ⟨ve0, ⟨0, 0⟩, 0, 240⟩ := by
 rcases rc_two hf0 p w with ⟨h1, _⟩ | ⟨_, h2⟩
 .rw [h1] at hr; cases hr
 .unfold hitA
  rw [ck_ok h, h2]; rfl
theorem rc_l1 {F : HF} (hr : rcE F p w = 0) : l1 F p w = true := by unfold l1; rw [hr]; rfl
theorem ans_good (h : rightS s ys = true) (hr : rcE hf0 p w = 0) : hitA hf0 s ys p w = match hitP hf0 s ys p w with
  | .ok (a, t) => ⟨a, t, 0, 0⟩
  | .error c => ⟨ve0, ⟨0, 0⟩, c, 9⟩ := by
 rcases rc_two hf0 p w with ⟨_, h2⟩ | ⟨h1, _⟩
 .unfold hitA
  rw [ck_ok h, h2]; rfl
 .rw [h1] at hr; cases hr
theorem ans_pl (h : rightS s ys = true) (hr : rcE hf0 p w = 0) (he : plE hf0 p w ≠ 0) : hitA hf0 s ys p w = ⟨ve0, ⟨0, 0⟩, why (plE hf0 p w), 9⟩ := by
 rw [ans_good h hr]
 rcases plane_tri hf0 p w (rc_l1 hr) with ⟨_, h2, _⟩ | ⟨h1, _, _⟩
 .exact absurd h2 he
 .unfold hitP
  rw [h1]; rfl
theorem plane_ok (hr : rcE hf0 p w = 0) (he : plE hf0 p w = 0) : planeP hf0 p w = .ok (lQ hf0 p w, ⟨(lT hf0 p w).lo, (lT hf0 p w).hi⟩) := by
 rcases plane_tri hf0 p w (rc_l1 hr) with ⟨h1, _, _⟩ | ⟨_, h2, _⟩
 .exact h1
 .exact absurd he h2
theorem ans_34 (h : rightS s ys = true) (hr : rcE hf0 p w = 0) (he : plE hf0 p w = 0) (hk : s.kd = 3 ∨ s.kd = 4) : hitA hf0 s ys p w = ⟨lQ hf0 p w, ⟨(lT hf0 p w).lo, (lT hf0 p w).hi⟩, 0, 0⟩ := by
 rw [ans_good h hr]
 unfold hitP wayP
 rw [plane_ok hr he]
 rcases hk with hk | hk <;> rw [hk] <;> rfl
theorem ans_12 (h : rightS s ys = true) (hr : rcE hf0 p w = 0) (he : plE hf0 p w = 0) (hk : s.kd = 1 ∨ s.kd = 2) : hitA hf0 s ys p w = behind hf0 (lQ hf0 p w) w ⟨(lT hf0 p w).lo, (lT hf0 p w).hi⟩ (wayP hf0 s ys (lQ hf0 p w) w) := by
 rw [ans_good h hr]
 unfold hitP behind
 rw [plane_ok hr he]
 have hb : (s.kd == 1 || s.kd == 2) = true := by rcases hk with hk | hk <;> rw [hk] <;> rfl
 simp only [hb, cond_true]
 rfl
theorem fl_eq (s : Su) : flB s = flat s := by
 unfold flB flat
 rw [Bool.and_true]
theorem way_1f (hk : s.kd = 1) (hf : flB s = true) (Q : Ve) : wayP hf0 s ys Q w = conicP hf0 Q w s.c s.k := by
 unfold wayP
 rw [hk, <- fl_eq, hf]; rfl
theorem way_1c (hk : s.kd = 1) (hf : flB s = false) (Q : Ve) : wayP hf0 s ys Q w = curvedP hf0 s ys Q w s.c s.k := by
 unfold wayP
 rw [hk, <- fl_eq, hf]; rfl
theorem way_2 (hk : s.kd = 2) (Q : Ve) : wayP hf0 s ys Q w = curvedP hf0 s ys Q w ((s.c + s.l) / 2) 0 := by
 unfold wayP
 rw [hk]; rfl
theorem curved_c (Q : Ve) (c k : Int) : (tryC (conicP hf0 Q w c k) = 0 /\ curvedP hf0 s ys Q w c k = widths hf0 s ys Q w (tryI (conicP hf0 Q w c k)) [1048576, 67108864, 2147483648, 34359738368]) ∨ (tryC (conicP hf0 Q w c k) = 1 /\ curvedP hf0 s ys Q w c k = .error 2) ∨ (tryC (conicP hf0 Q w c k) = 2 /\ curvedP hf0 s ys Q w c k = .error 2) ∨ (tryC (conicP hf0 Q w c k) = 5 /\ curvedP hf0 s ys Q w c k = .error 5) := by
 unfold curvedP
 rcases conic_tri hf0 Q w c k with ⟨h1, _⟩ | ⟨h1, _⟩ | ⟨h1, _⟩ | ⟨h1, _⟩ <;> rw [h1]
 .exact .inl ⟨rfl, rfl⟩
 .exact .inr (.inl ⟨rfl, rfl⟩)
 .exact .inr (.inr (.inl ⟨rfl, rfl⟩))
 .exact .inr (.inr (.inr ⟨rfl, rfl⟩))
end
end Go.Ht
namespace Go.Proofs.YtjmhddncomglmaaGreatDoor.K
open Go Go.Eng Go.Ar Go.Rd Go.Vc Go.Ht
noncomputable section
def hitV (A : Su -> List Int -> Ve -> Ve -> HO) : Nat -> List Itm -> Option (Prop × AV × List ABody) := fun _ its => match its with
 | [.s xs n ys, .n [.n a, .n b, .n c, .n d, .n e, .n f, .n g, .n h, .n i, .n j, .n k, .n l]] => match suOf xs with
  | some s => some (okF3 n ys /\ s.g.size < 1000000000, hoV (A s ys ⟨a, b, c, d, e, f⟩ ⟨g, h, i, j, k, l⟩), [])
  | none => none
 | _ => none
abbrev htPa : List Pa := [.s suI .i64, .n shR]
theorem okF3_emp {n : Int} {ys : List Int} (h : okF3 n ys) : ys = [] -> n = 0 := by
 intro he
 have := h.2.2
 rw [he] at this
 have := h.1
 simp only [List.length_nil] at *
 omega
theorem hit_gen {f : FuncId} {A : Su -> List Int -> Ve -> Ve -> HO} (fn : ∃ fn : Func, Tryz.prog.funcs[f]? = some fn /\ fn.body.isSome = true)
  (hr : ∀ (s : Su) (n : Int) (ys : List Int) (p w : Ve), okF3 n ys /\ s.g.size < 1000000000 -> ∃ C cs nd V, CtxOk C /\ C.P = Tryz.prog /\ C.glob = glob /\ nd.val /\ tellL s.ini cs /\ V.num = true /\ oneG (viewsH true hG [(.i64, ys)]).size hG.clock ((run C 60000).call f [.agg (cs ++ [.lslice hG.size n]), .agg (p.cells ++ w.cells)] (viewsH true hG [(.i64, ys)])) = some (nd, V) /\ tell V (hoV (A s ys p w))) : NOk Tryz.prog glob hG f (lSpec hG htPa (hitV A)) := by
 refine lsp_okM hG_ok hG_plain glob_lt (fun sz its p v bs e hp => ?_) fn
 unfold hitV at e
 split at e
 .rename_i xs n ys a b c d e' f' g h i j k l
  split at e
  .rename_i s hs
   cases e
   obtain rfl := suOf_eq hs
   refine ⟨⟨okF3_emp hp.1, trivial⟩, rfl, true, ?_⟩
   obtain ⟨C, cs, nd, V, co, hP, hGl, hnd, hk, hV, r, ht⟩ := hr s n ys ⟨a, b, c, d, e', f'⟩ ⟨g, h, i, j, k, l⟩ hp
   obtain ⟨q, a1, a2, a3, a4⟩ := oneG_tells r hV
   refine ⟨C, 60000, [.agg (cs ++ [.lslice hG.size n]), .agg (Ve.cells ⟨a, b, c, d, e', f'⟩ ++ Ve.cells ⟨g, h, i, j, k, l⟩)], nd, V, q, co, hP, hGl, ?_, a1, a2, hnd, a3, a4 sz _ ht⟩
   exact ⟨tellL_app hk ⟨rfl, trivial⟩, ⟨⟨rfl, rfl⟩, ⟨rfl, rfl⟩, ⟨rfl, rfl⟩, ⟨rfl, rfl⟩, ⟨rfl, rfl⟩, ⟨rfl, rfl⟩, ⟨rfl, rfl⟩, ⟨rfl, rfl⟩, ⟨rfl, rfl⟩, ⟨rfl, rfl⟩, ⟨rfl, rfl⟩, ⟨rfl, rfl⟩, trivial⟩, trivial⟩
  .cases e
 .cases e
theorem no_tell {c e : Int} {o : HO} (h : (⟨ve0, ⟨0, 0⟩, c, e⟩ : HO) = o) : tell (noV c e) (hoV o) := by
 subst h
 exact ⟨⟨⟨rfl, rfl⟩, ⟨rfl, rfl⟩, ⟨rfl, rfl⟩, ⟨rfl, rfl⟩, ⟨rfl, rfl⟩, ⟨rfl, rfl⟩, trivial⟩, ⟨⟨rfl, rfl⟩, ⟨rfl, rfl⟩, trivial⟩, ⟨rfl, rfl⟩, ⟨rfl, rfl⟩, trivial⟩
theorem ho_tell {o r : HO} (h : o = r) : tell (hoV o) (hoV r) := by
 subst h
 exact ⟨⟨⟨rfl, rfl⟩, ⟨rfl, rfl⟩, ⟨rfl, rfl⟩, ⟨rfl, rfl⟩, ⟨rfl, rfl⟩, ⟨rfl, rfl⟩, trivial⟩, ⟨⟨rfl, rfl⟩, ⟨rfl, rfl⟩, trivial⟩, ⟨rfl, rfl⟩, ⟨rfl, rfl⟩, trivial⟩
theorem pl_tell {p w : Ve} {o : HO} (h : (⟨lQ hf0 p w, ⟨(lT hf0 p w).lo, (lT hf0 p w).hi⟩, 0, 0⟩ : HO) = o) : tell (plV hf0 p w) (hoV o) := by
 subst h
 exact ⟨⟨⟨rfl, rfl⟩, ⟨rfl, rfl⟩, ⟨rfl, rfl⟩, ⟨rfl, rfl⟩, ⟨rfl, rfl⟩, ⟨rfl, rfl⟩, trivial⟩, ⟨⟨rfl, rfl⟩, ⟨rfl, rfl⟩, trivial⟩, ⟨rfl, rfl⟩, ⟨rfl, rfl⟩, trivial⟩
theorem suK_eq {s : Su} {k : Int} (h : s.kd = k) : suK s k = s := by subst h; rfl
theorem su2_eq {s : Su} (h : s.kd = 2) (h0 : s.a0 = 0 /\ s.a1 = 0 /\ s.a2 = 0 /\ s.a3 = 0) : su2 s = s := by
 cases s
 obtain ⟨rfl, rfl, rfl, rfl⟩ := h0
 subst h
 rfl
theorem bc_eq {s : Su} {ys : List Int} (h : rightS s ys = true) : bcC s = (s.c + s.l) / 2 /\ inL ((s.c + s.l) / 2) := by
 have hb := right_bic h
 have hc := hb.1
 have hl := hb.3
 unfold inL at hc hl ⊢
 have hw : IntKind.i64.wrap (s.c + s.l) = s.c + s.l := i64w (by omega) (by omega)
 refine ⟨?_, by omega⟩
 unfold bcC
 rw [hw]
 show (s.c + s.l).fdiv 2 = _
 rw [Int.fdiv_eq_ediv_of_nonneg _ (by decide)]
theorem kdS (s : Su) : tellL s.ini (s.cells (.int true .i64 s.kd)) := tell_kd (kd := .int true .i64 s.kd) ⟨rfl, rfl⟩
theorem kdP {s : Su} {k : Int} (h : s.kd = k) : tellL s.ini (s.cells (.int false .i64 k)) := tell_kd (kd := .int false .i64 k) ⟨rfl, h⟩
theorem hit_ok : NOk Tryz.prog glob hG 6 (lSpec hG htPa (hitV (hitA hf0))) :=
 hit_gen ⟨_, Tryz.func6, rfl⟩ fun s n ys p w ho => by
  cases hr : rightS s ys with
  | false => exact ⟨_, _, .p _, _, cHt_ok false 0 0 0, rfl, rfl, (⟨ho.1, ho.2, hr⟩ : suO s n ys false), kdS s, rfl, ht_bad hf0 s n ys p w, no_tell (ans_bad hr).symm⟩
  | true =>
   have h0 : suO s n ys true := ⟨ho.1, ho.2, hr⟩
   rcases rc_two hf0 p w with ⟨hrc, _⟩ | ⟨hrc, _⟩
   .have hl := rc_l1 hrc
    have hin := plE_in hf0 p w hl hf0_e.1 hf0_e.2.1 hf0_e.2.2.1 hf0_e.2.2.2
    have ans : ∀ k c : Int, plE hf0 p w = k -> k ≠ 0 -> why k = c -> (⟨ve0, ⟨0, 0⟩, c, 9⟩ : HO) = hitA hf0 s ys p w := fun k c hk hk0 hc => by
     rw [ans_pl hr hrc (by rw [hk]; exact hk0), hk, hc]
    rcases hin with he | he | he | he | he
    .-- the way to the plane is there
     have okp : ∀ (k : Int) (q : Prop), s.kd = k -> q -> okP hf0 (suK s k) n ys p w q := fun k q hk hq => by
      rw [suK_eq hk]; exact ⟨h0, hrc, ⟨hl, he⟩, hq⟩
     rcases right_kd hr with hk | hk | hk | hk
     .have ans1 := ans_12 hr hrc he (.inl hk)
      have hs := right_std hr
      have hc : okSc s.c 1000000000 := sc_c hs.1
      have hkk : okSc (kW s.k) 1000000 := sc_k hs.2
      cases hf : flB s with
      | true =>
       rw [way_1f hk hf] at ans1
       exact ⟨_, _, .p _, _, cHi_ok true 0, rfl, rfl, okp 1 _ hk ⟨⟨hf, cNd_ok hf0 _ w s.c s.k (fun _ _ => okSq_of hc) (fun _ _ => okSq_of hkk)⟩, fun _ _ => ⟨⟨rfl, rfl⟩, rfl, rfl⟩⟩, kdP hk, rfl, ht_1f hf0 s n ys p w, by rw [fAns_eq]; exact ho_tell ans1.symm⟩
      | false =>
       rw [way_1c hk hf] at ans1
       have cop : ∀ j : Int, tryC (conicP hf0 (lQ hf0 p w) w s.c s.k) = j -> coP hf0 n ys p w s.c s.k j := fun j hj => ⟨okF3_emp ho.1, ⟨hc, hkk⟩, hj⟩
       rcases curved_c (s := s) (ys := ys) (w := w) (lQ hf0 p w) s.c s.k with ⟨c1, c2⟩ | ⟨c1, c2⟩ | ⟨c1, c2⟩ | ⟨c1, c2⟩
       .rw [c2] at ans1
        exact ⟨_, _, .p _, _, cHi_ok false 0, rfl, rfl, okp 1 _ hk ⟨⟨hf, cop 0 c1, ndA_ok hf0 _ ys _ w _ ho⟩, fun _ _ => ⟨⟨rfl, rfl⟩, rfl, rfl⟩⟩, kdP hk, rfl, ht_10 hf0 s n ys p w, by rw [suK_eq hk, cAns_eq]; exact ho_tell ans1.symm⟩
       .rw [c2] at ans1
        exact ⟨_, _, .p _, _, cHi_ok false 1, rfl, rfl, okp 1 _ hk ⟨hf, cop 1 c1⟩, kdP hk, rfl, ht_11 hf0 s n ys p w, no_tell ans1.symm⟩
       .rw [c2] at ans1
        exact ⟨_, _, .p _, _, cHi_ok false 2, rfl, rfl, okp 1 _ hk ⟨hf, cop 2 c1⟩, kdP hk, rfl, ht_12 hf0 s n ys p w, no_tell ans1.symm⟩
       .rw [c2] at ans1
        exact ⟨_, _, .p _, _, cHi_ok false 5, rfl, rfl, okp 1 _ hk ⟨hf, cop 5 c1⟩, kdP hk, rfl, ht_15 hf0 s n ys p w, no_tell ans1.symm⟩
     .have ans2 := ans_12 hr hrc he (.inr hk)
      have ha := right_noA hr hk
      obtain ⟨b1, b2⟩ := bc_eq hr
      rw [way_2 hk, <- b1] at ans2
      have hc : okSc (bcC s) 1000000000 := by rw [b1]; exact sc_c b2
      have hkk : okSc (kW 0) 1000000 := sc_k (by unfold inK; decide)
      have okp2 : ∀ q : Prop, q -> okP hf0 (su2 s) n ys p w q := fun q hq => by
       rw [su2_eq hk ha]; exact ⟨h0, hrc, ⟨hl, he⟩, hq⟩
      have cop : ∀ j : Int, tryC (conicP hf0 (lQ hf0 p w) w (bcC s) 0) = j -> coP hf0 n ys p w (bcC s) 0 j := fun j hj => ⟨okF3_emp ho.1, ⟨hc, hkk⟩, hj⟩
      rcases curved_c (s := s) (ys := ys) (w := w) (lQ hf0 p w) (bcC s) 0 with ⟨c1, c2⟩ | ⟨c1, c2⟩ | ⟨c1, c2⟩ | ⟨c1, c2⟩
      .rw [c2] at ans2
       exact ⟨_, _, .p _, _, cHt_ok true 0 0 0, rfl, rfl, okp2 _ ⟨⟨cop 0 c1, ndA_ok hf0 _ ys _ w _ ho⟩, fun _ _ => ⟨⟨rfl, rfl⟩, rfl, rfl⟩⟩, tell_kz hk ha, rfl, ht_20 hf0 s n ys p w, by rw [su2_eq hk ha, cAns_eq]; exact ho_tell ans2.symm⟩
      .rw [c2] at ans2
       exact ⟨_, _, .p _, _, cHt_ok true 0 0 1, rfl, rfl, okp2 _ (cop 1 c1), tell_kz hk ha, rfl, ht_21 hf0 s n ys p w, no_tell ans2.symm⟩
      .rw [c2] at ans2
       exact ⟨_, _, .p _, _, cHt_ok true 0 0 2, rfl, rfl, okp2 _ (cop 2 c1), tell_kz hk ha, rfl, ht_22 hf0 s n ys p w, no_tell ans2.symm⟩
      .rw [c2] at ans2
       exact ⟨_, _, .p _, _, cHt_ok true 0 0 5, rfl, rfl, okp2 _ (cop 5 c1), tell_kz hk ha, rfl, ht_25 hf0 s n ys p w, no_tell ans2.symm⟩
     .exact ⟨_, _, .p _, _, cHt_ok true 0 0 0, rfl, rfl, okp 3 _ hk ⟨rfl, rfl⟩, kdP hk, rfl, ht_3 hf0 s n ys p w, pl_tell (ans_34 hr hrc he (.inl hk)).symm⟩
     .exact ⟨_, _, .p _, _, cHt_ok true 0 0 0, rfl, rfl, okp 4 _ hk ⟨rfl, rfl⟩, kdP hk, rfl, ht_4 hf0 s n ys p w, pl_tell (ans_34 hr hrc he (.inr hk)).symm⟩
    .exact ⟨_, _, .p _, _, cHt_ok true 0 2 0, rfl, rfl, (⟨h0, hrc, hl, he, by decide⟩ : plP hf0 s n ys p w 2), kdS s, rfl, ht_p2 hf0 s n ys p w, no_tell (ans 2 2 he (by decide) rfl)⟩
    .exact ⟨_, _, .p _, _, cHt_ok true 0 6 0, rfl, rfl, (⟨h0, hrc, hl, he, by decide⟩ : plP hf0 s n ys p w 6), kdS s, rfl, ht_p6 hf0 s n ys p w, no_tell (ans 6 5 he (by decide) rfl)⟩
    .exact ⟨_, _, .p _, _, cHt_ok true 0 7 0, rfl, rfl, (⟨h0, hrc, hl, he, by decide⟩ : plP hf0 s n ys p w 7), kdS s, rfl, ht_p7 hf0 s n ys p w, no_tell (ans 7 2 he (by decide) rfl)⟩
    .exact ⟨_, _, .p _, _, cHt_ok true 0 20 0, rfl, rfl, (⟨h0, hrc, hl, he, by decide⟩ : plP hf0 s n ys p w 20), kdS s, rfl, ht_p20 hf0 s n ys p w, no_tell (ans 20 2 he (by decide) rfl)⟩
   .exact ⟨_, _, .p _, _, cHt_ok true 240 0 0, rfl, rfl, (⟨h0, hrc⟩ : suO s n ys true /\ rcE hf0 p w = 240), kdS s, rfl, ht_ray hf0 s n ys p w, no_tell (ans_ray hr hrc).symm⟩
end
end Go.Proofs.YtjmhddncomglmaaGreatDoor.K
namespace Go.Proofs.YtjmhddncomglmaaGreatDoor.K
open Go Go.Eng Go.Ar Go.Rd Go.Vc
noncomputable section
structure Sp14 where
 kd : Int
 c0 : Int
 c1 : Int
 k0 : Int
 k1 : Int
 a0 : Int
 a1 : Int
 a2 : Int
 a3 : Int
 m : Bool
def Sp14.cells (p : Sp14) : List AV := [.int true .u8 p.kd, .int true .i16 p.c0, .int true .i16 p.c1, .int true .i16 p.k0, .int true .i16 p.k1, .int true .i8 p.a0, .int true .i8 p.a1, .int true .i8 p.a2, .int true .i8 p.a3, .bool true p.m]
def p14I : List Sh := [.i .u8, .i .i16, .i .i16, .i .i16, .i .i16, .i .i8, .i .i8, .i .i8, .i .i8, .b]
def sHint (k : Nat) (m : Bool) (_ t : Nat) : Option AV := match Nat.beq t 8 || Nat.beq t 51 with
 | true => some (.int false .u8 k)
 | false => match Nat.beq t 32 with
  | true => some (.bool false m)
  | false => none
def cSp (k : Nat) (m : Bool) : Ctx := hinting (mkG Tryz.prog glob hG [] ext) (sHint k m)
theorem cSp_ok (k : Nat) (m : Bool) : CtxOk (cSp k m) := hinting_ok (mkG_ok prog_ok ext_ok fun _ h => by cases h) _
def rSp (k : Nat) (m : Bool) (p : Sp14) : Option (Nd × List AV × Nat × List Int) := outL hG.size hG.clock 2 .i64 ((run (cSp k m) 1000).call 9 [.agg p.cells] hG)
def spC (x : Int) : Int := IntKind.i64.wrap (1000 * IntKind.i64.wrap x)
def spK (x : Int) : Int := IntKind.i64.wrap (250 * IntKind.i64.wrap x)
def spA (x : Int) : Int := IntKind.i64.wrap (100 * IntKind.i64.wrap x)
def mirG (m : Bool) : ByteArray := match m with | true => ⟨#[77, 73, 82, 82, 79, 82]⟩ | false => ⟨#[]⟩
def su0x : Su := ⟨0, 0, 0, 0, 0, 0, 0, 0, 0, 0, 0, 0, 0, ⟨#[]⟩, 0, 0, 0, 0, 0, 0, 0⟩
def shSu (k : Nat) (m : Bool) (p : Sp14) : Su := match k with
 | 0 => { su0x with kd := 1, c := spC p.c0, k := spK p.k0, g := mirG m }
 | 1 => { su0x with kd := 1, c := spC p.c0, k := spK p.k0, g := mirG m }
 | 2 => { su0x with kd := 1, c := spC p.c0, k := spK p.k0, g := mirG m, a0 := spA p.a0, a1 := spA p.a1, a2 := spA p.a2, a3 := spA p.a3 }
 | 3 => { su0x with kd := 2, c := spC p.c0, k := spK p.k0, g := mirG m, l := spC p.c1, m := spK p.k1 }
 | 4 => { su0x with kd := 4, c := spC p.c0 }
 | _ => { su0x with kd := 3 }
def pZz : AV := .int false .i64 0
def iv (x : Int) : AV := .int true .i64 x
def spAV (k : Nat) (m : Bool) (p : Sp14) : List AV := match k with
 | 0 => [.int false .i64 1, iv (spC p.c0), iv (spK p.k0), pZz, pZz, pZz, pZz, pZz, pZz, pZz, pZz, pZz, pZz, .str false (mirG m), pZz, pZz, pZz, pZz, pZz, pZz, pZz]
 | 1 => [.int false .i64 1, iv (spC p.c0), iv (spK p.k0), pZz, pZz, pZz, pZz, pZz, pZz, pZz, pZz, pZz, pZz, .str false (mirG m), pZz, pZz, pZz, pZz, pZz, pZz, pZz]
 | 2 => [.int false .i64 1, iv (spC p.c0), iv (spK p.k0), pZz, pZz, iv (spA p.a0), iv (spA p.a1), iv (spA p.a2), iv (spA p.a3), pZz, pZz, pZz, pZz, .str false (mirG m), pZz, pZz, pZz, pZz, pZz, pZz, pZz]
 | 3 => [.int false .i64 2, iv (spC p.c0), iv (spK p.k0), iv (spC p.c1), iv (spK p.k1), pZz, pZz, pZz, pZz, pZz, pZz, pZz, pZz, .str false (mirG m), pZz, pZz, pZz, pZz, pZz, pZz, pZz]
 | 4 => [.int false .i64 4, iv (spC p.c0), pZz, pZz, pZz, pZz, pZz, pZz, pZz, pZz, pZz, pZz, pZz, .str false ⟨#[]⟩, pZz, pZz, pZz, pZz, pZz, pZz, pZz]
 | _ => [.int false .i64 3, pZz, pZz, pZz, pZz, pZz, pZz, pZz, pZz, pZz, pZz, pZz, pZz, .str false ⟨#[]⟩, pZz, pZz, pZz, pZz, pZz, pZz, pZz]
def spNd (k : Nat) (m : Bool) (p : Sp14) : Prop := match k with
 | 0 => p.kd.tmod 6 = 0 /\ p.m = m /\ p.kd.tmod 6 = 0
 | 1 => p.kd.tmod 6 = 1 /\ p.m = m /\ p.kd.tmod 6 = 1
 | 2 => p.kd.tmod 6 = 2 /\ p.m = m /\ p.kd.tmod 6 = 2
 | 3 => p.kd.tmod 6 = 3 /\ p.m = m /\ p.k1 = p.k1 /\ p.kd.tmod 6 = 3
 | 4 => p.kd.tmod 6 = 4
 | _ => p.kd.tmod 6 = 5
def SpR (p : Sp14) (k : Nat) (m : Bool) : Prop := rSp k m p = some (.p (spNd k m p), spAV k m p, 0, [])
theorem sp_all (p : Sp14) (m : Bool) : ∀ k : Nat, k < 6 -> SpR p k m := fun k h => by
 unfold SpR
 rcases k with _ | _ | _ | _ | _ | _ | k
 case succ.succ.succ.succ.succ.succ => omega
 all_goals cases m <;> kernel_rfl
theorem spNd_t {p : Sp14} {k : Nat} (hk : k < 6) (h : p.kd.tmod 6 = k) : spNd k p.m p := by
 rcases k with _ | _ | _ | _ | _ | _ | k
 .exact ⟨h, rfl, h⟩
 .exact ⟨h, rfl, h⟩
 .exact ⟨h, rfl, h⟩
 .exact ⟨h, rfl, rfl, h⟩
 .exact h
 .exact h
 .omega
theorem spAV_num (k : Nat) (m : Bool) (p : Sp14) : AV.numL (spAV k m p) = true := by
 unfold spAV
 split <;> rfl
theorem spAV_t (k : Nat) (m : Bool) (p : Sp14) : tellL (spAV k m p) (shSu k m p).ini := by
 rcases k with _ | _ | _ | _ | _ | k <;>
 repeat' first
  | exact trivial
  | refine ⟨⟨rfl, rfl⟩, ?_⟩
  | refine ⟨rfl, ?_⟩
def p14Of : List Nu -> Option Sp14
 | [.n kd, .n c0, .n c1, .n k0, .n k1, .n a0, .n a1, .n a2, .n a3, .t m] => some ⟨kd, c0, c1, k0, k1, a0, a1, a2, a3, m⟩
 | _ => none
def shpV : Nat -> List Itm -> Option (Prop × AV × List ABody) := fun sz its => match its with
 | [.n xs] => match p14Of xs with
  | some p => some (0 <= p.kd, .agg ((shSu (p.kd.tmod 6).toNat p.m p).ini ++ [.lslice sz 0]), [.rows .i64 []])
  | none => none
 | _ => none
theorem shp_ok : NOk Tryz.prog glob hG 9 (lSpec hG [.n (.a p14I)] shpV) := by
 refine lsp_okM hG_ok hG_plain glob_lt (fun sz its p v bs e hp => ?_) ⟨_, Tryz.func9, rfl⟩
 unfold shpV at e
 split at e
 .rename_i xs
  split at e
  .rename_i p hs
   cases e
   unfold p14Of at hs
   split at hs
   .cases hs
    rename_i kd c0 c1 k0 k1 a0 a1 a2 a3 m
    have hp : 0 <= kd := hp
    have h6 : kd.tmod 6 = ((kd.tmod 6).toNat : Int) /\ (kd.tmod 6).toNat < 6 := by
     rw [Int.tmod_eq_emod_of_nonneg hp]
     omega
    refine ⟨trivial, rfl, true, ?_⟩
    have r := sp_all ⟨kd, c0, c1, k0, k1, a0, a1, a2, a3, m⟩ m (kd.tmod 6).toNat h6.2
    unfold SpR rSp at r
    obtain ⟨v0, q, h1, h2, h3, h4⟩ := outL_tells r (spAV_num _ _ _)
    refine ⟨cSp (kd.tmod 6).toNat m, 1000, [.agg (Sp14.cells ⟨kd, c0, c1, k0, k1, a0, a1, a2, a3, m⟩)], _, v0, q, cSp_ok _ _, rfl, rfl, ?_, h1, h2, spNd_t h6.2 h6.1, h3, ?_⟩
    .exact ⟨⟨⟨rfl, rfl⟩, ⟨rfl, rfl⟩, ⟨rfl, rfl⟩, ⟨rfl, rfl⟩, ⟨rfl, rfl⟩, ⟨rfl, rfl⟩, ⟨rfl, rfl⟩, ⟨rfl, rfl⟩, ⟨rfl, rfl⟩, rfl, trivial⟩, trivial⟩
    .exact h4 sz _ _ _ (spAV_t _ _ _) rfl rfl
   .cases hs
  .cases e
 .cases e
def shpVF (S : Sp14 -> Su) : Nat -> List Itm -> Option (Prop × AV × List ABody) := fun sz its => match its with
 | [.n xs] => match p14Of xs with
  | some p => some (0 <= p.kd, .agg ((S p).ini ++ [.lslice sz 0]), [.rows .i64 []])
  | none => none
 | _ => none
def shS0 (p : Sp14) : Su := shSu (p.kd.tmod 6).toNat p.m p
theorem shpVF_0 : shpVF shS0 = shpV := by kernel_rfl
end
end Go.Proofs.YtjmhddncomglmaaGreatDoor.K
namespace Go.Proofs.YtjmhddncomglmaaGreatDoor.K
open Go Go.Eng Go.Ar Go.Rd Go.Vc Go.Ht
noncomputable section
def hitT (A : Su -> List Int -> Ve -> Ve -> HO) : List Itm -> Option (Prop × AV) := fun its => match its with
 | [.s xs n ys, .n [.n a, .n b, .n c, .n d, .n e, .n f, .n g, .n h, .n i, .n j, .n k, .n l]] => match suOf xs with
  | some s => some (okF3 n ys /\ s.g.size < 1000000000, hoV (A s ys ⟨a, b, c, d, e, f⟩ ⟨g, h, i, j, k, l⟩))
  | none => none
 | _ => none
theorem hitT_ok {f : FuncId} (g : NOk Tryz.prog glob hG f (lSpec hG htPa (hitV (hitA hf0)))) : NOk Tryz.prog glob hG f (tSpec hG 3 htPa (hitT (hitA hf0))) := by
 refine tSpec_ok hG_ok hG_plain glob_lt g fun its p v e hp => ?_
 unfold hitT at e
 split at e
 .rename_i xs n ys a b c d e' f' g' h i j k l
  split at e
  .rename_i s hs
   cases e
   have hs' := hs
   obtain rfl := suOf_eq hs
   exact ⟨_, by simp only [hitV, hs'], hp, rfl, ⟨okF3_emp hp.1, trivial⟩, rfl, ⟨_, rfl⟩, rfl, rfl⟩
  .cases e
 .cases e
def okI (its : List Itm) : Bool := match its with
 | .s xs n ys :: _ => match suOf xs with
  | some s => decide (n = 0) && (ys.isEmpty && Nat.ble s.g.size 100)
  | none => false
 | _ => false
def plQ (V : List Itm -> Option (Prop × AV)) (its : List Itm) : Option AV := match okI its with
 | true => match V its with
  | some (_, v) => some v
  | none => none
 | false => none
theorem okI_p {xs : List Nu} {n : Int} {ys : List Int} {l : List Itm} {s : Su} (h : okI (.s xs n ys :: l) = true) (hs : suOf xs = some s) : okF3 n ys /\ s.g.size < 1000000000 := by
 simp only [okI, hs, Bool.and_eq_true, decide_eq_true_eq] at h
 obtain ⟨rfl, h1, h2⟩ := h
 have : ys = [] := by cases ys with
  | nil => rfl
  | cons a l => cases h1
 subst this
 exact ⟨⟨by decide, by decide, rfl⟩, by have := Nat.le_of_ble_eq_true h2; omega⟩
theorem plV_hit : ∀ its v, plQ (hitT (hitA hf0)) its = some v -> ∃ p : Prop, hitT (hitA hf0) its = some (p, v) /\ p := by
 intro its v e
 unfold plQ at e
 split at e
 .rename_i ho
  split at e
  .rename_i p v' hV
   cases e
   refine ⟨p, hV, ?_⟩
   unfold hitT at hV
   split at hV
   .split at hV
    .rename_i s hs
     cases hV
     exact okI_p ho hs
    .cases hV
   .cases hV
  .cases e
 .cases e
def tblWk : List (FuncId × NSpec) := [(6, tP hG 3 htPa (plQ (hitT (hitA hf0)))), (68, hp (plainS (sSc scaleS)))]
def cWk : Ctx := mkN Tryz.prog glob hG tblWk [] ext
theorem cWk_ok : CtxOk cWk := mkN_ok prog_ok ext_ok (fun x hx => by
 simp only [tblWk, List.mem_cons, List.not_mem_nil, or_false] at hx
 rcases hx with rfl | rfl
 .exact tP_ok (hitT_ok hit_ok) plV_hit
 .exact ((rsc_ok.plainS.g _ _).h).n) fun _ h => by cases h
theorem works_run : oneG hG.size hG.clock ((run cWk 5000).call 8 [] hG) = some (.tt, .bool false true) := by kernel_rfl
theorem works_ok : NOk Tryz.prog glob hG 8 (cSpec (.bool false true)) :=
 cSpec_ok hG_ok hG_plain glob_lt cWk_ok rfl rfl ⟨_, Tryz.func8, rfl⟩ works_run trivial rfl rfl
end
end Go.Proofs.YtjmhddncomglmaaGreatDoor.K
namespace Go.Vc
open Go Go.Eng Go.Ar Go.Rd
abbrev BA := Su -> List Int -> Int -> Int -> Int -> Ve -> Ve -> BO
structure LF where
 be : BA
 no : Su -> List Int -> Ve -> BO
 uV : Ve -> Ve
 uO : Ve -> Int
 dt : Ve -> Ve -> Sp
 xV : Ve -> Ve -> Ve
 xO : Ve -> Ve -> Int
 aV : Ve -> Ve -> Ve
 aO : Ve -> Ve -> Int
 nV : Ve -> Ve
 nO : Ve -> Int
 sc : Int -> Int -> Int -> Int -> Sp
 ng : Int -> Int -> Sp
structure Th where
 a : Int
 b : Int
 c : Int
 d : Int
 e : Int
 f : Int
 w : Int
 k : Bool
def Th.cells (t : Th) : List AV := [.int true .i16 t.a, .int true .i16 t.b, .int true .i16 t.c, .int true .i16 t.d, .int true .i16 t.e, .int true .i16 t.f, .int true .u8 t.w, .bool true t.k]
structure Md where
 a : Int
 b : Int
 l : Int
 o : Int
 f0 : Int
 f1 : Int
def Md.cells (m : Md) : List AV := [.int true .u16 m.a, .int true .u16 m.b, .int true .u16 m.l, .int true .i8 m.o, .int true .i8 m.f0, .int true .i8 m.f1]
def lw (x : Int) : Int := IntKind.i64.wrap x
def l24 : Int := 2 ^ min (Int.toNat 24) IntKind.i64.bits
def l16 : Int := 2 ^ min (Int.toNat 16) IntKind.i64.bits
def Th.wd (t : Th) : Int := lw (t.w.tmod 4)
def pL (x : Int) : Int := lw (lw x * l24)
def pH (t : Th) (x i : Int) : Int := lw (pL x + lw (t.wd * i))
def dL (x : Int) : Int := lw (lw x * l16)
def dH (t : Th) (x : Int) : Int := lw (dL x + t.wd)
def atV (t : Th) : Ve := ⟨bif t.k then pL t.a else pL t.a, bif t.k then pH t t.a 0 else pH t t.a 0, bif t.k then pL t.b else pL t.b, bif t.k then pH t t.b 1 else pH t t.b 1, bif t.k then pL t.c else pL t.c, bif t.k then pH t t.c 0 else pH t t.c 0⟩
def dirV (t : Th) : Ve := ⟨bif t.k then dL t.d else dL t.d, bif t.k then dH t t.d else dH t t.d, bif t.k then dL t.e else dL t.e, bif t.k then dH t t.e else dH t t.e, bif t.k then -4294967296 else lw (4294967296 - t.wd), bif t.k then lw (-4294967296 + t.wd) else 4294967296⟩
def tkY (n : Int) : List Int := List.take (3 * n.toNat) []
def oS (S : Su) (n : Int) : Prop := okF3 n (tkY n) /\ S.g.size < 1000000000
def eqB (v w : Ve) : Bool := v.a == w.a && (v.b == w.b && (v.c == w.c && (v.d == w.d && (v.e == w.e && (v.f == w.f && true)))))
section
variable (F : LF) (R N : BO) (D : Ve) (a b : Int) (nm : Bool)
end
section
variable (F : LF) (R R2 : BO) (D : Ve)
end
section
variable (F : LF) (R1 R2 R3 N : BO)
end
end Go.Vc
namespace Go.Proofs.YtjmhddncomglmaaGreatDoor.K
open Go Go.Eng Go.Ar Go.Rd Go.Vc Go.Ht
noncomputable section
def tblHM (A : Su -> List Int -> Ve -> Ve -> HO) (S : Sp14 -> Su) : List (FuncId × NSpec) := [(6, tSpec hG 3 htPa (hitT A)), (9, lSpec hG [.n (.a p14I)] (shpVF S)), (8, cSpec (.bool false true))]
def cHM (A : Su -> List Int -> Ve -> Ve -> HO) (S : Sp14 -> Su) : Ctx := mkN Tryz.prog glob hG (tblHM A S) [] ext
def rHM (C : Ctx) (f : FuncId) (p : Sp14) (t : Th) (b : Int) : Option (Nd × AV) := oneG hG.size hG.clock ((run C 10000).call f [.agg p.cells, .agg t.cells, .int true .u8 b] hG)
end
end Go.Proofs.YtjmhddncomglmaaGreatDoor.K
namespace Go.Iv
open Go Go.Ar Go.Rd
def cn (a b : Int) (x : Rat) : Prop := (a : Rat) <= x * 4294967296 /\ x * 4294967296 <= (b : Rat)
end Go.Iv
namespace Go.Iv
open Go Go.Ar Go.Rd Go.Vc
structure V3 where
 x : Rat
 y : Rat
 z : Rat
def cv (v : Ve) (u : V3) : Prop := cn v.a v.b u.x /\ cn v.c v.d u.y /\ cn v.e v.f u.z
def V3.dot (u v : V3) : Rat := u.x * v.x + u.y * v.y + u.z * v.z
def V3.add (u v : V3) : V3 := ⟨u.x + v.x, u.y + v.y, u.z + v.z⟩
def V3.sub (u v : V3) : V3 := ⟨u.x - v.x, u.y - v.y, u.z - v.z⟩
def V3.mul (u : V3) (t : Rat) : V3 := ⟨u.x * t, u.y * t, u.z * t⟩
def vv (v : Ve) : Prop := okSp v.a v.b = true /\ okSp v.c v.d = true /\ okSp v.e v.f = true
end Go.Iv
namespace Go.Iv
open Go Go.Ar Go.Rd Go.Vc
def gr (X : BX) (x y : Rat) : Rat := (1 * (X.p2f : Rat) / ((100000 : Int) : Rat) + (x * x + y * y) * (X.p4f : Rat) / ((10000000 : Int) : Rat)) * (X.pol : Rat) / ((1000000000 : Int) : Rat) * ((10000000 : Int) : Rat) / (X.b : Rat)
def thr (X : BX) (d : V3) (x y : Rat) : V3 :=
 bif X.o0 then (bif !X.mir then ⟨d.x * (X.a : Rat) / (X.b : Rat), d.y * (X.a : Rat) / (X.b : Rat), d.z * (X.a : Rat) / (X.b : Rat)⟩ else d)
 else bif !X.mir then ⟨d.x * (X.a : Rat) / (X.b : Rat) + x * gr X x y, d.y * (X.a : Rat) / (X.b : Rat) + y * gr X x y, d.z * (X.a : Rat) / (X.b : Rat)⟩ else ⟨d.x + x * gr X x y, d.y + y * gr X x y, d.z⟩
def tan3 (S n : V3) : V3 := S.sub (n.mul (S.dot n))
def ab (x m : Rat) : Prop := -m <= x /\ x <= m
structure Bent (X : BX) (n d : V3) (x y : Rat) (K : Nat) (r : Rat) : Prop where
 kp : X.k.hi < 0 ∨ 0 < X.k.lo
 kl : X.k.hi < 0 -> d.dot n * 4294967296 <= -1
 kh : 0 < X.k.lo -> 1 <= d.dot n * 4294967296
 ka : ab (d.dot n) 1048576
 sa : ab ((thr X d x y).dot n) 1048576
 r0 : 0 <= r
 r1 : r * r <= 1 - (tan3 (thr X d x y) n).dot (tan3 (thr X d x y) n)
 r2 : (1 - (tan3 (thr X d x y) n).dot (tan3 (thr X d x y) n) - r * r) * (K : Rat) <= 1
 out : cv X.out ((tan3 (thr X d x y) n).add (n.mul (bif X.fl then -r else r)))
 ov : vv X.out
end Go.Iv
namespace Go.Iv
open Go Go.Ar Go.Rd Go.Vc
end Go.Iv
namespace Go.Iv
open Go Go.Ar Go.Rd Go.Vc
end Go.Iv
namespace Go.Iv
open Go Go.Ar Go.Rd Go.Vc
end Go.Iv
namespace Go.Iv
open Go Go.Ar Go.Rd Go.Vc
structure ThR (t : Th) : Prop where
 a : -32768 <= t.a /\ t.a <= 32767
 b : -32768 <= t.b /\ t.b <= 32767
 c : -32768 <= t.c /\ t.c <= 32767
 d : -32768 <= t.d /\ t.d <= 32767
 e : -32768 <= t.e /\ t.e <= 32767
 w : 0 <= t.w /\ t.w <= 255
theorem bif_same {α : Type} (b : Bool) (x : α) : (bif b then x else x) = x := by cases b <;> rfl
theorem lwi {x : Int} (h : -9000000000000000000 <= x /\ x <= 9000000000000000000) : lw x = x := i64w (by omega) (by omega)
theorem l24_e : l24 = 16777216 := by decide
theorem l16_e : l16 = 65536 := by decide
theorem wd_e {t : Th} (h : ThR t) : t.wd = t.w % 4 /\ 0 <= t.wd /\ t.wd <= 3 := by
 have hw := h.w
 have e : t.wd = t.w % 4 := by
  unfold Th.wd
  rw [Int.tmod_eq_emod_of_nonneg hw.1]
  exact lwi (by omega)
 rw [e]; omega
theorem dL_e {x : Int} (h : -32768 <= x /\ x <= 32767) : dL x = x * 65536 := by
 unfold dL
 rw [lwi (x := x) (by omega), l16_e]
 exact lwi (by omega)
theorem pL_e {x : Int} (h : -32768 <= x /\ x <= 32767) : pL x = x * 16777216 := by
 unfold pL
 rw [lwi (x := x) (by omega), l24_e]
 exact lwi (by omega)
theorem dH_e {t : Th} (r : ThR t) {x : Int} (h : -32768 <= x /\ x <= 32767) : dH t x = x * 65536 + t.wd := by
 have := wd_e r
 unfold dH
 rw [dL_e h]
 exact lwi (by omega)
theorem pH_e {t : Th} (r : ThR t) {x i : Int} (h : -32768 <= x /\ x <= 32767) (hi : i = 0 ∨ i = 1) : pH t x i = x * 16777216 + t.wd * i := by
 have := wd_e r
 have k : lw (t.wd * i) = t.wd * i := lwi (by rcases hi with e | e <;> rw [e] <;> omega)
 unfold pH
 rw [pL_e h, k]
 exact lwi (by rcases hi with e | e <;> rw [e] <;> omega)
theorem at_v {t : Th} (r : ThR t) : vv (atV t) := by
 have := wd_e r
 have h1 := r.a; have h2 := r.b; have h3 := r.c
 unfold atV vv
 simp only [bif_same, pL_e r.a, pL_e r.b, pL_e r.c, pH_e r r.a (.inl rfl), pH_e r r.b (.inr rfl), pH_e r r.c (.inl rfl), okSp_iff]
 omega
theorem dir_e {t : Th} (r : ThR t) : dirV t = ⟨t.d * 65536, t.d * 65536 + t.wd, t.e * 65536, t.e * 65536 + t.wd, bif t.k then -4294967296 else 4294967296 - t.wd, bif t.k then -4294967296 + t.wd else 4294967296⟩ := by
 have := wd_e r
 unfold dirV
 rw [lwi (x := 4294967296 - t.wd) (by omega), lwi (x := -4294967296 + t.wd) (by omega)]
 simp only [bif_same, dL_e r.d, dL_e r.e, dH_e r r.d, dH_e r r.e]
theorem dir_v {t : Th} (r : ThR t) : vv (dirV t) := by
 have := wd_e r
 have h1 := r.d; have h2 := r.e
 rw [dir_e r]
 unfold vv
 simp only [okSp_iff]
 cases t.k <;> simp only [cond_true, cond_false] <;> omega
end Go.Iv
namespace Go.Ht
open Go Go.Eng Go.Ar Go.Rd Go.Vc Go.Iv
def bitU (b i : Int) : Bool := IntKind.u8.wrap ↑(BitVec.ofInt IntKind.u8.bits (b.fdiv (2 ^ min (Int.toNat i) IntKind.u8.bits)) &&& BitVec.ofInt IntKind.u8.bits 1).toNat == 1
def mX (c : Bool) (v : Ve) : Ve := ⟨bif c then lw (0 - v.b) else v.a, bif c then lw (0 - v.a) else v.b, bif c then v.c else v.c, bif c then v.d else v.d, bif c then v.e else v.e, bif c then v.f else v.f⟩
def mY (c : Bool) (v : Ve) : Ve := ⟨bif c then v.a else v.a, bif c then v.b else v.b, bif c then lw (0 - v.d) else v.c, bif c then lw (0 - v.c) else v.d, bif c then v.e else v.e, bif c then v.f else v.f⟩
section
variable (A : Su -> List Int -> Ve -> Ve -> HO) (S : Su) (t : Th) (b : Int)
def hm1 : HO := A S (tkY 0) (atV t) (dirV t)
def hm2 : HO := A S (tkY 0) (mY (bitU b 1) (mX (bitU b 0) (atV t))) (mY (bitU b 1) (mX (bitU b 0) (dirV t)))
def hmR : Bool := bif eqB (mY (bitU b 1) (mX (bitU b 0) (hm1 A S t).at')) (hm2 A S t b).at' then bif (hm1 A S t).way.lo == (hm2 A S t b).way.lo && ((hm1 A S t).way.hi == (hm2 A S t b).way.hi && true) then bif (hm1 A S t).c == (hm2 A S t b).c then (hm1 A S t).e == (hm2 A S t b).e else false else false else false
def thQ (t : Th) : Prop := t.a = t.a /\ t.b = t.b /\ t.c = t.c /\ t.d = t.d /\ t.e = t.e /\ t.f = t.f /\ t.w = t.w /\ t.k = t.k
end
def bI (x : Int) : Prop := -4503599627370496 <= x /\ x <= 4503599627370496
def bV (v : Ve) : Prop := bI v.a /\ bI v.b /\ bI v.c /\ bI v.d /\ bI v.e /\ bI v.f
theorem bV_of {v : Ve} (h : vv v) : bV v := by
 obtain ⟨h1, h2, h3⟩ := h
 have h1 := okSp_iff.1 h1
 have h2 := okSp_iff.1 h2
 have h3 := okSp_iff.1 h3
 unfold bV bI
 omega
theorem lw_n {x : Int} (h : bI x) : lw (0 - x) = -x := by
 unfold bI at h
 unfold lw
 rw [i64w (by omega) (by omega)]
 omega
theorem mX_e {v : Ve} (h : bV v) (c : Bool) : mX c v = bif c then fx v else v := by
 cases c with
 | false => rfl
 | true =>
  show (⟨lw (0 - v.b), lw (0 - v.a), v.c, v.d, v.e, v.f⟩ : Ve) = _
  rw [lw_n h.2.1, lw_n h.1]; rfl
theorem mY_e {v : Ve} (h : bV v) (c : Bool) : mY c v = bif c then fy v else v := by
 cases c with
 | false => rfl
 | true =>
  show (⟨v.a, v.b, lw (0 - v.d), lw (0 - v.c), v.e, v.f⟩ : Ve) = _
  rw [lw_n h.2.2.2.1, lw_n h.2.2.1]; rfl
theorem bI_n {x : Int} (h : bI x) : bI (-x) := by unfold bI at *; omega
theorem bV_fx {v : Ve} (h : bV v) : bV (fx v) := ⟨bI_n h.2.1, bI_n h.1, h.2.2⟩
theorem told_i {a b : Int} (h : (toldS a b).e = 0) : bI (toldS a b).lo /\ bI (toldS a b).hi := by
 unfold toldS at *
 cases ho : okF a && okF b with
 | false => rw [ho] at h; cases h
 | true =>
  simp only [Bool.and_eq_true] at ho
  exact ⟨okF_iff.1 ho.1, okF_iff.1 ho.2⟩
theorem both_i {a b c d : Int} {r : Sp} (h : (both a b c d r).e = 0) (k : r.e = 0 -> bI r.lo /\ bI r.hi) : bI (both a b c d r).lo /\ bI (both a b c d r).hi := by
 unfold both at *
 cases ho : okSp a b && okSp c d with
 | false => rw [ho] at h; cases h
 | true => rw [ho] at h; exact k h
theorem ok0_e {s : Sp} (h : ok0 s = true) : s.e = 0 := by unfold ok0 at h; simpa using h
theorem add_i {a b c d : Int} (h : ok0 (addS a b c d) = true) : bI (addS a b c d).lo /\ bI (addS a b c d).hi := both_i (ok0_e h) told_i
theorem mul_i {a b c d : Int} (h : ok0 (mulS a b c d) = true) : bI (mulS a b c d).lo /\ bI (mulS a b c d).hi := both_i (ok0_e h) told_i
theorem z_i : bI 0 := by unfold bI; decide
theorem ve0_i : bV ve0 := ⟨z_i, z_i, z_i, z_i, z_i, z_i⟩
theorem behind_i (Q w : Ve) (l : Iv) (r : Except Int Iv) : bV (behind hf0 Q w l r).at' := by
 cases r with
 | error c => exact ve0_i
 | ok t =>
  rcases end_tri hf0 Q w ⟨l.lo, l.hi, 0⟩ t.lo t.hi with ⟨e1, _, _, e4⟩ | ⟨e1, _⟩ | ⟨e1, _⟩
  .rw [show behind hf0 Q w l (.ok t) = _ from e1]
   simp only [Bool.and_eq_true] at e4
   have h := e4.1
   unfold ptOk ptO at h
   simp only [Bool.and_eq_true] at h
   obtain ⟨⟨h1, h2⟩, ⟨h3, h4⟩, h5⟩ := h
   have k2 : bI (p2 hf0 Q w t.lo t.hi).lo /\ bI (p2 hf0 Q w t.lo t.hi).hi := add_i h2
   have k4 : bI (p4 hf0 Q w t.lo t.hi).lo /\ bI (p4 hf0 Q w t.lo t.hi).hi := add_i h4
   have k5 : bI (p5 hf0 Q w t.lo t.hi).lo /\ bI (p5 hf0 Q w t.lo t.hi).hi := mul_i h5
   exact ⟨k2.1, k2.2, k4.1, k4.2, k5.1, k5.2⟩
  .rw [show behind hf0 Q w l (.ok t) = _ from e1]; exact ve0_i
  .rw [show behind hf0 Q w l (.ok t) = _ from e1]; exact ve0_i
theorem lQ_i {p w : Ve} (hr : rcE hf0 p w = 0) (he : plE hf0 p w = 0) : bV (lQ hf0 p w) := by
 have h := rc_l1 hr
 have k : ok0 (lB hf0 p w) = true /\ ok0 (lD hf0 p w) = true := by
  have h0 := plane_tri hf0 p w h
  rw [plane_st] at h0
  rcases h0 with ⟨h1, _⟩ | ⟨_, h2, _⟩
  .unfold st at h1
   cases k1 : ok0 (lN hf0 p) <;> rw [k1] at h1 <;> simp only [cond_true, cond_false] at h1
   .cases h1
   cases k2 : ok0 (lT hf0 p w) <;> rw [k2] at h1 <;> simp only [cond_true, cond_false] at h1
   .cases h1
   cases k3 : ok0 (lA hf0 p w) <;> rw [k3] at h1 <;> simp only [cond_true, cond_false] at h1
   .cases h1
   cases k4 : ok0 (lB hf0 p w) <;> rw [k4] at h1 <;> simp only [cond_true, cond_false] at h1
   .cases h1
   cases k5 : ok0 (lC hf0 p w) <;> rw [k5] at h1 <;> simp only [cond_true, cond_false] at h1
   .cases h1
   cases k6 : ok0 (lD hf0 p w) <;> rw [k6] at h1 <;> simp only [cond_true, cond_false] at h1
   .cases h1
   exact ⟨rfl, rfl⟩
  .exact absurd he h2
 have k1 : bI (lB hf0 p w).lo /\ bI (lB hf0 p w).hi := add_i k.1
 have k2 : bI (lD hf0 p w).lo /\ bI (lD hf0 p w).hi := add_i k.2
 exact ⟨k1.1, k1.2, k2.1, k2.2, z_i, z_i⟩
theorem hitA_i (s : Su) (ys : List Int) (p w : Ve) : bV (hitA hf0 s ys p w).at' := by
 cases hr : rightS s ys with
 | false => rw [ans_bad hr]; exact ve0_i
 | true =>
  rcases rc_two hf0 p w with ⟨h1, _⟩ | ⟨h1, _⟩
  .by_cases he : plE hf0 p w = 0
   .rcases right_kd hr with hk | hk | hk | hk
    .rw [ans_12 hr h1 he (.inl hk)]; exact behind_i _ _ _ _
    .rw [ans_12 hr h1 he (.inr hk)]; exact behind_i _ _ _ _
    .rw [ans_34 hr h1 he (.inl hk)]; exact lQ_i h1 he
    .rw [ans_34 hr h1 he (.inr hk)]; exact lQ_i h1 he
   .rw [ans_pl hr h1 he]; exact ve0_i
  .rw [ans_ray hr h1]; exact ve0_i
theorem eqB_self (v : Ve) : eqB v v = true := by unfold eqB; simp
theorem ho_self (o : HO) : (bif eqB o.at' o.at' then bif o.way.lo == o.way.lo && (o.way.hi == o.way.hi && true) then bif o.c == o.c then o.e == o.e else false else false else false) = true := by
 rw [eqB_self]; simp
theorem hm_true (S : Su) (t : Th) (b : Int) (ht : ThR t) : hmR (hitA hf0) S t b = true := by
 have ha := bV_of (at_v ht)
 have hd := bV_of (dir_v ht)
 have h1 := hitA_i S (tkY 0) (atV t) (dirV t)
 unfold hmR hm1 hm2
 cases bitU b 0 <;> cases bitU b 1 <;> simp only [mX_e ha, mX_e hd, mX_e h1, cond_true, cond_false]
 .rw [mY_e ha, mY_e hd, mY_e h1]; exact ho_self _
 .rw [mY_e ha, mY_e hd, mY_e h1]
  simp only [cond_true, hitA_fy]
  exact ho_self (hitA hf0 S (tkY 0) (atV t) (dirV t)).fy
 .rw [mY_e (bV_fx ha), mY_e (bV_fx hd), mY_e (bV_fx h1)]
  simp only [cond_false, hitA_fx]
  exact ho_self (hitA hf0 S (tkY 0) (atV t) (dirV t)).fx
 .rw [mY_e (bV_fx ha), mY_e (bV_fx hd), mY_e (bV_fx h1)]
  simp only [cond_true, hitA_fy, hitA_fx]
  exact ho_self ((hitA hf0 S (tkY 0) (atV t) (dirV t)).fx).fy
end Go.Ht
namespace Go.Proofs.YtjmhddncomglmaaGreatDoor.K
open Go Go.Eng Go.Ar Go.Rd Go.Vc Go.Ht
theorem hm_run (A : Su -> List Int -> Ve -> Ve -> HO) (S : Sp14 -> Su) (p : Sp14) (t : Th) (b : Int) : rHM (cHM A S) 4 p t b = some (.p ((0 <= p.kd /\ thQ t) /\ oS (S p) 0 /\ oS (S p) 0), .bool true (hmR A (S p) t b)) := by kernel_rfl
end Go.Proofs.YtjmhddncomglmaaGreatDoor.K
namespace Go.Proofs.YtjmhddncomglmaaGreatDoor.K
open Go Go.Eng Go.Ar Go.Rd Go.Vc Go.Ht Go.Iv
noncomputable section
theorem tblHM_g : ∀ x ∈ tblHM (hitA hf0) shS0, NOk Tryz.prog glob hG x.1 x.2 := by
 intro x hx
 simp only [tblHM, shpVF_0, List.mem_cons, List.not_mem_nil, or_false] at hx
 rcases hx with rfl | rfl | rfl
 .exact hitT_ok hit_ok
 .exact shp_ok
 .exact works_ok
theorem cHM_ok : CtxOk (cHM (hitA hf0) shS0) := mkN_ok prog_ok ext_ok tblHM_g fun _ h => by cases h
def shsHM : List Sh := [.a p14I, .a [.i .i16, .i .i16, .i .i16, .i .i16, .i .i16, .i .i16, .i .u8, .b], .i .u8]
theorem mirG_s (m : Bool) : (mirG m).size <= 6 := by cases m <;> decide
theorem shS0_g (p : Sp14) : (shS0 p).g.size <= 6 := by
 unfold shS0 shSu
 split
 .exact mirG_s _
 .exact mirG_s _
 .exact mirG_s _
 .exact mirG_s _
 .show (0 : Nat) <= 6; omega
 .show (0 : Nat) <= 6; omega
theorem oS_t (p : Sp14) : oS (shS0 p) 0 := ⟨⟨by decide, by decide, rfl⟩, by have := shS0_g p; omega⟩
theorem law_true : ∀ xs, xs.map Nu.isN = Sh.kindsL shsHM -> inRange (Sh.leavesL shsHM) xs -> LawTrue Tryz.prog glob hG 4 (Sh.mkL shsHM xs).1 := by
 intro xs hk r
 obtain ⟨x0, _, rfl, g0⟩ := kn hk
 obtain ⟨x1, _, rfl, g1⟩ := kn g0
 obtain ⟨x2, _, rfl, g2⟩ := kn g1
 obtain ⟨x3, _, rfl, g3⟩ := kn g2
 obtain ⟨x4, _, rfl, g4⟩ := kn g3
 obtain ⟨x5, _, rfl, g5⟩ := kn g4
 obtain ⟨x6, _, rfl, g6⟩ := kn g5
 obtain ⟨x7, _, rfl, g7⟩ := kn g6
 obtain ⟨x8, _, rfl, g8⟩ := kn g7
 obtain ⟨x9, _, rfl, g15⟩ := kt g8
 obtain ⟨z0, _, rfl, g16⟩ := kn g15
 obtain ⟨z1, _, rfl, g17⟩ := kn g16
 obtain ⟨z2, _, rfl, g18⟩ := kn g17
 obtain ⟨z3, _, rfl, g19⟩ := kn g18
 obtain ⟨z4, _, rfl, g20⟩ := kn g19
 obtain ⟨z5, _, rfl, g21⟩ := kn g20
 obtain ⟨z6, _, rfl, g22⟩ := kn g21
 obtain ⟨z7, _, rfl, g23⟩ := kt g22
 obtain ⟨b, _, rfl, g24⟩ := kn g23
 obtain rfl := k0 g24
 obtain ⟨r0, r1, r2, r3, r4, r5, r6, r7, r8, t0, t1, t2, t3, t4, t5, t6, -⟩ := r
 have e : (Sh.mkL shsHM [.n x0, .n x1, .n x2, .n x3, .n x4, .n x5, .n x6, .n x7, .n x8, .t x9, .n z0, .n z1, .n z2, .n z3, .n z4, .n z5, .n z6, .t z7, .n b]).1 = [.agg (Sp14.cells ⟨x0, x1, x2, x3, x4, x5, x6, x7, x8, x9⟩), .agg (Th.cells ⟨z0, z1, z2, z3, z4, z5, z6, z7⟩), .int true .u8 b] := rfl
 rw [e]
 have ht : ThR ⟨z0, z1, z2, z3, z4, z5, z6, z7⟩ := ⟨t0, t1, t2, t3, t4, t6⟩
 exact ⟨cHM (hitA hf0) shS0, 10000, _, true, _, cHM_ok, rfl, rfl, hm_run (hitA hf0) shS0 ⟨x0, x1, x2, x3, x4, x5, x6, x7, x8, x9⟩ ⟨z0, z1, z2, z3, z4, z5, z6, z7⟩ b, ⟨⟨r0.1, rfl, rfl, rfl, rfl, rfl, rfl, rfl, rfl⟩, oS_t _, oS_t _⟩, hm_true _ _ b ht⟩
end
end Go.Proofs.YtjmhddncomglmaaGreatDoor.K
