/- What is proved: a law of hits returns true, whatever the input (part 14). No conditions beyond those of the row. -/
import Derived.Test.YtjmhddncomglmaaGreatDoorPM
set_option linter.unusedVariables false
set_option linter.unusedSimpArgs false
set_option linter.unusedSectionVars false
namespace Go.Ht
open Go Go.Eng Go.Ar Go.Rd Go.Vc
def ch (q : Sp -> Bool) : List Sp -> Bool
 | [] => false
 | a :: l => match l with
  | [] => bd q a
  | _ :: _ => ok0 a && ch q l || bd q a
def al : List Sp -> Bool
 | [] => true
 | a :: l => match l with
  | [] => ok0 a
  | _ :: _ => ok0 a && al l
section
variable (F : HF) (p w : Ve) (c k : Int)
def cX2 : Sp := F.sq p.a p.b
def cY2 : Sp := F.sq p.c p.d
def cRR : Sp := F.ad (cX2 F p).lo (cX2 F p).hi (cY2 F p).lo (cY2 F p).hi
def cF : Sp := F.sc (cRR F p).lo (cRR F p).hi c 1000000000
def cLX : Sp := F.mu w.a w.b p.a p.b
def cMY : Sp := F.mu w.c w.d p.c p.d
def cLM : Sp := F.ad (cLX F p w).lo (cLX F p w).hi (cMY F p w).lo (cMY F p w).hi
def cCL : Sp := F.sc (cLM F p w).lo (cLM F p w).hi c 1000000000
def cG : Sp := F.su w.e w.f (cCL F p w c).lo (cCL F p w c).hi
def cL2 : Sp := F.sq w.a w.b
def cM2 : Sp := F.sq w.c w.d
def cS2 : Sp := F.ad (cL2 F w).lo (cL2 F w).hi (cM2 F w).lo (cM2 F w).hi
def cN2 : Sp := F.sq w.e w.f
def cKN : Sp := F.sc (cN2 F w).lo (cN2 F w).hi (kW k) 1000000
def cA : Sp := F.ad (cS2 F w).lo (cS2 F w).hi (cKN F w k).lo (cKN F w k).hi
def cG2 : Sp := F.sq (cG F p w c).lo (cG F p w c).hi
def cFC : Sp := F.sc (cF F p c).lo (cF F p c).hi c 1000000000
def cFA : Sp := F.mu (cFC F p c).lo (cFC F p c).hi (cA F w k).lo (cA F w k).hi
def cH : Sp := F.su (cG2 F p w c).lo (cG2 F p w c).hi (cFA F p w c k).lo (cFA F p w c k).hi
def cRt : Sp := F.rt (cH F p w c k).lo (cH F p w c k).hi
def cNg : Sp := F.ng (cRt F p w c k).lo (cRt F p w c k).hi
def cBk : Bool := decide (w.f < 0)
def cD : Sp := F.ad (cG F p w c).lo (cG F p w c).hi (bif cBk w then (cNg F p w c k).lo else (cRt F p w c k).lo) (bif cBk w then (cNg F p w c k).hi else (cRt F p w c k).hi)
def cT : Sp := F.di (cF F p c).lo (cF F p c).hi (cD F p w c k).lo (cD F p w c k).hi
def cZ : Sp := F.mu (cT F p w c k).lo (cT F p w c k).hi w.e w.f
def cKZ : Sp := F.sc (cZ F p w c k).lo (cZ F p w c k).hi (kW k) 1000000
def cCZ : Sp := F.sc (cKZ F p w c k).lo (cKZ F p w c k).hi c 1000000000
def cQ : Sp := F.su 4294967296 4294967296 (cCZ F p w c k).lo (cCZ F p w c k).hi
def g1 : List Sp := [cX2 F p, cY2 F p, cRR F p, cF F p c]
def g2 : List Sp := [cLX F p w, cMY F p w, cLM F p w, cCL F p w c, cG F p w c]
def g3 : List Sp := [cL2 F w, cM2 F w, cS2 F w, cN2 F w, cKN F w k, cA F w k]
def g4 : List Sp := [cG2 F p w c, cFC F p c, cFA F p w c k, cH F p w c k]
def h1 : Bool := decide ((cH F p w c k).hi < 0)
def h2 : Bool := decide ((cH F p w c k).lo < 0)
def q1 : Bool := decide ((cQ F p w c k).hi < 1)
def q2' : Bool := decide ((cQ F p w c k).lo < 1)
def ngB : Bool := bif cBk w then ok0 (cNg F p w c k) else true
def coM : Bool := al (g1 F p c) && (al (g2 F p w c) && (al (g3 F w k) && (al (g4 F p w c k) && (!h1 F p w c k && !h2 F p w c k && (ok0 (cRt F p w c k) && (ngB F p w c k && (al [cD F p w c k, cT F p w c k] && (ok0 (cZ F p w c k) && (ok0 (cKZ F p w c k) && (ok0 (cCZ F p w c k) && (ok0 (cQ F p w c k) && q1 F p w c k))))))) || h1 F p w c k))))
def coO : Bool := al (g1 F p c) && (al (g2 F p w c) && (al (g3 F w k) && (al (g4 F p w c k) && (!h1 F p w c k && !h2 F p w c k && (ok0 (cRt F p w c k) && (ngB F p w c k && (al [cD F p w c k, cT F p w c k] && (ok0 (cZ F p w c k) && (ok0 (cKZ F p w c k) && (ok0 (cCZ F p w c k) && (ok0 (cQ F p w c k) && (!q1 F p w c k && !q2' F p w c k))))))))))))
def coU : Bool := ch q2 (g1 F p c) || al (g1 F p c) && (ch q2 (g2 F p w c) || al (g2 F p w c) && (ch q2 (g3 F w k) || al (g3 F w k) && (ch q2 (g4 F p w c k) || al (g4 F p w c k) && (!h1 F p w c k && !h2 F p w c k && (ok0 (cRt F p w c k) && (ngB F p w c k && (ch q2 [cD F p w c k, cT F p w c k] ||
 al [cD F p w c k, cT F p w c k] && (ok0 (cZ F p w c k) && (ok0 (cKZ F p w c k) && (ok0 (cCZ F p w c k) && (ok0 (cQ F p w c k) && (!q1 F p w c k && q2' F p w c k) || bd q2 (cQ F p w c k)) || bd q2 (cCZ F p w c k)) || bd q2 (cKZ F p w c k)) || bd q2 (cZ F p w c k))) || cBk w && bd q2 (cNg F p w c k)) || bd q2 (cRt F p w c k)) || !h1 F p w c k && h2 F p w c k))))
def coF : Bool := ch q6 (g1 F p c) || al (g1 F p c) && (ch q6 (g2 F p w c) || al (g2 F p w c) && (ch q6 (g3 F w k) || al (g3 F w k) && (ch q6 (g4 F p w c k) || al (g4 F p w c k) && (!h1 F p w c k && !h2 F p w c k && (ok0 (cRt F p w c k) && (ngB F p w c k && (ch q6 [cD F p w c k, cT F p w c k] ||
 al [cD F p w c k, cT F p w c k] && ch q6 [cZ F p w c k, cKZ F p w c k, cCZ F p w c k, cQ F p w c k]) || cBk w && bd q6 (cNg F p w c k)) || bd q6 (cRt F p w c k))))))
def cAv : AV := .tuple [.agg [.int true .i64 (bif coM F p w c k then 0 else bif coU F p w c k then 0 else bif coO F p w c k then (cT F p w c k).lo else 0), .int true .i64 (bif coM F p w c k then 0 else bif coU F p w c k then 0 else bif coO F p w c k then (cT F p w c k).hi else 0)], .int true .i64 (bif coM F p w c k then 1 else bif coU F p w c k then 2 else bif coO F p w c k then 0 else 5)]
abbrev E2 (a b : Int) : Prop := a = a /\ b = b
def cNd : Prop := (((E2 w.e w.f /\ E2 p.c p.d) /\ E2 w.e w.f) /\ (ok0 (cX2 F p) = true -> E2 p.c p.d /\ (ok0 (cY2 F p) = true -> ok0 (cRR F p) = true -> okSq (cRR F p).lo (cRR F p).hi c 1000000000)) /\ (al (g1 F p c) = true -> (ok0 (cLX F p w) = true -> (E2 p.c p.d /\ E2 w.c w.d /\ E2 w.e w.f) /\ (ok0 (cMY F p w) = true -> E2 w.e w.f /\
 (ok0 (cLM F p w) = true -> E2 w.e w.f /\ okSq (cLM F p w).lo (cLM F p w).hi c 1000000000 /\ (ok0 (cCL F p w c) = true -> E2 w.e w.f)))) /\ (al (g2 F p w c) = true -> (ok0 (cL2 F w) = true -> (E2 w.e w.f /\ E2 w.c w.d) /\ (ok0 (cM2 F w) = true -> E2 w.e w.f /\ (ok0 (cS2 F w) = true -> E2 w.e w.f /\ (ok0 (cN2 F w) = true -> okSq (cN2 F w).lo (cN2 F w).hi (kW k) 1000000)))) /\
 (al (g3 F w k) = true -> (ok0 (cG2 F p w c) = true -> (E2 (cA F w k).lo (cA F w k).hi /\ E2 (cF F p c).lo (cF F p c).hi) /\ okSq (cF F p c).lo (cF F p c).hi c 1000000000 /\ (ok0 (cFC F p c) = true -> E2 (cA F w k).lo (cA F w k).hi)) /\ (al (g4 F p w c k) = true -> (!h1 F p w c k && !h2 F p w c k) = true -> ok0 (cRt F p w c k) = true -> ngB F p w c k = true -> (ok0 (cD F p w c k) = true -> E2 (cF F p c).lo (cF F p c).hi) /\
 (al [cD F p w c k, cT F p w c k] = true -> (E2 w.e w.f /\ E2 (cT F p w c k).lo (cT F p w c k).hi) /\ (ok0 (cZ F p w c k) = true -> okSq (cZ F p w c k).lo (cZ F p w c k).hi (kW k) 1000000 /\ (ok0 (cKZ F p w c k) = true -> okSq (cKZ F p w c k).lo (cKZ F p w c k).hi c 1000000000))))))))
theorem cNd_ok (hc : ∀ a b, okSq a b c 1000000000) (hk : ∀ a b, okSq a b (kW k) 1000000) : cNd F p w c k := by
 have e : ∀ a b, E2 a b := fun _ _ => ⟨rfl, rfl⟩
 unfold cNd
 refine ⟨⟨⟨e _ _, e _ _⟩, e _ _⟩, fun _ => ⟨e _ _, fun _ _ => hc _ _⟩, fun _ => ⟨fun _ => ⟨⟨e _ _, e _ _, e _ _⟩, fun _ => ⟨e _ _, fun _ => ⟨e _ _, hc _ _, fun _ => e _ _⟩⟩⟩, fun _ => ⟨fun _ => ⟨⟨e _ _, e _ _⟩, fun _ => ⟨e _ _, fun _ => ⟨e _ _, fun _ => hk _ _⟩⟩⟩, fun _ => ⟨fun _ => ⟨⟨e _ _, e _ _⟩, hc _ _, fun _ => e _ _⟩, fun _ _ _ _ => ⟨fun _ => e _ _, fun _ => ⟨⟨e _ _, e _ _⟩, fun _ => ⟨hk _ _, fun _ => hc _ _⟩⟩⟩⟩⟩⟩⟩
end
end Go.Ht
namespace Go.Proofs.YtjmhddncomglmaaGreatDoor.K
open Go Go.Eng Go.Ar Go.Rd Go.Vc Go.Ht
theorem co_run (F : HF) (s : Su) (n : Int) (ys : List Int) (p w : Ve) (c k : Int) : rCo (cHtP F true) (.int true .i64 s.kd) s n ys p w c k = some (.p (cNd F p w c k), cAv F p w c k) := by kernel_rfl
end Go.Proofs.YtjmhddncomglmaaGreatDoor.K
namespace Go.Ht
open Go Go.Eng Go.Ar Go.Rd Go.Vc
def st {α : Type} (s : Sp) (k : Except Int α) : Except Int α := bif ok0 s then k else .error (why s.e)
theorem op_bind {α : Type} (s : Sp) (f : Iv -> Except Int α) : (op s >>= f) = st s (f ⟨s.lo, s.hi⟩) := by
 unfold op st ok0
 cases s.e == 0 <;> rfl
def ng {α : Type} (b : Bool) (s : Sp) (k : Except Int α) : Except Int α := bif b && !ok0 s then .error (why s.e) else k
theorem ng_bind {α : Type} (b : Bool) (s : Sp) (x y : Int) (f : Iv -> Except Int α) : ((bif b then op s else .ok ⟨x, y⟩) >>= f) = ng b s (f ⟨bif b then s.lo else x, bif b then s.hi else y⟩) := by
 unfold op ng ok0
 cases b
 .rfl
 .cases s.e == 0 <;> rfl
theorem pos_bind {α : Type} (x : Iv) (k : Int) (f : Unit -> Except Int α) : (pos x k >>= f) = bif decide (x.hi < k) then .error 1 else bif decide (x.lo < k) then .error 2 else f () := by
 unfold pos
 cases decide (x.hi < k)
 .cases decide (x.lo < k) <;> rfl
 .rfl
theorem tri_st (s : Sp) : (ok0 s = true /\ bd q2 s = false /\ bd q6 s = false /\ ∀ {α : Type} (k : Except Int α), st s k = k) ∨ (ok0 s = false /\ bd q2 s = true /\ bd q6 s = false /\ ∀ {α : Type} (k : Except Int α), st s k = .error 2) ∨ (ok0 s = false /\ bd q2 s = false /\ bd q6 s = true /\ ∀ {α : Type} (k : Except Int α), st s k = .error 5) := by
 unfold st ok0 bd q2 q6 why
 cases h : s.e == 0 with
 | true => exact .inl ⟨rfl, rfl, rfl, fun _ => rfl⟩
 | false => cases h6 : s.e == 6 with
  | true => exact .inr (.inr ⟨rfl, rfl, rfl, fun _ => rfl⟩)
  | false => exact .inr (.inl ⟨rfl, rfl, rfl, fun _ => rfl⟩)
section
variable (F : HF) (p w : Ve) (c k : Int)
theorem conic_st : conicP F p w c k = (st (cX2 F p) <| st (cY2 F p) <| st (cRR F p) <| st (cF F p c) <| st (cLX F p w) <| st (cMY F p w) <| st (cLM F p w) <| st (cCL F p w c) <| st (cG F p w c) <| st (cL2 F w) <| st (cM2 F w) <| st (cS2 F w) <| st (cN2 F w) <| st (cKN F w k) <| st (cA F w k) <| st (cG2 F p w c) <| st (cFC F p c) <| st (cFA F p w c k) <| st (cH F p w c k) <| (bif h1 F p w c k then .error 1 else bif h2 F p w c k then .error 2 else st (cRt F p w c k) <| ng (cBk w) (cNg F p w c k) <| st (cD F p w c k) <| st (cT F p w c k) <| st (cZ F p w c k) <| st (cKZ F p w c k) <| st (cCZ F p w c k) <| st (cQ F p w c k) <| bif q1 F p w c k then .error 1 else bif q2' F p w c k then .error 2 else .ok ⟨(cT F p w c k).lo, (cT F p w c k).hi⟩)) := by
 simp only [conicP, sqr, add, scl, mul, sub, div, op_bind, pos_bind, ng_bind]
 rfl
theorem conic_tri : (conicP F p w c k = .ok ⟨(cT F p w c k).lo, (cT F p w c k).hi⟩ /\ coM F p w c k = false /\ coU F p w c k = false /\ coO F p w c k = true /\ coF F p w c k = false) ∨ (conicP F p w c k = .error 1 /\ coM F p w c k = true /\ coU F p w c k = false /\ coO F p w c k = false /\ coF F p w c k = false) ∨ (conicP F p w c k = .error 2 /\ coM F p w c k = false /\ coU F p w c k = true /\ coO F p w c k = false /\ coF F p w c k = false) ∨ (conicP F p w c k = .error 5 /\ coM F p w c k = false /\ coU F p w c k = false /\ coO F p w c k = false /\ coF F p w c k = true) := by
 rw [conic_st]
 unfold coM coU coO coF g1 g2 g3 g4
 rcases tri_st (cX2 F p) with ⟨x0_1, x0_2, x0_3, x0_4⟩ | ⟨x0_1, x0_2, x0_3, x0_4⟩ | ⟨x0_1, x0_2, x0_3, x0_4⟩
 .rw [x0_4]
  rcases tri_st (cY2 F p) with ⟨x1_1, x1_2, x1_3, x1_4⟩ | ⟨x1_1, x1_2, x1_3, x1_4⟩ | ⟨x1_1, x1_2, x1_3, x1_4⟩
  .rw [x1_4]
   rcases tri_st (cRR F p) with ⟨x2_1, x2_2, x2_3, x2_4⟩ | ⟨x2_1, x2_2, x2_3, x2_4⟩ | ⟨x2_1, x2_2, x2_3, x2_4⟩
   .rw [x2_4]
    rcases tri_st (cF F p c) with ⟨x3_1, x3_2, x3_3, x3_4⟩ | ⟨x3_1, x3_2, x3_3, x3_4⟩ | ⟨x3_1, x3_2, x3_3, x3_4⟩
    .rw [x3_4]
     rcases tri_st (cLX F p w) with ⟨x4_1, x4_2, x4_3, x4_4⟩ | ⟨x4_1, x4_2, x4_3, x4_4⟩ | ⟨x4_1, x4_2, x4_3, x4_4⟩
     .rw [x4_4]
      rcases tri_st (cMY F p w) with ⟨x5_1, x5_2, x5_3, x5_4⟩ | ⟨x5_1, x5_2, x5_3, x5_4⟩ | ⟨x5_1, x5_2, x5_3, x5_4⟩
      .rw [x5_4]
       rcases tri_st (cLM F p w) with ⟨x6_1, x6_2, x6_3, x6_4⟩ | ⟨x6_1, x6_2, x6_3, x6_4⟩ | ⟨x6_1, x6_2, x6_3, x6_4⟩
       .rw [x6_4]
        rcases tri_st (cCL F p w c) with ⟨x7_1, x7_2, x7_3, x7_4⟩ | ⟨x7_1, x7_2, x7_3, x7_4⟩ | ⟨x7_1, x7_2, x7_3, x7_4⟩
        .rw [x7_4]
         rcases tri_st (cG F p w c) with ⟨x8_1, x8_2, x8_3, x8_4⟩ | ⟨x8_1, x8_2, x8_3, x8_4⟩ | ⟨x8_1, x8_2, x8_3, x8_4⟩
         .rw [x8_4]
          rcases tri_st (cL2 F w) with ⟨x9_1, x9_2, x9_3, x9_4⟩ | ⟨x9_1, x9_2, x9_3, x9_4⟩ | ⟨x9_1, x9_2, x9_3, x9_4⟩
          .rw [x9_4]
           rcases tri_st (cM2 F w) with ⟨x10_1, x10_2, x10_3, x10_4⟩ | ⟨x10_1, x10_2, x10_3, x10_4⟩ | ⟨x10_1, x10_2, x10_3, x10_4⟩
           .rw [x10_4]
            rcases tri_st (cS2 F w) with ⟨x11_1, x11_2, x11_3, x11_4⟩ | ⟨x11_1, x11_2, x11_3, x11_4⟩ | ⟨x11_1, x11_2, x11_3, x11_4⟩
            .rw [x11_4]
             rcases tri_st (cN2 F w) with ⟨x12_1, x12_2, x12_3, x12_4⟩ | ⟨x12_1, x12_2, x12_3, x12_4⟩ | ⟨x12_1, x12_2, x12_3, x12_4⟩
             .rw [x12_4]
              rcases tri_st (cKN F w k) with ⟨x13_1, x13_2, x13_3, x13_4⟩ | ⟨x13_1, x13_2, x13_3, x13_4⟩ | ⟨x13_1, x13_2, x13_3, x13_4⟩
              .rw [x13_4]
               rcases tri_st (cA F w k) with ⟨x14_1, x14_2, x14_3, x14_4⟩ | ⟨x14_1, x14_2, x14_3, x14_4⟩ | ⟨x14_1, x14_2, x14_3, x14_4⟩
               .rw [x14_4]
                rcases tri_st (cG2 F p w c) with ⟨x15_1, x15_2, x15_3, x15_4⟩ | ⟨x15_1, x15_2, x15_3, x15_4⟩ | ⟨x15_1, x15_2, x15_3, x15_4⟩
                .rw [x15_4]
                 rcases tri_st (cFC F p c) with ⟨x16_1, x16_2, x16_3, x16_4⟩ | ⟨x16_1, x16_2, x16_3, x16_4⟩ | ⟨x16_1, x16_2, x16_3, x16_4⟩
                 .rw [x16_4]
                  rcases tri_st (cFA F p w c k) with ⟨x17_1, x17_2, x17_3, x17_4⟩ | ⟨x17_1, x17_2, x17_3, x17_4⟩ | ⟨x17_1, x17_2, x17_3, x17_4⟩
                  .rw [x17_4]
                   rcases tri_st (cH F p w c k) with ⟨x18_1, x18_2, x18_3, x18_4⟩ | ⟨x18_1, x18_2, x18_3, x18_4⟩ | ⟨x18_1, x18_2, x18_3, x18_4⟩
                   .rw [x18_4]
                    cases hh1 : h1 F p w c k with
                    | true => simp [ch, al, x0_1, x0_2, x0_3, x1_1, x1_2, x1_3, x2_1, x2_2, x2_3, x3_1, x3_2, x3_3, x4_1, x4_2, x4_3, x5_1, x5_2, x5_3, x6_1, x6_2, x6_3, x7_1, x7_2, x7_3, x8_1, x8_2, x8_3, x9_1, x9_2, x9_3, x10_1, x10_2, x10_3, x11_1, x11_2, x11_3, x12_1, x12_2, x12_3, x13_1, x13_2, x13_3, x14_1, x14_2, x14_3, x15_1, x15_2, x15_3, x16_1, x16_2, x16_3, x17_1, x17_2, x17_3, x18_1, x18_2, x18_3]
                    | false =>
                     cases hh2 : h2 F p w c k with
                     | true => simp [ch, al, x0_1, x0_2, x0_3, x1_1, x1_2, x1_3, x2_1, x2_2, x2_3, x3_1, x3_2, x3_3, x4_1, x4_2, x4_3, x5_1, x5_2, x5_3, x6_1, x6_2, x6_3, x7_1, x7_2, x7_3, x8_1, x8_2, x8_3, x9_1, x9_2, x9_3, x10_1, x10_2, x10_3, x11_1, x11_2, x11_3, x12_1, x12_2, x12_3, x13_1, x13_2, x13_3, x14_1, x14_2, x14_3, x15_1, x15_2, x15_3, x16_1, x16_2, x16_3, x17_1, x17_2, x17_3, x18_1, x18_2, x18_3]
                     | false =>
                      simp only [cond_false]
                      rcases tri_st (cRt F p w c k) with ⟨x19_1, x19_2, x19_3, x19_4⟩ | ⟨x19_1, x19_2, x19_3, x19_4⟩ | ⟨x19_1, x19_2, x19_3, x19_4⟩
                      .rw [x19_4]
                       have hn : (ngB F p w c k = true /\ (cBk w && bd q2 (cNg F p w c k)) = false /\ (cBk w && bd q6 (cNg F p w c k)) = false /\ ∀ {α : Type} (r : Except Int α), ng (cBk w) (cNg F p w c k) r = r) ∨ (ngB F p w c k = false /\ (cBk w && bd q2 (cNg F p w c k)) = true /\ (cBk w && bd q6 (cNg F p w c k)) = false /\ ∀ {α : Type} (r : Except Int α), ng (cBk w) (cNg F p w c k) r = .error 2) ∨ (ngB F p w c k = false /\ (cBk w && bd q2 (cNg F p w c k)) = false /\ (cBk w && bd q6 (cNg F p w c k)) = true /\ ∀ {α : Type} (r : Except Int α), ng (cBk w) (cNg F p w c k) r = .error 5) := by
                        unfold ngB ng ok0 bd q2 q6 why
                        cases cBk w
                        .exact .inl ⟨rfl, rfl, rfl, fun _ => rfl⟩
                        .cases (cNg F p w c k).e == 0
                         .cases (cNg F p w c k).e == 6
                          .exact .inr (.inl ⟨rfl, rfl, rfl, fun _ => rfl⟩)
                          .exact .inr (.inr ⟨rfl, rfl, rfl, fun _ => rfl⟩)
                         .exact .inl ⟨rfl, rfl, rfl, fun _ => rfl⟩
                       rcases hn with ⟨n1, n2, n4, n3⟩ | ⟨n1, n2, n4, n3⟩ | ⟨n1, n2, n4, n3⟩
                       .rw [n3]
                        rcases tri_st (cD F p w c k) with ⟨x20_1, x20_2, x20_3, x20_4⟩ | ⟨x20_1, x20_2, x20_3, x20_4⟩ | ⟨x20_1, x20_2, x20_3, x20_4⟩
                        .rw [x20_4]
                         rcases tri_st (cT F p w c k) with ⟨x21_1, x21_2, x21_3, x21_4⟩ | ⟨x21_1, x21_2, x21_3, x21_4⟩ | ⟨x21_1, x21_2, x21_3, x21_4⟩
                         .rw [x21_4]
                          rcases tri_st (cZ F p w c k) with ⟨x22_1, x22_2, x22_3, x22_4⟩ | ⟨x22_1, x22_2, x22_3, x22_4⟩ | ⟨x22_1, x22_2, x22_3, x22_4⟩
                          .rw [x22_4]
                           rcases tri_st (cKZ F p w c k) with ⟨x23_1, x23_2, x23_3, x23_4⟩ | ⟨x23_1, x23_2, x23_3, x23_4⟩ | ⟨x23_1, x23_2, x23_3, x23_4⟩
                           .rw [x23_4]
                            rcases tri_st (cCZ F p w c k) with ⟨x24_1, x24_2, x24_3, x24_4⟩ | ⟨x24_1, x24_2, x24_3, x24_4⟩ | ⟨x24_1, x24_2, x24_3, x24_4⟩
                            .rw [x24_4]
                             rcases tri_st (cQ F p w c k) with ⟨x25_1, x25_2, x25_3, x25_4⟩ | ⟨x25_1, x25_2, x25_3, x25_4⟩ | ⟨x25_1, x25_2, x25_3, x25_4⟩
                             .rw [x25_4]
                              cases hq1 : q1 F p w c k <;> cases hq2 : q2' F p w c k <;> simp [ch, al, hh1, hh2, hq1, hq2, x0_1, x0_2, x0_3, x1_1, x1_2, x1_3, x2_1, x2_2, x2_3, x3_1, x3_2, x3_3, x4_1, x4_2, x4_3, x5_1, x5_2, x5_3, x6_1, x6_2, x6_3, x7_1, x7_2, x7_3, x8_1, x8_2, x8_3, x9_1, x9_2, x9_3, x10_1, x10_2, x10_3, x11_1, x11_2, x11_3, x12_1, x12_2, x12_3, x13_1, x13_2, x13_3, x14_1, x14_2, x14_3, x15_1, x15_2, x15_3, x16_1, x16_2, x16_3, x17_1, x17_2, x17_3, x18_1, x18_2, x18_3, x19_1, x19_2, x19_3, n1, n2, n4, x20_1, x20_2, x20_3, x21_1, x21_2, x21_3, x22_1, x22_2, x22_3, x23_1, x23_2, x23_3, x24_1, x24_2, x24_3, x25_1, x25_2, x25_3]
                             all_goals (rw [x25_4]; simp [ch, al, hh1, hh2, x0_1, x0_2, x0_3, x1_1, x1_2, x1_3, x2_1, x2_2, x2_3, x3_1, x3_2, x3_3, x4_1, x4_2, x4_3, x5_1, x5_2, x5_3, x6_1, x6_2, x6_3, x7_1, x7_2, x7_3, x8_1, x8_2, x8_3, x9_1, x9_2, x9_3, x10_1, x10_2, x10_3, x11_1, x11_2, x11_3, x12_1, x12_2, x12_3, x13_1, x13_2, x13_3, x14_1, x14_2, x14_3, x15_1, x15_2, x15_3, x16_1, x16_2, x16_3, x17_1, x17_2, x17_3, x18_1, x18_2, x18_3, x19_1, x19_2, x19_3, n1, n2, n4, x20_1, x20_2, x20_3, x21_1, x21_2, x21_3, x22_1, x22_2, x22_3, x23_1, x23_2, x23_3, x24_1, x24_2, x24_3, x25_1, x25_2, x25_3])
                            all_goals (rw [x24_4]; simp [ch, al, hh1, hh2, x0_1, x0_2, x0_3, x1_1, x1_2, x1_3, x2_1, x2_2, x2_3, x3_1, x3_2, x3_3, x4_1, x4_2, x4_3, x5_1, x5_2, x5_3, x6_1, x6_2, x6_3, x7_1, x7_2, x7_3, x8_1, x8_2, x8_3, x9_1, x9_2, x9_3, x10_1, x10_2, x10_3, x11_1, x11_2, x11_3, x12_1, x12_2, x12_3, x13_1, x13_2, x13_3, x14_1, x14_2, x14_3, x15_1, x15_2, x15_3, x16_1, x16_2, x16_3, x17_1, x17_2, x17_3, x18_1, x18_2, x18_3, x19_1, x19_2, x19_3, n1, n2, n4, x20_1, x20_2, x20_3, x21_1, x21_2, x21_3, x22_1, x22_2, x22_3, x23_1, x23_2, x23_3, x24_1, x24_2, x24_3])
                           all_goals (rw [x23_4]; simp [ch, al, hh1, hh2, x0_1, x0_2, x0_3, x1_1, x1_2, x1_3, x2_1, x2_2, x2_3, x3_1, x3_2, x3_3, x4_1, x4_2, x4_3, x5_1, x5_2, x5_3, x6_1, x6_2, x6_3, x7_1, x7_2, x7_3, x8_1, x8_2, x8_3, x9_1, x9_2, x9_3, x10_1, x10_2, x10_3, x11_1, x11_2, x11_3, x12_1, x12_2, x12_3, x13_1, x13_2, x13_3, x14_1, x14_2, x14_3, x15_1, x15_2, x15_3, x16_1, x16_2, x16_3, x17_1, x17_2, x17_3, x18_1, x18_2, x18_3, x19_1, x19_2, x19_3, n1, n2, n4, x20_1, x20_2, x20_3, x21_1, x21_2, x21_3, x22_1, x22_2, x22_3, x23_1, x23_2, x23_3])
                          all_goals (rw [x22_4]; simp [ch, al, hh1, hh2, x0_1, x0_2, x0_3, x1_1, x1_2, x1_3, x2_1, x2_2, x2_3, x3_1, x3_2, x3_3, x4_1, x4_2, x4_3, x5_1, x5_2, x5_3, x6_1, x6_2, x6_3, x7_1, x7_2, x7_3, x8_1, x8_2, x8_3, x9_1, x9_2, x9_3, x10_1, x10_2, x10_3, x11_1, x11_2, x11_3, x12_1, x12_2, x12_3, x13_1, x13_2, x13_3, x14_1, x14_2, x14_3, x15_1, x15_2, x15_3, x16_1, x16_2, x16_3, x17_1, x17_2, x17_3, x18_1, x18_2, x18_3, x19_1, x19_2, x19_3, n1, n2, n4, x20_1, x20_2, x20_3, x21_1, x21_2, x21_3, x22_1, x22_2, x22_3])
                         all_goals (rw [x21_4]; simp [ch, al, hh1, hh2, x0_1, x0_2, x0_3, x1_1, x1_2, x1_3, x2_1, x2_2, x2_3, x3_1, x3_2, x3_3, x4_1, x4_2, x4_3, x5_1, x5_2, x5_3, x6_1, x6_2, x6_3, x7_1, x7_2, x7_3, x8_1, x8_2, x8_3, x9_1, x9_2, x9_3, x10_1, x10_2, x10_3, x11_1, x11_2, x11_3, x12_1, x12_2, x12_3, x13_1, x13_2, x13_3, x14_1, x14_2, x14_3, x15_1, x15_2, x15_3, x16_1, x16_2, x16_3, x17_1, x17_2, x17_3, x18_1, x18_2, x18_3, x19_1, x19_2, x19_3, n1, n2, n4, x20_1, x20_2, x20_3, x21_1, x21_2, x21_3])
                        all_goals (rw [x20_4]; simp [ch, al, hh1, hh2, x0_1, x0_2, x0_3, x1_1, x1_2, x1_3, x2_1, x2_2, x2_3, x3_1, x3_2, x3_3, x4_1, x4_2, x4_3, x5_1, x5_2, x5_3, x6_1, x6_2, x6_3, x7_1, x7_2, x7_3, x8_1, x8_2, x8_3, x9_1, x9_2, x9_3, x10_1, x10_2, x10_3, x11_1, x11_2, x11_3, x12_1, x12_2, x12_3, x13_1, x13_2, x13_3, x14_1, x14_2, x14_3, x15_1, x15_2, x15_3, x16_1, x16_2, x16_3, x17_1, x17_2, x17_3, x18_1, x18_2, x18_3, x19_1, x19_2, x19_3, n1, n2, n4, x20_1, x20_2, x20_3])
                       all_goals (rw [n3]; simp [ch, al, hh1, hh2, x0_1, x0_2, x0_3, x1_1, x1_2, x1_3, x2_1, x2_2, x2_3, x3_1, x3_2, x3_3, x4_1, x4_2, x4_3, x5_1, x5_2, x5_3, x6_1, x6_2, x6_3, x7_1, x7_2, x7_3, x8_1, x8_2, x8_3, x9_1, x9_2, x9_3, x10_1, x10_2, x10_3, x11_1, x11_2, x11_3, x12_1, x12_2, x12_3, x13_1, x13_2, x13_3, x14_1, x14_2, x14_3, x15_1, x15_2, x15_3, x16_1, x16_2, x16_3, x17_1, x17_2, x17_3, x18_1, x18_2, x18_3, x19_1, x19_2, x19_3, n1, n2, n4])
                      all_goals (rw [x19_4]; simp [ch, al, hh1, hh2, x0_1, x0_2, x0_3, x1_1, x1_2, x1_3, x2_1, x2_2, x2_3, x3_1, x3_2, x3_3, x4_1, x4_2, x4_3, x5_1, x5_2, x5_3, x6_1, x6_2, x6_3, x7_1, x7_2, x7_3, x8_1, x8_2, x8_3, x9_1, x9_2, x9_3, x10_1, x10_2, x10_3, x11_1, x11_2, x11_3, x12_1, x12_2, x12_3, x13_1, x13_2, x13_3, x14_1, x14_2, x14_3, x15_1, x15_2, x15_3, x16_1, x16_2, x16_3, x17_1, x17_2, x17_3, x18_1, x18_2, x18_3, x19_1, x19_2, x19_3])
                   all_goals (rw [x18_4]; simp [ch, al, x0_1, x0_2, x0_3, x1_1, x1_2, x1_3, x2_1, x2_2, x2_3, x3_1, x3_2, x3_3, x4_1, x4_2, x4_3, x5_1, x5_2, x5_3, x6_1, x6_2, x6_3, x7_1, x7_2, x7_3, x8_1, x8_2, x8_3, x9_1, x9_2, x9_3, x10_1, x10_2, x10_3, x11_1, x11_2, x11_3, x12_1, x12_2, x12_3, x13_1, x13_2, x13_3, x14_1, x14_2, x14_3, x15_1, x15_2, x15_3, x16_1, x16_2, x16_3, x17_1, x17_2, x17_3, x18_1, x18_2, x18_3])
                  all_goals (rw [x17_4]; simp [ch, al, x0_1, x0_2, x0_3, x1_1, x1_2, x1_3, x2_1, x2_2, x2_3, x3_1, x3_2, x3_3, x4_1, x4_2, x4_3, x5_1, x5_2, x5_3, x6_1, x6_2, x6_3, x7_1, x7_2, x7_3, x8_1, x8_2, x8_3, x9_1, x9_2, x9_3, x10_1, x10_2, x10_3, x11_1, x11_2, x11_3, x12_1, x12_2, x12_3, x13_1, x13_2, x13_3, x14_1, x14_2, x14_3, x15_1, x15_2, x15_3, x16_1, x16_2, x16_3, x17_1, x17_2, x17_3])
                 all_goals (rw [x16_4]; simp [ch, al, x0_1, x0_2, x0_3, x1_1, x1_2, x1_3, x2_1, x2_2, x2_3, x3_1, x3_2, x3_3, x4_1, x4_2, x4_3, x5_1, x5_2, x5_3, x6_1, x6_2, x6_3, x7_1, x7_2, x7_3, x8_1, x8_2, x8_3, x9_1, x9_2, x9_3, x10_1, x10_2, x10_3, x11_1, x11_2, x11_3, x12_1, x12_2, x12_3, x13_1, x13_2, x13_3, x14_1, x14_2, x14_3, x15_1, x15_2, x15_3, x16_1, x16_2, x16_3])
                all_goals (rw [x15_4]; simp [ch, al, x0_1, x0_2, x0_3, x1_1, x1_2, x1_3, x2_1, x2_2, x2_3, x3_1, x3_2, x3_3, x4_1, x4_2, x4_3, x5_1, x5_2, x5_3, x6_1, x6_2, x6_3, x7_1, x7_2, x7_3, x8_1, x8_2, x8_3, x9_1, x9_2, x9_3, x10_1, x10_2, x10_3, x11_1, x11_2, x11_3, x12_1, x12_2, x12_3, x13_1, x13_2, x13_3, x14_1, x14_2, x14_3, x15_1, x15_2, x15_3])
               all_goals (rw [x14_4]; simp [ch, al, x0_1, x0_2, x0_3, x1_1, x1_2, x1_3, x2_1, x2_2, x2_3, x3_1, x3_2, x3_3, x4_1, x4_2, x4_3, x5_1, x5_2, x5_3, x6_1, x6_2, x6_3, x7_1, x7_2, x7_3, x8_1, x8_2, x8_3, x9_1, x9_2, x9_3, x10_1, x10_2, x10_3, x11_1, x11_2, x11_3, x12_1, x12_2, x12_3, x13_1, x13_2, x13_3, x14_1, x14_2, x14_3])
              all_goals (rw [x13_4]; simp [ch, al, x0_1, x0_2, x0_3, x1_1, x1_2, x1_3, x2_1, x2_2, x2_3, x3_1, x3_2, x3_3, x4_1, x4_2, x4_3, x5_1, x5_2, x5_3, x6_1, x6_2, x6_3, x7_1, x7_2, x7_3, x8_1, x8_2, x8_3, x9_1, x9_2, x9_3, x10_1, x10_2, x10_3, x11_1, x11_2, x11_3, x12_1, x12_2, x12_3, x13_1, x13_2, x13_3])
             all_goals (rw [x12_4]; simp [ch, al, x0_1, x0_2, x0_3, x1_1, x1_2, x1_3, x2_1, x2_2, x2_3, x3_1, x3_2, x3_3, x4_1, x4_2, x4_3, x5_1, x5_2, x5_3, x6_1, x6_2, x6_3, x7_1, x7_2, x7_3, x8_1, x8_2, x8_3, x9_1, x9_2, x9_3, x10_1, x10_2, x10_3, x11_1, x11_2, x11_3, x12_1, x12_2, x12_3])
            all_goals (rw [x11_4]; simp [ch, al, x0_1, x0_2, x0_3, x1_1, x1_2, x1_3, x2_1, x2_2, x2_3, x3_1, x3_2, x3_3, x4_1, x4_2, x4_3, x5_1, x5_2, x5_3, x6_1, x6_2, x6_3, x7_1, x7_2, x7_3, x8_1, x8_2, x8_3, x9_1, x9_2, x9_3, x10_1, x10_2, x10_3, x11_1, x11_2, x11_3])
           all_goals (rw [x10_4]; simp [ch, al, x0_1, x0_2, x0_3, x1_1, x1_2, x1_3, x2_1, x2_2, x2_3, x3_1, x3_2, x3_3, x4_1, x4_2, x4_3, x5_1, x5_2, x5_3, x6_1, x6_2, x6_3, x7_1, x7_2, x7_3, x8_1, x8_2, x8_3, x9_1, x9_2, x9_3, x10_1, x10_2, x10_3])
          all_goals (rw [x9_4]; simp [ch, al, x0_1, x0_2, x0_3, x1_1, x1_2, x1_3, x2_1, x2_2, x2_3, x3_1, x3_2, x3_3, x4_1, x4_2, x4_3, x5_1, x5_2, x5_3, x6_1, x6_2, x6_3, x7_1, x7_2, x7_3, x8_1, x8_2, x8_3, x9_1, x9_2, x9_3])
         all_goals (rw [x8_4]; simp [ch, al, x0_1, x0_2, x0_3, x1_1, x1_2, x1_3, x2_1, x2_2, x2_3, x3_1, x3_2, x3_3, x4_1, x4_2, x4_3, x5_1, x5_2, x5_3, x6_1, x6_2, x6_3, x7_1, x7_2, x7_3, x8_1, x8_2, x8_3])
        all_goals (rw [x7_4]; simp [ch, al, x0_1, x0_2, x0_3, x1_1, x1_2, x1_3, x2_1, x2_2, x2_3, x3_1, x3_2, x3_3, x4_1, x4_2, x4_3, x5_1, x5_2, x5_3, x6_1, x6_2, x6_3, x7_1, x7_2, x7_3])
       all_goals (rw [x6_4]; simp [ch, al, x0_1, x0_2, x0_3, x1_1, x1_2, x1_3, x2_1, x2_2, x2_3, x3_1, x3_2, x3_3, x4_1, x4_2, x4_3, x5_1, x5_2, x5_3, x6_1, x6_2, x6_3])
      all_goals (rw [x5_4]; simp [ch, al, x0_1, x0_2, x0_3, x1_1, x1_2, x1_3, x2_1, x2_2, x2_3, x3_1, x3_2, x3_3, x4_1, x4_2, x4_3, x5_1, x5_2, x5_3])
     all_goals (rw [x4_4]; simp [ch, al, x0_1, x0_2, x0_3, x1_1, x1_2, x1_3, x2_1, x2_2, x2_3, x3_1, x3_2, x3_3, x4_1, x4_2, x4_3])
    all_goals (rw [x3_4]; simp [ch, al, x0_1, x0_2, x0_3, x1_1, x1_2, x1_3, x2_1, x2_2, x2_3, x3_1, x3_2, x3_3])
   all_goals (rw [x2_4]; simp [ch, al, x0_1, x0_2, x0_3, x1_1, x1_2, x1_3, x2_1, x2_2, x2_3])
  all_goals (rw [x1_4]; simp [ch, al, x0_1, x0_2, x0_3, x1_1, x1_2, x1_3])
 all_goals (rw [x0_4]; simp [ch, al, x0_1, x0_2, x0_3])
theorem cAv_eq : cAv F p w c k = tryV (conicP F p w c k) := by
 unfold cAv
 rcases conic_tri F p w c k with ⟨h1, h2, h3, h4, _⟩ | ⟨h1, h2, _⟩ | ⟨h1, h2, h3, _⟩ | ⟨h1, h2, h3, h4, _⟩
 .rw [h1, h2, h3, h4]; rfl
 .rw [h1, h2]; rfl
 .rw [h1, h2, h3]; rfl
 .rw [h1, h2, h3, h4]; rfl
end
end Go.Ht
namespace Go.Ht
open Go Go.Eng Go.Ar Go.Rd Go.Vc
section
variable (F : HF) (p w : Ve)
def rcE : Int := bif !F.vc p != 0 && !F.vc w != 0 then 0 else 240
def lN : Sp := F.ng p.e p.f
def lT : Sp := F.di (lN F p).lo (lN F p).hi w.e w.f
def lA : Sp := F.mu (lT F p w).lo (lT F p w).hi w.a w.b
def lB : Sp := F.ad p.a p.b (lA F p w).lo (lA F p w).hi
def lC : Sp := F.mu (lT F p w).lo (lT F p w).hi w.c w.d
def lD : Sp := F.ad p.c p.d (lC F p w).lo (lC F p w).hi
def nz (s : Sp) : Bool := s.e != 0
def l6 : Bool := !nz (lN F p) && !nz (lT F p w)
def l13 : Bool := !nz (lA F p w) && !nz (lB F p w)
def l18 : Bool := l6 F p w && (l13 F p w && (!nz (lC F p w) && !nz (lD F p w)))
def l1 : Bool := !rcE F p w != 0
def lSel (v : Int) : Int := bif l1 F p w && nz (lN F p) then 0 else bif l1 F p w && (l6 F p w && (!nz (lA F p w) && nz (lB F p w))) then 0 else bif l1 F p w && (l6 F p w && (l13 F p w && nz (lC F p w))) then 0 else bif l1 F p w && l18 F p w then v else 0
def plE : Int := bif l1 F p w && nz (lN F p) then (lN F p).e else bif l1 F p w && (l6 F p w && (!nz (lA F p w) && nz (lB F p w))) then (lB F p w).e else bif l1 F p w && (l6 F p w && (l13 F p w && nz (lC F p w))) then (lC F p w).e else bif l1 F p w && l18 F p w then 0 else
 bif l1 F p w && (l6 F p w && (l13 F p w && (!nz (lC F p w) && nz (lD F p w)))) then (lD F p w).e else bif l1 F p w && (l6 F p w && nz (lA F p w)) then (lA F p w).e else bif l1 F p w && (!nz (lN F p) && nz (lT F p w)) then (lT F p w).e else rcE F p w
def lI (v : Int) : AV := .int true .i64 (lSel F p w v)
def lAv : AV := .tuple [.agg [lI F p w (lB F p w).lo, lI F p w (lB F p w).hi, lI F p w (lD F p w).lo, lI F p w (lD F p w).hi, .int false .i64 0, .int false .i64 0, lI F p w w.a, lI F p w w.b, lI F p w w.c, lI F p w w.d, lI F p w w.e, lI F p w w.f], .agg [lI F p w (lT F p w).lo, lI F p w (lT F p w).hi], .int true .i64 (plE F p w)]
def lNd : Prop := (l1 F p w = true -> (((E2 w.e w.f) /\ ((!nz (lN F p)) = true -> E2 w.e w.f)) /\ (l6 F p w = true -> (E2 p.a p.b /\ ((!nz (lA F p w)) = true -> E2 p.a p.b)) /\ (l13 F p w = true -> E2 p.c p.d /\ ((!nz (lC F p w)) = true -> E2 p.c p.d)))) /\ (l18 F p w = true -> E2 (lT F p w).lo (lT F p w).hi))
theorem lNd_ok : lNd F p w := by
 have e : ∀ a b, E2 a b := fun _ _ => ⟨rfl, rfl⟩
 exact fun _ => ⟨⟨⟨e _ _, fun _ => e _ _⟩, fun _ => ⟨⟨e _ _, fun _ => e _ _⟩, fun _ => ⟨e _ _, fun _ => e _ _⟩⟩⟩, fun _ => e _ _⟩
theorem plane_st : planeP F p w = (st (lN F p) <| st (lT F p w) <| st (lA F p w) <| st (lB F p w) <| st (lC F p w) <| st (lD F p w) <| .ok (⟨(lB F p w).lo, (lB F p w).hi, (lD F p w).lo, (lD F p w).hi, 0, 0⟩, ⟨(lT F p w).lo, (lT F p w).hi⟩)) := by
 simp only [planeP, add, mul, div, op_bind]
 rfl
theorem nz_ok {s : Sp} : nz s = !ok0 s := rfl
theorem plane_tri (h : l1 F p w = true) : (planeP F p w = .ok (⟨(lB F p w).lo, (lB F p w).hi, (lD F p w).lo, (lD F p w).hi, 0, 0⟩, ⟨(lT F p w).lo, (lT F p w).hi⟩) /\ plE F p w = 0 /\ ∀ v, lSel F p w v = v) ∨ (planeP F p w = .error (why (plE F p w)) /\ plE F p w ≠ 0 /\ ∀ v, lSel F p w v = 0) := by
 rw [plane_st]
 have ne : ∀ s : Sp, ok0 s = false -> s.e ≠ 0 := fun s hs he => by unfold ok0 at hs; rw [he] at hs; cases hs
 unfold plE lSel l18 l13 l6 st
 simp only [nz_ok, h, Bool.true_and, Bool.not_not]
 cases h1 : ok0 (lN F p)
 .exact .inr ⟨rfl, ne _ h1, fun _ => rfl⟩
 cases h2 : ok0 (lT F p w)
 .exact .inr ⟨rfl, ne _ h2, fun _ => rfl⟩
 cases h3 : ok0 (lA F p w)
 .exact .inr ⟨rfl, ne _ h3, fun _ => rfl⟩
 cases h4 : ok0 (lB F p w)
 .exact .inr ⟨rfl, ne _ h4, fun _ => rfl⟩
 cases h5 : ok0 (lC F p w)
 .exact .inr ⟨rfl, ne _ h5, fun _ => rfl⟩
 cases h6 : ok0 (lD F p w)
 .exact .inr ⟨rfl, ne _ h6, fun _ => rfl⟩
 exact .inl ⟨rfl, rfl, fun _ => rfl⟩
def inE (e : Int) : Prop := e = 0 ∨ e = 2 ∨ e = 6 ∨ e = 7 ∨ e = 20
theorem plE_in (h : l1 F p w = true) (hn : ∀ a b, inE (F.ng a b).e) (hd : ∀ a b c d, inE (F.di a b c d).e) (hm : ∀ a b c d, inE (F.mu a b c d).e) (ha : ∀ a b c d, inE (F.ad a b c d).e) : inE (plE F p w) := by
 have z : inE (rcE F p w) := by
  have : rcE F p w = 0 := by
   unfold l1 at h
   simpa using h
  exact .inl this
 have bf : ∀ (b : Bool) (x y : Int), inE x -> inE y -> inE (bif b then x else y) := fun b x y hx hy => by cases b <;> assumption
 unfold plE
 exact bf _ _ _ (hn _ _) (bf _ _ _ (ha _ _ _ _) (bf _ _ _ (hm _ _ _ _) (bf _ _ _ (.inl rfl) (bf _ _ _ (ha _ _ _ _) (bf _ _ _ (hm _ _ _ _) (bf _ _ _ (hd _ _ _ _) z))))))
end
theorem told_in (a b : Int) : inE (toldS a b).e := by
 unfold toldS err
 cases okF a && okF b
 .exact .inr (.inr (.inl rfl))
 .exact .inl rfl
theorem both_in {a b c d : Int} {s : Sp} (h : inE s.e) : inE (both a b c d s).e := by
 unfold both err
 cases okSp a b && okSp c d
 .exact .inr (.inr (.inr (.inr rfl)))
 .exact h
theorem neg_in (a b : Int) : inE (negS a b).e := by
 unfold negS err
 cases okSp a b
 .exact .inr (.inr (.inr (.inr rfl)))
 .exact .inl rfl
theorem add_in (a b c d : Int) : inE (addS a b c d).e := both_in (told_in _ _)
theorem mul_in (a b c d : Int) : inE (mulS a b c d).e := both_in (told_in _ _)
theorem div_in (a b c d : Int) : inE (divS a b c d).e := by
 refine both_in ?_
 cases decide (c <= 0) && decide (0 <= d)
 .exact told_in _ _
 .exact .inr (.inr (.inr (.inl rfl)))
end Go.Ht
namespace Go.Proofs.YtjmhddncomglmaaGreatDoor.K
open Go Go.Eng Go.Ar Go.Rd Go.Vc Go.Ht
noncomputable def twI : List Sh := [.i .i64, .i .i64, .i .i64, .i .i64, .i .i64, .i .i64, .i .i64, .i .i64, .i .i64, .i .i64, .i .i64, .i .i64]
noncomputable def shR : Sh := .a twI
noncomputable def rRay (C : Ctx) (f : FuncId) (p w : Ve) : Option (Nd × AV) := oneG hG.size hG.clock ((run C 60000).call f [.agg (p.cells ++ w.cells)] hG)
theorem rc_run (F : HF) (p w : Ve) : rRay (cHtP F true) 11 p w = some (.tt, .int true .i64 (rcE F p w)) := by kernel_rfl
theorem pl_run (F : HF) (p w : Ve) : rRay (cHtP F true) 16 p w = some (.p (lNd F p w), lAv F p w) := by kernel_rfl
noncomputable def rayV (V : Ve -> Ve -> Prop × AV) : Nat -> List Itm -> Option (Prop × AV × List ABody) := fun _ its => match its with
 | [.n [.n a, .n b, .n c, .n d, .n e, .n f, .n g, .n h, .n i, .n j, .n k, .n l]] => some ((V ⟨a, b, c, d, e, f⟩ ⟨g, h, i, j, k, l⟩).1, (V ⟨a, b, c, d, e, f⟩ ⟨g, h, i, j, k, l⟩).2, [])
 | _ => none
theorem ray_ok {f : FuncId} {V : Ve -> Ve -> Prop × AV} (fn : ∃ fn : Func, Tryz.prog.funcs[f]? = some fn /\ fn.body.isSome = true)
  (hr : ∀ p w, (V p w).1 -> ∃ nd A, rRay (cHtP hf0 true) f p w = some (nd, A) /\ nd.val /\ A.num = true /\ tell A (V p w).2) : NOk Tryz.prog glob hG f (lSpec hG [.n shR] (rayV V)) := by
 refine lsp_okM hG_ok hG_plain glob_lt (fun sz its p v bs e hp => ?_) fn
 unfold rayV at e
 split at e
 .rename_i a b c d e' f' g h i j k l
  cases e
  refine ⟨trivial, rfl, true, ?_⟩
  obtain ⟨nd, A, r, hnd, hA, ht⟩ := hr ⟨a, b, c, d, e', f'⟩ ⟨g, h, i, j, k, l⟩ hp
  unfold rRay at r
  obtain ⟨q, a1, a2, a3, a4⟩ := oneG_tells r hA
  refine ⟨cHtP hf0 true, 60000, [.agg (Ve.cells ⟨a, b, c, d, e', f'⟩ ++ Ve.cells ⟨g, h, i, j, k, l⟩)], nd, A, q, cHtP_ok true, rfl, rfl, ?_, a1, a2, hnd, a3, a4 sz _ ht⟩
  exact ⟨⟨⟨rfl, rfl⟩, ⟨rfl, rfl⟩, ⟨rfl, rfl⟩, ⟨rfl, rfl⟩, ⟨rfl, rfl⟩, ⟨rfl, rfl⟩, ⟨rfl, rfl⟩, ⟨rfl, rfl⟩, ⟨rfl, rfl⟩, ⟨rfl, rfl⟩, ⟨rfl, rfl⟩, ⟨rfl, rfl⟩, trivial⟩, trivial⟩
 .cases e
noncomputable def rckS (F : HF) (k : Int) : NSpec := lSpec hG [.n shR] (rayV fun p w => (rcE F p w = k, .int false .i64 k))
theorem rck_ok (k : Int) : NOk Tryz.prog glob hG 11 (rckS hf0 k) := ray_ok ⟨_, Tryz.func11, rfl⟩ fun p w h => ⟨_, _, rc_run hf0 p w, trivial, rfl, ⟨rfl, h⟩⟩
noncomputable def Z (n : Int) : AV := .int true .i64 n
noncomputable def plOkV (F : HF) (p w : Ve) : AV := .tuple [.agg [Z (lB F p w).lo, Z (lB F p w).hi, Z (lD F p w).lo, Z (lD F p w).hi, .int false .i64 0, .int false .i64 0, Z w.a, Z w.b, Z w.c, Z w.d, Z w.e, Z w.f], .agg [Z (lT F p w).lo, Z (lT F p w).hi], .int false .i64 0]
noncomputable def plNoV (k : Int) : AV := .tuple [.agg [.int false .i64 0, .int false .i64 0, .int false .i64 0, .int false .i64 0, .int false .i64 0, .int false .i64 0, .int false .i64 0, .int false .i64 0, .int false .i64 0, .int false .i64 0, .int false .i64 0, .int false .i64 0], .agg [.int false .i64 0, .int false .i64 0], .int false .i64 k]
noncomputable def plOkS (F : HF) : NSpec := lSpec hG [.n shR] (rayV fun p w => (l1 F p w = true /\ plE F p w = 0, plOkV F p w))
noncomputable def plNoS (F : HF) (k : Int) : NSpec := lSpec hG [.n shR] (rayV fun p w => (l1 F p w = true /\ plE F p w = k /\ k ≠ 0, plNoV k))
theorem plOk_ok : NOk Tryz.prog glob hG 16 (plOkS hf0) := ray_ok ⟨_, Tryz.func16, rfl⟩ fun p w h => by
 refine ⟨_, _, pl_run hf0 p w, lNd_ok hf0 p w, rfl, ?_⟩
 rcases plane_tri hf0 p w h.1 with ⟨_, h2, h3⟩ | ⟨_, h2, _⟩
 .exact ⟨⟨⟨rfl, h3 _⟩, ⟨rfl, h3 _⟩, ⟨rfl, h3 _⟩, ⟨rfl, h3 _⟩, ⟨rfl, rfl⟩, ⟨rfl, rfl⟩, ⟨rfl, h3 _⟩, ⟨rfl, h3 _⟩, ⟨rfl, h3 _⟩, ⟨rfl, h3 _⟩, ⟨rfl, h3 _⟩, ⟨rfl, h3 _⟩, trivial⟩, ⟨⟨rfl, h3 _⟩, ⟨rfl, h3 _⟩, trivial⟩, ⟨rfl, h2⟩, trivial⟩
 .exact absurd h.2 h2
theorem plNo_ok (k : Int) : NOk Tryz.prog glob hG 16 (plNoS hf0 k) := ray_ok ⟨_, Tryz.func16, rfl⟩ fun p w h => by
 refine ⟨_, _, pl_run hf0 p w, lNd_ok hf0 p w, rfl, ?_⟩
 rcases plane_tri hf0 p w h.1 with ⟨_, h2, _⟩ | ⟨_, h2, h3⟩
 .exact absurd (h.2.1.symm.trans h2) h.2.2
 .exact ⟨⟨⟨rfl, h3 _⟩, ⟨rfl, h3 _⟩, ⟨rfl, h3 _⟩, ⟨rfl, h3 _⟩, ⟨rfl, rfl⟩, ⟨rfl, rfl⟩, ⟨rfl, h3 _⟩, ⟨rfl, h3 _⟩, ⟨rfl, h3 _⟩, ⟨rfl, h3 _⟩, ⟨rfl, h3 _⟩, ⟨rfl, h3 _⟩, trivial⟩, ⟨⟨rfl, h3 _⟩, ⟨rfl, h3 _⟩, trivial⟩, ⟨rfl, h.2.1⟩, trivial⟩
noncomputable def conV (F : HF) (j : Int) : List Nu -> Int -> List Int -> List (List Nu) -> Option (Prop × AV) := fun xs n ys ts => match solOf xs with
 | some (p, w, _) => match ts with
  | [[.n c], [.n k]] => some ((ys = [] -> n = 0) /\ (okSc c 1000000000 /\ okSc (kW k) 1000000) /\ tryC (conicP F p w c k) = j, .tuple [.agg [.int true .i64 (tryI (conicP F p w c k)).lo, .int true .i64 (tryI (conicP F p w c k)).hi], .int false .i64 j])
  | _ => none
 | none => none
abbrev bxC : List (List Sh) := [[.i .i64], [.i .i64]]
theorem con_under (c k : Int) : boxesU hG.size bxC [[.n c], [.n k]] = true := by kernel_rfl
theorem heapC_eq (p w : Ve) (s : Su) (n : Int) (ys : List Int) (c k : Int) : heapB hG solI .i64 bxC (veN p ++ (veN w ++ s.nus)) n ys [[.n c], [.n k]] = ((((viewsH true hG [(.i64, ys)]).push0 (.cells (p.cells ++ (w.cells ++ (s.cells (.int true .i64 s.kd) ++ [.lslice hG.size n]))))).push0 (.cells [.ptr (hG.size + 1) 0])).push0 (.cells [.int true .i64 c])).push0 (.cells [.int true .i64 k]) := by kernel_rfl
noncomputable def conS (F : HF) (j : Int) : NSpec := bSpec hG 84 solI .i64 bxC (conV F j)
theorem con_ok (jj : Int) : NOk Tryz.prog glob hG 83 (conS hf0 jj) := by
 refine bsp_ok hG_ok hG_plain glob_lt (fun xs n ys ts p v e hp => ?_) ⟨_, Tryz.func83, rfl⟩
 unfold conV at e
 split at e
 .rename_i P w s hs
  split at e
  .rename_i c k
   cases e
   obtain rfl := solOf_eq hs
   refine ⟨hp.1, sol_under P w s, con_under c k, rfl, cHtP hf0 true, 60000, .p (cNd hf0 P w c k), tryV (conicP hf0 P w c k), cHtP_ok true, rfl, rfl, ?_, cNd_ok hf0 P w c k (fun _ _ => okSq_of hp.2.1.1) (fun _ _ => okSq_of hp.2.1.2), rfl, ⟨⟨rfl, rfl⟩, ⟨rfl, rfl⟩, trivial⟩, ⟨rfl, hp.2.2⟩, trivial⟩
   rw [heapC_eq, <- cAv_eq]
   exact co_run hf0 s n ys P w c k
  .cases e
 .cases e
noncomputable def plS (F : HF) (pl : Int) : NSpec := match pl with
 | 0 => plOkS F
 | pl => plNoS F pl
theorem pl_ok (k : Int) : NOk Tryz.prog glob hG 16 (plS hf0 k) := by
 unfold plS
 split
 .exact plOk_ok
 .exact plNo_ok _
noncomputable def cHt (F : HF) (b : Bool) (rc pl co : Int) : Ctx := mkN Tryz.prog glob hG ((11, rckS F rc) :: (16, plS F pl) :: (83, attS F) :: (83, conS F co) :: tblHtP F b) [] ext
theorem cHt_ok (b : Bool) (rc pl co : Int) : CtxOk (cHt hf0 b rc pl co) := mkN_ok prog_ok ext_ok (fun x hx => by
 rcases List.mem_cons.1 hx with rfl | hx
 .exact rck_ok rc
 rcases List.mem_cons.1 hx with rfl | hx
 .exact pl_ok pl
 rcases List.mem_cons.1 hx with rfl | hx
 .exact att_ok
 rcases List.mem_cons.1 hx with rfl | hx
 .exact con_ok co
 .exact tblHtP_g b x hx) fun _ h => by cases h
end Go.Proofs.YtjmhddncomglmaaGreatDoor.K
namespace Go.Ht
open Go Go.Eng Go.Ar Go.Rd Go.Vc
section
variable (F : HF) (S : Su) (ys : List Int) (Q w : Ve)
def tc (t : Iv) : Bool := tryC (near F S ys Q w t) != 0
def mS (t : Iv) : Sp := F.mt (tryI (near F S ys Q w t)).lo (tryI (near F S ys Q w t)).hi t.lo t.hi
def te (t : Iv) : Bool := (mS F S ys Q w t).e != 0
def nx (t : Iv) : Iv := ⟨(mS F S ys Q w t).lo, (mS F S ys Q w t).hi⟩
def gd (t : Iv) : Bool := !tc F S ys Q w t && !te F S ys Q w t
def bR (t : Iv) : Bool := tc F S ys Q w t || !tc F S ys Q w t && te F S ys Q w t
def ct (t : Iv) : Bool := bif decide ((tryI (near F S ys Q w t)).lo > t.lo) then decide ((tryI (near F S ys Q w t)).hi < t.hi) else false
def gds : Nat -> Iv -> Bool
 | 0, t => gd F S ys Q w t
 | n + 1, t => gd F S ys Q w t && gds n (nx F S ys Q w t)
def bds : Nat -> Iv -> Bool
 | 0, t => bR F S ys Q w t
 | n + 1, t => gd F S ys Q w t && bds n (nx F S ys Q w t) || bR F S ys Q w t
def cts : Nat -> Bool -> Iv -> Bool
 | 0, b, _ => b
 | n + 1, b, t => cts n (bif b then true else ct F S ys Q w t) (nx F S ys Q w t)
def crt (t : Iv) : Bool := cts F S ys Q w 7 (ct F S ys Q w t) (nx F S ys Q w t)
def fin : Nat -> Iv -> Iv
 | 0, t => t
 | n + 1, t => fin n (nx F S ys Q w t)
variable (b : Iv)
def wA (n : Int) : Sp := F.ad b.lo b.hi (-n) n
def wE (n : Int) : Bool := (wA F b n).e != 0
def wT (n : Int) : Iv := ⟨(wA F b n).lo, (wA F b n).hi⟩
def wOk' (n : Int) : Bool := !wE F b n && (gds F S ys Q w 7 (wT F b n) && crt F S ys Q w (wT F b n))
def wNo (n : Int) : Bool := !wE F b n && (gds F S ys Q w 7 (wT F b n) && !crt F S ys Q w (wT F b n)) || (wE F b n || !wE F b n && bds F S ys Q w 7 (wT F b n))
def wF (n : Int) : Iv := fin F S ys Q w 8 (wT F b n)
def allOk : Bool := wOk' F S ys Q w b 1048576 || wNo F S ys Q w b 1048576 && (wOk' F S ys Q w b 67108864 || wNo F S ys Q w b 67108864 && (wOk' F S ys Q w b 2147483648 || wNo F S ys Q w b 2147483648 && wOk' F S ys Q w b 34359738368))
def allNo : Bool := wNo F S ys Q w b 1048576 && (wNo F S ys Q w b 67108864 && (wNo F S ys Q w b 2147483648 && wNo F S ys Q w b 34359738368))
def tLo : Int := bif wOk' F S ys Q w b 1048576 then (wF F S ys Q w b 1048576).lo else bif wOk' F S ys Q w b 67108864 then (wF F S ys Q w b 67108864).lo else bif wOk' F S ys Q w b 2147483648 then (wF F S ys Q w b 2147483648).lo else (wF F S ys Q w b 34359738368).lo
def tHi : Int := bif wOk' F S ys Q w b 1048576 then (wF F S ys Q w b 1048576).hi else bif wOk' F S ys Q w b 67108864 then (wF F S ys Q w b 67108864).hi else bif wOk' F S ys Q w b 2147483648 then (wF F S ys Q w b 2147483648).hi else (wF F S ys Q w b 34359738368).hi
def ndR (k : Prop) : Nat -> Iv -> Prop
 | 0, _ => k
 | n + 1, t => k /\ (gd F S ys Q w t = true -> ndR k n (nx F S ys Q w t))
def ndW (k : Prop) (n : Int) : Prop := (!wE F b n) = true -> ndR F S ys Q w k 7 (wT F b n)
def ndA (k : Prop) : Prop := ndW F S ys Q w b k 1048576 /\ (wNo F S ys Q w b 1048576 = true -> ndW F S ys Q w b k 67108864 /\ (wNo F S ys Q w b 67108864 = true -> ndW F S ys Q w b k 2147483648 /\ (wNo F S ys Q w b 2147483648 = true -> ndW F S ys Q w b k 34359738368)))
theorem ndR_ok {k : Prop} (h : k) : ∀ n t, ndR F S ys Q w k n t
 | 0, _ => h
 | n + 1, _ => ⟨h, fun _ => ndR_ok h n _⟩
theorem ndA_ok {k : Prop} (h : k) : ndA F S ys Q w b k := ⟨fun _ => ndR_ok F S ys Q w h _ _, fun _ => ⟨fun _ => ndR_ok F S ys Q w h _ _, fun _ => ⟨fun _ => ndR_ok F S ys Q w h _ _, fun _ _ => ndR_ok F S ys Q w h _ _⟩⟩⟩
def aW (l : Sp) (x y : Int) : Sp := F.ad l.lo l.hi x y
def tb (q : Sp -> Bool) (l : Sp) (x y : Int) : Bool := ptOk F Q w x y && bd q (aW F l x y) || ptBad F Q w q x y
def ansV (z : Int -> Int) (l : Sp) (x y : Int) (c e : Int) : AV := .tuple [.agg [.int true .i64 (z (p2 F Q w x y).lo), .int true .i64 (z (p2 F Q w x y).hi), .int true .i64 (z (p4 F Q w x y).lo), .int true .i64 (z (p4 F Q w x y).hi), .int true .i64 (z (p5 F Q w x y).lo), .int true .i64 (z (p5 F Q w x y).hi)], .agg [.int true .i64 (z (aW F l x y).lo), .int true .i64 (z (aW F l x y).hi)], .int true .i64 c, .int true .i64 e]
variable (l : Sp)
def cB2 : Bool := allNo F S ys Q w b || allOk F S ys Q w b && tb F Q w q2 l (tLo F S ys Q w b) (tHi F S ys Q w b)
def cB5 : Bool := allOk F S ys Q w b && tb F Q w q6 l (tLo F S ys Q w b) (tHi F S ys Q w b)
def cAns : AV := ansV F Q w (fun v => bif cB2 F S ys Q w b l then 0 else bif cB5 F S ys Q w b l then 0 else v) l (tLo F S ys Q w b) (tHi F S ys Q w b) (bif cB2 F S ys Q w b l then 2 else bif cB5 F S ys Q w b l then 5 else 0) (bif cB2 F S ys Q w b l then 9 else bif cB5 F S ys Q w b l then 9 else 0)
def ndT : Prop := allOk F S ys Q w b = true -> ptOk F Q w (tLo F S ys Q w b) (tHi F S ys Q w b) = true -> E2 (tLo F S ys Q w b) (tHi F S ys Q w b) /\ E2 l.lo l.hi
end
section
variable (F : HF) (Q w : Ve) (c k : Int) (l : Sp)
def fB5 : Bool := coO F Q w c k && tb F Q w q6 l (cT F Q w c k).lo (cT F Q w c k).hi || coF F Q w c k
def fB2 : Bool := coU F Q w c k || coO F Q w c k && tb F Q w q2 l (cT F Q w c k).lo (cT F Q w c k).hi
def fOk : Bool := coO F Q w c k && (ptOk F Q w (cT F Q w c k).lo (cT F Q w c k).hi && ok0 (aW F l (cT F Q w c k).lo (cT F Q w c k).hi))
def fAns : AV := ansV F Q w (fun v => bif fB5 F Q w c k l then 0 else bif fB2 F Q w c k l then 0 else bif fOk F Q w c k l then v else 0) l (cT F Q w c k).lo (cT F Q w c k).hi (bif fB5 F Q w c k l then 5 else bif fB2 F Q w c k l then 2 else bif fOk F Q w c k l then 0 else 1) (bif fB5 F Q w c k l then 9 else bif fB2 F Q w c k l then 9 else bif fOk F Q w c k l then 0 else 9)
end
def flB (S : Su) : Bool := S.a0 == 0 && (S.a1 == 0 && (S.a2 == 0 && (S.a3 == 0 && true)))
def lQ (F : HF) (p w : Ve) : Ve := ⟨(lB F p w).lo, (lB F p w).hi, (lD F p w).lo, (lD F p w).hi, 0, 0⟩
end Go.Ht
namespace Go.Proofs.YtjmhddncomglmaaGreatDoor.K
open Go Go.Eng Go.Ar Go.Rd Go.Vc Go.Ht
noncomputable section
def P0 (n : Int) : AV := .int false .i64 n
def noV (c e : Int) : AV := .tuple [.agg [P0 0, P0 0, P0 0, P0 0, P0 0, P0 0], .agg [P0 0, P0 0], P0 c, P0 e]
abbrev suO (s : Su) (n : Int) (ys : List Int) (r : Bool) : Prop := okF3 n ys /\ s.g.size < 1000000000 /\ rightS s ys = r
abbrev suK (s : Su) (k : Int) : Su := { s with kd := k }
abbrev su2 (s : Su) : Su := { s with kd := 2, a0 := 0, a1 := 0, a2 := 0, a3 := 0 }
def cHi (F : HF) (b : Bool) (co : Int) : Ctx := hinting (cHt F true 0 0 co) fun c t => match Nat.beq t 9 && (Nat.ble 61 c && Nat.ble c 90) with
 | true => some (.bool false b)
 | false => none
theorem cHi_ok (b : Bool) (co : Int) : CtxOk (cHi hf0 b co) := hinting_ok (cHt_ok true 0 0 co) _
def rHz (C : Ctx) (f : FuncId) (kd : AV) (s : Su) (n : Int) (ys : List Int) (p w : Ve) : Option (Nd × AV) := oneG (viewsH true hG [(.i64, ys)]).size hG.clock ((run C 60000).call f [.agg (s.cellsZ kd ++ [.lslice hG.size n]), .agg (p.cells ++ w.cells)] (viewsH true hG [(.i64, ys)]))
variable (F : HF) (s : Su) (n : Int) (ys : List Int) (p w : Ve)
theorem ht_bad : rHt (cHt F false 0 0 0) 6 (.int true .i64 s.kd) s n ys p w = some (.p (suO s n ys false), noV 0 110) := by kernel_rfl
theorem ht_ray : rHt (cHt F true 240 0 0) 6 (.int true .i64 s.kd) s n ys p w = some (.p (suO s n ys true /\ rcE F p w = 240), noV 0 240) := by kernel_rfl
abbrev plP (F : HF) (s : Su) (n : Int) (ys : List Int) (p w : Ve) (k : Int) : Prop := suO s n ys true /\ rcE F p w = 0 /\ Ht.l1 F p w = true /\ plE F p w = k /\ k ≠ 0
theorem ht_p2 : rHt (cHt F true 0 2 0) 6 (.int true .i64 s.kd) s n ys p w = some (.p (plP F s n ys p w 2), noV 2 9) := by kernel_rfl
theorem ht_p6 : rHt (cHt F true 0 6 0) 6 (.int true .i64 s.kd) s n ys p w = some (.p (plP F s n ys p w 6), noV 5 9) := by kernel_rfl
theorem ht_p7 : rHt (cHt F true 0 7 0) 6 (.int true .i64 s.kd) s n ys p w = some (.p (plP F s n ys p w 7), noV 2 9) := by kernel_rfl
theorem ht_p20 : rHt (cHt F true 0 20 0) 6 (.int true .i64 s.kd) s n ys p w = some (.p (plP F s n ys p w 20), noV 2 9) := by kernel_rfl
def plV (F : HF) (p w : Ve) : AV := .tuple [.agg [Z (lB F p w).lo, Z (lB F p w).hi, Z (lD F p w).lo, Z (lD F p w).hi, P0 0, P0 0], .agg [Z (lT F p w).lo, Z (lT F p w).hi], P0 0, P0 0]
abbrev okP (F : HF) (s : Su) (n : Int) (ys : List Int) (p w : Ve) (q : Prop) : Prop := suO s n ys true /\ rcE F p w = 0 /\ (Ht.l1 F p w = true /\ plE F p w = 0) /\ q
theorem ht_3 : rHt (cHt F true 0 0 0) 6 (.int false .i64 3) s n ys p w = some (.p (okP F (suK s 3) n ys p w (E2 (lT F p w).lo (lT F p w).hi)), plV F p w) := by kernel_rfl
theorem ht_4 : rHt (cHt F true 0 0 0) 6 (.int false .i64 4) s n ys p w = some (.p (okP F (suK s 4) n ys p w (E2 (lT F p w).lo (lT F p w).hi)), plV F p w) := by kernel_rfl
end
end Go.Proofs.YtjmhddncomglmaaGreatDoor.K
