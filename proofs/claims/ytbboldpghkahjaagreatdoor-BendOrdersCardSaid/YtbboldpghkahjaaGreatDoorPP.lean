/- What is proved: a law of bends returns true, whatever the input (part 16). No conditions beyond those of the row. -/
import Derived.Test.YtbboldpghkahjaaGreatDoorPO
set_option linter.unusedVariables false
set_option linter.unusedSimpArgs false
set_option linter.unusedSectionVars false
namespace Go.Proofs.YtbboldpghkahjaaGreatDoor.K
open Go Go.Eng Go.Ar Go.Rd Go.Vc
noncomputable section
def noH (_ _ : Nat) : Option AV := none
def mdP2 (p : Sp14) (m : Md) : Prop := 0 <= p.kd /\ (m.a = m.a /\ m.b = m.b /\ m.l = m.l /\ m.f0 = m.f0 /\ m.f1 = m.f1) /\ (m.l = m.l /\ m.b = m.b /\ m.a = m.a) /\ (m.l = m.l /\ m.b = m.b) /\ m.l = m.l
section
variable (F : LF) (S : Sp14 -> Su) (p : Sp14) (m : Md) (t : Th)
def Dr : Ve := F.uV (dirV t)
def er7 : Bool := !F.uO (dirV t) == 0
def p0 : Sp14 := { p with kd := 0, m := false }
def qO : Bool := bif (S (p0 p)).kd == 1 then bif !eqBytes (S (p0 p)).g mirG0 then true else false else false
def sO (f0 f1 o : Int) : Su := suBy (qO S p) (S (p0 p)) (selI (qO S p) (S (p0 p)).c (S (p0 p)).c) f0 f1 o
def fO0 : Int := selI (qO S p) (lw (1000 * lw m.f0)) (S (p0 p)).f0
def fO1 : Int := selI (qO S p) (lw (1000 * lw m.f1)) (S (p0 p)).f1
def oO : Int := selI (qO S p) 1 (S (p0 p)).o
def nO : Int := selI (qO S p) 0 0
def suR (S : Su) (N : Int) : Prop := S.kd = S.kd /\ S.c = S.c /\ S.k = S.k /\ S.l = S.l /\ S.m = S.m /\ S.a0 = S.a0 /\ S.a1 = S.a1 /\ S.a2 = S.a2 /\ S.a3 = S.a3 /\ S.f0 = S.f0 /\ S.f1 = S.f1 /\ S.o = S.o /\ S.th = S.th /\ (S.g = S.g) /\ S.se = S.se /\ S.ho = S.ho /\ S.dx = S.dx /\ S.dy = S.dy /\ S.ax = S.ax /\ S.ay = S.ay /\ S.az = S.az /\ N = N
def Ro (s : Su) : BO := F.be s (tkY (nO S p)) (ixQ m.a) (ixQ m.b) (ixL m.l) (atV t) (Dr F t)
def No : BO := F.no (sO S p 0 0 0) (tkY (nO S p)) (atV t)
def sP : Su := sO S p (fO0 S p m) (fO1 S p m) (oO S p)
def sM : Su := sO S p (fO0 S p m) (fO1 S p m) (-1)
theorem orders_run : rLX (cLX F S noH) 6 p m t = some (.p (mdP2 (p0 p) m /\ suR (sP S p m) (nO S p) /\ ((!er7 F t) = true -> oS (sO S p 0 0 0) (nO S p) /\ oS (sP S p m) (nO S p) /\ (ob1 (Ro F S p m t (sP S p m)) (No F S p t) = true -> oS (sM S p m) (nO S p) /\ ((!ob2 (Ro F S p m t (sM S p m)) (No F S p t)) = true -> oS (sO S p 0 0 0) (nO S p))))),
  .bool true (bif er7 F t then false else orR F (Ro F S p m t (sP S p m)) (Ro F S p m t (sM S p m)) (Ro F S p m t (sO S p 0 0 0)) (No F S p t))) := by kernel_rfl
end
end
end Go.Proofs.YtbboldpghkahjaaGreatDoor.K
