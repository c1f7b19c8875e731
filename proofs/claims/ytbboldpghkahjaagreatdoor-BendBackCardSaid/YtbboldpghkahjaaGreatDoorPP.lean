/- What is proved: a law of bends returns true, whatever the input (part 16). No conditions beyond those of the row. -/
import Derived.Test.YtbboldpghkahjaaGreatDoorPO
set_option linter.unusedVariables false
set_option linter.unusedSimpArgs false
set_option linter.unusedSectionVars false
namespace Go.Proofs.YtbboldpghkahjaaGreatDoor.K
open Go Go.Eng Go.Ar Go.Rd Go.Vc
noncomputable section
def noH (_ _ : Nat) : Option AV := none
def mdP2 (p : Sp14) (m : Md) : Prop := 0 <= p.kd /\ (m.a = m.a /\ m.b = m.b /\ m.l = m.l /\ m.f0 = m.f0 /\ m.f1 = m.f1) /\ (m.l = m.l /\ m.b = m.b /\ m.a = m.a) /\ (m.l = m.l /\ m.b = m.b) /\ m.l = m.l
section
variable (F : LF) (S : Sp14 -> Su) (p : Sp14) (m : Md) (t : Th)
def Dr : Ve := F.uV (dirV t)
def er7 : Bool := !F.uO (dirV t) == 0
def ixB : Int := bif (S p).kd == 4 then ixQ m.a else ixQ m.b
def Rb : BO := F.be (S p) (tkY 0) (ixQ m.a) (ixB S p m) (ixL m.l) (atV t) (Dr F t)
def Rc : BO := F.be (S p) (tkY 0) (ixB S p m) (ixQ m.a) (ixL m.l) (atV t) (F.nV (Rb F S p m t).v)
theorem back_run : rLX (cLX F S noH) 4 p m t = some (.p (mdP2 p m /\ ((!er7 F t) = true -> oS (S p) 0 /\ ((!((Rb F S p m t).e != 0)) = true -> oS (S p) 0))),
  .bool true (bif er7 F t then false else baR F (Rb F S p m t) (Rc F S p m t) (Dr F t) (S p).kd)) := by kernel_rfl
def qK : Bool := (S p).kd == 4
def sK : Su := suBy (qK S p) (S p) (selI (qK S p) 0 (S p).c) (selI (qK S p) (S p).f0 (S p).f0) (selI (qK S p) (S p).f1 (S p).f1) (selI (qK S p) (S p).o (S p).o)
def nK : Int := selI (qK S p) 0 0
def Rk : BO := F.be (sK S p) (tkY (nK S p)) (ixQ m.a) (ixQ m.a) (ixL m.l) (atV t) (Dr F t)
def Nk : BO := F.no (sK S p) (tkY (nK S p)) (atV t)
theorem keeps_run : rLX (cLX F S noH) 5 p m t = some (.p (mdP2 p m /\ ((!er7 F t) = true -> oS (sK S p) (nK S p) /\ ((!((Rk F S p m t).e != 0)) = true -> (!!eqBytes (sK S p).g mirG0) = true -> oS (sK S p) (nK S p) /\ veP (Nk F S p t).v /\ veP (Rk F S p m t).v))),
  .bool true (bif er7 F t then false else keR F (Rk F S p m t) (Nk F S p t) (Dr F t) (!eqBytes (sK S p).g mirG0))) := by kernel_rfl
end
end
end Go.Proofs.YtbboldpghkahjaaGreatDoor.K
