/- What is proved: BendSnell returns true, whatever the input (part 16 of 18). No conditions beyond those of the row. -/
import Derived.Test.YtbboldpghkahjaaGreatDoorPO
set_option linter.unusedVariables false
set_option linter.unusedSimpArgs false
set_option linter.unusedSectionVars false
namespace Go.Proofs.YtbboldpghkahjaaGreatDoor.K
open Go Go.Eng Go.Ar Go.Rd Go.Vc
noncomputable section
def noH (_ _ : Nat) : Option AV := none
def mdP (p : Sp14) (m : Md) : Prop := 0 <= p.kd /\ (m.a = m.a /\ m.b = m.b /\ m.l = m.l /\ m.o = m.o /\ m.f0 = m.f0 /\ m.f1 = m.f1) /\ (m.l = m.l /\ m.b = m.b /\ m.a = m.a) /\ (m.l = m.l /\ m.b = m.b) /\ m.l = m.l
section
variable (F : LF) (S : Sp14 -> Su) (p : Sp14) (m : Md) (t : Th)
def Dr : Ve := F.uV (dirV t)
def er7 : Bool := !F.uO (dirV t) == 0
def qS : Bool := bif (S p).kd == 1 then bif !eqBytes (S p).g mirG0 then m.o.tmod 4 != 0 else false else false
def sSn : Su := suBy (qS S p m) (S p) (selI (qS S p m) (S p).c (S p).c) (selI (qS S p m) (lw (1000 * lw m.f0)) (S p).f0) (selI (qS S p m) (lw (1000 * lw m.f1)) (S p).f1) (selI (qS S p m) (lw (m.o.tmod 4)) (S p).o)
def nS : Int := selI (qS S p m) 0 0
def Rs : BO := F.be (sSn S p m) (tkY (nS S p m)) (ixQ m.a) (ixQ m.b) (ixL m.l) (atV t) (Dr F t)
def Ns : BO := F.no (sSn S p m) (tkY (nS S p m)) (atV t)
theorem snell_run : rLX (cLX F S noH) 3 p m t = some (.p (mdP p m /\ ((!er7 F t) = true -> oS (sSn S p m) (nS S p m) /\ oS (sSn S p m) (nS S p m) /\ snQ F (Rs F S p m t) (Ns F S p m t) (Dr F t) (ixQ m.a) (ixQ m.b) (!eqBytes (sSn S p m).g mirG0) (sSn S p m).kd)),
  .bool true (bif er7 F t then false else snR F (Rs F S p m t) (Ns F S p m t) (Dr F t) (ixQ m.a) (ixQ m.b) (!eqBytes (sSn S p m).g mirG0) (sSn S p m).kd (sSn S p m).o)) := by kernel_rfl
end
end
end Go.Proofs.YtbboldpghkahjaaGreatDoor.K
