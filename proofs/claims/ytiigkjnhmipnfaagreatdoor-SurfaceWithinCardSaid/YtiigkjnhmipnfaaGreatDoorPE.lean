/- What is proved: SurfaceWithin returns true, whatever the input (part 5 of 22). No conditions beyond those of the row. -/
import Derived.Test.YtiigkjnhmipnfaaGreatDoorPD
set_option linter.unusedVariables false
set_option linter.unusedSimpArgs false
set_option linter.unusedSectionVars false
/- Printed: what surface.Check reckons on standard surfaces with one, two, three films. No program. -/
namespace Go.Rd
open Go Go.Eng Go.Ar
def cx0 (c : Int) (k : Int) (a0 : Int) (a1 : Int) (a2 : Int) (a3 : Int) (f0 : Int) (f1 : Int) (o : Int) (th : Int) (s : ByteArray) (se : Int) (ho : Int) (i0 : Int) (j0 : Int) (q0 : Int) : Bool := bif o != 0 then !eqBytes s { data := #[77, 73, 82, 82, 79, 82] } else false
def cx1 (c : Int) (k : Int) (a0 : Int) (a1 : Int) (a2 : Int) (a3 : Int) (f0 : Int) (f1 : Int) (o : Int) (th : Int) (s : ByteArray) (se : Int) (ho : Int) (i0 : Int) (j0 : Int) (q0 : Int) : Int := bif cx0 c k a0 a1 a2 a3 f0 f1 o th s se ho i0 j0 q0 then a0 else a0
def cx2 (c : Int) (k : Int) (a0 : Int) (a1 : Int) (a2 : Int) (a3 : Int) (f0 : Int) (f1 : Int) (o : Int) (th : Int) (s : ByteArray) (se : Int) (ho : Int) (i0 : Int) (j0 : Int) (q0 : Int) : Int := bif cx0 c k a0 a1 a2 a3 f0 f1 o th s se ho i0 j0 q0 then a1 else a1
def cx3 (c : Int) (k : Int) (a0 : Int) (a1 : Int) (a2 : Int) (a3 : Int) (f0 : Int) (f1 : Int) (o : Int) (th : Int) (s : ByteArray) (se : Int) (ho : Int) (i0 : Int) (j0 : Int) (q0 : Int) : Int := bif cx0 c k a0 a1 a2 a3 f0 f1 o th s se ho i0 j0 q0 then a2 else a2
def cx4 (c : Int) (k : Int) (a0 : Int) (a1 : Int) (a2 : Int) (a3 : Int) (f0 : Int) (f1 : Int) (o : Int) (th : Int) (s : ByteArray) (se : Int) (ho : Int) (i0 : Int) (j0 : Int) (q0 : Int) : Int := bif cx0 c k a0 a1 a2 a3 f0 f1 o th s se ho i0 j0 q0 then a3 else a3
def cx5 (c : Int) (k : Int) (a0 : Int) (a1 : Int) (a2 : Int) (a3 : Int) (f0 : Int) (f1 : Int) (o : Int) (th : Int) (s : ByteArray) (se : Int) (ho : Int) (i0 : Int) (j0 : Int) (q0 : Int) : Int := bif cx0 c k a0 a1 a2 a3 f0 f1 o th s se ho i0 j0 q0 then f0 else 0
def cx6 (c : Int) (k : Int) (a0 : Int) (a1 : Int) (a2 : Int) (a3 : Int) (f0 : Int) (f1 : Int) (o : Int) (th : Int) (s : ByteArray) (se : Int) (ho : Int) (i0 : Int) (j0 : Int) (q0 : Int) : Int := bif cx0 c k a0 a1 a2 a3 f0 f1 o th s se ho i0 j0 q0 then f1 else 0
def cx7 (c : Int) (k : Int) (a0 : Int) (a1 : Int) (a2 : Int) (a3 : Int) (f0 : Int) (f1 : Int) (o : Int) (th : Int) (s : ByteArray) (se : Int) (ho : Int) (i0 : Int) (j0 : Int) (q0 : Int) : Int := bif cx0 c k a0 a1 a2 a3 f0 f1 o th s se ho i0 j0 q0 then o else 0
def cx8 (c : Int) (k : Int) (a0 : Int) (a1 : Int) (a2 : Int) (a3 : Int) (f0 : Int) (f1 : Int) (o : Int) (th : Int) (s : ByteArray) (se : Int) (ho : Int) (i0 : Int) (j0 : Int) (q0 : Int) : Int := bif cx0 c k a0 a1 a2 a3 f0 f1 o th s se ho i0 j0 q0 then th else th
def cx9 (c : Int) (k : Int) (a0 : Int) (a1 : Int) (a2 : Int) (a3 : Int) (f0 : Int) (f1 : Int) (o : Int) (th : Int) (s : ByteArray) (se : Int) (ho : Int) (i0 : Int) (j0 : Int) (q0 : Int) : Bool := !bif
      (1 : Int) == 1 &&
        (c == c &&
          (k == k &&
            ((0 : Int) == 0 &&
              ((0 : Int) == 0 &&
                (o == cx7 c k a0 a1 a2 a3 f0 f1 o th s se ho i0 j0 q0 &&
                  (th == cx8 c k a0 a1 a2 a3 f0 f1 o th s se ho i0 j0 q0 &&
                    (se == se &&
                      (ho == ho &&
                        ((0 : Int) == 0 &&
                          ((0 : Int) == 0 &&
                            ((0 : Int) == 0 &&
                              ((0 : Int) == 0 &&
                                ((0 : Int) == 0 &&
                                  ((0 : Int) == 0 &&
                                    ((0 : Int) == 0 &&
                                      (a0 == cx1 c k a0 a1 a2 a3 f0 f1 o th s se ho i0 j0 q0 &&
                                        (a1 == cx2 c k a0 a1 a2 a3 f0 f1 o th s se ho i0 j0 q0 &&
                                          (a2 == cx3 c k a0 a1 a2 a3 f0 f1 o th s se ho i0 j0 q0 &&
                                            (a3 == cx4 c k a0 a1 a2 a3 f0 f1 o th s se ho i0 j0 q0 &&
                                              (f0 == cx5 c k a0 a1 a2 a3 f0 f1 o th s se ho i0 j0 q0 &&
                                                (f1 ==
                                                    cx6 c k a0 a1 a2 a3 f0 f1 o th s se ho i0 j0 q0 &&
                                                  (eqBytes s s && true)))))))))))))))))))))) then
    bif !(i0 == i0 && (j0 == j0 && (q0 == q0 && true))) then false else true
  else false
def cx11 (c : Int) (k : Int) (a0 : Int) (a1 : Int) (a2 : Int) (a3 : Int) (f0 : Int) (f1 : Int) (o : Int) (th : Int) (s : ByteArray) (se : Int) (ho : Int) (i0 : Int) (j0 : Int) (q0 : Int) : Bool := bif decide (c < (-1000000000 : Int)) then true
else decide (c > 1000000000)
def cx14 (c : Int) (k : Int) (a0 : Int) (a1 : Int) (a2 : Int) (a3 : Int) (f0 : Int) (f1 : Int) (o : Int) (th : Int) (s : ByteArray) (se : Int) (ho : Int) (i0 : Int) (j0 : Int) (q0 : Int) : Int := bif
    !cx11 c k a0 a1 a2 a3 f0 f1 o th s se ho i0 j0 q0 &&
      !bif decide (th < (-1000000000 : Int)) then true
        else decide (th > 1000000000) then
  (-1 : Int)
else
  bif cx11 c k a0 a1 a2 a3 f0 f1 o th s se ho i0 j0 q0 then 0
  else (2 : Int)
def cx15 (c : Int) (k : Int) (a0 : Int) (a1 : Int) (a2 : Int) (a3 : Int) (f0 : Int) (f1 : Int) (o : Int) (th : Int) (s : ByteArray) (se : Int) (ho : Int) (i0 : Int) (j0 : Int) (q0 : Int) : Bool := bif decide (a0 < (-1000000000 : Int)) then true
else decide (a0 > 1000000000)
def cx16 (c : Int) (k : Int) (a0 : Int) (a1 : Int) (a2 : Int) (a3 : Int) (f0 : Int) (f1 : Int) (o : Int) (th : Int) (s : ByteArray) (se : Int) (ho : Int) (i0 : Int) (j0 : Int) (q0 : Int) : Bool := bif decide (a1 < (-1000000000 : Int)) then true
else decide (a1 > 1000000000)
def cx17 (c : Int) (k : Int) (a0 : Int) (a1 : Int) (a2 : Int) (a3 : Int) (f0 : Int) (f1 : Int) (o : Int) (th : Int) (s : ByteArray) (se : Int) (ho : Int) (i0 : Int) (j0 : Int) (q0 : Int) : Bool := bif decide (a2 < (-1000000000 : Int)) then true
else decide (a2 > 1000000000)
def cx19 (c : Int) (k : Int) (a0 : Int) (a1 : Int) (a2 : Int) (a3 : Int) (f0 : Int) (f1 : Int) (o : Int) (th : Int) (s : ByteArray) (se : Int) (ho : Int) (i0 : Int) (j0 : Int) (q0 : Int) : Int := bif
    !cx15 c k a0 a1 a2 a3 f0 f1 o th s se ho i0 j0 q0 &&
      (!cx16 c k a0 a1 a2 a3 f0 f1 o th s se ho i0 j0 q0 &&
        (!cx17 c k a0 a1 a2 a3 f0 f1 o th s se ho i0 j0 q0 &&
          !bif decide (a3 < (-1000000000 : Int)) then true
            else decide (a3 > 1000000000))) then
  (-1 : Int)
else
  bif cx15 c k a0 a1 a2 a3 f0 f1 o th s se ho i0 j0 q0 then 0
  else
    bif cx16 c k a0 a1 a2 a3 f0 f1 o th s se ho i0 j0 q0 then
      (1 : Int)
    else
      bif cx17 c k a0 a1 a2 a3 f0 f1 o th s se ho i0 j0 q0 then
        (2 : Int)
      else (3 : Int)
def cx20 (c : Int) (k : Int) (a0 : Int) (a1 : Int) (a2 : Int) (a3 : Int) (f0 : Int) (f1 : Int) (o : Int) (th : Int) (s : ByteArray) (se : Int) (ho : Int) (i0 : Int) (j0 : Int) (q0 : Int) : Bool := bif decide (f0 < (-1000000000 : Int)) then true
else decide (f0 > 1000000000)
def cx21 (c : Int) (k : Int) (a0 : Int) (a1 : Int) (a2 : Int) (a3 : Int) (f0 : Int) (f1 : Int) (o : Int) (th : Int) (s : ByteArray) (se : Int) (ho : Int) (i0 : Int) (j0 : Int) (q0 : Int) : Int := bif
    !cx20 c k a0 a1 a2 a3 f0 f1 o th s se ho i0 j0 q0 &&
      !bif decide (f1 < (-1000000000 : Int)) then true
        else decide (f1 > 1000000000) then
  (-1 : Int)
else
  bif cx20 c k a0 a1 a2 a3 f0 f1 o th s se ho i0 j0 q0 then 0
  else (1 : Int)
def cx22 (c : Int) (k : Int) (a0 : Int) (a1 : Int) (a2 : Int) (a3 : Int) (f0 : Int) (f1 : Int) (o : Int) (th : Int) (s : ByteArray) (se : Int) (ho : Int) (i0 : Int) (j0 : Int) (q0 : Int) : Bool := !bif !decide (cx14 c k a0 a1 a2 a3 f0 f1 o th s se ho i0 j0 q0 ≥ 0) then
    bif !decide (cx19 c k a0 a1 a2 a3 f0 f1 o th s se ho i0 j0 q0 ≥ 0) then
      !decide (cx21 c k a0 a1 a2 a3 f0 f1 o th s se ho i0 j0 q0 ≥ 0)
    else false
  else false
def cx24 (c : Int) (k : Int) (a0 : Int) (a1 : Int) (a2 : Int) (a3 : Int) (f0 : Int) (f1 : Int) (o : Int) (th : Int) (s : ByteArray) (se : Int) (ho : Int) (i0 : Int) (j0 : Int) (q0 : Int) : Int := bif
    bif decide (k < (-100000000 : Int)) then true
    else decide (k > 100000000) then
  0
else (-1 : Int)
def cx25 (c : Int) (k : Int) (a0 : Int) (a1 : Int) (a2 : Int) (a3 : Int) (f0 : Int) (f1 : Int) (o : Int) (th : Int) (s : ByteArray) (se : Int) (ho : Int) (i0 : Int) (j0 : Int) (q0 : Int) : Bool := !bif !decide (cx24 c k a0 a1 a2 a3 f0 f1 o th s se ho i0 j0 q0 ≥ 0) then true else false
def cx27 (c : Int) (k : Int) (a0 : Int) (a1 : Int) (a2 : Int) (a3 : Int) (f0 : Int) (f1 : Int) (o : Int) (th : Int) (s : ByteArray) (se : Int) (ho : Int) (i0 : Int) (j0 : Int) (q0 : Int) : Int := bif
    bif decide (o < (-3 : Int)) then true
    else decide (o > 3) then
  0
else (-1 : Int)
def cx28 (c : Int) (k : Int) (a0 : Int) (a1 : Int) (a2 : Int) (a3 : Int) (f0 : Int) (f1 : Int) (o : Int) (th : Int) (s : ByteArray) (se : Int) (ho : Int) (i0 : Int) (j0 : Int) (q0 : Int) : Bool := bif decide (se < 0) then true else decide (se > 1000000000)
def cx29 (c : Int) (k : Int) (a0 : Int) (a1 : Int) (a2 : Int) (a3 : Int) (f0 : Int) (f1 : Int) (o : Int) (th : Int) (s : ByteArray) (se : Int) (ho : Int) (i0 : Int) (j0 : Int) (q0 : Int) : Int := bif
    !cx28 c k a0 a1 a2 a3 f0 f1 o th s se ho i0 j0 q0 &&
      !bif decide (ho < 0) then true else decide (ho > 1000000000) then
  (-1 : Int)
else
  bif cx28 c k a0 a1 a2 a3 f0 f1 o th s se ho i0 j0 q0 then 0
  else (1 : Int)
def cx30 (c : Int) (k : Int) (a0 : Int) (a1 : Int) (a2 : Int) (a3 : Int) (f0 : Int) (f1 : Int) (o : Int) (th : Int) (s : ByteArray) (se : Int) (ho : Int) (i0 : Int) (j0 : Int) (q0 : Int) : Bool := !bif !decide (cx27 c k a0 a1 a2 a3 f0 f1 o th s se ho i0 j0 q0 ≥ 0) then
    !decide (cx29 c k a0 a1 a2 a3 f0 f1 o th s se ho i0 j0 q0 ≥ 0)
  else false
def cx31 (c : Int) (k : Int) (a0 : Int) (a1 : Int) (a2 : Int) (a3 : Int) (f0 : Int) (f1 : Int) (o : Int) (th : Int) (s : ByteArray) (se : Int) (ho : Int) (i0 : Int) (j0 : Int) (q0 : Int) : Bool := !bif se == 0 then true else decide (ho < se)
def cx32 (c : Int) (k : Int) (a0 : Int) (a1 : Int) (a2 : Int) (a3 : Int) (f0 : Int) (f1 : Int) (o : Int) (th : Int) (s : ByteArray) (se : Int) (ho : Int) (i0 : Int) (j0 : Int) (q0 : Int) : Int := bif cx9 c k a0 a1 a2 a3 f0 f1 o th s se ho i0 j0 q0 then 110
else
  bif cx22 c k a0 a1 a2 a3 f0 f1 o th s se ho i0 j0 q0 then 110
  else
    bif cx25 c k a0 a1 a2 a3 f0 f1 o th s se ho i0 j0 q0 then 110
    else
      bif cx30 c k a0 a1 a2 a3 f0 f1 o th s se ho i0 j0 q0 then 110
      else bif cx31 c k a0 a1 a2 a3 f0 f1 o th s se ho i0 j0 q0 then 110 else 0
def cx33 (c : Int) (k : Int) (a0 : Int) (a1 : Int) (a2 : Int) (a3 : Int) (f0 : Int) (f1 : Int) (o : Int) (th : Int) (s : ByteArray) (se : Int) (ho : Int) (i0 : Int) (j0 : Int) (q0 : Int) : Int := bif bif decide (i0 < 10000000) then true else decide (i0 > 40000000) then 0
else (-1 : Int)
def cx34 (c : Int) (k : Int) (a0 : Int) (a1 : Int) (a2 : Int) (a3 : Int) (f0 : Int) (f1 : Int) (o : Int) (th : Int) (s : ByteArray) (se : Int) (ho : Int) (i0 : Int) (j0 : Int) (q0 : Int) : Int := bif bif decide (j0 < 0) then true else decide (j0 > 1000) then 0
else (-1 : Int)
def cx35 (c : Int) (k : Int) (a0 : Int) (a1 : Int) (a2 : Int) (a3 : Int) (f0 : Int) (f1 : Int) (o : Int) (th : Int) (s : ByteArray) (se : Int) (ho : Int) (i0 : Int) (j0 : Int) (q0 : Int) : Int := bif bif decide (q0 < 1) then true else decide (q0 > 1000) then 0
else (-1 : Int)
def cxN (c : Int) (k : Int) (a0 : Int) (a1 : Int) (a2 : Int) (a3 : Int) (f0 : Int) (f1 : Int) (o : Int) (th : Int) (s : ByteArray) (se : Int) (ho : Int) (i0 : Int) (j0 : Int) (q0 : Int) : Prop := ((((cx0 c k a0 a1 a2 a3 f0 f1 o th s se ho i0 j0 q0 = true → f0 = f0 ∧ f1 = f1) ∧
            (ho = ho ∧ se = se ∧ s = s ∧ k = k) ∧
              (ho = ho ∧ se = se ∧ s = s) ∧ (ho = ho ∧ se = se) ∧ ho = ho) ∧
          (c = c ∧
              k = k ∧
                a0 = a0 ∧
                  a1 = a1 ∧
                    a2 = a2 ∧
                      a3 = a3 ∧ f0 = f0 ∧ f1 = f1 ∧ o = o ∧ th = th ∧ s = s ∧ se = se ∧ ho = ho) ∧
            c = c ∧
              k = k ∧
                cx1 c k a0 a1 a2 a3 f0 f1 o th s se ho i0 j0 q0 =
                    cx1 c k a0 a1 a2 a3 f0 f1 o th s se ho i0 j0 q0 ∧
                  cx2 c k a0 a1 a2 a3 f0 f1 o th s se ho i0 j0 q0 =
                      cx2 c k a0 a1 a2 a3 f0 f1 o th s se ho i0 j0 q0 ∧
                    cx3 c k a0 a1 a2 a3 f0 f1 o th s se ho i0 j0 q0 =
                        cx3 c k a0 a1 a2 a3 f0 f1 o th s se ho i0 j0 q0 ∧
                      cx4 c k a0 a1 a2 a3 f0 f1 o th s se ho i0 j0 q0 =
                          cx4 c k a0 a1 a2 a3 f0 f1 o th s se ho i0 j0 q0 ∧
                        cx5 c k a0 a1 a2 a3 f0 f1 o th s se ho i0 j0 q0 =
                            cx5 c k a0 a1 a2 a3 f0 f1 o th s se ho i0 j0 q0 ∧
                          cx6 c k a0 a1 a2 a3 f0 f1 o th s se ho i0 j0 q0 =
                              cx6 c k a0 a1 a2 a3 f0 f1 o th s se ho i0 j0 q0 ∧
                            cx7 c k a0 a1 a2 a3 f0 f1 o th s se ho i0 j0 q0 =
                                cx7 c k a0 a1 a2 a3 f0 f1 o th s se ho i0 j0 q0 ∧
                              cx8 c k a0 a1 a2 a3 f0 f1 o th s se ho i0 j0 q0 =
                                  cx8 c k a0 a1 a2 a3 f0 f1 o th s se ho i0 j0 q0 ∧
                                s = s ∧ se = se ∧ ho = ho) ∧
        ((!cx9 c k a0 a1 a2 a3 f0 f1 o th s se ho i0 j0 q0) = true →
          (!cx22 c k a0 a1 a2 a3 f0 f1 o th s se ho i0 j0 q0) = true →
            (!cx25 c k a0 a1 a2 a3 f0 f1 o th s se ho i0 j0 q0) = true →
              (!cx30 c k a0 a1 a2 a3 f0 f1 o th s se ho i0 j0 q0) = true →
                (!cx31 c k a0 a1 a2 a3 f0 f1 o th s se ho i0 j0 q0) = true →
                  eqBytes s { data := #[] } = false → isG s))
def cxV (c : Int) (k : Int) (a0 : Int) (a1 : Int) (a2 : Int) (a3 : Int) (f0 : Int) (f1 : Int) (o : Int) (th : Int) (s : ByteArray) (se : Int) (ho : Int) (i0 : Int) (j0 : Int) (q0 : Int) : Int := (bif
          bif cx32 c k a0 a1 a2 a3 f0 f1 o th s se ho i0 j0 q0 == 0 then
            !bif !decide (cx33 c k a0 a1 a2 a3 f0 f1 o th s se ho i0 j0 q0 ≥ 0) then
                bif !decide (cx34 c k a0 a1 a2 a3 f0 f1 o th s se ho i0 j0 q0 ≥ 0) then
                  !decide (cx35 c k a0 a1 a2 a3 f0 f1 o th s se ho i0 j0 q0 ≥ 0)
                else false
              else false
          else false then
        110
      else cx32 c k a0 a1 a2 a3 f0 f1 o th s se ho i0 j0 q0)
def cy0 (c : Int) (k : Int) (a0 : Int) (a1 : Int) (a2 : Int) (a3 : Int) (f0 : Int) (f1 : Int) (o : Int) (th : Int) (s : ByteArray) (se : Int) (ho : Int) (i0 : Int) (j0 : Int) (q0 : Int) (i1 : Int) (j1 : Int) (q1 : Int) : Bool := bif o != 0 then !eqBytes s { data := #[77, 73, 82, 82, 79, 82] } else false
def cy1 (c : Int) (k : Int) (a0 : Int) (a1 : Int) (a2 : Int) (a3 : Int) (f0 : Int) (f1 : Int) (o : Int) (th : Int) (s : ByteArray) (se : Int) (ho : Int) (i0 : Int) (j0 : Int) (q0 : Int) (i1 : Int) (j1 : Int) (q1 : Int) : Int := bif cy0 c k a0 a1 a2 a3 f0 f1 o th s se ho i0 j0 q0 i1 j1 q1 then a0 else a0
def cy2 (c : Int) (k : Int) (a0 : Int) (a1 : Int) (a2 : Int) (a3 : Int) (f0 : Int) (f1 : Int) (o : Int) (th : Int) (s : ByteArray) (se : Int) (ho : Int) (i0 : Int) (j0 : Int) (q0 : Int) (i1 : Int) (j1 : Int) (q1 : Int) : Int := bif cy0 c k a0 a1 a2 a3 f0 f1 o th s se ho i0 j0 q0 i1 j1 q1 then a1 else a1
def cy3 (c : Int) (k : Int) (a0 : Int) (a1 : Int) (a2 : Int) (a3 : Int) (f0 : Int) (f1 : Int) (o : Int) (th : Int) (s : ByteArray) (se : Int) (ho : Int) (i0 : Int) (j0 : Int) (q0 : Int) (i1 : Int) (j1 : Int) (q1 : Int) : Int := bif cy0 c k a0 a1 a2 a3 f0 f1 o th s se ho i0 j0 q0 i1 j1 q1 then a2 else a2
def cy4 (c : Int) (k : Int) (a0 : Int) (a1 : Int) (a2 : Int) (a3 : Int) (f0 : Int) (f1 : Int) (o : Int) (th : Int) (s : ByteArray) (se : Int) (ho : Int) (i0 : Int) (j0 : Int) (q0 : Int) (i1 : Int) (j1 : Int) (q1 : Int) : Int := bif cy0 c k a0 a1 a2 a3 f0 f1 o th s se ho i0 j0 q0 i1 j1 q1 then a3 else a3
def cy5 (c : Int) (k : Int) (a0 : Int) (a1 : Int) (a2 : Int) (a3 : Int) (f0 : Int) (f1 : Int) (o : Int) (th : Int) (s : ByteArray) (se : Int) (ho : Int) (i0 : Int) (j0 : Int) (q0 : Int) (i1 : Int) (j1 : Int) (q1 : Int) : Int := bif cy0 c k a0 a1 a2 a3 f0 f1 o th s se ho i0 j0 q0 i1 j1 q1 then f0 else 0
def cy6 (c : Int) (k : Int) (a0 : Int) (a1 : Int) (a2 : Int) (a3 : Int) (f0 : Int) (f1 : Int) (o : Int) (th : Int) (s : ByteArray) (se : Int) (ho : Int) (i0 : Int) (j0 : Int) (q0 : Int) (i1 : Int) (j1 : Int) (q1 : Int) : Int := bif cy0 c k a0 a1 a2 a3 f0 f1 o th s se ho i0 j0 q0 i1 j1 q1 then f1 else 0
def cy7 (c : Int) (k : Int) (a0 : Int) (a1 : Int) (a2 : Int) (a3 : Int) (f0 : Int) (f1 : Int) (o : Int) (th : Int) (s : ByteArray) (se : Int) (ho : Int) (i0 : Int) (j0 : Int) (q0 : Int) (i1 : Int) (j1 : Int) (q1 : Int) : Int := bif cy0 c k a0 a1 a2 a3 f0 f1 o th s se ho i0 j0 q0 i1 j1 q1 then o else 0
def cy8 (c : Int) (k : Int) (a0 : Int) (a1 : Int) (a2 : Int) (a3 : Int) (f0 : Int) (f1 : Int) (o : Int) (th : Int) (s : ByteArray) (se : Int) (ho : Int) (i0 : Int) (j0 : Int) (q0 : Int) (i1 : Int) (j1 : Int) (q1 : Int) : Int := bif cy0 c k a0 a1 a2 a3 f0 f1 o th s se ho i0 j0 q0 i1 j1 q1 then th else th
def cy9 (c : Int) (k : Int) (a0 : Int) (a1 : Int) (a2 : Int) (a3 : Int) (f0 : Int) (f1 : Int) (o : Int) (th : Int) (s : ByteArray) (se : Int) (ho : Int) (i0 : Int) (j0 : Int) (q0 : Int) (i1 : Int) (j1 : Int) (q1 : Int) : Bool := !bif
      (1 : Int) == 1 &&
        (c == c &&
          (k == k &&
            ((0 : Int) == 0 &&
              ((0 : Int) == 0 &&
                (o == cy7 c k a0 a1 a2 a3 f0 f1 o th s se ho i0 j0 q0 i1 j1 q1 &&
                  (th == cy8 c k a0 a1 a2 a3 f0 f1 o th s se ho i0 j0 q0 i1 j1 q1 &&
                    (se == se &&
                      (ho == ho &&
                        ((0 : Int) == 0 &&
                          ((0 : Int) == 0 &&
                            ((0 : Int) == 0 &&
                              ((0 : Int) == 0 &&
                                ((0 : Int) == 0 &&
                                  ((0 : Int) == 0 &&
                                    ((0 : Int) == 0 &&
                                      (a0 ==
                                          cy1 c k a0 a1 a2 a3 f0 f1 o th s se ho i0 j0 q0 i1 j1 q1 &&
                                        (a1 ==
                                            cy2 c k a0 a1 a2 a3 f0 f1 o th s se ho i0 j0 q0 i1 j1
                                              q1 &&
                                          (a2 ==
                                              cy3 c k a0 a1 a2 a3 f0 f1 o th s se ho i0 j0 q0 i1 j1
                                                q1 &&
                                            (a3 ==
                                                cy4 c k a0 a1 a2 a3 f0 f1 o th s se ho i0 j0 q0 i1 j1
                                                  q1 &&
                                              (f0 ==
                                                  cy5 c k a0 a1 a2 a3 f0 f1 o th s se ho i0 j0 q0 i1 j1
                                                    q1 &&
                                                (f1 ==
                                                    cy6 c k a0 a1 a2 a3 f0 f1 o th s se ho i0 j0 q0 i1
                                                      j1 q1 &&
                                                  (eqBytes s s && true)))))))))))))))))))))) then
    bif
        !!(i0 == i0 && (j0 == j0 && (q0 == q0 && true))) &&
          !!(i1 == i1 && (j1 == j1 && (q1 == q1 && true))) then
      true
    else false
  else false
def cy11 (c : Int) (k : Int) (a0 : Int) (a1 : Int) (a2 : Int) (a3 : Int) (f0 : Int) (f1 : Int) (o : Int) (th : Int) (s : ByteArray) (se : Int) (ho : Int) (i0 : Int) (j0 : Int) (q0 : Int) (i1 : Int) (j1 : Int) (q1 : Int) : Bool := bif decide (c < (-1000000000 : Int)) then true
else decide (c > 1000000000)
def cy14 (c : Int) (k : Int) (a0 : Int) (a1 : Int) (a2 : Int) (a3 : Int) (f0 : Int) (f1 : Int) (o : Int) (th : Int) (s : ByteArray) (se : Int) (ho : Int) (i0 : Int) (j0 : Int) (q0 : Int) (i1 : Int) (j1 : Int) (q1 : Int) : Int := bif
    !cy11 c k a0 a1 a2 a3 f0 f1 o th s se ho i0 j0 q0 i1 j1 q1 &&
      !bif decide (th < (-1000000000 : Int)) then true
        else decide (th > 1000000000) then
  (-1 : Int)
else
  bif cy11 c k a0 a1 a2 a3 f0 f1 o th s se ho i0 j0 q0 i1 j1 q1 then 0
  else (2 : Int)
def cy15 (c : Int) (k : Int) (a0 : Int) (a1 : Int) (a2 : Int) (a3 : Int) (f0 : Int) (f1 : Int) (o : Int) (th : Int) (s : ByteArray) (se : Int) (ho : Int) (i0 : Int) (j0 : Int) (q0 : Int) (i1 : Int) (j1 : Int) (q1 : Int) : Bool := bif decide (a0 < (-1000000000 : Int)) then true
else decide (a0 > 1000000000)
def cy16 (c : Int) (k : Int) (a0 : Int) (a1 : Int) (a2 : Int) (a3 : Int) (f0 : Int) (f1 : Int) (o : Int) (th : Int) (s : ByteArray) (se : Int) (ho : Int) (i0 : Int) (j0 : Int) (q0 : Int) (i1 : Int) (j1 : Int) (q1 : Int) : Bool := bif decide (a1 < (-1000000000 : Int)) then true
else decide (a1 > 1000000000)
def cy17 (c : Int) (k : Int) (a0 : Int) (a1 : Int) (a2 : Int) (a3 : Int) (f0 : Int) (f1 : Int) (o : Int) (th : Int) (s : ByteArray) (se : Int) (ho : Int) (i0 : Int) (j0 : Int) (q0 : Int) (i1 : Int) (j1 : Int) (q1 : Int) : Bool := bif decide (a2 < (-1000000000 : Int)) then true
else decide (a2 > 1000000000)
def cy19 (c : Int) (k : Int) (a0 : Int) (a1 : Int) (a2 : Int) (a3 : Int) (f0 : Int) (f1 : Int) (o : Int) (th : Int) (s : ByteArray) (se : Int) (ho : Int) (i0 : Int) (j0 : Int) (q0 : Int) (i1 : Int) (j1 : Int) (q1 : Int) : Int := bif
    !cy15 c k a0 a1 a2 a3 f0 f1 o th s se ho i0 j0 q0 i1 j1 q1 &&
      (!cy16 c k a0 a1 a2 a3 f0 f1 o th s se ho i0 j0 q0 i1 j1 q1 &&
        (!cy17 c k a0 a1 a2 a3 f0 f1 o th s se ho i0 j0 q0 i1 j1 q1 &&
          !bif decide (a3 < (-1000000000 : Int)) then true
            else decide (a3 > 1000000000))) then
  (-1 : Int)
else
  bif cy15 c k a0 a1 a2 a3 f0 f1 o th s se ho i0 j0 q0 i1 j1 q1 then 0
  else
    bif cy16 c k a0 a1 a2 a3 f0 f1 o th s se ho i0 j0 q0 i1 j1 q1 then
      (1 : Int)
    else
      bif cy17 c k a0 a1 a2 a3 f0 f1 o th s se ho i0 j0 q0 i1 j1 q1 then
        (2 : Int)
      else (3 : Int)
def cy20 (c : Int) (k : Int) (a0 : Int) (a1 : Int) (a2 : Int) (a3 : Int) (f0 : Int) (f1 : Int) (o : Int) (th : Int) (s : ByteArray) (se : Int) (ho : Int) (i0 : Int) (j0 : Int) (q0 : Int) (i1 : Int) (j1 : Int) (q1 : Int) : Bool := bif decide (f0 < (-1000000000 : Int)) then true
else decide (f0 > 1000000000)
def cy21 (c : Int) (k : Int) (a0 : Int) (a1 : Int) (a2 : Int) (a3 : Int) (f0 : Int) (f1 : Int) (o : Int) (th : Int) (s : ByteArray) (se : Int) (ho : Int) (i0 : Int) (j0 : Int) (q0 : Int) (i1 : Int) (j1 : Int) (q1 : Int) : Int := bif
    !cy20 c k a0 a1 a2 a3 f0 f1 o th s se ho i0 j0 q0 i1 j1 q1 &&
      !bif decide (f1 < (-1000000000 : Int)) then true
        else decide (f1 > 1000000000) then
  (-1 : Int)
else
  bif cy20 c k a0 a1 a2 a3 f0 f1 o th s se ho i0 j0 q0 i1 j1 q1 then 0
  else (1 : Int)
def cy22 (c : Int) (k : Int) (a0 : Int) (a1 : Int) (a2 : Int) (a3 : Int) (f0 : Int) (f1 : Int) (o : Int) (th : Int) (s : ByteArray) (se : Int) (ho : Int) (i0 : Int) (j0 : Int) (q0 : Int) (i1 : Int) (j1 : Int) (q1 : Int) : Bool := !bif !decide (cy14 c k a0 a1 a2 a3 f0 f1 o th s se ho i0 j0 q0 i1 j1 q1 ≥ 0) then
    bif !decide (cy19 c k a0 a1 a2 a3 f0 f1 o th s se ho i0 j0 q0 i1 j1 q1 ≥ 0) then
      !decide (cy21 c k a0 a1 a2 a3 f0 f1 o th s se ho i0 j0 q0 i1 j1 q1 ≥ 0)
    else false
  else false
def cy24 (c : Int) (k : Int) (a0 : Int) (a1 : Int) (a2 : Int) (a3 : Int) (f0 : Int) (f1 : Int) (o : Int) (th : Int) (s : ByteArray) (se : Int) (ho : Int) (i0 : Int) (j0 : Int) (q0 : Int) (i1 : Int) (j1 : Int) (q1 : Int) : Int := bif
    bif decide (k < (-100000000 : Int)) then true
    else decide (k > 100000000) then
  0
else (-1 : Int)
def cy25 (c : Int) (k : Int) (a0 : Int) (a1 : Int) (a2 : Int) (a3 : Int) (f0 : Int) (f1 : Int) (o : Int) (th : Int) (s : ByteArray) (se : Int) (ho : Int) (i0 : Int) (j0 : Int) (q0 : Int) (i1 : Int) (j1 : Int) (q1 : Int) : Bool := !bif !decide (cy24 c k a0 a1 a2 a3 f0 f1 o th s se ho i0 j0 q0 i1 j1 q1 ≥ 0) then true else false
def cy27 (c : Int) (k : Int) (a0 : Int) (a1 : Int) (a2 : Int) (a3 : Int) (f0 : Int) (f1 : Int) (o : Int) (th : Int) (s : ByteArray) (se : Int) (ho : Int) (i0 : Int) (j0 : Int) (q0 : Int) (i1 : Int) (j1 : Int) (q1 : Int) : Int := bif
    bif decide (o < (-3 : Int)) then true
    else decide (o > 3) then
  0
else (-1 : Int)
def cy28 (c : Int) (k : Int) (a0 : Int) (a1 : Int) (a2 : Int) (a3 : Int) (f0 : Int) (f1 : Int) (o : Int) (th : Int) (s : ByteArray) (se : Int) (ho : Int) (i0 : Int) (j0 : Int) (q0 : Int) (i1 : Int) (j1 : Int) (q1 : Int) : Bool := bif decide (se < 0) then true else decide (se > 1000000000)
def cy29 (c : Int) (k : Int) (a0 : Int) (a1 : Int) (a2 : Int) (a3 : Int) (f0 : Int) (f1 : Int) (o : Int) (th : Int) (s : ByteArray) (se : Int) (ho : Int) (i0 : Int) (j0 : Int) (q0 : Int) (i1 : Int) (j1 : Int) (q1 : Int) : Int := bif
    !cy28 c k a0 a1 a2 a3 f0 f1 o th s se ho i0 j0 q0 i1 j1 q1 &&
      !bif decide (ho < 0) then true else decide (ho > 1000000000) then
  (-1 : Int)
else
  bif cy28 c k a0 a1 a2 a3 f0 f1 o th s se ho i0 j0 q0 i1 j1 q1 then 0
  else (1 : Int)
def cy30 (c : Int) (k : Int) (a0 : Int) (a1 : Int) (a2 : Int) (a3 : Int) (f0 : Int) (f1 : Int) (o : Int) (th : Int) (s : ByteArray) (se : Int) (ho : Int) (i0 : Int) (j0 : Int) (q0 : Int) (i1 : Int) (j1 : Int) (q1 : Int) : Bool := !bif !decide (cy27 c k a0 a1 a2 a3 f0 f1 o th s se ho i0 j0 q0 i1 j1 q1 ≥ 0) then
    !decide (cy29 c k a0 a1 a2 a3 f0 f1 o th s se ho i0 j0 q0 i1 j1 q1 ≥ 0)
  else false
def cy31 (c : Int) (k : Int) (a0 : Int) (a1 : Int) (a2 : Int) (a3 : Int) (f0 : Int) (f1 : Int) (o : Int) (th : Int) (s : ByteArray) (se : Int) (ho : Int) (i0 : Int) (j0 : Int) (q0 : Int) (i1 : Int) (j1 : Int) (q1 : Int) : Bool := !bif se == 0 then true else decide (ho < se)
def cy32 (c : Int) (k : Int) (a0 : Int) (a1 : Int) (a2 : Int) (a3 : Int) (f0 : Int) (f1 : Int) (o : Int) (th : Int) (s : ByteArray) (se : Int) (ho : Int) (i0 : Int) (j0 : Int) (q0 : Int) (i1 : Int) (j1 : Int) (q1 : Int) : Int := bif cy9 c k a0 a1 a2 a3 f0 f1 o th s se ho i0 j0 q0 i1 j1 q1 then 110
else
  bif cy22 c k a0 a1 a2 a3 f0 f1 o th s se ho i0 j0 q0 i1 j1 q1 then 110
  else
    bif cy25 c k a0 a1 a2 a3 f0 f1 o th s se ho i0 j0 q0 i1 j1 q1 then 110
    else
      bif cy30 c k a0 a1 a2 a3 f0 f1 o th s se ho i0 j0 q0 i1 j1 q1 then 110
      else bif cy31 c k a0 a1 a2 a3 f0 f1 o th s se ho i0 j0 q0 i1 j1 q1 then 110 else 0
def cy33 (c : Int) (k : Int) (a0 : Int) (a1 : Int) (a2 : Int) (a3 : Int) (f0 : Int) (f1 : Int) (o : Int) (th : Int) (s : ByteArray) (se : Int) (ho : Int) (i0 : Int) (j0 : Int) (q0 : Int) (i1 : Int) (j1 : Int) (q1 : Int) : Int := bif bif decide (i0 < 10000000) then true else decide (i0 > 40000000) then 0
else (-1 : Int)
def cy34 (c : Int) (k : Int) (a0 : Int) (a1 : Int) (a2 : Int) (a3 : Int) (f0 : Int) (f1 : Int) (o : Int) (th : Int) (s : ByteArray) (se : Int) (ho : Int) (i0 : Int) (j0 : Int) (q0 : Int) (i1 : Int) (j1 : Int) (q1 : Int) : Int := bif bif decide (j0 < 0) then true else decide (j0 > 1000) then 0
else (-1 : Int)
def cy35 (c : Int) (k : Int) (a0 : Int) (a1 : Int) (a2 : Int) (a3 : Int) (f0 : Int) (f1 : Int) (o : Int) (th : Int) (s : ByteArray) (se : Int) (ho : Int) (i0 : Int) (j0 : Int) (q0 : Int) (i1 : Int) (j1 : Int) (q1 : Int) : Int := bif bif decide (q0 < 1) then true else decide (q0 > 1000) then 0
else (-1 : Int)
def cy36 (c : Int) (k : Int) (a0 : Int) (a1 : Int) (a2 : Int) (a3 : Int) (f0 : Int) (f1 : Int) (o : Int) (th : Int) (s : ByteArray) (se : Int) (ho : Int) (i0 : Int) (j0 : Int) (q0 : Int) (i1 : Int) (j1 : Int) (q1 : Int) : Int := bif
    bif cy32 c k a0 a1 a2 a3 f0 f1 o th s se ho i0 j0 q0 i1 j1 q1 == 0 then
      !bif !decide (cy33 c k a0 a1 a2 a3 f0 f1 o th s se ho i0 j0 q0 i1 j1 q1 ≥ 0) then
          bif !decide (cy34 c k a0 a1 a2 a3 f0 f1 o th s se ho i0 j0 q0 i1 j1 q1 ≥ 0) then
            !decide (cy35 c k a0 a1 a2 a3 f0 f1 o th s se ho i0 j0 q0 i1 j1 q1 ≥ 0)
          else false
        else false
    else false then
  110
else cy32 c k a0 a1 a2 a3 f0 f1 o th s se ho i0 j0 q0 i1 j1 q1
def cy37 (c : Int) (k : Int) (a0 : Int) (a1 : Int) (a2 : Int) (a3 : Int) (f0 : Int) (f1 : Int) (o : Int) (th : Int) (s : ByteArray) (se : Int) (ho : Int) (i0 : Int) (j0 : Int) (q0 : Int) (i1 : Int) (j1 : Int) (q1 : Int) : Int := bif bif decide (i1 < 10000000) then true else decide (i1 > 40000000) then 0
else (-1 : Int)
def cy38 (c : Int) (k : Int) (a0 : Int) (a1 : Int) (a2 : Int) (a3 : Int) (f0 : Int) (f1 : Int) (o : Int) (th : Int) (s : ByteArray) (se : Int) (ho : Int) (i0 : Int) (j0 : Int) (q0 : Int) (i1 : Int) (j1 : Int) (q1 : Int) : Int := bif bif decide (j1 < 0) then true else decide (j1 > 1000) then 0
else (-1 : Int)
def cy39 (c : Int) (k : Int) (a0 : Int) (a1 : Int) (a2 : Int) (a3 : Int) (f0 : Int) (f1 : Int) (o : Int) (th : Int) (s : ByteArray) (se : Int) (ho : Int) (i0 : Int) (j0 : Int) (q0 : Int) (i1 : Int) (j1 : Int) (q1 : Int) : Int := bif bif decide (q1 < 1) then true else decide (q1 > 1000) then 0
else (-1 : Int)
def cyN (c : Int) (k : Int) (a0 : Int) (a1 : Int) (a2 : Int) (a3 : Int) (f0 : Int) (f1 : Int) (o : Int) (th : Int) (s : ByteArray) (se : Int) (ho : Int) (i0 : Int) (j0 : Int) (q0 : Int) (i1 : Int) (j1 : Int) (q1 : Int) : Prop := ((((cy0 c k a0 a1 a2 a3 f0 f1 o th s se ho i0 j0 q0 i1 j1 q1 = true → f0 = f0 ∧ f1 = f1) ∧
            (ho = ho ∧ se = se ∧ s = s ∧ k = k) ∧
              (ho = ho ∧ se = se ∧ s = s) ∧ (ho = ho ∧ se = se) ∧ ho = ho) ∧
          (c = c ∧
              k = k ∧
                a0 = a0 ∧
                  a1 = a1 ∧
                    a2 = a2 ∧
                      a3 = a3 ∧ f0 = f0 ∧ f1 = f1 ∧ o = o ∧ th = th ∧ s = s ∧ se = se ∧ ho = ho) ∧
            c = c ∧
              k = k ∧
                cy1 c k a0 a1 a2 a3 f0 f1 o th s se ho i0 j0 q0 i1 j1 q1 =
                    cy1 c k a0 a1 a2 a3 f0 f1 o th s se ho i0 j0 q0 i1 j1 q1 ∧
                  cy2 c k a0 a1 a2 a3 f0 f1 o th s se ho i0 j0 q0 i1 j1 q1 =
                      cy2 c k a0 a1 a2 a3 f0 f1 o th s se ho i0 j0 q0 i1 j1 q1 ∧
                    cy3 c k a0 a1 a2 a3 f0 f1 o th s se ho i0 j0 q0 i1 j1 q1 =
                        cy3 c k a0 a1 a2 a3 f0 f1 o th s se ho i0 j0 q0 i1 j1 q1 ∧
                      cy4 c k a0 a1 a2 a3 f0 f1 o th s se ho i0 j0 q0 i1 j1 q1 =
                          cy4 c k a0 a1 a2 a3 f0 f1 o th s se ho i0 j0 q0 i1 j1 q1 ∧
                        cy5 c k a0 a1 a2 a3 f0 f1 o th s se ho i0 j0 q0 i1 j1 q1 =
                            cy5 c k a0 a1 a2 a3 f0 f1 o th s se ho i0 j0 q0 i1 j1 q1 ∧
                          cy6 c k a0 a1 a2 a3 f0 f1 o th s se ho i0 j0 q0 i1 j1 q1 =
                              cy6 c k a0 a1 a2 a3 f0 f1 o th s se ho i0 j0 q0 i1 j1 q1 ∧
                            cy7 c k a0 a1 a2 a3 f0 f1 o th s se ho i0 j0 q0 i1 j1 q1 =
                                cy7 c k a0 a1 a2 a3 f0 f1 o th s se ho i0 j0 q0 i1 j1 q1 ∧
                              cy8 c k a0 a1 a2 a3 f0 f1 o th s se ho i0 j0 q0 i1 j1 q1 =
                                  cy8 c k a0 a1 a2 a3 f0 f1 o th s se ho i0 j0 q0 i1 j1 q1 ∧
                                s = s ∧ se = se ∧ ho = ho) ∧
        ((!cy9 c k a0 a1 a2 a3 f0 f1 o th s se ho i0 j0 q0 i1 j1 q1) = true →
          (!cy22 c k a0 a1 a2 a3 f0 f1 o th s se ho i0 j0 q0 i1 j1 q1) = true →
            (!cy25 c k a0 a1 a2 a3 f0 f1 o th s se ho i0 j0 q0 i1 j1 q1) = true →
              (!cy30 c k a0 a1 a2 a3 f0 f1 o th s se ho i0 j0 q0 i1 j1 q1) = true →
                (!cy31 c k a0 a1 a2 a3 f0 f1 o th s se ho i0 j0 q0 i1 j1 q1) = true →
                  eqBytes s { data := #[] } = false → isG s))
def cyV (c : Int) (k : Int) (a0 : Int) (a1 : Int) (a2 : Int) (a3 : Int) (f0 : Int) (f1 : Int) (o : Int) (th : Int) (s : ByteArray) (se : Int) (ho : Int) (i0 : Int) (j0 : Int) (q0 : Int) (i1 : Int) (j1 : Int) (q1 : Int) : Int := (bif
          bif cy36 c k a0 a1 a2 a3 f0 f1 o th s se ho i0 j0 q0 i1 j1 q1 == 0 then
            !bif !decide (cy37 c k a0 a1 a2 a3 f0 f1 o th s se ho i0 j0 q0 i1 j1 q1 ≥ 0) then
                bif !decide (cy38 c k a0 a1 a2 a3 f0 f1 o th s se ho i0 j0 q0 i1 j1 q1 ≥ 0) then
                  !decide (cy39 c k a0 a1 a2 a3 f0 f1 o th s se ho i0 j0 q0 i1 j1 q1 ≥ 0)
                else false
              else false
          else false then
        110
      else cy36 c k a0 a1 a2 a3 f0 f1 o th s se ho i0 j0 q0 i1 j1 q1)
def cz0 (c : Int) (k : Int) (a0 : Int) (a1 : Int) (a2 : Int) (a3 : Int) (f0 : Int) (f1 : Int) (o : Int) (th : Int) (s : ByteArray) (se : Int) (ho : Int) (i0 : Int) (j0 : Int) (q0 : Int) (i1 : Int) (j1 : Int) (q1 : Int) (i2 : Int) (j2 : Int) (q2 : Int) : Bool := bif o != 0 then !eqBytes s { data := #[77, 73, 82, 82, 79, 82] } else false
def cz1 (c : Int) (k : Int) (a0 : Int) (a1 : Int) (a2 : Int) (a3 : Int) (f0 : Int) (f1 : Int) (o : Int) (th : Int) (s : ByteArray) (se : Int) (ho : Int) (i0 : Int) (j0 : Int) (q0 : Int) (i1 : Int) (j1 : Int) (q1 : Int) (i2 : Int) (j2 : Int) (q2 : Int) : Int := bif cz0 c k a0 a1 a2 a3 f0 f1 o th s se ho i0 j0 q0 i1 j1 q1 i2 j2 q2 then a0 else a0
def cz2 (c : Int) (k : Int) (a0 : Int) (a1 : Int) (a2 : Int) (a3 : Int) (f0 : Int) (f1 : Int) (o : Int) (th : Int) (s : ByteArray) (se : Int) (ho : Int) (i0 : Int) (j0 : Int) (q0 : Int) (i1 : Int) (j1 : Int) (q1 : Int) (i2 : Int) (j2 : Int) (q2 : Int) : Int := bif cz0 c k a0 a1 a2 a3 f0 f1 o th s se ho i0 j0 q0 i1 j1 q1 i2 j2 q2 then a1 else a1
def cz3 (c : Int) (k : Int) (a0 : Int) (a1 : Int) (a2 : Int) (a3 : Int) (f0 : Int) (f1 : Int) (o : Int) (th : Int) (s : ByteArray) (se : Int) (ho : Int) (i0 : Int) (j0 : Int) (q0 : Int) (i1 : Int) (j1 : Int) (q1 : Int) (i2 : Int) (j2 : Int) (q2 : Int) : Int := bif cz0 c k a0 a1 a2 a3 f0 f1 o th s se ho i0 j0 q0 i1 j1 q1 i2 j2 q2 then a2 else a2
def cz4 (c : Int) (k : Int) (a0 : Int) (a1 : Int) (a2 : Int) (a3 : Int) (f0 : Int) (f1 : Int) (o : Int) (th : Int) (s : ByteArray) (se : Int) (ho : Int) (i0 : Int) (j0 : Int) (q0 : Int) (i1 : Int) (j1 : Int) (q1 : Int) (i2 : Int) (j2 : Int) (q2 : Int) : Int := bif cz0 c k a0 a1 a2 a3 f0 f1 o th s se ho i0 j0 q0 i1 j1 q1 i2 j2 q2 then a3 else a3
def cz5 (c : Int) (k : Int) (a0 : Int) (a1 : Int) (a2 : Int) (a3 : Int) (f0 : Int) (f1 : Int) (o : Int) (th : Int) (s : ByteArray) (se : Int) (ho : Int) (i0 : Int) (j0 : Int) (q0 : Int) (i1 : Int) (j1 : Int) (q1 : Int) (i2 : Int) (j2 : Int) (q2 : Int) : Int := bif cz0 c k a0 a1 a2 a3 f0 f1 o th s se ho i0 j0 q0 i1 j1 q1 i2 j2 q2 then f0 else 0
def cz6 (c : Int) (k : Int) (a0 : Int) (a1 : Int) (a2 : Int) (a3 : Int) (f0 : Int) (f1 : Int) (o : Int) (th : Int) (s : ByteArray) (se : Int) (ho : Int) (i0 : Int) (j0 : Int) (q0 : Int) (i1 : Int) (j1 : Int) (q1 : Int) (i2 : Int) (j2 : Int) (q2 : Int) : Int := bif cz0 c k a0 a1 a2 a3 f0 f1 o th s se ho i0 j0 q0 i1 j1 q1 i2 j2 q2 then f1 else 0
def cz7 (c : Int) (k : Int) (a0 : Int) (a1 : Int) (a2 : Int) (a3 : Int) (f0 : Int) (f1 : Int) (o : Int) (th : Int) (s : ByteArray) (se : Int) (ho : Int) (i0 : Int) (j0 : Int) (q0 : Int) (i1 : Int) (j1 : Int) (q1 : Int) (i2 : Int) (j2 : Int) (q2 : Int) : Int := bif cz0 c k a0 a1 a2 a3 f0 f1 o th s se ho i0 j0 q0 i1 j1 q1 i2 j2 q2 then o else 0
def cz8 (c : Int) (k : Int) (a0 : Int) (a1 : Int) (a2 : Int) (a3 : Int) (f0 : Int) (f1 : Int) (o : Int) (th : Int) (s : ByteArray) (se : Int) (ho : Int) (i0 : Int) (j0 : Int) (q0 : Int) (i1 : Int) (j1 : Int) (q1 : Int) (i2 : Int) (j2 : Int) (q2 : Int) : Int := bif cz0 c k a0 a1 a2 a3 f0 f1 o th s se ho i0 j0 q0 i1 j1 q1 i2 j2 q2 then th else th
def cz9 (c : Int) (k : Int) (a0 : Int) (a1 : Int) (a2 : Int) (a3 : Int) (f0 : Int) (f1 : Int) (o : Int) (th : Int) (s : ByteArray) (se : Int) (ho : Int) (i0 : Int) (j0 : Int) (q0 : Int) (i1 : Int) (j1 : Int) (q1 : Int) (i2 : Int) (j2 : Int) (q2 : Int) : Bool := !(i0 == i0 && (j0 == j0 && (q0 == q0 && true)))
def cz10 (c : Int) (k : Int) (a0 : Int) (a1 : Int) (a2 : Int) (a3 : Int) (f0 : Int) (f1 : Int) (o : Int) (th : Int) (s : ByteArray) (se : Int) (ho : Int) (i0 : Int) (j0 : Int) (q0 : Int) (i1 : Int) (j1 : Int) (q1 : Int) (i2 : Int) (j2 : Int) (q2 : Int) : Bool := !(i1 == i1 && (j1 == j1 && (q1 == q1 && true)))
def cz11 (c : Int) (k : Int) (a0 : Int) (a1 : Int) (a2 : Int) (a3 : Int) (f0 : Int) (f1 : Int) (o : Int) (th : Int) (s : ByteArray) (se : Int) (ho : Int) (i0 : Int) (j0 : Int) (q0 : Int) (i1 : Int) (j1 : Int) (q1 : Int) (i2 : Int) (j2 : Int) (q2 : Int) : Bool := !bif
      (1 : Int) == 1 &&
        (c == c &&
          (k == k &&
            ((0 : Int) == 0 &&
              ((0 : Int) == 0 &&
                (o == cz7 c k a0 a1 a2 a3 f0 f1 o th s se ho i0 j0 q0 i1 j1 q1 i2 j2 q2 &&
                  (th == cz8 c k a0 a1 a2 a3 f0 f1 o th s se ho i0 j0 q0 i1 j1 q1 i2 j2 q2 &&
                    (se == se &&
                      (ho == ho &&
                        ((0 : Int) == 0 &&
                          ((0 : Int) == 0 &&
                            ((0 : Int) == 0 &&
                              ((0 : Int) == 0 &&
                                ((0 : Int) == 0 &&
                                  ((0 : Int) == 0 &&
                                    ((0 : Int) == 0 &&
                                      (a0 ==
                                          cz1 c k a0 a1 a2 a3 f0 f1 o th s se ho i0 j0 q0 i1 j1 q1 i2
                                            j2 q2 &&
                                        (a1 ==
                                            cz2 c k a0 a1 a2 a3 f0 f1 o th s se ho i0 j0 q0 i1 j1 q1
                                              i2 j2 q2 &&
                                          (a2 ==
                                              cz3 c k a0 a1 a2 a3 f0 f1 o th s se ho i0 j0 q0 i1 j1 q1
                                                i2 j2 q2 &&
                                            (a3 ==
                                                cz4 c k a0 a1 a2 a3 f0 f1 o th s se ho i0 j0 q0 i1 j1
                                                  q1 i2 j2 q2 &&
                                              (f0 ==
                                                  cz5 c k a0 a1 a2 a3 f0 f1 o th s se ho i0 j0 q0 i1 j1
                                                    q1 i2 j2 q2 &&
                                                (f1 ==
                                                    cz6 c k a0 a1 a2 a3 f0 f1 o th s se ho i0 j0 q0 i1
                                                      j1 q1 i2 j2 q2 &&
                                                  (eqBytes s s && true)))))))))))))))))))))) then
    bif
        cz9 c k a0 a1 a2 a3 f0 f1 o th s se ho i0 j0 q0 i1 j1 q1 i2 j2 q2 ||
          !cz9 c k a0 a1 a2 a3 f0 f1 o th s se ho i0 j0 q0 i1 j1 q1 i2 j2 q2 &&
            (cz10 c k a0 a1 a2 a3 f0 f1 o th s se ho i0 j0 q0 i1 j1 q1 i2 j2 q2 ||
              !cz10 c k a0 a1 a2 a3 f0 f1 o th s se ho i0 j0 q0 i1 j1 q1 i2 j2 q2 &&
                !(i2 == i2 && (j2 == j2 && (q2 == q2 && true)))) then
      false
    else true
  else false
def cz13 (c : Int) (k : Int) (a0 : Int) (a1 : Int) (a2 : Int) (a3 : Int) (f0 : Int) (f1 : Int) (o : Int) (th : Int) (s : ByteArray) (se : Int) (ho : Int) (i0 : Int) (j0 : Int) (q0 : Int) (i1 : Int) (j1 : Int) (q1 : Int) (i2 : Int) (j2 : Int) (q2 : Int) : Bool := bif decide (c < (-1000000000 : Int)) then true
else decide (c > 1000000000)
def cz16 (c : Int) (k : Int) (a0 : Int) (a1 : Int) (a2 : Int) (a3 : Int) (f0 : Int) (f1 : Int) (o : Int) (th : Int) (s : ByteArray) (se : Int) (ho : Int) (i0 : Int) (j0 : Int) (q0 : Int) (i1 : Int) (j1 : Int) (q1 : Int) (i2 : Int) (j2 : Int) (q2 : Int) : Int := bif
    !cz13 c k a0 a1 a2 a3 f0 f1 o th s se ho i0 j0 q0 i1 j1 q1 i2 j2 q2 &&
      !bif decide (th < (-1000000000 : Int)) then
          true
        else decide (th > 1000000000) then
  (-1 : Int)
else
  bif cz13 c k a0 a1 a2 a3 f0 f1 o th s se ho i0 j0 q0 i1 j1 q1 i2 j2 q2 then 0
  else (2 : Int)
def cz17 (c : Int) (k : Int) (a0 : Int) (a1 : Int) (a2 : Int) (a3 : Int) (f0 : Int) (f1 : Int) (o : Int) (th : Int) (s : ByteArray) (se : Int) (ho : Int) (i0 : Int) (j0 : Int) (q0 : Int) (i1 : Int) (j1 : Int) (q1 : Int) (i2 : Int) (j2 : Int) (q2 : Int) : Bool := bif decide (a0 < (-1000000000 : Int)) then true
else decide (a0 > 1000000000)
def cz18 (c : Int) (k : Int) (a0 : Int) (a1 : Int) (a2 : Int) (a3 : Int) (f0 : Int) (f1 : Int) (o : Int) (th : Int) (s : ByteArray) (se : Int) (ho : Int) (i0 : Int) (j0 : Int) (q0 : Int) (i1 : Int) (j1 : Int) (q1 : Int) (i2 : Int) (j2 : Int) (q2 : Int) : Bool := bif decide (a1 < (-1000000000 : Int)) then true
else decide (a1 > 1000000000)
def cz19 (c : Int) (k : Int) (a0 : Int) (a1 : Int) (a2 : Int) (a3 : Int) (f0 : Int) (f1 : Int) (o : Int) (th : Int) (s : ByteArray) (se : Int) (ho : Int) (i0 : Int) (j0 : Int) (q0 : Int) (i1 : Int) (j1 : Int) (q1 : Int) (i2 : Int) (j2 : Int) (q2 : Int) : Bool := bif decide (a2 < (-1000000000 : Int)) then true
else decide (a2 > 1000000000)
def cz21 (c : Int) (k : Int) (a0 : Int) (a1 : Int) (a2 : Int) (a3 : Int) (f0 : Int) (f1 : Int) (o : Int) (th : Int) (s : ByteArray) (se : Int) (ho : Int) (i0 : Int) (j0 : Int) (q0 : Int) (i1 : Int) (j1 : Int) (q1 : Int) (i2 : Int) (j2 : Int) (q2 : Int) : Int := bif
    !cz17 c k a0 a1 a2 a3 f0 f1 o th s se ho i0 j0 q0 i1 j1 q1 i2 j2 q2 &&
      (!cz18 c k a0 a1 a2 a3 f0 f1 o th s se ho i0 j0 q0 i1 j1 q1 i2 j2 q2 &&
        (!cz19 c k a0 a1 a2 a3 f0 f1 o th s se ho i0 j0 q0 i1 j1 q1 i2 j2 q2 &&
          !bif
                decide
                  (a3 < (-1000000000 : Int)) then
              true
            else decide (a3 > 1000000000))) then
  (-1 : Int)
else
  bif cz17 c k a0 a1 a2 a3 f0 f1 o th s se ho i0 j0 q0 i1 j1 q1 i2 j2 q2 then 0
  else
    bif cz18 c k a0 a1 a2 a3 f0 f1 o th s se ho i0 j0 q0 i1 j1 q1 i2 j2 q2 then
      (1 : Int)
    else
      bif cz19 c k a0 a1 a2 a3 f0 f1 o th s se ho i0 j0 q0 i1 j1 q1 i2 j2 q2 then
        (2 : Int)
      else (3 : Int)
def cz22 (c : Int) (k : Int) (a0 : Int) (a1 : Int) (a2 : Int) (a3 : Int) (f0 : Int) (f1 : Int) (o : Int) (th : Int) (s : ByteArray) (se : Int) (ho : Int) (i0 : Int) (j0 : Int) (q0 : Int) (i1 : Int) (j1 : Int) (q1 : Int) (i2 : Int) (j2 : Int) (q2 : Int) : Bool := bif decide (f0 < (-1000000000 : Int)) then true
else decide (f0 > 1000000000)
def cz23 (c : Int) (k : Int) (a0 : Int) (a1 : Int) (a2 : Int) (a3 : Int) (f0 : Int) (f1 : Int) (o : Int) (th : Int) (s : ByteArray) (se : Int) (ho : Int) (i0 : Int) (j0 : Int) (q0 : Int) (i1 : Int) (j1 : Int) (q1 : Int) (i2 : Int) (j2 : Int) (q2 : Int) : Int := bif
    !cz22 c k a0 a1 a2 a3 f0 f1 o th s se ho i0 j0 q0 i1 j1 q1 i2 j2 q2 &&
      !bif decide (f1 < (-1000000000 : Int)) then
          true
        else decide (f1 > 1000000000) then
  (-1 : Int)
else
  bif cz22 c k a0 a1 a2 a3 f0 f1 o th s se ho i0 j0 q0 i1 j1 q1 i2 j2 q2 then 0
  else (1 : Int)
def cz24 (c : Int) (k : Int) (a0 : Int) (a1 : Int) (a2 : Int) (a3 : Int) (f0 : Int) (f1 : Int) (o : Int) (th : Int) (s : ByteArray) (se : Int) (ho : Int) (i0 : Int) (j0 : Int) (q0 : Int) (i1 : Int) (j1 : Int) (q1 : Int) (i2 : Int) (j2 : Int) (q2 : Int) : Bool := !bif !decide (cz16 c k a0 a1 a2 a3 f0 f1 o th s se ho i0 j0 q0 i1 j1 q1 i2 j2 q2 ≥ 0) then
    bif !decide (cz21 c k a0 a1 a2 a3 f0 f1 o th s se ho i0 j0 q0 i1 j1 q1 i2 j2 q2 ≥ 0) then
      !decide (cz23 c k a0 a1 a2 a3 f0 f1 o th s se ho i0 j0 q0 i1 j1 q1 i2 j2 q2 ≥ 0)
    else false
  else false
def cz26 (c : Int) (k : Int) (a0 : Int) (a1 : Int) (a2 : Int) (a3 : Int) (f0 : Int) (f1 : Int) (o : Int) (th : Int) (s : ByteArray) (se : Int) (ho : Int) (i0 : Int) (j0 : Int) (q0 : Int) (i1 : Int) (j1 : Int) (q1 : Int) (i2 : Int) (j2 : Int) (q2 : Int) : Int := bif
    bif decide (k < (-100000000 : Int)) then true
    else decide (k > 100000000) then
  0
else (-1 : Int)
def cz27 (c : Int) (k : Int) (a0 : Int) (a1 : Int) (a2 : Int) (a3 : Int) (f0 : Int) (f1 : Int) (o : Int) (th : Int) (s : ByteArray) (se : Int) (ho : Int) (i0 : Int) (j0 : Int) (q0 : Int) (i1 : Int) (j1 : Int) (q1 : Int) (i2 : Int) (j2 : Int) (q2 : Int) : Bool := !bif !decide (cz26 c k a0 a1 a2 a3 f0 f1 o th s se ho i0 j0 q0 i1 j1 q1 i2 j2 q2 ≥ 0) then true
  else false
def cz29 (c : Int) (k : Int) (a0 : Int) (a1 : Int) (a2 : Int) (a3 : Int) (f0 : Int) (f1 : Int) (o : Int) (th : Int) (s : ByteArray) (se : Int) (ho : Int) (i0 : Int) (j0 : Int) (q0 : Int) (i1 : Int) (j1 : Int) (q1 : Int) (i2 : Int) (j2 : Int) (q2 : Int) : Int := bif
    bif decide (o < (-3 : Int)) then true
    else decide (o > 3) then
  0
else (-1 : Int)
def cz30 (c : Int) (k : Int) (a0 : Int) (a1 : Int) (a2 : Int) (a3 : Int) (f0 : Int) (f1 : Int) (o : Int) (th : Int) (s : ByteArray) (se : Int) (ho : Int) (i0 : Int) (j0 : Int) (q0 : Int) (i1 : Int) (j1 : Int) (q1 : Int) (i2 : Int) (j2 : Int) (q2 : Int) : Bool := bif decide (se < 0) then true else decide (se > 1000000000)
def cz31 (c : Int) (k : Int) (a0 : Int) (a1 : Int) (a2 : Int) (a3 : Int) (f0 : Int) (f1 : Int) (o : Int) (th : Int) (s : ByteArray) (se : Int) (ho : Int) (i0 : Int) (j0 : Int) (q0 : Int) (i1 : Int) (j1 : Int) (q1 : Int) (i2 : Int) (j2 : Int) (q2 : Int) : Int := bif
    !cz30 c k a0 a1 a2 a3 f0 f1 o th s se ho i0 j0 q0 i1 j1 q1 i2 j2 q2 &&
      !bif decide (ho < 0) then true else decide (ho > 1000000000) then
  (-1 : Int)
else
  bif cz30 c k a0 a1 a2 a3 f0 f1 o th s se ho i0 j0 q0 i1 j1 q1 i2 j2 q2 then 0
  else (1 : Int)
def cz32 (c : Int) (k : Int) (a0 : Int) (a1 : Int) (a2 : Int) (a3 : Int) (f0 : Int) (f1 : Int) (o : Int) (th : Int) (s : ByteArray) (se : Int) (ho : Int) (i0 : Int) (j0 : Int) (q0 : Int) (i1 : Int) (j1 : Int) (q1 : Int) (i2 : Int) (j2 : Int) (q2 : Int) : Bool := !bif !decide (cz29 c k a0 a1 a2 a3 f0 f1 o th s se ho i0 j0 q0 i1 j1 q1 i2 j2 q2 ≥ 0) then
    !decide (cz31 c k a0 a1 a2 a3 f0 f1 o th s se ho i0 j0 q0 i1 j1 q1 i2 j2 q2 ≥ 0)
  else false
def cz33 (c : Int) (k : Int) (a0 : Int) (a1 : Int) (a2 : Int) (a3 : Int) (f0 : Int) (f1 : Int) (o : Int) (th : Int) (s : ByteArray) (se : Int) (ho : Int) (i0 : Int) (j0 : Int) (q0 : Int) (i1 : Int) (j1 : Int) (q1 : Int) (i2 : Int) (j2 : Int) (q2 : Int) : Bool := !bif se == 0 then true else decide (ho < se)
def cz34 (c : Int) (k : Int) (a0 : Int) (a1 : Int) (a2 : Int) (a3 : Int) (f0 : Int) (f1 : Int) (o : Int) (th : Int) (s : ByteArray) (se : Int) (ho : Int) (i0 : Int) (j0 : Int) (q0 : Int) (i1 : Int) (j1 : Int) (q1 : Int) (i2 : Int) (j2 : Int) (q2 : Int) : Int := bif cz11 c k a0 a1 a2 a3 f0 f1 o th s se ho i0 j0 q0 i1 j1 q1 i2 j2 q2 then 110
else
  bif cz24 c k a0 a1 a2 a3 f0 f1 o th s se ho i0 j0 q0 i1 j1 q1 i2 j2 q2 then 110
  else
    bif cz27 c k a0 a1 a2 a3 f0 f1 o th s se ho i0 j0 q0 i1 j1 q1 i2 j2 q2 then 110
    else
      bif cz32 c k a0 a1 a2 a3 f0 f1 o th s se ho i0 j0 q0 i1 j1 q1 i2 j2 q2 then 110
      else bif cz33 c k a0 a1 a2 a3 f0 f1 o th s se ho i0 j0 q0 i1 j1 q1 i2 j2 q2 then 110 else 0
def cz35 (c : Int) (k : Int) (a0 : Int) (a1 : Int) (a2 : Int) (a3 : Int) (f0 : Int) (f1 : Int) (o : Int) (th : Int) (s : ByteArray) (se : Int) (ho : Int) (i0 : Int) (j0 : Int) (q0 : Int) (i1 : Int) (j1 : Int) (q1 : Int) (i2 : Int) (j2 : Int) (q2 : Int) : Int := bif bif decide (i0 < 10000000) then true else decide (i0 > 40000000) then 0
else (-1 : Int)
def cz36 (c : Int) (k : Int) (a0 : Int) (a1 : Int) (a2 : Int) (a3 : Int) (f0 : Int) (f1 : Int) (o : Int) (th : Int) (s : ByteArray) (se : Int) (ho : Int) (i0 : Int) (j0 : Int) (q0 : Int) (i1 : Int) (j1 : Int) (q1 : Int) (i2 : Int) (j2 : Int) (q2 : Int) : Int := bif bif decide (j0 < 0) then true else decide (j0 > 1000) then 0
else (-1 : Int)
def cz37 (c : Int) (k : Int) (a0 : Int) (a1 : Int) (a2 : Int) (a3 : Int) (f0 : Int) (f1 : Int) (o : Int) (th : Int) (s : ByteArray) (se : Int) (ho : Int) (i0 : Int) (j0 : Int) (q0 : Int) (i1 : Int) (j1 : Int) (q1 : Int) (i2 : Int) (j2 : Int) (q2 : Int) : Int := bif bif decide (q0 < 1) then true else decide (q0 > 1000) then 0
else (-1 : Int)
def cz38 (c : Int) (k : Int) (a0 : Int) (a1 : Int) (a2 : Int) (a3 : Int) (f0 : Int) (f1 : Int) (o : Int) (th : Int) (s : ByteArray) (se : Int) (ho : Int) (i0 : Int) (j0 : Int) (q0 : Int) (i1 : Int) (j1 : Int) (q1 : Int) (i2 : Int) (j2 : Int) (q2 : Int) : Int := bif
    bif cz34 c k a0 a1 a2 a3 f0 f1 o th s se ho i0 j0 q0 i1 j1 q1 i2 j2 q2 == 0 then
      !bif !decide (cz35 c k a0 a1 a2 a3 f0 f1 o th s se ho i0 j0 q0 i1 j1 q1 i2 j2 q2 ≥ 0) then
          bif !decide (cz36 c k a0 a1 a2 a3 f0 f1 o th s se ho i0 j0 q0 i1 j1 q1 i2 j2 q2 ≥ 0) then
            !decide (cz37 c k a0 a1 a2 a3 f0 f1 o th s se ho i0 j0 q0 i1 j1 q1 i2 j2 q2 ≥ 0)
          else false
        else false
    else false then
  110
else cz34 c k a0 a1 a2 a3 f0 f1 o th s se ho i0 j0 q0 i1 j1 q1 i2 j2 q2
def cz39 (c : Int) (k : Int) (a0 : Int) (a1 : Int) (a2 : Int) (a3 : Int) (f0 : Int) (f1 : Int) (o : Int) (th : Int) (s : ByteArray) (se : Int) (ho : Int) (i0 : Int) (j0 : Int) (q0 : Int) (i1 : Int) (j1 : Int) (q1 : Int) (i2 : Int) (j2 : Int) (q2 : Int) : Int := bif bif decide (i1 < 10000000) then true else decide (i1 > 40000000) then 0
else (-1 : Int)
def cz40 (c : Int) (k : Int) (a0 : Int) (a1 : Int) (a2 : Int) (a3 : Int) (f0 : Int) (f1 : Int) (o : Int) (th : Int) (s : ByteArray) (se : Int) (ho : Int) (i0 : Int) (j0 : Int) (q0 : Int) (i1 : Int) (j1 : Int) (q1 : Int) (i2 : Int) (j2 : Int) (q2 : Int) : Int := bif bif decide (j1 < 0) then true else decide (j1 > 1000) then 0
else (-1 : Int)
def cz41 (c : Int) (k : Int) (a0 : Int) (a1 : Int) (a2 : Int) (a3 : Int) (f0 : Int) (f1 : Int) (o : Int) (th : Int) (s : ByteArray) (se : Int) (ho : Int) (i0 : Int) (j0 : Int) (q0 : Int) (i1 : Int) (j1 : Int) (q1 : Int) (i2 : Int) (j2 : Int) (q2 : Int) : Int := bif bif decide (q1 < 1) then true else decide (q1 > 1000) then 0
else (-1 : Int)
def cz42 (c : Int) (k : Int) (a0 : Int) (a1 : Int) (a2 : Int) (a3 : Int) (f0 : Int) (f1 : Int) (o : Int) (th : Int) (s : ByteArray) (se : Int) (ho : Int) (i0 : Int) (j0 : Int) (q0 : Int) (i1 : Int) (j1 : Int) (q1 : Int) (i2 : Int) (j2 : Int) (q2 : Int) : Int := bif
    bif cz38 c k a0 a1 a2 a3 f0 f1 o th s se ho i0 j0 q0 i1 j1 q1 i2 j2 q2 == 0 then
      !bif !decide (cz39 c k a0 a1 a2 a3 f0 f1 o th s se ho i0 j0 q0 i1 j1 q1 i2 j2 q2 ≥ 0) then
          bif !decide (cz40 c k a0 a1 a2 a3 f0 f1 o th s se ho i0 j0 q0 i1 j1 q1 i2 j2 q2 ≥ 0) then
            !decide (cz41 c k a0 a1 a2 a3 f0 f1 o th s se ho i0 j0 q0 i1 j1 q1 i2 j2 q2 ≥ 0)
          else false
        else false
    else false then
  110
else cz38 c k a0 a1 a2 a3 f0 f1 o th s se ho i0 j0 q0 i1 j1 q1 i2 j2 q2
def cz43 (c : Int) (k : Int) (a0 : Int) (a1 : Int) (a2 : Int) (a3 : Int) (f0 : Int) (f1 : Int) (o : Int) (th : Int) (s : ByteArray) (se : Int) (ho : Int) (i0 : Int) (j0 : Int) (q0 : Int) (i1 : Int) (j1 : Int) (q1 : Int) (i2 : Int) (j2 : Int) (q2 : Int) : Int := bif bif decide (i2 < 10000000) then true else decide (i2 > 40000000) then 0
else (-1 : Int)
def cz44 (c : Int) (k : Int) (a0 : Int) (a1 : Int) (a2 : Int) (a3 : Int) (f0 : Int) (f1 : Int) (o : Int) (th : Int) (s : ByteArray) (se : Int) (ho : Int) (i0 : Int) (j0 : Int) (q0 : Int) (i1 : Int) (j1 : Int) (q1 : Int) (i2 : Int) (j2 : Int) (q2 : Int) : Int := bif bif decide (j2 < 0) then true else decide (j2 > 1000) then 0
else (-1 : Int)
def cz45 (c : Int) (k : Int) (a0 : Int) (a1 : Int) (a2 : Int) (a3 : Int) (f0 : Int) (f1 : Int) (o : Int) (th : Int) (s : ByteArray) (se : Int) (ho : Int) (i0 : Int) (j0 : Int) (q0 : Int) (i1 : Int) (j1 : Int) (q1 : Int) (i2 : Int) (j2 : Int) (q2 : Int) : Int := bif bif decide (q2 < 1) then true else decide (q2 > 1000) then 0
else (-1 : Int)
def czN (c : Int) (k : Int) (a0 : Int) (a1 : Int) (a2 : Int) (a3 : Int) (f0 : Int) (f1 : Int) (o : Int) (th : Int) (s : ByteArray) (se : Int) (ho : Int) (i0 : Int) (j0 : Int) (q0 : Int) (i1 : Int) (j1 : Int) (q1 : Int) (i2 : Int) (j2 : Int) (q2 : Int) : Prop := ((((cz0 c k a0 a1 a2 a3 f0 f1 o th s se ho i0 j0 q0 i1 j1 q1 i2 j2 q2 = true →
              f0 = f0 ∧ f1 = f1) ∧
            (ho = ho ∧ se = se ∧ s = s ∧ k = k) ∧
              (ho = ho ∧ se = se ∧ s = s) ∧ (ho = ho ∧ se = se) ∧ ho = ho) ∧
          (c = c ∧
              k = k ∧
                a0 = a0 ∧
                  a1 = a1 ∧
                    a2 = a2 ∧
                      a3 = a3 ∧ f0 = f0 ∧ f1 = f1 ∧ o = o ∧ th = th ∧ s = s ∧ se = se ∧ ho = ho) ∧
            c = c ∧
              k = k ∧
                cz1 c k a0 a1 a2 a3 f0 f1 o th s se ho i0 j0 q0 i1 j1 q1 i2 j2 q2 =
                    cz1 c k a0 a1 a2 a3 f0 f1 o th s se ho i0 j0 q0 i1 j1 q1 i2 j2 q2 ∧
                  cz2 c k a0 a1 a2 a3 f0 f1 o th s se ho i0 j0 q0 i1 j1 q1 i2 j2 q2 =
                      cz2 c k a0 a1 a2 a3 f0 f1 o th s se ho i0 j0 q0 i1 j1 q1 i2 j2 q2 ∧
                    cz3 c k a0 a1 a2 a3 f0 f1 o th s se ho i0 j0 q0 i1 j1 q1 i2 j2 q2 =
                        cz3 c k a0 a1 a2 a3 f0 f1 o th s se ho i0 j0 q0 i1 j1 q1 i2 j2 q2 ∧
                      cz4 c k a0 a1 a2 a3 f0 f1 o th s se ho i0 j0 q0 i1 j1 q1 i2 j2 q2 =
                          cz4 c k a0 a1 a2 a3 f0 f1 o th s se ho i0 j0 q0 i1 j1 q1 i2 j2 q2 ∧
                        cz5 c k a0 a1 a2 a3 f0 f1 o th s se ho i0 j0 q0 i1 j1 q1 i2 j2 q2 =
                            cz5 c k a0 a1 a2 a3 f0 f1 o th s se ho i0 j0 q0 i1 j1 q1 i2 j2 q2 ∧
                          cz6 c k a0 a1 a2 a3 f0 f1 o th s se ho i0 j0 q0 i1 j1 q1 i2 j2 q2 =
                              cz6 c k a0 a1 a2 a3 f0 f1 o th s se ho i0 j0 q0 i1 j1 q1 i2 j2 q2 ∧
                            cz7 c k a0 a1 a2 a3 f0 f1 o th s se ho i0 j0 q0 i1 j1 q1 i2 j2 q2 =
                                cz7 c k a0 a1 a2 a3 f0 f1 o th s se ho i0 j0 q0 i1 j1 q1 i2 j2 q2 ∧
                              cz8 c k a0 a1 a2 a3 f0 f1 o th s se ho i0 j0 q0 i1 j1 q1 i2 j2 q2 =
                                  cz8 c k a0 a1 a2 a3 f0 f1 o th s se ho i0 j0 q0 i1 j1 q1 i2 j2
                                    q2 ∧
                                s = s ∧ se = se ∧ ho = ho) ∧
        ((!cz11 c k a0 a1 a2 a3 f0 f1 o th s se ho i0 j0 q0 i1 j1 q1 i2 j2 q2) = true →
          (!cz24 c k a0 a1 a2 a3 f0 f1 o th s se ho i0 j0 q0 i1 j1 q1 i2 j2 q2) = true →
            (!cz27 c k a0 a1 a2 a3 f0 f1 o th s se ho i0 j0 q0 i1 j1 q1 i2 j2 q2) = true →
              (!cz32 c k a0 a1 a2 a3 f0 f1 o th s se ho i0 j0 q0 i1 j1 q1 i2 j2 q2) = true →
                (!cz33 c k a0 a1 a2 a3 f0 f1 o th s se ho i0 j0 q0 i1 j1 q1 i2 j2 q2) = true →
                  eqBytes s { data := #[] } = false → isG s))
def czV (c : Int) (k : Int) (a0 : Int) (a1 : Int) (a2 : Int) (a3 : Int) (f0 : Int) (f1 : Int) (o : Int) (th : Int) (s : ByteArray) (se : Int) (ho : Int) (i0 : Int) (j0 : Int) (q0 : Int) (i1 : Int) (j1 : Int) (q1 : Int) (i2 : Int) (j2 : Int) (q2 : Int) : Int := (bif
          bif cz42 c k a0 a1 a2 a3 f0 f1 o th s se ho i0 j0 q0 i1 j1 q1 i2 j2 q2 == 0 then
            !bif
                  !decide
                      (cz43 c k a0 a1 a2 a3 f0 f1 o th s se ho i0 j0 q0 i1 j1 q1 i2 j2 q2 ≥ 0) then
                bif
                    !decide
                        (cz44 c k a0 a1 a2 a3 f0 f1 o th s se ho i0 j0 q0 i1 j1 q1 i2 j2 q2 ≥
                          0) then
                  !decide (cz45 c k a0 a1 a2 a3 f0 f1 o th s se ho i0 j0 q0 i1 j1 q1 i2 j2 q2 ≥ 0)
                else false
              else false
          else false then
        110
      else cz42 c k a0 a1 a2 a3 f0 f1 o th s se ho i0 j0 q0 i1 j1 q1 i2 j2 q2)
end Go.Rd

/- Valid standard surfaces with films have no fault. No program. -/
namespace Go.Rd
open Go Go.Eng Go.Ar
/-- A film. -/
def inF (i p q : Int) : Prop := (10000000 ≤ i ∧ i ≤ 40000000) ∧ (0 ≤ p ∧ p ≤ 1000) ∧ (1 ≤ q ∧ q ≤ 1000)
theorem std1_0 {c k a0 a1 a2 a3 f0 f1 o th : Int} {s : ByteArray} {se ho i0 j0 q0 : Int} (h : vStd c k a0 a1 a2 a3 f0 f1 o th s se ho) (t0 : inF i0 j0 q0) : cxV c k a0 a1 a2 a3 f0 f1 o th s se ho i0 j0 q0 = 0 := by
  have e1 := lo_f h.hc; have e2 := hi_f h.hc; have e3 := klo_f h.hk; have e4 := khi_f h.hk
  have e5 := lo_f h.h0; have e6 := hi_f h.h0; have e7 := lo_f h.h1; have e8 := hi_f h.h1; have e9 := lo_f h.h2; have e10 := hi_f h.h2; have e11 := lo_f h.h3; have e12 := hi_f h.h3
  have e13 := lo_f h.hf; have e14 := hi_f h.hf; have e15 := lo_f h.hg; have e16 := hi_f h.hg; have e17 := lo_f h.ht; have e18 := hi_f h.ht
  have e19 : decide (o < (-3 : Int)) = false := decide_eq_false (by have := h.ho'; omega)
  have e20 : decide (o > 3) = false := decide_eq_false (by have := h.ho'; omega)
  have hsh := h.sh
  have e21 : decide (se < 0) = false := decide_eq_false (by unfold inSH at hsh; omega)
  have e22 : decide (se > 1000000000) = false := decide_eq_false (by unfold inSH at hsh; omega)
  have e23 : decide (ho < 0) = false := decide_eq_false (by unfold inSH at hsh; omega)
  have e24 : decide (ho > 1000000000) = false := decide_eq_false (by unfold inSH at hsh; omega)
  have e25 := sh_f hsh
  have e26 := eqB_self s
  have keep : (bif o != 0 then !eqBytes s ⟨#[77, 73, 82, 82, 79, 82]⟩ else false) = (o != 0) := by
    rcases h.ph with ⟨_, _, rfl⟩ | ⟨h1, h2⟩
    · rfl
    · rw [show eqBytes s ⟨#[77, 73, 82, 82, 79, 82]⟩ = false from eqB_ne h2]; cases o != 0 <;> rfl
  have q5 : (bif o != 0 then f0 else 0) = f0 := by
    rcases h.ph with ⟨rfl, _, rfl⟩ | ⟨h1, h2⟩
    · rfl
    · rw [show (o != 0) = true by simpa using h1]; rfl
  have q6 : (bif o != 0 then f1 else 0) = f1 := by
    rcases h.ph with ⟨_, rfl, rfl⟩ | ⟨h1, h2⟩
    · rfl
    · rw [show (o != 0) = true by simpa using h1]; rfl
  have q7 : (bif o != 0 then o else 0) = o := by
    cases h1 : o != 0 with
    | true => rfl
    | false => have : o = 0 := by simpa using h1
               subst this; rfl
  have qq : ∀ x : Int, (bif o != 0 then x else x) = x := fun x => by cases o != 0 <;> rfl
  have u0a : decide (i0 < 10000000) = false := decide_eq_false (by have := t0.1; omega)
  have u0b : decide (i0 > 40000000) = false := decide_eq_false (by have := t0.1; omega)
  have v0a : decide (j0 < 0) = false := decide_eq_false (by have := t0.2.1; omega)
  have v0b : decide (j0 > 1000) = false := decide_eq_false (by have := t0.2.1; omega)
  have w0a : decide (q0 < 1) = false := decide_eq_false (by have := t0.2.2; omega)
  have w0b : decide (q0 > 1000) = false := decide_eq_false (by have := t0.2.2; omega)
  simp only [cx0, cx1, cx2, cx3, cx4, cx5, cx6, cx7, cx8, cx9, cx11, cx14, cx15, cx16, cx17, cx19, cx20, cx21, cx22, cx24, cx25, cx27, cx28, cx29, cx30, cx31, cx32, cx33, cx34, cx35, cxV, keep, q5, q6, q7, qq, e1, e2, e3, e4, e5, e6, e7, e8, e9, e10, e11, e12, e13, e14, e15, e16, e17, e18, e19, e20, e21, e22, e23, e24, e25, e26, u0a, u0b, v0a, v0b, w0a, w0b, beq_self_eq_true, Bool.and_true, Bool.and_self, cond_true, cond_false, Bool.not_true, Bool.not_false]
  rfl
theorem std1_n {c k a0 a1 a2 a3 f0 f1 o th : Int} {s : ByteArray} {se ho i0 j0 q0 : Int} (h : inG s) : cxN c k a0 a1 a2 a3 f0 f1 o th s se ho i0 j0 q0 := by
  unfold cxN
  repeat' first | with_reducible exact rfl | refine And.intro ?_ ?_ | intro _
  exact isG_of h (by assumption)
theorem std2_0 {c k a0 a1 a2 a3 f0 f1 o th : Int} {s : ByteArray} {se ho i0 j0 q0 i1 j1 q1 : Int} (h : vStd c k a0 a1 a2 a3 f0 f1 o th s se ho) (t0 : inF i0 j0 q0) (t1 : inF i1 j1 q1) : cyV c k a0 a1 a2 a3 f0 f1 o th s se ho i0 j0 q0 i1 j1 q1 = 0 := by
  have e1 := lo_f h.hc; have e2 := hi_f h.hc; have e3 := klo_f h.hk; have e4 := khi_f h.hk
  have e5 := lo_f h.h0; have e6 := hi_f h.h0; have e7 := lo_f h.h1; have e8 := hi_f h.h1; have e9 := lo_f h.h2; have e10 := hi_f h.h2; have e11 := lo_f h.h3; have e12 := hi_f h.h3
  have e13 := lo_f h.hf; have e14 := hi_f h.hf; have e15 := lo_f h.hg; have e16 := hi_f h.hg; have e17 := lo_f h.ht; have e18 := hi_f h.ht
  have e19 : decide (o < (-3 : Int)) = false := decide_eq_false (by have := h.ho'; omega)
  have e20 : decide (o > 3) = false := decide_eq_false (by have := h.ho'; omega)
  have hsh := h.sh
  have e21 : decide (se < 0) = false := decide_eq_false (by unfold inSH at hsh; omega)
  have e22 : decide (se > 1000000000) = false := decide_eq_false (by unfold inSH at hsh; omega)
  have e23 : decide (ho < 0) = false := decide_eq_false (by unfold inSH at hsh; omega)
  have e24 : decide (ho > 1000000000) = false := decide_eq_false (by unfold inSH at hsh; omega)
  have e25 := sh_f hsh
  have e26 := eqB_self s
  have keep : (bif o != 0 then !eqBytes s ⟨#[77, 73, 82, 82, 79, 82]⟩ else false) = (o != 0) := by
    rcases h.ph with ⟨_, _, rfl⟩ | ⟨h1, h2⟩
    · rfl
    · rw [show eqBytes s ⟨#[77, 73, 82, 82, 79, 82]⟩ = false from eqB_ne h2]; cases o != 0 <;> rfl
  have q5 : (bif o != 0 then f0 else 0) = f0 := by
    rcases h.ph with ⟨rfl, _, rfl⟩ | ⟨h1, h2⟩
    · rfl
    · rw [show (o != 0) = true by simpa using h1]; rfl
  have q6 : (bif o != 0 then f1 else 0) = f1 := by
    rcases h.ph with ⟨_, rfl, rfl⟩ | ⟨h1, h2⟩
    · rfl
    · rw [show (o != 0) = true by simpa using h1]; rfl
  have q7 : (bif o != 0 then o else 0) = o := by
    cases h1 : o != 0 with
    | true => rfl
    | false => have : o = 0 := by simpa using h1
               subst this; rfl
  have qq : ∀ x : Int, (bif o != 0 then x else x) = x := fun x => by cases o != 0 <;> rfl
  have u0a : decide (i0 < 10000000) = false := decide_eq_false (by have := t0.1; omega)
  have u0b : decide (i0 > 40000000) = false := decide_eq_false (by have := t0.1; omega)
  have v0a : decide (j0 < 0) = false := decide_eq_false (by have := t0.2.1; omega)
  have v0b : decide (j0 > 1000) = false := decide_eq_false (by have := t0.2.1; omega)
  have w0a : decide (q0 < 1) = false := decide_eq_false (by have := t0.2.2; omega)
  have w0b : decide (q0 > 1000) = false := decide_eq_false (by have := t0.2.2; omega)
  have u1a : decide (i1 < 10000000) = false := decide_eq_false (by have := t1.1; omega)
  have u1b : decide (i1 > 40000000) = false := decide_eq_false (by have := t1.1; omega)
  have v1a : decide (j1 < 0) = false := decide_eq_false (by have := t1.2.1; omega)
  have v1b : decide (j1 > 1000) = false := decide_eq_false (by have := t1.2.1; omega)
  have w1a : decide (q1 < 1) = false := decide_eq_false (by have := t1.2.2; omega)
  have w1b : decide (q1 > 1000) = false := decide_eq_false (by have := t1.2.2; omega)
  simp only [cy0, cy1, cy2, cy3, cy4, cy5, cy6, cy7, cy8, cy9, cy11, cy14, cy15, cy16, cy17, cy19, cy20, cy21, cy22, cy24, cy25, cy27, cy28, cy29, cy30, cy31, cy32, cy33, cy34, cy35, cy36, cy37, cy38, cy39, cyV, keep, q5, q6, q7, qq, e1, e2, e3, e4, e5, e6, e7, e8, e9, e10, e11, e12, e13, e14, e15, e16, e17, e18, e19, e20, e21, e22, e23, e24, e25, e26, u0a, u0b, v0a, v0b, w0a, w0b, u1a, u1b, v1a, v1b, w1a, w1b, beq_self_eq_true, Bool.and_true, Bool.and_self, cond_true, cond_false, Bool.not_true, Bool.not_false]
  rfl
theorem std2_n {c k a0 a1 a2 a3 f0 f1 o th : Int} {s : ByteArray} {se ho i0 j0 q0 i1 j1 q1 : Int} (h : inG s) : cyN c k a0 a1 a2 a3 f0 f1 o th s se ho i0 j0 q0 i1 j1 q1 := by
  unfold cyN
  repeat' first | with_reducible exact rfl | refine And.intro ?_ ?_ | intro _
  exact isG_of h (by assumption)
theorem std3_0 {c k a0 a1 a2 a3 f0 f1 o th : Int} {s : ByteArray} {se ho i0 j0 q0 i1 j1 q1 i2 j2 q2 : Int} (h : vStd c k a0 a1 a2 a3 f0 f1 o th s se ho) (t0 : inF i0 j0 q0) (t1 : inF i1 j1 q1) (t2 : inF i2 j2 q2) : czV c k a0 a1 a2 a3 f0 f1 o th s se ho i0 j0 q0 i1 j1 q1 i2 j2 q2 = 0 := by
  have e1 := lo_f h.hc; have e2 := hi_f h.hc; have e3 := klo_f h.hk; have e4 := khi_f h.hk
  have e5 := lo_f h.h0; have e6 := hi_f h.h0; have e7 := lo_f h.h1; have e8 := hi_f h.h1; have e9 := lo_f h.h2; have e10 := hi_f h.h2; have e11 := lo_f h.h3; have e12 := hi_f h.h3
  have e13 := lo_f h.hf; have e14 := hi_f h.hf; have e15 := lo_f h.hg; have e16 := hi_f h.hg; have e17 := lo_f h.ht; have e18 := hi_f h.ht
  have e19 : decide (o < (-3 : Int)) = false := decide_eq_false (by have := h.ho'; omega)
  have e20 : decide (o > 3) = false := decide_eq_false (by have := h.ho'; omega)
  have hsh := h.sh
  have e21 : decide (se < 0) = false := decide_eq_false (by unfold inSH at hsh; omega)
  have e22 : decide (se > 1000000000) = false := decide_eq_false (by unfold inSH at hsh; omega)
  have e23 : decide (ho < 0) = false := decide_eq_false (by unfold inSH at hsh; omega)
  have e24 : decide (ho > 1000000000) = false := decide_eq_false (by unfold inSH at hsh; omega)
  have e25 := sh_f hsh
  have e26 := eqB_self s
  have keep : (bif o != 0 then !eqBytes s ⟨#[77, 73, 82, 82, 79, 82]⟩ else false) = (o != 0) := by
    rcases h.ph with ⟨_, _, rfl⟩ | ⟨h1, h2⟩
    · rfl
    · rw [show eqBytes s ⟨#[77, 73, 82, 82, 79, 82]⟩ = false from eqB_ne h2]; cases o != 0 <;> rfl
  have q5 : (bif o != 0 then f0 else 0) = f0 := by
    rcases h.ph with ⟨rfl, _, rfl⟩ | ⟨h1, h2⟩
    · rfl
    · rw [show (o != 0) = true by simpa using h1]; rfl
  have q6 : (bif o != 0 then f1 else 0) = f1 := by
    rcases h.ph with ⟨_, rfl, rfl⟩ | ⟨h1, h2⟩
    · rfl
    · rw [show (o != 0) = true by simpa using h1]; rfl
  have q7 : (bif o != 0 then o else 0) = o := by
    cases h1 : o != 0 with
    | true => rfl
    | false => have : o = 0 := by simpa using h1
               subst this; rfl
  have qq : ∀ x : Int, (bif o != 0 then x else x) = x := fun x => by cases o != 0 <;> rfl
  have u0a : decide (i0 < 10000000) = false := decide_eq_false (by have := t0.1; omega)
  have u0b : decide (i0 > 40000000) = false := decide_eq_false (by have := t0.1; omega)
  have v0a : decide (j0 < 0) = false := decide_eq_false (by have := t0.2.1; omega)
  have v0b : decide (j0 > 1000) = false := decide_eq_false (by have := t0.2.1; omega)
  have w0a : decide (q0 < 1) = false := decide_eq_false (by have := t0.2.2; omega)
  have w0b : decide (q0 > 1000) = false := decide_eq_false (by have := t0.2.2; omega)
  have u1a : decide (i1 < 10000000) = false := decide_eq_false (by have := t1.1; omega)
  have u1b : decide (i1 > 40000000) = false := decide_eq_false (by have := t1.1; omega)
  have v1a : decide (j1 < 0) = false := decide_eq_false (by have := t1.2.1; omega)
  have v1b : decide (j1 > 1000) = false := decide_eq_false (by have := t1.2.1; omega)
  have w1a : decide (q1 < 1) = false := decide_eq_false (by have := t1.2.2; omega)
  have w1b : decide (q1 > 1000) = false := decide_eq_false (by have := t1.2.2; omega)
  have u2a : decide (i2 < 10000000) = false := decide_eq_false (by have := t2.1; omega)
  have u2b : decide (i2 > 40000000) = false := decide_eq_false (by have := t2.1; omega)
  have v2a : decide (j2 < 0) = false := decide_eq_false (by have := t2.2.1; omega)
  have v2b : decide (j2 > 1000) = false := decide_eq_false (by have := t2.2.1; omega)
  have w2a : decide (q2 < 1) = false := decide_eq_false (by have := t2.2.2; omega)
  have w2b : decide (q2 > 1000) = false := decide_eq_false (by have := t2.2.2; omega)
  simp only [cz0, cz1, cz2, cz3, cz4, cz5, cz6, cz7, cz8, cz9, cz10, cz11, cz13, cz16, cz17, cz18, cz19, cz21, cz22, cz23, cz24, cz26, cz27, cz29, cz30, cz31, cz32, cz33, cz34, cz35, cz36, cz37, cz38, cz39, cz40, cz41, cz42, cz43, cz44, cz45, czV, keep, q5, q6, q7, qq, e1, e2, e3, e4, e5, e6, e7, e8, e9, e10, e11, e12, e13, e14, e15, e16, e17, e18, e19, e20, e21, e22, e23, e24, e25, e26, u0a, u0b, v0a, v0b, w0a, w0b, u1a, u1b, v1a, v1b, w1a, w1b, u2a, u2b, v2a, v2b, w2a, w2b, beq_self_eq_true, Bool.and_true, Bool.and_self, cond_true, cond_false, Bool.not_true, Bool.not_false]
  rfl
theorem std3_n {c k a0 a1 a2 a3 f0 f1 o th : Int} {s : ByteArray} {se ho i0 j0 q0 i1 j1 q1 i2 j2 q2 : Int} (h : inG s) : czN c k a0 a1 a2 a3 f0 f1 o th s se ho i0 j0 q0 i1 j1 q1 i2 j2 q2 := by
  unfold czN
  repeat' first | with_reducible exact rfl | refine And.intro ?_ ?_ | intro _
  exact isG_of h (by assumption)
end Go.Rd

/- What surface.Sag reckons on valid surfaces. No program. -/
namespace Go.Rd
open Go Go.Eng Go.Ar

def z0 (s : Sp) : Bool := s.e == 0
def asp (a0 a1 a2 a3 : Int) : Bool := !(a0 == 0 && (a1 == 0 && (a2 == 0 && (a3 == 0 && true))))
section
variable (c k a0 a1 a2 a3 a b d e : Int)
def u0 : Sp := xScaleS (s2 c k a b d e).lo (s2 c k a b d e).hi 1 100
def ca (n : Int) : Sp := xScaleS 4294967296 4294967296 n 1000000
def u1 : Sp := evalS (u0 c k a b d e) (ca a0) (ca a1) (ca a2) (ca a3)
def u2 : Sp := sqrS (u0 c k a b d e).lo (u0 c k a b d e).hi
def u3 : Sp := mulS (u2 c k a b d e).lo (u2 c k a b d e).hi (u1 c k a0 a1 a2 a3 a b d e).lo (u1 c k a0 a1 a2 a3 a b d e).hi
def u4 : Sp := addS (s10 c k a b d e).lo (s10 c k a b d e).hi (u3 c k a0 a1 a2 a3 a b d e).lo (u3 c k a0 a1 a2 a3 a b d e).hi
def sagH0 : Bool := (z0 (s0 c k a b d e) && (z0 (s1 c k a b d e) && (z0 (s2 c k a b d e) && z0 (s3 c k a b d e)))) && (z0 (s4 c k a b d e) && z0 (s5 c k a b d e))
def sagB : Bool := sagH0 c k a b d e && (z0 (s6 c k a b d e) && (!decide ((s6 c k a b d e).lo ≤ 0) && (z0 (s7 c k a b d e) && (z0 (s8 c k a b d e) && (z0 (s9 c k a b d e) && z0 (s10 c k a b d e))))))
def sagD : Bool := sagH0 c k a b d e && (z0 (s6 c k a b d e) && decide ((s6 c k a b d e).lo ≤ 0))
def sagE : Bool := ((z0 (s0 c k a b d e) && (z0 (s1 c k a b d e) && (z0 (s2 c k a b d e) && z0 (u0 c k a b d e)))) && ((z0 (ca a0) && (z0 (ca a1) && (z0 (ca a2) && z0 (ca a3)))) && z0 (u1 c k a0 a1 a2 a3 a b d e))) && (z0 (u2 c k a b d e) && (z0 (u3 c k a0 a1 a2 a3 a b d e) && z0 (u4 c k a0 a1 a2 a3 a b d e)))
def sagC : Bool := sagB c k a b d e && bif asp a0 a1 a2 a3 then sagE c k a0 a1 a2 a3 a b d e else true
def sagS : Sp := ⟨bif sagC c k a0 a1 a2 a3 a b d e then bif asp a0 a1 a2 a3 then (u4 c k a0 a1 a2 a3 a b d e).lo else (s10 c k a b d e).lo else 0,
  bif sagC c k a0 a1 a2 a3 a b d e then bif asp a0 a1 a2 a3 then (u4 c k a0 a1 a2 a3 a b d e).hi else (s10 c k a b d e).hi else 0,
  bif sagC c k a0 a1 a2 a3 a b d e then 0 else bif sagD c k a b d e then 9 else 6⟩
end
section
variable (c k l m a b d e : Int)
def sagX0 : Bool := (z0 (b0 c k l m a b d e) && (z0 (b1 c k l m a b d e) && (z0 (b2 c k l m a b d e) && z0 (b3 c k l m a b d e)))) && ((z0 (b4 c k l m a b d e) && z0 (b6 c k l m a b d e)) && ((z0 (b5 c k l m a b d e) && z0 (b7 c k l m a b d e)) && z0 (b8 c k l m a b d e)))
def sagXC : Bool := sagX0 c k l m a b d e && (z0 (b9 c k l m a b d e) && (!decide ((b9 c k l m a b d e).lo ≤ 0) && (z0 (b10 c k l m a b d e) && (z0 (b11 c k l m a b d e) && (z0 (b12 c k l m a b d e) && z0 (b13 c k l m a b d e))))))
def sagXD : Bool := sagX0 c k l m a b d e && (z0 (b9 c k l m a b d e) && decide ((b9 c k l m a b d e).lo ≤ 0))
def sagX : Sp := ⟨bif sagXC c k l m a b d e then (b13 c k l m a b d e).lo else 0, bif sagXC c k l m a b d e then (b13 c k l m a b d e).hi else 0, bif sagXC c k l m a b d e then 0 else bif sagXD c k l m a b d e then 9 else 6⟩
end
/-- A span and an error. -/
def spV (s : Sp) : AV := .tuple [.agg [.int true .i64 s.lo, .int true .i64 s.hi], .int true .i64 s.e]
end Go.Rd

/- The conditions of surface.Sag's runs hold. No program text. -/
namespace Go.Rd
open Go Go.Eng Go.Ar

theorem okSc_of {n d M : Int} (hn : -M ≤ n ∧ n ≤ M) (h : 4503599627370496 * M < 18446744073709551615 * d) : okSc n d := fun _ => by
  have : sg n n ≤ M := by
    unfold sg
    cases h : decide (n < 0) with
    | true => show -n ≤ M; omega
    | false => show n ≤ M; omega
  omega
theorem okR_of {n d : Int} (h1 : -4611686018427387904 ≤ n) (h2 : n ≤ 4611686018427387904) (h3 : 1 ≤ d) (h4 : d ≤ 4611686018427387904) : okR n d = true := by
  unfold okR; simp [h1, h2, h3, h4]
theorem sc_c {c : Int} (h : inL c) : okSc c 1000000000 := okSc_of (M := 1000000000) h (by decide)
theorem sc_a {c : Int} (h : inL c) : okSc c 1000000 := okSc_of (M := 1000000000) h (by decide)
theorem ok_c {c : Int} (h : inL c) : okR c 1000000000 = true := by unfold inL at h; exact okR_of (by omega) (by omega) (by decide) (by decide)
theorem ok_a {c : Int} (h : inL c) : okR c 1000000 = true := by unfold inL at h; exact okR_of (by omega) (by omega) (by decide) (by decide)
theorem wkK {k : Int} (h : inK k) : IntKind.i64.wrap (1000000 + k) = 1000000 + k := i64w (by unfold inK at h; omega) (by unfold inK at h; omega)
theorem sc_k {k : Int} (h : inK k) : okSc (IntKind.i64.wrap (1000000 + k)) 1000000 := by
  rw [wkK h]
  exact okSc_of (M := 101000000) (by unfold inK at h; omega) (by decide)
theorem ok_k {k : Int} (h : inK k) : okR (IntKind.i64.wrap (1000000 + k)) 1000000 = true := by
  rw [wkK h]; unfold inK at h; exact okR_of (by omega) (by omega) (by decide) (by decide)
theorem sc_h : okSc 1 100 := okSc_of (M := 1) (by decide) (by decide)
theorem z0e {s : Sp} (h : z0 s = true) : s.e = 0 := by unfold z0 at h; simpa using h
theorem one_ri : Ri ⟨4294967296, 4294967296, 0⟩ := ⟨by decide, by decide, by decide⟩
theorem dom_pos {s : Sp} (h : (!decide (s.lo ≤ 0)) = true) : 0 < s.lo := by simpa using h

section
variable {c k a0 a1 a2 a3 a b x y : Int} (hc : inL c) (hk : inK k) (hx : okSp a b = true) (hy : okSp x y = true)
include hx in theorem K0 : okE (s0 c k a b x y) := e_sqr (s := ⟨a, b, 0⟩) (Ri.of hx)
include hx in theorem R0 (h : z0 (s0 c k a b x y) = true) : Ri (s0 c k a b x y) := r_sqr (s := ⟨a, b, 0⟩) (Ri.of hx) (z0e h)
include hy in theorem K1 : okE (s1 c k a b x y) := e_sqr (s := ⟨x, y, 0⟩) (Ri.of hy)
include hy in theorem R1 (h : z0 (s1 c k a b x y) = true) : Ri (s1 c k a b x y) := r_sqr (s := ⟨x, y, 0⟩) (Ri.of hy) (z0e h)
include hx hy in theorem K2 (h0 : z0 (s0 c k a b x y) = true) (h1 : z0 (s1 c k a b x y) = true) : okE (s2 c k a b x y) := e_add (R0 hx h0) (R1 hy h1)
include hx hy in theorem R2 (h0 : z0 (s0 c k a b x y) = true) (h1 : z0 (s1 c k a b x y) = true) (h2 : z0 (s2 c k a b x y) = true) : Ri (s2 c k a b x y) := r_add (R0 hx h0) (R1 hy h1) (z0e h2)
include hx hy hc in theorem K3 (h0 : z0 (s0 c k a b x y) = true) (h1 : z0 (s1 c k a b x y) = true) (h2 : z0 (s2 c k a b x y) = true) : okE (s3 c k a b x y) := e_sc (R2 hx hy h0 h1 h2) (sc_c hc) (ok_c hc)
include hx hy hc in theorem R3 (h0 : z0 (s0 c k a b x y) = true) (h1 : z0 (s1 c k a b x y) = true) (h2 : z0 (s2 c k a b x y) = true) (h3 : z0 (s3 c k a b x y) = true) : Ri (s3 c k a b x y) := r_sc (R2 hx hy h0 h1 h2) (sc_c hc) (z0e h3)
include hx hy hc in theorem K4 (h0 : z0 (s0 c k a b x y) = true) (h1 : z0 (s1 c k a b x y) = true) (h2 : z0 (s2 c k a b x y) = true) (h3 : z0 (s3 c k a b x y) = true) : okE (s4 c k a b x y) := e_sc (R3 hc hx hy h0 h1 h2 h3) (sc_c hc) (ok_c hc)
include hx hy hc in theorem R4 (h0 : z0 (s0 c k a b x y) = true) (h1 : z0 (s1 c k a b x y) = true) (h2 : z0 (s2 c k a b x y) = true) (h3 : z0 (s3 c k a b x y) = true) (h4 : z0 (s4 c k a b x y) = true) : Ri (s4 c k a b x y) := r_sc (R3 hc hx hy h0 h1 h2 h3) (sc_c hc) (z0e h4)
include hx hy hc hk in theorem K5 (h0 : z0 (s0 c k a b x y) = true) (h1 : z0 (s1 c k a b x y) = true) (h2 : z0 (s2 c k a b x y) = true) (h3 : z0 (s3 c k a b x y) = true) (h4 : z0 (s4 c k a b x y) = true) : okE (s5 c k a b x y) := e_sc (R4 hc hx hy h0 h1 h2 h3 h4) (sc_k hk) (ok_k hk)
include hx hy hc hk in theorem R5 (h0 : z0 (s0 c k a b x y) = true) (h1 : z0 (s1 c k a b x y) = true) (h2 : z0 (s2 c k a b x y) = true) (h3 : z0 (s3 c k a b x y) = true) (h4 : z0 (s4 c k a b x y) = true) (h5 : z0 (s5 c k a b x y) = true) : Ri (s5 c k a b x y) := r_sc (R4 hc hx hy h0 h1 h2 h3 h4) (sc_k hk) (z0e h5)
include hx hy hc hk in theorem K6 (h0 : z0 (s0 c k a b x y) = true) (h1 : z0 (s1 c k a b x y) = true) (h2 : z0 (s2 c k a b x y) = true) (h3 : z0 (s3 c k a b x y) = true) (h4 : z0 (s4 c k a b x y) = true) (h5 : z0 (s5 c k a b x y) = true) : okE (s6 c k a b x y) := e_sub one_ri (R5 hc hk hx hy h0 h1 h2 h3 h4 h5)
/-- The first registers are right. -/
def H6 (c k a b x y : Int) : Prop := z0 (s0 c k a b x y) = true ∧ z0 (s1 c k a b x y) = true ∧ z0 (s2 c k a b x y) = true ∧ z0 (s3 c k a b x y) = true ∧ z0 (s4 c k a b x y) = true ∧ z0 (s5 c k a b x y) = true ∧ z0 (s6 c k a b x y) = true
include hx hy hc hk in theorem R6 (h : H6 c k a b x y) : Ri (s6 c k a b x y) := r_sub one_ri (R5 hc hk hx hy h.1 h.2.1 h.2.2.1 h.2.2.2.1 h.2.2.2.2.1 h.2.2.2.2.2.1) (z0e h.2.2.2.2.2.2)
include hx hy hc hk in theorem K7 (h : H6 c k a b x y) (p : 0 < (s6 c k a b x y).lo) : okE (s7 c k a b x y) := e_rt (R6 hc hk hx hy h) p
include hx hy hc hk in theorem R7 (h : H6 c k a b x y) (h7 : z0 (s7 c k a b x y) = true) : Ri (s7 c k a b x y) := r_rt (R6 hc hk hx hy h) (z0e h7)
include hx hy hc hk in theorem P7 (h : H6 c k a b x y) (p : 0 < (s6 c k a b x y).lo) : 0 < (s7 c k a b x y).lo := rt_pos (R6 hc hk hx hy h) p
include hx hy hc in theorem K8 (h : H6 c k a b x y) : okE (s8 c k a b x y) := e_add (R3 hc hx hy h.1 h.2.1 h.2.2.1 h.2.2.2.1) (t := ⟨0, 0, 0⟩) zero_ri
include hx hy hc in theorem R8 (h : H6 c k a b x y) (h8 : z0 (s8 c k a b x y) = true) : Ri (s8 c k a b x y) := r_add (R3 hc hx hy h.1 h.2.1 h.2.2.1 h.2.2.2.1) (t := ⟨0, 0, 0⟩) zero_ri (z0e h8)
include hx hy hc hk in theorem K9 (h : H6 c k a b x y) (h7 : z0 (s7 c k a b x y) = true) : okE (s9 c k a b x y) := e_add one_ri (R7 hc hk hx hy h h7)
include hx hy hc hk in theorem R9 (h : H6 c k a b x y) (h7 : z0 (s7 c k a b x y) = true) (h9 : z0 (s9 c k a b x y) = true) : Ri (s9 c k a b x y) := r_add one_ri (R7 hc hk hx hy h h7) (z0e h9)
include hx hy hc hk in theorem P9 (h : H6 c k a b x y) (p : 0 < (s6 c k a b x y).lo) (h7 : z0 (s7 c k a b x y) = true) (h9 : z0 (s9 c k a b x y) = true) : 0 < (s9 c k a b x y).lo := add_pos one_ri (R7 hc hk hx hy h h7) (z0e h9) (by decide) (by have := P7 hc hk hx hy h p; omega)
include hx hy hc hk in theorem K10 (h : H6 c k a b x y) (p : 0 < (s6 c k a b x y).lo) (h7 : z0 (s7 c k a b x y) = true) (h8 : z0 (s8 c k a b x y) = true) (h9 : z0 (s9 c k a b x y) = true) : okE (s10 c k a b x y) := e_div (R8 hc hx hy h h8) (R9 hc hk hx hy h h7 h9) (P9 hc hk hx hy h p h7 h9)
include hx hy hc hk in theorem R10 (h : H6 c k a b x y) (h7 : z0 (s7 c k a b x y) = true) (h8 : z0 (s8 c k a b x y) = true) (h9 : z0 (s9 c k a b x y) = true) (h10 : z0 (s10 c k a b x y) = true) : Ri (s10 c k a b x y) := r_div (R8 hc hx hy h h8) (R9 hc hk hx hy h h7 h9) (z0e h10)
include hx hy in theorem KU0 (h0 : z0 (s0 c k a b x y) = true) (h1 : z0 (s1 c k a b x y) = true) (h2 : z0 (s2 c k a b x y) = true) : okE (u0 c k a b x y) := e_sc (R2 hx hy h0 h1 h2) sc_h (by decide)
include hx hy in theorem RU0 (h0 : z0 (s0 c k a b x y) = true) (h1 : z0 (s1 c k a b x y) = true) (h2 : z0 (s2 c k a b x y) = true) (u : z0 (u0 c k a b x y) = true) : Ri (u0 c k a b x y) := r_sc (R2 hx hy h0 h1 h2) sc_h (z0e u)
theorem KCA {n : Int} (h : inL n) : okE (ca n) := e_sc (s := ⟨4294967296, 4294967296, 0⟩) one_ri (sc_a h) (ok_a h)
theorem RCA {n : Int} (h : inL n) (u : z0 (ca n) = true) : Ri (ca n) := r_sc (s := ⟨4294967296, 4294967296, 0⟩) one_ri (sc_a h) (z0e u)
variable (i0 : inL a0) (i1 : inL a1) (i2 : inL a2) (i3 : inL a3)
/-- The asphere's first registers are right. -/
def HU (c k a0 a1 a2 a3 a b x y : Int) : Prop := (z0 (s0 c k a b x y) = true ∧ z0 (s1 c k a b x y) = true ∧ z0 (s2 c k a b x y) = true ∧ z0 (u0 c k a b x y) = true) ∧ z0 (ca a0) = true ∧ z0 (ca a1) = true ∧ z0 (ca a2) = true ∧ z0 (ca a3) = true
include hx hy in theorem HU.r (h : HU c k a0 a1 a2 a3 a b x y) : Ri (u0 c k a b x y) := RU0 hx hy h.1.1 h.1.2.1 h.1.2.2.1 h.1.2.2.2
include hx hy i0 i1 i2 i3 in theorem KU1 (h : HU c k a0 a1 a2 a3 a b x y) : okE (u1 c k a0 a1 a2 a3 a b x y) := evl_e (h.r hx hy) (RCA i0 h.2.1) (RCA i1 h.2.2.1) (RCA i2 h.2.2.2.1) (RCA i3 h.2.2.2.2)
include hx hy i0 i1 i2 i3 in theorem RU1 (h : HU c k a0 a1 a2 a3 a b x y) (u : z0 (u1 c k a0 a1 a2 a3 a b x y) = true) : Ri (u1 c k a0 a1 a2 a3 a b x y) := evl_r (h.r hx hy) (RCA i0 h.2.1) (RCA i1 h.2.2.1) (RCA i2 h.2.2.2.1) (RCA i3 h.2.2.2.2) (z0e u)
include hx hy in theorem KU2 (h : HU c k a0 a1 a2 a3 a b x y) : okE (u2 c k a b x y) := e_sqr (h.r hx hy)
include hx hy in theorem RU2 (h : HU c k a0 a1 a2 a3 a b x y) (u : z0 (u2 c k a b x y) = true) : Ri (u2 c k a b x y) := r_sqr (h.r hx hy) (z0e u)
include hx hy i0 i1 i2 i3 in theorem KU3 (h : HU c k a0 a1 a2 a3 a b x y) (v1 : z0 (u1 c k a0 a1 a2 a3 a b x y) = true) (v2 : z0 (u2 c k a b x y) = true) : okE (u3 c k a0 a1 a2 a3 a b x y) := e_mul (RU2 hx hy h v2) (RU1 hx hy i0 i1 i2 i3 h v1)
include hx hy i0 i1 i2 i3 in theorem RU3 (h : HU c k a0 a1 a2 a3 a b x y) (v1 : z0 (u1 c k a0 a1 a2 a3 a b x y) = true) (v2 : z0 (u2 c k a b x y) = true) (v3 : z0 (u3 c k a0 a1 a2 a3 a b x y) = true) : Ri (u3 c k a0 a1 a2 a3 a b x y) := r_mul (RU2 hx hy h v2) (RU1 hx hy i0 i1 i2 i3 h v1) (z0e v3)
include hx hy hc hk i0 i1 i2 i3 in theorem KU4 (g : H6 c k a b x y) (h7 : z0 (s7 c k a b x y) = true) (h8 : z0 (s8 c k a b x y) = true) (h9 : z0 (s9 c k a b x y) = true) (h10 : z0 (s10 c k a b x y) = true) (h : HU c k a0 a1 a2 a3 a b x y) (v1 : z0 (u1 c k a0 a1 a2 a3 a b x y) = true) (v2 : z0 (u2 c k a b x y) = true) (v3 : z0 (u3 c k a0 a1 a2 a3 a b x y) = true) : okE (u4 c k a0 a1 a2 a3 a b x y) := e_add (R10 hc hk hx hy g h7 h8 h9 h10) (RU3 hx hy i0 i1 i2 i3 h v1 v2 v3)
end
end Go.Rd

/- The conditions of surface.Sag's runs on biconic surfaces: the lemmas. No program text. -/
namespace Go.Rd
open Go Go.Eng Go.Ar
section
variable {c k l m a b x y : Int} (hc : inL c) (hk : inK k) (hl : inL l) (hm : inK m) (hx : okSp a b = true) (hy : okSp x y = true)
include hc hk hl hm hx hy in theorem BK0  : okE (b0 c k l m a b x y) := e_sqr (Ri.of (s := ⟨a, b, 0⟩) hx)
include hc hk hl hm hx hy in theorem BR0 (e0 : z0 (b0 c k l m a b x y) = true) : Ri (b0 c k l m a b x y) := r_sqr (Ri.of (s := ⟨a, b, 0⟩) hx) (z0e e0)
include hc hk hl hm hx hy in theorem BK1 (e0 : z0 (b0 c k l m a b x y) = true) : okE (b1 c k l m a b x y) := e_sc (BR0 hc hk hl hm hx hy e0) (sc_c hl) (ok_c hl)
include hc hk hl hm hx hy in theorem BR1 (e0 : z0 (b0 c k l m a b x y) = true) (e1 : z0 (b1 c k l m a b x y) = true) : Ri (b1 c k l m a b x y) := r_sc (BR0 hc hk hl hm hx hy e0) (sc_c hl) (z0e e1)
include hc hk hl hm hx hy in theorem BK2  : okE (b2 c k l m a b x y) := e_sqr (Ri.of (s := ⟨x, y, 0⟩) hy)
include hc hk hl hm hx hy in theorem BR2 (e2 : z0 (b2 c k l m a b x y) = true) : Ri (b2 c k l m a b x y) := r_sqr (Ri.of (s := ⟨x, y, 0⟩) hy) (z0e e2)
include hc hk hl hm hx hy in theorem BK3 (e2 : z0 (b2 c k l m a b x y) = true) : okE (b3 c k l m a b x y) := e_sc (BR2 hc hk hl hm hx hy e2) (sc_c hc) (ok_c hc)
include hc hk hl hm hx hy in theorem BR3 (e2 : z0 (b2 c k l m a b x y) = true) (e3 : z0 (b3 c k l m a b x y) = true) : Ri (b3 c k l m a b x y) := r_sc (BR2 hc hk hl hm hx hy e2) (sc_c hc) (z0e e3)
include hc hk hl hm hx hy in theorem BK4 (e0 : z0 (b0 c k l m a b x y) = true) (e1 : z0 (b1 c k l m a b x y) = true) : okE (b4 c k l m a b x y) := e_sc (BR1 hc hk hl hm hx hy e0 e1) (sc_c hl) (ok_c hl)
include hc hk hl hm hx hy in theorem BR4 (e0 : z0 (b0 c k l m a b x y) = true) (e1 : z0 (b1 c k l m a b x y) = true) (e4 : z0 (b4 c k l m a b x y) = true) : Ri (b4 c k l m a b x y) := r_sc (BR1 hc hk hl hm hx hy e0 e1) (sc_c hl) (z0e e4)
include hc hk hl hm hx hy in theorem BK5 (e2 : z0 (b2 c k l m a b x y) = true) (e3 : z0 (b3 c k l m a b x y) = true) : okE (b5 c k l m a b x y) := e_sc (BR3 hc hk hl hm hx hy e2 e3) (sc_c hc) (ok_c hc)
include hc hk hl hm hx hy in theorem BR5 (e2 : z0 (b2 c k l m a b x y) = true) (e3 : z0 (b3 c k l m a b x y) = true) (e5 : z0 (b5 c k l m a b x y) = true) : Ri (b5 c k l m a b x y) := r_sc (BR3 hc hk hl hm hx hy e2 e3) (sc_c hc) (z0e e5)
include hc hk hl hm hx hy in theorem BK6 (e0 : z0 (b0 c k l m a b x y) = true) (e1 : z0 (b1 c k l m a b x y) = true) (e4 : z0 (b4 c k l m a b x y) = true) : okE (b6 c k l m a b x y) := e_sc (BR4 hc hk hl hm hx hy e0 e1 e4) (sc_k hm) (ok_k hm)
include hc hk hl hm hx hy in theorem BR6 (e0 : z0 (b0 c k l m a b x y) = true) (e1 : z0 (b1 c k l m a b x y) = true) (e4 : z0 (b4 c k l m a b x y) = true) (e6 : z0 (b6 c k l m a b x y) = true) : Ri (b6 c k l m a b x y) := r_sc (BR4 hc hk hl hm hx hy e0 e1 e4) (sc_k hm) (z0e e6)
include hc hk hl hm hx hy in theorem BK7 (e2 : z0 (b2 c k l m a b x y) = true) (e3 : z0 (b3 c k l m a b x y) = true) (e5 : z0 (b5 c k l m a b x y) = true) : okE (b7 c k l m a b x y) := e_sc (BR5 hc hk hl hm hx hy e2 e3 e5) (sc_k hk) (ok_k hk)
include hc hk hl hm hx hy in theorem BR7 (e2 : z0 (b2 c k l m a b x y) = true) (e3 : z0 (b3 c k l m a b x y) = true) (e5 : z0 (b5 c k l m a b x y) = true) (e7 : z0 (b7 c k l m a b x y) = true) : Ri (b7 c k l m a b x y) := r_sc (BR5 hc hk hl hm hx hy e2 e3 e5) (sc_k hk) (z0e e7)
include hc hk hl hm hx hy in theorem BK8 (e0 : z0 (b0 c k l m a b x y) = true) (e1 : z0 (b1 c k l m a b x y) = true) (e2 : z0 (b2 c k l m a b x y) = true) (e3 : z0 (b3 c k l m a b x y) = true) (e4 : z0 (b4 c k l m a b x y) = true) (e5 : z0 (b5 c k l m a b x y) = true) (e6 : z0 (b6 c k l m a b x y) = true) (e7 : z0 (b7 c k l m a b x y) = true) : okE (b8 c k l m a b x y) := e_add (BR6 hc hk hl hm hx hy e0 e1 e4 e6) (BR7 hc hk hl hm hx hy e2 e3 e5 e7)
include hc hk hl hm hx hy in theorem BR8 (e0 : z0 (b0 c k l m a b x y) = true) (e1 : z0 (b1 c k l m a b x y) = true) (e2 : z0 (b2 c k l m a b x y) = true) (e3 : z0 (b3 c k l m a b x y) = true) (e4 : z0 (b4 c k l m a b x y) = true) (e5 : z0 (b5 c k l m a b x y) = true) (e6 : z0 (b6 c k l m a b x y) = true) (e7 : z0 (b7 c k l m a b x y) = true) (e8 : z0 (b8 c k l m a b x y) = true) : Ri (b8 c k l m a b x y) := r_add (BR6 hc hk hl hm hx hy e0 e1 e4 e6) (BR7 hc hk hl hm hx hy e2 e3 e5 e7) (z0e e8)
include hc hk hl hm hx hy in theorem BK9 (e0 : z0 (b0 c k l m a b x y) = true) (e1 : z0 (b1 c k l m a b x y) = true) (e2 : z0 (b2 c k l m a b x y) = true) (e3 : z0 (b3 c k l m a b x y) = true) (e4 : z0 (b4 c k l m a b x y) = true) (e5 : z0 (b5 c k l m a b x y) = true) (e6 : z0 (b6 c k l m a b x y) = true) (e7 : z0 (b7 c k l m a b x y) = true) (e8 : z0 (b8 c k l m a b x y) = true) : okE (b9 c k l m a b x y) := e_sub one_ri (BR8 hc hk hl hm hx hy e0 e1 e2 e3 e4 e5 e6 e7 e8)
include hc hk hl hm hx hy in theorem BR9 (e0 : z0 (b0 c k l m a b x y) = true) (e1 : z0 (b1 c k l m a b x y) = true) (e2 : z0 (b2 c k l m a b x y) = true) (e3 : z0 (b3 c k l m a b x y) = true) (e4 : z0 (b4 c k l m a b x y) = true) (e5 : z0 (b5 c k l m a b x y) = true) (e6 : z0 (b6 c k l m a b x y) = true) (e7 : z0 (b7 c k l m a b x y) = true) (e8 : z0 (b8 c k l m a b x y) = true) (e9 : z0 (b9 c k l m a b x y) = true) : Ri (b9 c k l m a b x y) := r_sub one_ri (BR8 hc hk hl hm hx hy e0 e1 e2 e3 e4 e5 e6 e7 e8) (z0e e9)
include hc hk hl hm hx hy in theorem BK10 (e0 : z0 (b0 c k l m a b x y) = true) (e1 : z0 (b1 c k l m a b x y) = true) (e2 : z0 (b2 c k l m a b x y) = true) (e3 : z0 (b3 c k l m a b x y) = true) (e4 : z0 (b4 c k l m a b x y) = true) (e5 : z0 (b5 c k l m a b x y) = true) (e6 : z0 (b6 c k l m a b x y) = true) (e7 : z0 (b7 c k l m a b x y) = true) (e8 : z0 (b8 c k l m a b x y) = true) (e9 : z0 (b9 c k l m a b x y) = true) (p : 0 < (b9 c k l m a b x y).lo) : okE (b10 c k l m a b x y) := e_rt (BR9 hc hk hl hm hx hy e0 e1 e2 e3 e4 e5 e6 e7 e8 e9) p
include hc hk hl hm hx hy in theorem BR10 (e0 : z0 (b0 c k l m a b x y) = true) (e1 : z0 (b1 c k l m a b x y) = true) (e2 : z0 (b2 c k l m a b x y) = true) (e3 : z0 (b3 c k l m a b x y) = true) (e4 : z0 (b4 c k l m a b x y) = true) (e5 : z0 (b5 c k l m a b x y) = true) (e6 : z0 (b6 c k l m a b x y) = true) (e7 : z0 (b7 c k l m a b x y) = true) (e8 : z0 (b8 c k l m a b x y) = true) (e9 : z0 (b9 c k l m a b x y) = true) (e10 : z0 (b10 c k l m a b x y) = true) : Ri (b10 c k l m a b x y) := r_rt (BR9 hc hk hl hm hx hy e0 e1 e2 e3 e4 e5 e6 e7 e8 e9) (z0e e10)
include hc hk hl hm hx hy in theorem BK11 (e0 : z0 (b0 c k l m a b x y) = true) (e1 : z0 (b1 c k l m a b x y) = true) (e2 : z0 (b2 c k l m a b x y) = true) (e3 : z0 (b3 c k l m a b x y) = true) : okE (b11 c k l m a b x y) := e_add (BR1 hc hk hl hm hx hy e0 e1) (BR3 hc hk hl hm hx hy e2 e3)
include hc hk hl hm hx hy in theorem BR11 (e0 : z0 (b0 c k l m a b x y) = true) (e1 : z0 (b1 c k l m a b x y) = true) (e2 : z0 (b2 c k l m a b x y) = true) (e3 : z0 (b3 c k l m a b x y) = true) (e11 : z0 (b11 c k l m a b x y) = true) : Ri (b11 c k l m a b x y) := r_add (BR1 hc hk hl hm hx hy e0 e1) (BR3 hc hk hl hm hx hy e2 e3) (z0e e11)
include hc hk hl hm hx hy in theorem BK12 (e0 : z0 (b0 c k l m a b x y) = true) (e1 : z0 (b1 c k l m a b x y) = true) (e2 : z0 (b2 c k l m a b x y) = true) (e3 : z0 (b3 c k l m a b x y) = true) (e4 : z0 (b4 c k l m a b x y) = true) (e5 : z0 (b5 c k l m a b x y) = true) (e6 : z0 (b6 c k l m a b x y) = true) (e7 : z0 (b7 c k l m a b x y) = true) (e8 : z0 (b8 c k l m a b x y) = true) (e9 : z0 (b9 c k l m a b x y) = true) (e10 : z0 (b10 c k l m a b x y) = true) : okE (b12 c k l m a b x y) := e_add one_ri (BR10 hc hk hl hm hx hy e0 e1 e2 e3 e4 e5 e6 e7 e8 e9 e10)
include hc hk hl hm hx hy in theorem BR12 (e0 : z0 (b0 c k l m a b x y) = true) (e1 : z0 (b1 c k l m a b x y) = true) (e2 : z0 (b2 c k l m a b x y) = true) (e3 : z0 (b3 c k l m a b x y) = true) (e4 : z0 (b4 c k l m a b x y) = true) (e5 : z0 (b5 c k l m a b x y) = true) (e6 : z0 (b6 c k l m a b x y) = true) (e7 : z0 (b7 c k l m a b x y) = true) (e8 : z0 (b8 c k l m a b x y) = true) (e9 : z0 (b9 c k l m a b x y) = true) (e10 : z0 (b10 c k l m a b x y) = true) (e12 : z0 (b12 c k l m a b x y) = true) : Ri (b12 c k l m a b x y) := r_add one_ri (BR10 hc hk hl hm hx hy e0 e1 e2 e3 e4 e5 e6 e7 e8 e9 e10) (z0e e12)
include hc hk hl hm hx hy in theorem BK13 (e0 : z0 (b0 c k l m a b x y) = true) (e1 : z0 (b1 c k l m a b x y) = true) (e2 : z0 (b2 c k l m a b x y) = true) (e3 : z0 (b3 c k l m a b x y) = true) (e4 : z0 (b4 c k l m a b x y) = true) (e5 : z0 (b5 c k l m a b x y) = true) (e6 : z0 (b6 c k l m a b x y) = true) (e7 : z0 (b7 c k l m a b x y) = true) (e8 : z0 (b8 c k l m a b x y) = true) (e9 : z0 (b9 c k l m a b x y) = true) (e10 : z0 (b10 c k l m a b x y) = true) (e11 : z0 (b11 c k l m a b x y) = true) (e12 : z0 (b12 c k l m a b x y) = true) (p : 0 < (b12 c k l m a b x y).lo) : okE (b13 c k l m a b x y) := e_div (BR11 hc hk hl hm hx hy e0 e1 e2 e3 e11) (BR12 hc hk hl hm hx hy e0 e1 e2 e3 e4 e5 e6 e7 e8 e9 e10 e12) p
include hc hk hl hm hx hy in theorem BR13 (e0 : z0 (b0 c k l m a b x y) = true) (e1 : z0 (b1 c k l m a b x y) = true) (e2 : z0 (b2 c k l m a b x y) = true) (e3 : z0 (b3 c k l m a b x y) = true) (e4 : z0 (b4 c k l m a b x y) = true) (e5 : z0 (b5 c k l m a b x y) = true) (e6 : z0 (b6 c k l m a b x y) = true) (e7 : z0 (b7 c k l m a b x y) = true) (e8 : z0 (b8 c k l m a b x y) = true) (e9 : z0 (b9 c k l m a b x y) = true) (e10 : z0 (b10 c k l m a b x y) = true) (e11 : z0 (b11 c k l m a b x y) = true) (e12 : z0 (b12 c k l m a b x y) = true) (e13 : z0 (b13 c k l m a b x y) = true) : Ri (b13 c k l m a b x y) := r_div (BR11 hc hk hl hm hx hy e0 e1 e2 e3 e11) (BR12 hc hk hl hm hx hy e0 e1 e2 e3 e4 e5 e6 e7 e8 e9 e10 e12) (z0e e13)
include hc hk hl hm hx hy in theorem BP12 (e0 : z0 (b0 c k l m a b x y) = true) (e1 : z0 (b1 c k l m a b x y) = true) (e2 : z0 (b2 c k l m a b x y) = true) (e3 : z0 (b3 c k l m a b x y) = true) (e4 : z0 (b4 c k l m a b x y) = true) (e5 : z0 (b5 c k l m a b x y) = true) (e6 : z0 (b6 c k l m a b x y) = true) (e7 : z0 (b7 c k l m a b x y) = true) (e8 : z0 (b8 c k l m a b x y) = true) (e9 : z0 (b9 c k l m a b x y) = true) (e10 : z0 (b10 c k l m a b x y) = true) (e12 : z0 (b12 c k l m a b x y) = true) (p : 0 < (b9 c k l m a b x y).lo) : 0 < (b12 c k l m a b x y).lo := add_pos one_ri (BR10 hc hk hl hm hx hy e0 e1 e2 e3 e4 e5 e6 e7 e8 e9 e10) (z0e e12) (by decide) (by have := rt_pos (BR9 hc hk hl hm hx hy e0 e1 e2 e3 e4 e5 e6 e7 e8 e9) p; exact Int.le_of_lt this)
end
end Go.Rd

/- What surface.Slope reckons on valid surfaces. No program. -/
namespace Go.Rd
open Go Go.Eng Go.Ar

section
variable (c k a0 a1 a2 a3 a b d e : Int)
def cb (n m : Int) : Sp := xScaleS 4294967296 4294967296 (IntKind.i64.wrap (n * m)) 1000000
def q1 : Sp := evalS (u0 c k a b d e) (cb a0 2) (cb a1 3) (cb a2 4) (cb a3 5)
def q2 : Sp := mulS (u0 c k a b d e).lo (u0 c k a b d e).hi (q1 c k a0 a1 a2 a3 a b d e).lo (q1 c k a0 a1 a2 a3 a b d e).hi
/-- A fiftieth. -/
def fif (a b : Int) : Sp := xScaleS a b 1 50
def q3 : Sp := mulS (fif a b).lo (fif a b).hi (q2 c k a0 a1 a2 a3 a b d e).lo (q2 c k a0 a1 a2 a3 a b d e).hi
def q4 : Sp := addS (s14 c k a b d e).lo (s14 c k a b d e).hi (q3 c k a0 a1 a2 a3 a b d e).lo (q3 c k a0 a1 a2 a3 a b d e).hi
def q5 : Sp := mulS (fif d e).lo (fif d e).hi (q2 c k a0 a1 a2 a3 a b d e).lo (q2 c k a0 a1 a2 a3 a b d e).hi
def q6 : Sp := addS (s12 c k a b d e).lo (s12 c k a b d e).hi (q5 c k a0 a1 a2 a3 a b d e).lo (q5 c k a0 a1 a2 a3 a b d e).hi
def slB : Bool := z0 (s2 c k a b d e) && (z0 (s8 c k a b d e) && (z0 (s9 c k a b d e) && z0 (s10 c k a b d e)))
def slE : Bool := z0 (s2 c k a b d e) && z0 (q1 c k a0 a1 a2 a3 a b d e)
/-- With an asphere. -/
def slA : Bool := (slB c k a b d e && (z0 (s14 c k a b d e) && (slE c k a0 a1 a2 a3 a b d e && (z0 (q2 c k a0 a1 a2 a3 a b d e) && (z0 (q3 c k a0 a1 a2 a3 a b d e) && z0 (q4 c k a0 a1 a2 a3 a b d e)))))) &&
  (slB c k a b d e && (z0 (s12 c k a b d e) && (slE c k a0 a1 a2 a3 a b d e && (z0 (q2 c k a0 a1 a2 a3 a b d e) && (z0 (q5 c k a0 a1 a2 a3 a b d e) && z0 (q6 c k a0 a1 a2 a3 a b d e))))))
/-- Without one. -/
def slP : Bool := (slB c k a b d e && z0 (s14 c k a b d e)) && (slB c k a b d e && z0 (s12 c k a b d e))
end
section
variable (c k l m a b d e : Int)
def slXB : Bool := z0 (b8 c k l m a b d e) && (z0 (b11 c k l m a b d e) && (z0 (b12 c k l m a b d e) && z0 (b13 c k l m a b d e)))
def slX : Bool := (slXB c k l m a b d e && (z0 (b17 c k l m a b d e) && (z0 (b26 c k l m a b d e) && (z0 (b28 c k l m a b d e) && (z0 (b12 c k l m a b d e) && z0 (b29 c k l m a b d e)))))) &&
  (slXB c k l m a b d e && (z0 (b21 c k l m a b d e) && (z0 (b22 c k l m a b d e) && (z0 (b24 c k l m a b d e) && (z0 (b12 c k l m a b d e) && z0 (b25 c k l m a b d e))))))
end
/-- Two spans and an error: behind another error g, with a condition. -/
def t1 (g : Int) : Bool := bif g != 0 then true else false
def tw1 (g : Int) (p : Bool) (v : Int) : Int := bif t1 g || !t1 g && p then bif t1 g then 0 else v else 0
def twE (g : Int) (p : Bool) : Int := bif t1 g || !t1 g && p then bif t1 g then g else 0 else 6
def sp2V (g : Int) (p : Bool) (u v : Sp) : AV := .tuple [.agg [.int true .i64 (tw1 g p u.lo), .int true .i64 (tw1 g p u.hi)], .agg [.int true .i64 (tw1 g p v.lo), .int true .i64 (tw1 g p v.hi)], .int true .i64 (twE g p)]
end Go.Rd
namespace Go.Rd
open Go Go.Eng Go.Ar
section
variable (c k a0 a1 a2 a3 a b d e : Int)
def slC : Bool := bif asp a0 a1 a2 a3 then slA c k a0 a1 a2 a3 a b d e else slP c k a b d e
def slU : Sp := bif asp a0 a1 a2 a3 then q4 c k a0 a1 a2 a3 a b d e else s14 c k a b d e
def slV : Sp := bif asp a0 a1 a2 a3 then q6 c k a0 a1 a2 a3 a b d e else s12 c k a b d e
def slpV : AV := sp2V (sagS c k a0 a1 a2 a3 a b d e).e (slC c k a0 a1 a2 a3 a b d e) (slU c k a0 a1 a2 a3 a b d e) (slV c k a0 a1 a2 a3 a b d e)
theorem slpV_t (h : asp a0 a1 a2 a3 = true) : sp2V (sagS c k a0 a1 a2 a3 a b d e).e (slA c k a0 a1 a2 a3 a b d e) (q4 c k a0 a1 a2 a3 a b d e) (q6 c k a0 a1 a2 a3 a b d e) = slpV c k a0 a1 a2 a3 a b d e := by
  unfold slpV slC slU slV; rw [h]; rfl
theorem slpV_f (h : asp a0 a1 a2 a3 = false) : sp2V (sagS c k a0 a1 a2 a3 a b d e).e (slP c k a b d e) (s14 c k a b d e) (s12 c k a b d e) = slpV c k a0 a1 a2 a3 a b d e := by
  unfold slpV slC slU slV; rw [h]; rfl
end
def slpX (c k l m a b d e : Int) : AV := sp2V (sagX c k l m a b d e).e (slX c k l m a b d e) (b29 c k l m a b d e) (b25 c k l m a b d e)
end Go.Rd

/- Behind a sag that is known: what of the slopes cannot err. No program text. -/
namespace Go.Rd
open Go Go.Eng Go.Ar

theorem sc0 {s : Sp} {n d L : Int} (h : Ri s) (hn : -L ≤ n ∧ n ≤ L) (hL : L ≤ 4611686018427387904) (hd : 1 ≤ d) (hd' : d ≤ 4611686018427387904) (hb : L ≤ d) (hbig : 4503599627370496 * L < 18446744073709551615 * d) : (xScaleS s.lo s.hi n d).e = 0 :=
  (scale_op (s := ⟨s.lo, s.hi, 0⟩) (M := 4503599627370496) (L := L) (M' := 4503599627370496) ⟨rfl, h.lo, h.le, h.hi⟩ (by decide) hn hL hd hd' (by omega) (by decide) hbig).1.e
theorem cb_0 {n m : Int} (h : inL n) (hm : 2 ≤ m ∧ m ≤ 5) : (cb n m).e = 0 ∧ Ri (cb n m) := by
  unfold inL at h
  have p1 : -5000000000 ≤ n * m ∧ n * m ≤ 5000000000 := by
    have a1 := Int.mul_le_mul_of_nonneg_right h.2 (show 0 ≤ m by omega)
    have a2 := Int.mul_le_mul_of_nonneg_right h.1 (show 0 ≤ m by omega)
    omega
  have w : IntKind.i64.wrap (n * m) = n * m := i64w (by omega) (by omega)
  have r : Bd (cb n m) 4503599627370496 := by
    unfold cb
    rw [w]
    exact (scale_op (s := ⟨4294967296, 4294967296, 0⟩) (M := 4294967296) (L := 5000000000) ⟨rfl, by decide, by decide, by decide⟩ (by decide) p1 (by decide) (by decide) (by decide) (by decide) (by decide) (by decide)).1
  exact ⟨r.e, r.lo, r.le, r.hi⟩
theorem fif_0 {a b : Int} (h : okSp a b = true) : (fif a b).e = 0 ∧ Ri (fif a b) := by
  have e : (fif a b).e = 0 := sc0 (s := ⟨a, b, 0⟩) (L := 1) (Ri.of h) (by decide) (by decide) (by decide) (by decide) (by decide) (by decide)
  exact ⟨e, r_sc (s := ⟨a, b, 0⟩) (Ri.of h) (okSc_of (M := 1) (by decide) (by decide)) e⟩
theorem cur_0 {a b c : Int} (h : okSp a b = true) (hc : inL c) : (xScaleS a b c 1000000000).e = 0 ∧ Ri (xScaleS a b c 1000000000) := by
  have e : (xScaleS a b c 1000000000).e = 0 := sc0 (s := ⟨a, b, 0⟩) (L := 1000000000) (Ri.of h) hc (by decide) (by decide) (by decide) (by decide) (by decide)
  exact ⟨e, r_sc (s := ⟨a, b, 0⟩) (Ri.of h) (sc_c hc) e⟩
theorem zt {s : Sp} (h : s.e = 0) : z0 s = true := by unfold z0; rw [h]; rfl

/-- The base has no error, and the point lies in the domain. -/
structure BaseF (c k a b x y : Int) : Prop where
  h : H6 c k a b x y
  p : 0 < (s6 c k a b x y).lo
  h7 : z0 (s7 c k a b x y) = true
  h8 : z0 (s8 c k a b x y) = true
  h9 : z0 (s9 c k a b x y) = true
  h10 : z0 (s10 c k a b x y) = true
theorem base_of {c k a b x y : Int} (h : sagB c k a b x y = true) : BaseF c k a b x y := by
  unfold sagB sagH0 at h
  simp only [Bool.and_eq_true] at h
  obtain ⟨⟨⟨e0, e1, e2, e3⟩, e4, e5⟩, e6, d, e7, e8, e9, e10⟩ := h
  exact ⟨⟨e0, e1, e2, e3, e4, e5, e6⟩, dom_pos d, e7, e8, e9, e10⟩
theorem sag_c {c k a0 a1 a2 a3 a b x y : Int} (g : (sagS c k a0 a1 a2 a3 a b x y).e = 0) : sagC c k a0 a1 a2 a3 a b x y = true := by
  cases e : sagC c k a0 a1 a2 a3 a b x y with
  | true => rfl
  | false =>
    have g : (bif sagC c k a0 a1 a2 a3 a b x y then 0 else bif sagD c k a b x y then 9 else 6 : Int) = 0 := g
    rw [e, cond_false] at g
    cases d : sagD c k a b x y <;> rw [d] at g <;> cases g
theorem sag_base {c k a0 a1 a2 a3 a b x y : Int} (g : (sagS c k a0 a1 a2 a3 a b x y).e = 0) : BaseF c k a b x y := by
  have := sag_c g
  unfold sagC at this
  rw [Bool.and_eq_true] at this
  exact base_of this.1
theorem sag_even {c k a0 a1 a2 a3 a b x y : Int} (g : (sagS c k a0 a1 a2 a3 a b x y).e = 0) (has : asp a0 a1 a2 a3 = true) : z0 (u0 c k a b x y) = true := by
  have := sag_c g
  unfold sagC at this
  rw [Bool.and_eq_true, has] at this
  have := this.2
  unfold sagE at this
  simp only [cond_true, Bool.and_eq_true] at this
  exact this.1.1.2.2.2
theorem t1_0 {g : Int} (h : (!(bif g != 0 then true else false)) = true) : g = 0 := by
  rcases Decidable.em (g = 0) with e | e
  · exact e
  · have : (g != 0) = true := by simpa using e
    rw [this] at h
    cases h
section
variable {c k a0 a1 a2 a3 a b x y : Int} (hc : inL c) (hk : inK k) (hx : okSp a b = true) (hy : okSp x y = true) (f : BaseF c k a b x y)
include hc hk hx hy f
theorem F14 : okE (s14 c k a b x y) := e_div (s := s13 c k a b x y) (cur_0 hx hc).2 (R7 hc hk hx hy f.h f.h7) (P7 hc hk hx hy f.h f.p)
theorem F14r (e : z0 (s14 c k a b x y) = true) : Ri (s14 c k a b x y) := r_div (s := s13 c k a b x y) (cur_0 hx hc).2 (R7 hc hk hx hy f.h f.h7) (z0e e)
theorem F12 : okE (s12 c k a b x y) := e_div (s := s11 c k a b x y) (cur_0 hy hc).2 (R7 hc hk hx hy f.h f.h7) (P7 hc hk hx hy f.h f.p)
theorem F12r (e : z0 (s12 c k a b x y) = true) : Ri (s12 c k a b x y) := r_div (s := s11 c k a b x y) (cur_0 hy hc).2 (R7 hc hk hx hy f.h f.h7) (z0e e)
variable (i0 : inL a0) (i1 : inL a1) (i2 : inL a2) (i3 : inL a3) (u : z0 (u0 c k a b x y) = true)
include u
omit hc hk in
theorem FU : Ri (u0 c k a b x y) := RU0 hx hy f.h.1 f.h.2.1 f.h.2.2.1 u
include i0 i1 i2 i3
theorem FQ1 : okE (q1 c k a0 a1 a2 a3 a b x y) := evl_e (FU hx hy f u) (cb_0 i0 (by decide)).2 (cb_0 i1 (by decide)).2 (cb_0 i2 (by decide)).2 (cb_0 i3 (by decide)).2
theorem FQ1r (e : z0 (q1 c k a0 a1 a2 a3 a b x y) = true) : Ri (q1 c k a0 a1 a2 a3 a b x y) := evl_r (FU hx hy f u) (cb_0 i0 (by decide)).2 (cb_0 i1 (by decide)).2 (cb_0 i2 (by decide)).2 (cb_0 i3 (by decide)).2 (z0e e)
theorem FQ2 (e : z0 (q1 c k a0 a1 a2 a3 a b x y) = true) : okE (q2 c k a0 a1 a2 a3 a b x y) := e_mul (FU hx hy f u) (FQ1r hc hk hx hy f i0 i1 i2 i3 u e)
theorem FQ2r (e : z0 (q1 c k a0 a1 a2 a3 a b x y) = true) (e2 : z0 (q2 c k a0 a1 a2 a3 a b x y) = true) : Ri (q2 c k a0 a1 a2 a3 a b x y) := r_mul (FU hx hy f u) (FQ1r hc hk hx hy f i0 i1 i2 i3 u e) (z0e e2)
theorem FQ3 (e : z0 (q1 c k a0 a1 a2 a3 a b x y) = true) (e2 : z0 (q2 c k a0 a1 a2 a3 a b x y) = true) : okE (q3 c k a0 a1 a2 a3 a b x y) := e_mul (fif_0 hx).2 (FQ2r hc hk hx hy f i0 i1 i2 i3 u e e2)
theorem FQ4 (e14 : z0 (s14 c k a b x y) = true) (e : z0 (q1 c k a0 a1 a2 a3 a b x y) = true) (e2 : z0 (q2 c k a0 a1 a2 a3 a b x y) = true) (e3 : z0 (q3 c k a0 a1 a2 a3 a b x y) = true) : okE (q4 c k a0 a1 a2 a3 a b x y) := e_add (F14r hc hk hx hy f e14) (r_mul (fif_0 hx).2 (FQ2r hc hk hx hy f i0 i1 i2 i3 u e e2) (z0e e3))
theorem FQ5 (e : z0 (q1 c k a0 a1 a2 a3 a b x y) = true) (e2 : z0 (q2 c k a0 a1 a2 a3 a b x y) = true) : okE (q5 c k a0 a1 a2 a3 a b x y) := e_mul (fif_0 hy).2 (FQ2r hc hk hx hy f i0 i1 i2 i3 u e e2)
theorem FQ6 (e12 : z0 (s12 c k a b x y) = true) (e : z0 (q1 c k a0 a1 a2 a3 a b x y) = true) (e2 : z0 (q2 c k a0 a1 a2 a3 a b x y) = true) (e5 : z0 (q5 c k a0 a1 a2 a3 a b x y) = true) : okE (q6 c k a0 a1 a2 a3 a b x y) := e_add (F12r hc hk hx hy f e12) (r_mul (fif_0 hy).2 (FQ2r hc hk hx hy f i0 i1 i2 i3 u e e2) (z0e e5))
end
end Go.Rd

/- Behind a sag that is known, on biconic surfaces: what of the slopes cannot err. No program text. -/
namespace Go.Rd
open Go Go.Eng Go.Ar

theorem sq_bound {a b : Int} (h : okSp a b = true) (e : (sqrS a b).e = 0) : Bd ⟨a, b, 0⟩ 4398046511104 := by
  obtain ⟨h1, h2, h3⟩ := okSp_iff.1 h
  unfold sqrS at e
  rw [h, cond_true] at e
  have t := (told_ok e).2.2.2.2
  have q : abH a b * abH a b ≤ 4503599627370496 * 4294967296 := (rd_le_iff (by decide)).1 t
  have p : 0 ≤ abH a b := (abH_le h).1
  have r : abH a b ≤ 4398046511104 := le_of_sq (by decide) (by omega)
  unfold abH at r
  have := le_mx b (-a)
  exact ⟨rfl, by show -4398046511104 ≤ a; omega, h2, by show b ≤ 4398046511104; omega⟩
theorem bd_ri {s : Sp} {M : Int} (h : Bd s M) (hM : M ≤ 4503599627370496) : Ri s := ⟨by have := h.lo; omega, h.le, by have := h.hi; omega⟩

structure BaseX (c k l m a b x y : Int) : Prop where
  e0 : z0 (b0 c k l m a b x y) = true
  e1 : z0 (b1 c k l m a b x y) = true
  e2 : z0 (b2 c k l m a b x y) = true
  e3 : z0 (b3 c k l m a b x y) = true
  e4 : z0 (b4 c k l m a b x y) = true
  e5 : z0 (b5 c k l m a b x y) = true
  e6 : z0 (b6 c k l m a b x y) = true
  e7 : z0 (b7 c k l m a b x y) = true
  e8 : z0 (b8 c k l m a b x y) = true
  e9 : z0 (b9 c k l m a b x y) = true
  p : 0 < (b9 c k l m a b x y).lo
  e10 : z0 (b10 c k l m a b x y) = true
  e11 : z0 (b11 c k l m a b x y) = true
  e12 : z0 (b12 c k l m a b x y) = true
  e13 : z0 (b13 c k l m a b x y) = true
theorem sagX_base {c k l m a b x y : Int} (g : (sagX c k l m a b x y).e = 0) : BaseX c k l m a b x y := by
  have h : sagXC c k l m a b x y = true := by
    cases e : sagXC c k l m a b x y with
    | true => rfl
    | false =>
      have g : (bif sagXC c k l m a b x y then 0 else bif sagXD c k l m a b x y then 9 else 6 : Int) = 0 := g
      rw [e, cond_false] at g
      cases d : sagXD c k l m a b x y <;> rw [d] at g <;> cases g
  unfold sagXC sagX0 at h
  simp only [Bool.and_eq_true] at h
  obtain ⟨⟨⟨e0, e1, e2, e3⟩, ⟨e4, e6⟩, ⟨e5, e7⟩, e8⟩, e9, d, e10, e11, e12, e13⟩ := h
  exact ⟨e0, e1, e2, e3, e4, e5, e6, e7, e8, e9, dom_pos d, e10, e11, e12, e13⟩
section
variable {c k l m a b x y : Int} (hc : inL c) (hk : inK k) (hl : inL l) (hm : inK m) (hx : okSp a b = true) (hy : okSp x y = true) (f : BaseX c k l m a b x y)
include hc hk hl hm hx hy f
theorem X10r : Ri (b10 c k l m a b x y) := BR10 hc hk hl hm hx hy f.e0 f.e1 f.e2 f.e3 f.e4 f.e5 f.e6 f.e7 f.e8 f.e9 f.e10
theorem X10p : 0 < (b10 c k l m a b x y).lo := rt_pos (BR9 hc hk hl hm hx hy f.e0 f.e1 f.e2 f.e3 f.e4 f.e5 f.e6 f.e7 f.e8 f.e9) f.p
theorem X12r : Ri (b12 c k l m a b x y) := BR12 hc hk hl hm hx hy f.e0 f.e1 f.e2 f.e3 f.e4 f.e5 f.e6 f.e7 f.e8 f.e9 f.e10 f.e12
theorem X12p : 0 < (b12 c k l m a b x y).lo := BP12 hc hk hl hm hx hy f.e0 f.e1 f.e2 f.e3 f.e4 f.e5 f.e6 f.e7 f.e8 f.e9 f.e10 f.e12 f.p
theorem X13r : Ri (b13 c k l m a b x y) := BR13 hc hk hl hm hx hy f.e0 f.e1 f.e2 f.e3 f.e4 f.e5 f.e6 f.e7 f.e8 f.e9 f.e10 f.e11 f.e12 f.e13
theorem X14_b : Bd (b14 c k l m a b x y) 4398046511104 := (scale_op (M := 4398046511104) (L := 1000000000) (sq_bound hx (z0e f.e0)) (by decide) hl (by decide) (by decide) (by decide) (by decide) (by decide) (by decide)).1
theorem X15_b : Bd (b15 c k l m a b x y) 4398046511104 := (scale_op (M := 4398046511104) (L := 1000000000) (X14_b hc hk hl hm hx hy f) (by decide) hl (by decide) (by decide) (by decide) (by decide) (by decide) (by decide)).1
theorem X16_b : Bd (b16 c k l m a b x y) 444202697621504 := (scale_op (M := 4398046511104) (L := 101000000) (X15_b hc hk hl hm hx hy f) (by decide) (by rw [wkK hm]; unfold inK at hm; omega) (by decide) (by decide) (by decide) (by decide) (by decide) (by decide)).1
theorem X27_b : Bd (b27 c k l m a b x y) 8796093022208 := (scale_op (M := 4398046511104) (L := 2) (X14_b hc hk hl hm hx hy f) (by decide) (by decide) (by decide) (by decide) (by decide) (by decide) (by decide) (by decide)).1
theorem X18_b : Bd (b18 c k l m a b x y) 4398046511104 := (scale_op (M := 4398046511104) (L := 1000000000) (sq_bound hy (z0e f.e2)) (by decide) hc (by decide) (by decide) (by decide) (by decide) (by decide) (by decide)).1
theorem X19_b : Bd (b19 c k l m a b x y) 4398046511104 := (scale_op (M := 4398046511104) (L := 1000000000) (X18_b hc hk hl hm hx hy f) (by decide) hc (by decide) (by decide) (by decide) (by decide) (by decide) (by decide)).1
theorem X20_b : Bd (b20 c k l m a b x y) 444202697621504 := (scale_op (M := 4398046511104) (L := 101000000) (X19_b hc hk hl hm hx hy f) (by decide) (by rw [wkK hk]; unfold inK at hk; omega) (by decide) (by decide) (by decide) (by decide) (by decide) (by decide)).1
theorem X23_b : Bd (b23 c k l m a b x y) 8796093022208 := (scale_op (M := 4398046511104) (L := 2) (X18_b hc hk hl hm hx hy f) (by decide) (by decide) (by decide) (by decide) (by decide) (by decide) (by decide) (by decide)).1
theorem X17_b : okE (b17 c k l m a b x y) := e_div (bd_ri (X16_b hc hk hl hm hx hy f) (by decide)) (X10r hc hk hl hm hx hy f) (X10p hc hk hl hm hx hy f)
theorem X17r_b (e : z0 (b17 c k l m a b x y) = true) : Ri (b17 c k l m a b x y) := r_div (bd_ri (X16_b hc hk hl hm hx hy f) (by decide)) (X10r hc hk hl hm hx hy f) (z0e e)
theorem X26_b (e : z0 (b17 c k l m a b x y) = true) : okE (b26 c k l m a b x y) := e_mul (X13r hc hk hl hm hx hy f) (X17r_b hc hk hl hm hx hy f e)
theorem X28_b (e : z0 (b17 c k l m a b x y) = true) (e2 : z0 (b26 c k l m a b x y) = true) : okE (b28 c k l m a b x y) := e_add (bd_ri (X27_b hc hk hl hm hx hy f) (by decide)) (r_mul (X13r hc hk hl hm hx hy f) (X17r_b hc hk hl hm hx hy f e) (z0e e2))
theorem X29_b (e : z0 (b17 c k l m a b x y) = true) (e2 : z0 (b26 c k l m a b x y) = true) (e3 : z0 (b28 c k l m a b x y) = true) : okE (b29 c k l m a b x y) := e_div (r_add (bd_ri (X27_b hc hk hl hm hx hy f) (by decide)) (r_mul (X13r hc hk hl hm hx hy f) (X17r_b hc hk hl hm hx hy f e) (z0e e2)) (z0e e3)) (X12r hc hk hl hm hx hy f) (X12p hc hk hl hm hx hy f)
theorem X21_b : okE (b21 c k l m a b x y) := e_div (bd_ri (X20_b hc hk hl hm hx hy f) (by decide)) (X10r hc hk hl hm hx hy f) (X10p hc hk hl hm hx hy f)
theorem X21r_b (e : z0 (b21 c k l m a b x y) = true) : Ri (b21 c k l m a b x y) := r_div (bd_ri (X20_b hc hk hl hm hx hy f) (by decide)) (X10r hc hk hl hm hx hy f) (z0e e)
theorem X22_b (e : z0 (b21 c k l m a b x y) = true) : okE (b22 c k l m a b x y) := e_mul (X13r hc hk hl hm hx hy f) (X21r_b hc hk hl hm hx hy f e)
theorem X24_b (e : z0 (b21 c k l m a b x y) = true) (e2 : z0 (b22 c k l m a b x y) = true) : okE (b24 c k l m a b x y) := e_add (bd_ri (X23_b hc hk hl hm hx hy f) (by decide)) (r_mul (X13r hc hk hl hm hx hy f) (X21r_b hc hk hl hm hx hy f e) (z0e e2))
theorem X25_b (e : z0 (b21 c k l m a b x y) = true) (e2 : z0 (b22 c k l m a b x y) = true) (e3 : z0 (b24 c k l m a b x y) = true) : okE (b25 c k l m a b x y) := e_div (r_add (bd_ri (X23_b hc hk hl hm hx hy f) (by decide)) (r_mul (X13r hc hk hl hm hx hy f) (X21r_b hc hk hl hm hx hy f e) (z0e e2)) (z0e e3)) (X12r hc hk hl hm hx hy f) (X12p hc hk hl hm hx hy f)
end
end Go.Rd

/- What drafts give: ranges, wraps that are none. No program. -/
namespace Go.Rd
open Go Go.Eng Go.Ar

theorem tm_nn {a k : Int} (ha : 0 ≤ a) (hk : 0 < k) : 0 ≤ a.tmod k ∧ a.tmod k < k := by
  rw [Int.tmod_eq_emod_of_nonneg ha]
  exact ⟨Int.emod_nonneg _ (by omega), Int.emod_lt_of_pos _ hk⟩
theorem tm_bd (a : Int) {k : Int} (hk : 0 < k) : -k < a.tmod k ∧ a.tmod k < k := by
  rcases Int.le_total 0 a with h | h
  · have := tm_nn h hk; omega
  · have h2 := tm_nn (a := -a) (k := k) (by omega) hk
    rw [Int.neg_tmod] at h2; omega
theorem wz {z : Int} (z0 : -40000 ≤ z) (z1 : z ≤ 70000) : IntKind.i64.wrap z = z := i64w (by omega) (by omega)
theorem wk {k z : Int} (k0 : 0 ≤ k) (k1 : k ≤ 100000) (z0 : -40000 ≤ z) (z1 : z ≤ 70000) : IntKind.i64.wrap (k * IntKind.i64.wrap z) = k * z := by
  have h := mul_bd (a := k) (n := z) (M := 100000) (L := 70000) (by omega) k1 (by omega) (by omega)
  rw [wz z0 z1]
  exact i64w (by omega) (by omega)

structure Dr (z0 z1 z2 z3 z4 z5 z6 z7 z8 z9 z10 z11 z12 z13 z14 z15 z16 z17 z18 z19 z20 : Int) : Prop where
  r0 : 0 ≤ z0 ∧ z0 ≤ 255
  r1 : -32768 ≤ z1 ∧ z1 ≤ 32767
  r2 : -32768 ≤ z2 ∧ z2 ≤ 32767
  r3 : -32768 ≤ z3 ∧ z3 ≤ 32767
  r4 : -32768 ≤ z4 ∧ z4 ≤ 32767
  r5 : -128 ≤ z5 ∧ z5 ≤ 127
  r6 : -128 ≤ z6 ∧ z6 ≤ 127
  r7 : -128 ≤ z7 ∧ z7 ≤ 127
  r8 : -128 ≤ z8 ∧ z8 ≤ 127
  r9 : -128 ≤ z9 ∧ z9 ≤ 127
  r10 : -128 ≤ z10 ∧ z10 ≤ 127
  r11 : -128 ≤ z11 ∧ z11 ≤ 127
  r12 : -32768 ≤ z12 ∧ z12 ≤ 32767
  r13 : 0 ≤ z13 ∧ z13 ≤ 255
  r14 : 0 ≤ z14 ∧ z14 ≤ 255
  r15 : 0 ≤ z15 ∧ z15 ≤ 255
  r16 : -128 ≤ z16 ∧ z16 ≤ 127
  r17 : -128 ≤ z17 ∧ z17 ≤ 127
  r18 : -128 ≤ z18 ∧ z18 ≤ 127
  r19 : -128 ≤ z19 ∧ z19 ≤ 127
  r20 : -128 ≤ z20 ∧ z20 ≤ 127
structure Xd4 (x0 x1 x2 x3 : Int) : Prop where
  s0 : -32768 ≤ x0 ∧ x0 ≤ 32767
  s1 : -32768 ≤ x1 ∧ x1 ≤ 32767
  s2 : -32768 ≤ x2 ∧ x2 ≤ 32767
  s3 : -32768 ≤ x3 ∧ x3 ≤ 32767

/-- The hole of a draft. -/
theorem hole_ex {z14 : Int} (h : 0 ≤ z14 ∧ z14 ≤ 255) (z15 : Int) : ∃ HO, (bif (bif z15.tmod (4 : Int) == 1 then decide (100000 * z14 > 0) else false) then IntKind.i64.wrap ((100000 * z14).tdiv 4) else 0) = HO ∧ inSH (100000 * z14) HO := by
  refine ⟨_, rfl, ?_⟩
  cases h1 : (bif z15.tmod (4 : Int) == 1 then decide (100000 * z14 > 0) else false) with
  | false =>
    rw [cond_false]
    exact ⟨by omega, by omega, by omega, by omega, by omega⟩
  | true =>
    have h2 : 0 < z14 := by
      cases h3 : z15.tmod (4 : Int) == 1 with
      | false => rw [h3] at h1; cases h1
      | true => rw [h3] at h1; have := of_decide_eq_true h1; omega
    have h4 : (100000 * z14).tdiv 4 = 25000 * z14 := by
      rw [show 100000 * z14 = 4 * (25000 * z14) by omega, Int.mul_tdiv_cancel_left _ (by decide)]
    rw [h4, cond_true, i64w (by omega) (by omega)]
    exact ⟨by omega, by omega, by omega, by omega, by omega⟩

def mnI (a b : Int) : Int := if a < b then a else b
def mxI (a b : Int) : Int := if a > b then a else b
theorem mn_ok (a b : Int) : mnI a b ≤ a ∧ mnI a b ≤ b ∧ (mnI a b = a ∨ mnI a b = b) := by unfold mnI; split <;> omega
theorem mx_ok (a b : Int) : a ≤ mxI a b ∧ b ≤ mxI a b ∧ (mxI a b = a ∨ mxI a b = b) := by unfold mxI; split <;> omega
theorem pl_mn {a b : Int} (ha : -32768 ≤ a ∧ a ≤ 32767) (hb : -32768 ≤ b ∧ b ≤ 32767) : IntKind.i64.wrap ((if IntKind.i64.wrap a < IntKind.i64.wrap b then IntKind.i64.wrap a else IntKind.i64.wrap b) * 16777216) = mnI a b * 16777216 := by
  rw [wz (z := a) (by omega) (by omega), wz (z := b) (by omega) (by omega)]
  have := mn_ok a b
  exact i64w (n := mnI a b * 16777216) (by omega) (by omega)
theorem pl_mx {a b : Int} (ha : -32768 ≤ a ∧ a ≤ 32767) (hb : -32768 ≤ b ∧ b ≤ 32767) : IntKind.i64.wrap ((if IntKind.i64.wrap a > IntKind.i64.wrap b then IntKind.i64.wrap a else IntKind.i64.wrap b) * 16777216) = mxI a b * 16777216 := by
  rw [wz (z := a) (by omega) (by omega), wz (z := b) (by omega) (by omega)]
  have := mx_ok a b
  exact i64w (n := mxI a b * 16777216) (by omega) (by omega)

theorem film_in {e : Int} (h : 0 ≤ e ∧ e ≤ 255) : inF (IntKind.i64.wrap (13000000 + IntKind.i64.wrap (50000 * IntKind.i64.wrap e))) ((IntKind.i64.wrap e).tmod 7) (IntKind.i64.wrap (1 + (IntKind.i64.wrap e).tmod 5)) := by
  have a := tm_nn h.1 (show (0 : Int) < 7 by decide)
  have b := tm_nn h.1 (show (0 : Int) < 5 by decide)
  rw [wk (by omega) (by omega) (by omega) (by omega), wz (z := e) (by omega) (by omega), i64w (by omega) (by omega), i64w (by omega) (by omega)]
  exact ⟨by omega, by omega, by omega⟩

def glassB : Nat → ByteArray
  | 1 => ⟨#[66, 75, 55]⟩
  | 2 => ⟨#[83, 70, 45, 49]⟩
  | 3 => ⟨#[77, 73, 82, 82, 79, 82]⟩
  | 4 => ⟨#[102, 95, 50]⟩
  | _ => ⟨#[]⟩
end Go.Rd

/- Smaller spans have smaller sags and slopes. No program text. -/
namespace Go.Rd
open Go Go.Eng Go.Ar

theorem sc_mo {s t : Sp} {n d : Int} (k : okSc n d) (w : Wi s t) (e : (xScaleS t.lo t.hi n d).e = 0) : (xScaleS s.lo s.hi n d).e = 0 ∧ Wi (xScaleS s.lo s.hi n d) (xScaleS t.lo t.hi n d) := by
  rw [sc_eq k] at e ⊢
  rw [sc_eq k]
  exact scale_mo n d w e
theorem wi_refl {s : Sp} (h : s.lo ≤ s.hi) : Wi s s := ⟨Int.le_refl _, h, Int.le_refl _⟩
theorem wi_one : Wi ⟨4294967296, 4294967296, 0⟩ ⟨4294967296, 4294967296, 0⟩ := wi_refl (by decide)
theorem wi_zero : Wi ⟨0, 0, 0⟩ ⟨0, 0, 0⟩ := wi_refl (by decide)

section
variable {c k a0 a1 a2 a3 a b x y a' b' x' y' : Int} (hc : inL c) (hk : inK k) (wx : Wi ⟨a', b', 0⟩ ⟨a, b, 0⟩) (wy : Wi ⟨x', y', 0⟩ ⟨x, y, 0⟩)
include hc hk wx wy
/-- The base of a smaller span. -/
structure BaseW (c k a b x y a' b' x' y' : Int) : Prop where
  f : BaseF c k a' b' x' y'
  w2 : Wi (s2 c k a' b' x' y') (s2 c k a b x y)
  w7 : Wi (s7 c k a' b' x' y') (s7 c k a b x y)
  w10 : Wi (s10 c k a' b' x' y') (s10 c k a b x y)
theorem base_mo (f : BaseF c k a b x y) : BaseW c k a b x y a' b' x' y' := by
  obtain ⟨⟨e0, e1, e2, e3, e4, e5, e6⟩, p, e7, e8, e9, e10⟩ := f
  obtain ⟨q0, w0⟩ := sqr_mo wx (z0e e0)
  obtain ⟨q1, w1⟩ := sqr_mo wy (z0e e1)
  obtain ⟨q2, w2⟩ := add_mo w0 w1 (z0e e2)
  obtain ⟨q3, w3⟩ := sc_mo (sc_c hc) w2 (z0e e3)
  obtain ⟨q4, w4⟩ := sc_mo (sc_c hc) w3 (z0e e4)
  obtain ⟨q5, w5⟩ := sc_mo (sc_k hk) w4 (z0e e5)
  obtain ⟨q6, w6⟩ := sub_mo wi_one w5 (z0e e6)
  obtain ⟨q7, w7⟩ := sqrt_mo w6 (z0e e7)
  obtain ⟨q8, w8⟩ := add_mo w3 wi_zero (z0e e8)
  obtain ⟨q9, w9⟩ := add_mo wi_one w7 (z0e e9)
  obtain ⟨q10, w10⟩ := div_mo w8 w9 (z0e e10)
  exact ⟨⟨⟨zt q0, zt q1, zt q2, zt q3, zt q4, zt q5, zt q6⟩, Int.lt_of_lt_of_le p w6.lo, zt q7, zt q8, zt q9, zt q10⟩, w2, w7, w10⟩
variable (i0 : inL a0) (i1 : inL a1) (i2 : inL a2) (i3 : inL a3)
include i0 i1 i2 i3
theorem sag_mo (g : (sagS c k a0 a1 a2 a3 a b x y).e = 0) : (sagS c k a0 a1 a2 a3 a' b' x' y').e = 0 ∧ Wi (sagS c k a0 a1 a2 a3 a' b' x' y') (sagS c k a0 a1 a2 a3 a b x y) := by
  have C := sag_c g
  have f := sag_base g
  have m := base_mo hc hk wx wy f
  obtain ⟨⟨h0, h1, h2, h3, h4, h5, h6⟩, p, h7, h8, h9, h10⟩ := m.f
  have B : sagB c k a' b' x' y' = true := by
    unfold sagB sagH0
    rw [h0, h1, h2, h3, h4, h5, h6, decide_eq_false (show ¬ (s6 c k a' b' x' y').lo ≤ 0 by omega), h7, h8, h9, h10]
    rfl
  have CB := C
  unfold sagC at CB
  rw [Bool.and_eq_true] at CB
  cases A : asp a0 a1 a2 a3 with
  | false =>
    have C' : sagC c k a0 a1 a2 a3 a' b' x' y' = true := by unfold sagC; rw [B, A]; rfl
    unfold sagS
    rw [C, C', A]
    exact ⟨rfl, m.w10.lo, m.w10.le, m.w10.hi⟩
  | true =>
    rw [A] at CB
    have E := CB.2
    unfold sagE at E
    simp only [cond_true, Bool.and_eq_true] at E
    obtain ⟨⟨⟨_, _, _, u⟩, ⟨f0, f1, f2, f3⟩, v1⟩, v2, v3, v4⟩ := E
    obtain ⟨p0, x0⟩ := sc_mo sc_h m.w2 (z0e u)
    have r : ∀ {n : Int}, inL n → z0 (ca n) = true → Wi (ca n) (ca n) := fun hn e => wi_refl (RCA hn e).le
    obtain ⟨p1, x1⟩ := evalS_mo x0 (r i0 f0) (r i1 f1) (r i2 f2) (r i3 f3) (z0e v1)
    obtain ⟨p2, x2⟩ := sqr_mo x0 (z0e v2)
    obtain ⟨p3, x3⟩ := mul_mo x2 x1 (z0e v3)
    obtain ⟨p4, x4⟩ := add_mo m.w10 x3 (z0e v4)
    have C' : sagC c k a0 a1 a2 a3 a' b' x' y' = true := by
      unfold sagC sagE
      rw [B, A, h0, h1, h2, f0, f1, f2, f3, show z0 (u0 c k a' b' x' y') = true from zt p0, show z0 (u1 c k a0 a1 a2 a3 a' b' x' y') = true from zt p1, show z0 (u2 c k a' b' x' y') = true from zt p2, show z0 (u3 c k a0 a1 a2 a3 a' b' x' y') = true from zt p3, show z0 (u4 c k a0 a1 a2 a3 a' b' x' y') = true from zt p4]
      rfl
    unfold sagS
    rw [C, C', A]
    exact ⟨rfl, x4.lo, x4.le, x4.hi⟩
end

def slpW (g : Int) (p : Bool) (u : Sp) : Sp := ⟨tw1 g p u.lo, tw1 g p u.hi, 0⟩
theorem tw_0 {g : Int} {p : Bool} (h : twE g p = 0) : g = 0 ∧ p = true := by
  unfold twE t1 at h
  rcases Decidable.em (g = 0) with e | e
  · subst e
    cases p with
    | true => exact ⟨rfl, rfl⟩
    | false => cases h
  · have q : (g != 0) = true := by simpa using e
    rw [q] at h
    exact absurd h e
theorem tw_of {p : Bool} (h : p = true) (v : Int) : twE 0 p = 0 ∧ tw1 0 p v = v := by subst h; exact ⟨rfl, rfl⟩
section
variable {c k a0 a1 a2 a3 a b x y a' b' x' y' : Int} (hc : inL c) (hk : inK k) (hx : okSp a b = true) (hy : okSp x y = true) (wx : Wi ⟨a', b', 0⟩ ⟨a, b, 0⟩) (wy : Wi ⟨x', y', 0⟩ ⟨x, y, 0⟩) (i0 : inL a0) (i1 : inL a1) (i2 : inL a2) (i3 : inL a3)
include hc hk hx hy wx wy i0 i1 i2 i3
theorem slp_mo (g : (sagS c k a0 a1 a2 a3 a b x y).e = 0) (C : slC c k a0 a1 a2 a3 a b x y = true) : slC c k a0 a1 a2 a3 a' b' x' y' = true ∧ Wi (slU c k a0 a1 a2 a3 a' b' x' y') (slU c k a0 a1 a2 a3 a b x y) ∧ Wi (slV c k a0 a1 a2 a3 a' b' x' y') (slV c k a0 a1 a2 a3 a b x y) := by
  have f := sag_base g
  have m := base_mo hc hk wx wy f
  have hB : slB c k a' b' x' y' = true := by
    unfold slB; rw [m.f.h.2.2.1, m.f.h8, m.f.h9, m.f.h10]; rfl
  obtain ⟨_, t13⟩ := sc_mo (sc_c hc) wx (cur_0 hx hc).1
  obtain ⟨_, t11⟩ := sc_mo (sc_c hc) wy (cur_0 hy hc).1
  cases A : asp a0 a1 a2 a3 with
  | false =>
    unfold slC at C
    rw [A] at C
    unfold slP at C
    simp only [cond_false, Bool.and_eq_true] at C
    obtain ⟨⟨_, e14⟩, _, e12⟩ := C
    obtain ⟨q14, w14⟩ := div_mo t13 m.w7 (z0e e14)
    obtain ⟨q12, w12⟩ := div_mo t11 m.w7 (z0e e12)
    unfold slC slU slV
    rw [A]
    refine ⟨?_, w14, w12⟩
    show slP c k a' b' x' y' = true
    unfold slP
    rw [hB, show z0 (s14 c k a' b' x' y') = true from zt q14, show z0 (s12 c k a' b' x' y') = true from zt q12]; rfl
  | true =>
    unfold slC at C
    rw [A] at C
    unfold slA slE at C
    simp only [cond_true, Bool.and_eq_true] at C
    obtain ⟨⟨_, e14, ⟨e2, e21⟩, e22, e23, e24⟩, _, e12, _, _, e25, e26⟩ := C
    have u := sag_even g A
    obtain ⟨p0, x0⟩ := sc_mo sc_h m.w2 (z0e u)
    obtain ⟨q14, w14⟩ := div_mo t13 m.w7 (z0e e14)
    obtain ⟨q12, w12⟩ := div_mo t11 m.w7 (z0e e12)
    obtain ⟨p1, x1⟩ := evalS_mo x0 (wi_refl (cb_0 i0 (m := 2) (by decide)).2.le) (wi_refl (cb_0 i1 (m := 3) (by decide)).2.le) (wi_refl (cb_0 i2 (m := 4) (by decide)).2.le) (wi_refl (cb_0 i3 (m := 5) (by decide)).2.le) (z0e e21)
    obtain ⟨p2, x2⟩ := mul_mo x0 x1 (z0e e22)
    obtain ⟨_, xf⟩ := sc_mo (okSc_of (n := 1) (d := 50) (M := 1) (by decide) (by decide)) wx (fif_0 hx).1
    obtain ⟨_, yf⟩ := sc_mo (okSc_of (n := 1) (d := 50) (M := 1) (by decide) (by decide)) wy (fif_0 hy).1
    obtain ⟨p3, x3⟩ := mul_mo xf x2 (z0e e23)
    obtain ⟨p4, x4⟩ := add_mo w14 x3 (z0e e24)
    obtain ⟨p5, x5⟩ := mul_mo yf x2 (z0e e25)
    obtain ⟨p6, x6⟩ := add_mo w12 x5 (z0e e26)
    unfold slC slU slV
    rw [A]
    refine ⟨?_, x4, x6⟩
    show slA c k a0 a1 a2 a3 a' b' x' y' = true
    unfold slA slE
    rw [hB, m.f.h.2.2.1, show z0 (s14 c k a' b' x' y') = true from zt q14, show z0 (s12 c k a' b' x' y') = true from zt q12, show z0 (q1 c k a0 a1 a2 a3 a' b' x' y') = true from zt p1, show z0 (q2 c k a0 a1 a2 a3 a' b' x' y') = true from zt p2, show z0 (q3 c k a0 a1 a2 a3 a' b' x' y') = true from zt p3, show z0 (q4 c k a0 a1 a2 a3 a' b' x' y') = true from zt p4, show z0 (q5 c k a0 a1 a2 a3 a' b' x' y') = true from zt p5, show z0 (q6 c k a0 a1 a2 a3 a' b' x' y') = true from zt p6]
    rfl
end
section
variable {c k l m a b x y a' b' x' y' : Int} (hc : inL c) (hk : inK k) (hl : inL l) (hm : inK m) (hx : okSp a b = true) (hy : okSp x y = true) (wx : Wi ⟨a', b', 0⟩ ⟨a, b, 0⟩) (wy : Wi ⟨x', y', 0⟩ ⟨x, y, 0⟩)
include hc hk hl hm hx hy wx wy
theorem bic_mo (g : (sagX c k l m a b x y).e = 0) : ((sagX c k l m a' b' x' y').e = 0 ∧ Wi (sagX c k l m a' b' x' y') (sagX c k l m a b x y)) ∧
    (slX c k l m a b x y = true → slX c k l m a' b' x' y' = true ∧ Wi (b29 c k l m a' b' x' y') (b29 c k l m a b x y) ∧ Wi (b25 c k l m a' b' x' y') (b25 c k l m a b x y)) := by
  have f := sagX_base g
  obtain ⟨q0, w0⟩ := sqr_mo wx (z0e f.e0)
  obtain ⟨q1, w1⟩ := sc_mo (sc_c hl) w0 (z0e f.e1)
  obtain ⟨q2, w2⟩ := sqr_mo wy (z0e f.e2)
  obtain ⟨q3, w3⟩ := sc_mo (sc_c hc) w2 (z0e f.e3)
  obtain ⟨q4, w4⟩ := sc_mo (sc_c hl) w1 (z0e f.e4)
  obtain ⟨q5, w5⟩ := sc_mo (sc_c hc) w3 (z0e f.e5)
  obtain ⟨q6, w6⟩ := sc_mo (sc_k hm) w4 (z0e f.e6)
  obtain ⟨q7, w7⟩ := sc_mo (sc_k hk) w5 (z0e f.e7)
  obtain ⟨q8, w8⟩ := add_mo w6 w7 (z0e f.e8)
  obtain ⟨q9, w9⟩ := sub_mo wi_one w8 (z0e f.e9)
  obtain ⟨q10, w10⟩ := sqrt_mo w9 (z0e f.e10)
  obtain ⟨q11, w11⟩ := add_mo w1 w3 (z0e f.e11)
  obtain ⟨q12, w12⟩ := add_mo wi_one w10 (z0e f.e12)
  obtain ⟨q13, w13⟩ := div_mo w11 w12 (z0e f.e13)
  have p : 0 < (b9 c k l m a' b' x' y').lo := Int.lt_of_lt_of_le f.p w9.lo
  have h8 : z0 (b8 c k l m a' b' x' y') = true := zt q8
  have h11 : z0 (b11 c k l m a' b' x' y') = true := zt q11
  have h12 : z0 (b12 c k l m a' b' x' y') = true := zt q12
  have h13 : z0 (b13 c k l m a' b' x' y') = true := zt q13
  have C' : sagXC c k l m a' b' x' y' = true := by
    unfold sagXC sagX0
    rw [show z0 (b0 c k l m a' b' x' y') = true from zt q0, show z0 (b1 c k l m a' b' x' y') = true from zt q1, show z0 (b2 c k l m a' b' x' y') = true from zt q2, show z0 (b3 c k l m a' b' x' y') = true from zt q3, show z0 (b4 c k l m a' b' x' y') = true from zt q4, show z0 (b5 c k l m a' b' x' y') = true from zt q5, show z0 (b6 c k l m a' b' x' y') = true from zt q6, show z0 (b7 c k l m a' b' x' y') = true from zt q7, h8, show z0 (b9 c k l m a' b' x' y') = true from zt q9, decide_eq_false (show ¬ (b9 c k l m a' b' x' y').lo ≤ 0 by omega), show z0 (b10 c k l m a' b' x' y') = true from zt q10, h11, h12, h13]
    rfl
  have C : sagXC c k l m a b x y = true := by
    unfold sagXC sagX0
    rw [f.e0, f.e1, f.e2, f.e3, f.e4, f.e5, f.e6, f.e7, f.e8, f.e9, decide_eq_false (show ¬ (b9 c k l m a b x y).lo ≤ 0 by have := f.p; omega), f.e10, f.e11, f.e12, f.e13]
    rfl
  refine ⟨?_, fun S => ?_⟩
  · unfold sagX
    rw [C, C']
    exact ⟨rfl, w13.lo, w13.le, w13.hi⟩
  · unfold slX slXB at S ⊢
    simp only [Bool.and_eq_true] at S
    obtain ⟨⟨_, e17, e26, e28, _, e29⟩, _, e21, e22, e24, _, e25⟩ := S
    obtain ⟨_, w14⟩ := sc_mo (sc_c hl) wx (X14_b hc hk hl hm hx hy f).e
    obtain ⟨_, w15⟩ := sc_mo (sc_c hl) w14 (X15_b hc hk hl hm hx hy f).e
    obtain ⟨_, w16⟩ := sc_mo (sc_k hm) w15 (X16_b hc hk hl hm hx hy f).e
    obtain ⟨q17, w17⟩ := div_mo w16 w10 (z0e e17)
    obtain ⟨q26, w26⟩ := mul_mo w13 w17 (z0e e26)
    obtain ⟨_, w27⟩ := sc_mo (okSc_of (n := 2) (d := 1) (M := 2) (by decide) (by decide)) w14 (X27_b hc hk hl hm hx hy f).e
    obtain ⟨q28, w28⟩ := add_mo w27 w26 (z0e e28)
    obtain ⟨q29, w29⟩ := div_mo w28 w12 (z0e e29)
    obtain ⟨_, w18⟩ := sc_mo (sc_c hc) wy (X18_b hc hk hl hm hx hy f).e
    obtain ⟨_, w19⟩ := sc_mo (sc_c hc) w18 (X19_b hc hk hl hm hx hy f).e
    obtain ⟨_, w20⟩ := sc_mo (sc_k hk) w19 (X20_b hc hk hl hm hx hy f).e
    obtain ⟨q21, w21⟩ := div_mo w20 w10 (z0e e21)
    obtain ⟨q22, w22⟩ := mul_mo w13 w21 (z0e e22)
    obtain ⟨_, w23⟩ := sc_mo (okSc_of (n := 2) (d := 1) (M := 2) (by decide) (by decide)) w18 (X23_b hc hk hl hm hx hy f).e
    obtain ⟨q24, w24⟩ := add_mo w23 w22 (z0e e24)
    obtain ⟨q25, w25⟩ := div_mo w24 w12 (z0e e25)
    refine ⟨?_, w29, w25⟩
    rw [h8, h11, h12, h13, show z0 (b17 c k l m a' b' x' y') = true from zt q17, show z0 (b26 c k l m a' b' x' y') = true from zt q26, show z0 (b28 c k l m a' b' x' y') = true from zt q28, show z0 (b29 c k l m a' b' x' y') = true from zt q29, show z0 (b21 c k l m a' b' x' y') = true from zt q21, show z0 (b22 c k l m a' b' x' y') = true from zt q22, show z0 (b24 c k l m a' b' x' y') = true from zt q24, show z0 (b25 c k l m a' b' x' y') = true from zt q25]
    rfl
end
end Go.Rd
namespace Go.Rd
open Go Go.Eng Go.Ar
/-- A surface's sag and slopes at a span. -/
structure Sl where
  s : Sp
  f : Int
  u : Sp
  v : Sp
def slSt (c k a0 a1 a2 a3 a b x y : Int) : Sl := ⟨sagS c k a0 a1 a2 a3 a b x y, twE (sagS c k a0 a1 a2 a3 a b x y).e (slC c k a0 a1 a2 a3 a b x y), slpW (sagS c k a0 a1 a2 a3 a b x y).e (slC c k a0 a1 a2 a3 a b x y) (slU c k a0 a1 a2 a3 a b x y), slpW (sagS c k a0 a1 a2 a3 a b x y).e (slC c k a0 a1 a2 a3 a b x y) (slV c k a0 a1 a2 a3 a b x y)⟩
def slBi (c k l m a b x y : Int) : Sl := ⟨sagX c k l m a b x y, twE (sagX c k l m a b x y).e (slX c k l m a b x y), slpW (sagX c k l m a b x y).e (slX c k l m a b x y) (b29 c k l m a b x y), slpW (sagX c k l m a b x y).e (slX c k l m a b x y) (b25 c k l m a b x y)⟩
/-- What the law SurfaceWithin asks. -/
def insd (a b : Sp) : Bool := bif decide (b.lo ≤ a.lo) then bif decide (a.lo ≤ a.hi) then decide (a.hi ≤ b.hi) else false else false
def wR (W P : Sl) : Bool := bif W.f == 0 then bif P.f != 0 then true else bif !insd P.u W.u then true else !insd P.v W.v else false
def wF (W P : Sl) : Bool := bif W.s.e == 0 then bif P.s.e != 0 then true else bif !insd P.s W.s then true else wR W P else wR W P
def wV (W P Q : Sl) : Bool := bif !wF W P && !wF W Q then true else false
structure Mn (W P : Sl) : Prop where
  s : W.s.e = 0 → P.s.e = 0 ∧ Wi P.s W.s
  f : W.f = 0 → P.f = 0 ∧ Wi P.u W.u ∧ Wi P.v W.v
theorem insd_t {a b : Sp} (w : Wi a b) : insd a b = true := by
  unfold insd; rw [decide_eq_true w.lo, decide_eq_true w.le, decide_eq_true w.hi]; rfl
theorem wR_f {W P : Sl} (m : Mn W P) : wR W P = false := by
  unfold wR
  rcases Decidable.em (W.f = 0) with e | e
  · obtain ⟨h1, h2, h3⟩ := m.f e
    rw [e, h1, insd_t h2, insd_t h3]; rfl
  · rw [beq0 e]; rfl
theorem wF_f {W P : Sl} (m : Mn W P) : wF W P = false := by
  unfold wF
  rw [wR_f m]
  rcases Decidable.em (W.s.e = 0) with e | e
  · obtain ⟨h1, h2⟩ := m.s e
    rw [e, h1, insd_t h2]; rfl
  · rw [beq0 e]; rfl
theorem wV_t {W P Q : Sl} (m : Mn W P) (n : Mn W Q) : wV W P Q = true := by unfold wV; rw [wF_f m, wF_f n]; rfl
theorem mn_st {c k a0 a1 a2 a3 a b x y a' b' x' y' : Int} (hc : inL c) (hk : inK k) (i0 : inL a0) (i1 : inL a1) (i2 : inL a2) (i3 : inL a3) (hx : okSp a b = true) (hy : okSp x y = true) (wx : Wi ⟨a', b', 0⟩ ⟨a, b, 0⟩) (wy : Wi ⟨x', y', 0⟩ ⟨x, y, 0⟩) : Mn (slSt c k a0 a1 a2 a3 a b x y) (slSt c k a0 a1 a2 a3 a' b' x' y') := by
  refine ⟨fun e => sag_mo hc hk wx wy i0 i1 i2 i3 e, fun e => ?_⟩
  obtain ⟨g, C⟩ := tw_0 (show twE (sagS c k a0 a1 a2 a3 a b x y).e (slC c k a0 a1 a2 a3 a b x y) = 0 from e)
  obtain ⟨h1, h2, h3⟩ := slp_mo hc hk hx hy wx wy i0 i1 i2 i3 g C
  have g' := (sag_mo hc hk wx wy i0 i1 i2 i3 g).1
  unfold slSt slpW
  simp only [g, g', (tw_of C _).2, (tw_of h1 _).2]
  exact ⟨(tw_of h1 0).1, ⟨h2.lo, h2.le, h2.hi⟩, ⟨h3.lo, h3.le, h3.hi⟩⟩
theorem mn_bi {c k l m a b x y a' b' x' y' : Int} (hc : inL c) (hk : inK k) (hl : inL l) (hm : inK m) (hx : okSp a b = true) (hy : okSp x y = true) (wx : Wi ⟨a', b', 0⟩ ⟨a, b, 0⟩) (wy : Wi ⟨x', y', 0⟩ ⟨x, y, 0⟩) : Mn (slBi c k l m a b x y) (slBi c k l m a' b' x' y') := by
  refine ⟨fun e => (bic_mo hc hk hl hm hx hy wx wy e).1, fun e => ?_⟩
  obtain ⟨g, C⟩ := tw_0 (show twE (sagX c k l m a b x y).e (slX c k l m a b x y) = 0 from e)
  obtain ⟨h1, h2, h3⟩ := (bic_mo hc hk hl hm hx hy wx wy g).2 C
  have g' := (bic_mo hc hk hl hm hx hy wx wy g).1.1
  unfold slBi slpW
  simp only [g, g', (tw_of C _).2, (tw_of h1 _).2]
  exact ⟨(tw_of h1 0).1, ⟨h2.lo, h2.le, h2.hi⟩, ⟨h3.lo, h3.le, h3.hi⟩⟩
/-- A point in a span of 1/256 mm. -/
theorem pt_in {a b p : Int} (h : mnI a b ≤ p ∧ p ≤ mxI a b) : Wi ⟨p * 16777216, p * 16777216, 0⟩ ⟨mnI a b * 16777216, mxI a b * 16777216, 0⟩ := ⟨by show mnI a b * 16777216 ≤ p * 16777216; omega, Int.le_refl _, by show p * 16777216 ≤ mxI a b * 16777216; omega⟩
theorem ar_ok {a b : Int} (ha : -32768 ≤ a ∧ a ≤ 32767) (hb : -32768 ≤ b ∧ b ≤ 32767) : okSp (mnI a b * 16777216) (mxI a b * 16777216) = true := by
  have := mn_ok a b
  have := mx_ok a b
  exact okSp_iff.2 ⟨by omega, by omega, by omega⟩
theorem pt_ok {a : Int} (ha : -32768 ≤ a ∧ a ≤ 32767) : okSp (a * 16777216) (a * 16777216) = true := okSp_iff.2 ⟨by omega, by omega, by omega⟩
theorem wpt {a : Int} (ha : -32768 ≤ a ∧ a ≤ 32767) : IntKind.i64.wrap (IntKind.i64.wrap a * 16777216) = a * 16777216 := by
  have e := wz (z := a) (by omega) (by omega)
  rw [e]; exact i64w (by omega) (by omega)
end Go.Rd

/- Printed by swdefs.py: the conditions of SurfaceWithin's runs, kind by kind, and what they reckon. No program. -/
namespace Go.Rd
open Go Go.Eng Go.Ar
def wa0 (z14 : Int) : Int := IntKind.i64.wrap (100000 * IntKind.i64.wrap z14)
def wa1 (z14 z15 : Int) : Bool := bif z15.tmod (4 : Int) == 1 then decide (wa0 z14 > 0) else false
def wa2 (z1 : Int) : Int := IntKind.i64.wrap (1000 * IntKind.i64.wrap z1)
def wa3 (z1 z14 z15 : Int) : Int := bif wa1 z14 z15 then wa2 z1 else wa2 z1
def wa4 (z3 : Int) : Int := IntKind.i64.wrap (1000 * IntKind.i64.wrap (z3.tmod 3000))
def wa5 (z3 z14 z15 : Int) : Int := bif wa1 z14 z15 then wa4 z3 else wa4 z3
def wa6 (z12 : Int) : Int := IntKind.i64.wrap (1000 * IntKind.i64.wrap (z12.tmod 20000))
def wa7 (x0 x2 : Int) : Int := IntKind.i64.wrap ((if IntKind.i64.wrap x2 < IntKind.i64.wrap x0 then IntKind.i64.wrap x2 else IntKind.i64.wrap x0) * 16777216)
def wa8 (x0 x2 : Int) : Int := IntKind.i64.wrap ((if IntKind.i64.wrap x2 > IntKind.i64.wrap x0 then IntKind.i64.wrap x2 else IntKind.i64.wrap x0) * 16777216)
def wa9 (x1 x3 : Int) : Int := IntKind.i64.wrap ((if IntKind.i64.wrap x3 < IntKind.i64.wrap x1 then IntKind.i64.wrap x3 else IntKind.i64.wrap x1) * 16777216)
def wa10 (x1 x3 : Int) : Int := IntKind.i64.wrap ((if IntKind.i64.wrap x3 > IntKind.i64.wrap x1 then IntKind.i64.wrap x3 else IntKind.i64.wrap x1) * 16777216)
def wa11 (x0 : Int) : Int := IntKind.i64.wrap (IntKind.i64.wrap x0 * 16777216)
def wa12 (x1 : Int) : Int := IntKind.i64.wrap (IntKind.i64.wrap x1 * 16777216)
def wa13 (z1 z3 z14 z15 x0 x1 x2 x3 : Int) : Int := (sagS (wa3 z1 z14 z15) (wa5 z3 z14 z15) 0 0 0 0 (wa7 x0 x2) (wa8 x0 x2) (wa9 x1 x3) (wa10 x1 x3)).e
def wa14 (z1 z3 z14 z15 x0 x1 : Int) : Int := (sagS (wa3 z1 z14 z15) (wa5 z3 z14 z15) 0 0 0 0 (wa11 x0) (wa11 x0) (wa12 x1) (wa12 x1)).e
def wa15 (z1 z3 z14 z15 x0 x1 x2 x3 : Int) : Int := (sagS (wa3 z1 z14 z15) (wa5 z3 z14 z15) 0 0 0 0 (wa7 x0 x2) (wa8 x0 x2) (wa9 x1 x3) (wa10 x1 x3)).lo
def wa16 (z1 z3 z14 z15 x0 x1 : Int) : Int := (sagS (wa3 z1 z14 z15) (wa5 z3 z14 z15) 0 0 0 0 (wa11 x0) (wa11 x0) (wa12 x1) (wa12 x1)).lo
def wa17 (z1 z3 z14 z15 x0 x1 : Int) : Int := (sagS (wa3 z1 z14 z15) (wa5 z3 z14 z15) 0 0 0 0 (wa11 x0) (wa11 x0) (wa12 x1) (wa12 x1)).hi
def wa18 (z1 z3 z14 z15 x0 x1 x2 x3 : Int) : Int := (sagS (wa3 z1 z14 z15) (wa5 z3 z14 z15) 0 0 0 0 (wa7 x0 x2) (wa8 x0 x2) (wa9 x1 x3) (wa10 x1 x3)).hi
def wa19 (z1 z3 z14 z15 x0 x1 x2 x3 : Int) : Bool := slC (wa3 z1 z14 z15) (wa5 z3 z14 z15) 0 0 0 0 (wa7 x0 x2) (wa8 x0 x2) (wa9 x1 x3) (wa10 x1 x3)
def wa20 (z1 z3 z14 z15 x0 x1 : Int) : Bool := slC (wa3 z1 z14 z15) (wa5 z3 z14 z15) 0 0 0 0 (wa11 x0) (wa11 x0) (wa12 x1) (wa12 x1)
def wa21 (z1 z3 z14 z15 x0 x1 x2 x3 : Int) : Int := tw1 (wa13 z1 z3 z14 z15 x0 x1 x2 x3) (wa19 z1 z3 z14 z15 x0 x1 x2 x3) (slU (wa3 z1 z14 z15) (wa5 z3 z14 z15) 0 0 0 0 (wa7 x0 x2) (wa8 x0 x2) (wa9 x1 x3) (wa10 x1 x3)).lo
def wa22 (z1 z3 z14 z15 x0 x1 : Int) : Int := tw1 (wa14 z1 z3 z14 z15 x0 x1) (wa20 z1 z3 z14 z15 x0 x1) (slU (wa3 z1 z14 z15) (wa5 z3 z14 z15) 0 0 0 0 (wa11 x0) (wa11 x0) (wa12 x1) (wa12 x1)).lo
def wa23 (z1 z3 z14 z15 x0 x1 : Int) : Int := tw1 (wa14 z1 z3 z14 z15 x0 x1) (wa20 z1 z3 z14 z15 x0 x1) (slU (wa3 z1 z14 z15) (wa5 z3 z14 z15) 0 0 0 0 (wa11 x0) (wa11 x0) (wa12 x1) (wa12 x1)).hi
def wa24 (z1 z3 z14 z15 x0 x1 x2 x3 : Int) : Int := tw1 (wa13 z1 z3 z14 z15 x0 x1 x2 x3) (wa19 z1 z3 z14 z15 x0 x1 x2 x3) (slU (wa3 z1 z14 z15) (wa5 z3 z14 z15) 0 0 0 0 (wa7 x0 x2) (wa8 x0 x2) (wa9 x1 x3) (wa10 x1 x3)).hi
def wa25 (z1 z3 z14 z15 x0 x1 x2 x3 : Int) : Int := tw1 (wa13 z1 z3 z14 z15 x0 x1 x2 x3) (wa19 z1 z3 z14 z15 x0 x1 x2 x3) (slV (wa3 z1 z14 z15) (wa5 z3 z14 z15) 0 0 0 0 (wa7 x0 x2) (wa8 x0 x2) (wa9 x1 x3) (wa10 x1 x3)).lo
def wa26 (z1 z3 z14 z15 x0 x1 : Int) : Int := tw1 (wa14 z1 z3 z14 z15 x0 x1) (wa20 z1 z3 z14 z15 x0 x1) (slV (wa3 z1 z14 z15) (wa5 z3 z14 z15) 0 0 0 0 (wa11 x0) (wa11 x0) (wa12 x1) (wa12 x1)).lo
def wa27 (z1 z3 z14 z15 x0 x1 : Int) : Int := tw1 (wa14 z1 z3 z14 z15 x0 x1) (wa20 z1 z3 z14 z15 x0 x1) (slV (wa3 z1 z14 z15) (wa5 z3 z14 z15) 0 0 0 0 (wa11 x0) (wa11 x0) (wa12 x1) (wa12 x1)).hi
def wa28 (z1 z3 z14 z15 x0 x1 x2 x3 : Int) : Int := tw1 (wa13 z1 z3 z14 z15 x0 x1 x2 x3) (wa19 z1 z3 z14 z15 x0 x1 x2 x3) (slV (wa3 z1 z14 z15) (wa5 z3 z14 z15) 0 0 0 0 (wa7 x0 x2) (wa8 x0 x2) (wa9 x1 x3) (wa10 x1 x3)).hi
def wa29 (z1 z3 z14 z15 x0 x1 x2 x3 : Int) : Bool := bif twE (wa13 z1 z3 z14 z15 x0 x1 x2 x3) (wa19 z1 z3 z14 z15 x0 x1 x2 x3) == 0 then bif twE (wa14 z1 z3 z14 z15 x0 x1) (wa20 z1 z3 z14 z15 x0 x1) != 0 then true else bif !bif decide (wa21 z1 z3 z14 z15 x0 x1 x2 x3 ≤ wa22 z1 z3 z14 z15 x0 x1) then bif decide (wa22 z1 z3 z14 z15 x0 x1 ≤ wa23 z1 z3 z14 z15 x0 x1) then decide (wa23 z1 z3 z14 z15 x0 x1 ≤ wa24 z1 z3 z14 z15 x0 x1 x2 x3) else false else false then true else !bif decide (wa25 z1 z3 z14 z15 x0 x1 x2 x3 ≤ wa26 z1 z3 z14 z15 x0 x1) then bif decide (wa26 z1 z3 z14 z15 x0 x1 ≤ wa27 z1 z3 z14 z15 x0 x1) then decide (wa27 z1 z3 z14 z15 x0 x1 ≤ wa28 z1 z3 z14 z15 x0 x1 x2 x3) else false else false else false
def wa30 (z1 z3 z14 z15 x0 x1 x2 x3 : Int) : Bool := !bif wa13 z1 z3 z14 z15 x0 x1 x2 x3 == 0 then bif wa14 z1 z3 z14 z15 x0 x1 != 0 then true else bif !bif decide (wa15 z1 z3 z14 z15 x0 x1 x2 x3 ≤ wa16 z1 z3 z14 z15 x0 x1) then bif decide (wa16 z1 z3 z14 z15 x0 x1 ≤ wa17 z1 z3 z14 z15 x0 x1) then decide (wa17 z1 z3 z14 z15 x0 x1 ≤ wa18 z1 z3 z14 z15 x0 x1 x2 x3) else false else false then true else wa29 z1 z3 z14 z15 x0 x1 x2 x3 else wa29 z1 z3 z14 z15 x0 x1 x2 x3
def wa31 (x2 : Int) : Int := IntKind.i64.wrap (IntKind.i64.wrap x2 * 16777216)
def wa32 (x3 : Int) : Int := IntKind.i64.wrap (IntKind.i64.wrap x3 * 16777216)
def waN (z0 z1 z2 z3 z4 z5 z6 z7 z8 z9 z10 z11 z12 z13 z14 z15 z16 z17 z18 z19 z20 : Int) (gl : ByteArray) (g : Nat) (n x0 x1 x2 x3 : Int) : Prop := ((((z14 = z14 ∧ z13 = z13 ∧ z12 = z12 ∧ z3 = z3 ∧ z1 = z1) ∧ (IntKind.i64.wrap z13).tmod 5 = (g : Int)) ∧ (z0.tmod (8 : Int) == 4) = false ∧ (z0.tmod (8 : Int) == 5) = false ∧ (z0.tmod (8 : Int) == 6) = false ∧ (z0.tmod (8 : Int) == 7) = false) ∧ (x3 = x3 ∧ x1 = x1) ∧ (vStd (wa3 z1 z14 z15) (wa5 z3 z14 z15) 0 0 0 0 0 0 0 (bif wa1 z14 z15 then wa6 z12 else wa6 z12) (bif wa1 z14 z15 then gl else gl) (bif wa1 z14 z15 then wa0 z14 else wa0 z14) (bif wa1 z14 z15 then IntKind.i64.wrap ((wa0 z14).tdiv 4) else 0) ∧ okSp (wa7 x0 x2) (wa8 x0 x2) = true ∧ okSp (wa9 x1 x3) (wa10 x1 x3) = true) ∧ (vStd (wa3 z1 z14 z15) (wa5 z3 z14 z15) 0 0 0 0 0 0 0 (bif wa1 z14 z15 then wa6 z12 else wa6 z12) (bif wa1 z14 z15 then gl else gl) (bif wa1 z14 z15 then wa0 z14 else wa0 z14) (bif wa1 z14 z15 then IntKind.i64.wrap ((wa0 z14).tdiv 4) else 0) ∧ okSp (wa7 x0 x2) (wa8 x0 x2) = true ∧ okSp (wa9 x1 x3) (wa10 x1 x3) = true) ∧ (x1 = x1 ∧ (vStd (wa3 z1 z14 z15) (wa5 z3 z14 z15) 0 0 0 0 0 0 0 (bif wa1 z14 z15 then wa6 z12 else wa6 z12) (bif wa1 z14 z15 then gl else gl) (bif wa1 z14 z15 then wa0 z14 else wa0 z14) (bif wa1 z14 z15 then IntKind.i64.wrap ((wa0 z14).tdiv 4) else 0) ∧ okSp (wa11 x0) (wa11 x0) = true ∧ okSp (wa12 x1) (wa12 x1) = true) ∧ vStd (wa3 z1 z14 z15) (wa5 z3 z14 z15) 0 0 0 0 0 0 0 (bif wa1 z14 z15 then wa6 z12 else wa6 z12) (bif wa1 z14 z15 then gl else gl) (bif wa1 z14 z15 then wa0 z14 else wa0 z14) (bif wa1 z14 z15 then IntKind.i64.wrap ((wa0 z14).tdiv 4) else 0) ∧ okSp (wa11 x0) (wa11 x0) = true ∧ okSp (wa12 x1) (wa12 x1) = true) ∧ (wa30 z1 z3 z14 z15 x0 x1 x2 x3 = true → x3 = x3 ∧ (vStd (wa3 z1 z14 z15) (wa5 z3 z14 z15) 0 0 0 0 0 0 0 (bif wa1 z14 z15 then wa6 z12 else wa6 z12) (bif wa1 z14 z15 then gl else gl) (bif wa1 z14 z15 then wa0 z14 else wa0 z14) (bif wa1 z14 z15 then IntKind.i64.wrap ((wa0 z14).tdiv 4) else 0) ∧ okSp (wa31 x2) (wa31 x2) = true ∧ okSp (wa32 x3) (wa32 x3) = true) ∧ vStd (wa3 z1 z14 z15) (wa5 z3 z14 z15) 0 0 0 0 0 0 0 (bif wa1 z14 z15 then wa6 z12 else wa6 z12) (bif wa1 z14 z15 then gl else gl) (bif wa1 z14 z15 then wa0 z14 else wa0 z14) (bif wa1 z14 z15 then IntKind.i64.wrap ((wa0 z14).tdiv 4) else 0) ∧ okSp (wa31 x2) (wa31 x2) = true ∧ okSp (wa32 x3) (wa32 x3) = true))
def waV (z0 z1 z2 z3 z4 z5 z6 z7 z8 z9 z10 z11 z12 z13 z14 z15 z16 z17 z18 z19 z20 : Int) (gl : ByteArray) (g : Nat) (n x0 x1 x2 x3 : Int) : Bool := wV (slSt (wa3 z1 z14 z15) (wa5 z3 z14 z15) 0 0 0 0 (wa7 x0 x2) (wa8 x0 x2) (wa9 x1 x3) (wa10 x1 x3)) (slSt (wa3 z1 z14 z15) (wa5 z3 z14 z15) 0 0 0 0 (wa11 x0) (wa11 x0) (wa12 x1) (wa12 x1)) (slSt (wa3 z1 z14 z15) (wa5 z3 z14 z15) 0 0 0 0 (wa31 x2) (wa31 x2) (wa32 x3) (wa32 x3))
def wb0 (z14 : Int) : Int := IntKind.i64.wrap (100000 * IntKind.i64.wrap z14)
def wb1 (z14 z15 : Int) : Bool := bif z15.tmod (4 : Int) == 1 then decide (wb0 z14 > 0) else false
def wb2 (z1 : Int) : Int := IntKind.i64.wrap (1000 * IntKind.i64.wrap z1)
def wb3 (z1 z14 z15 : Int) : Int := bif wb1 z14 z15 then wb2 z1 else wb2 z1
def wb4 (z3 : Int) : Int := IntKind.i64.wrap (1000 * IntKind.i64.wrap (z3.tmod 3000))
def wb5 (z3 z14 z15 : Int) : Int := bif wb1 z14 z15 then wb4 z3 else wb4 z3
def wb6 (z5 : Int) : Int := IntKind.i64.wrap (1000 * IntKind.i64.wrap z5)
def wb7 (z6 : Int) : Int := IntKind.i64.wrap (1000 * IntKind.i64.wrap z6)
def wb8 (z7 : Int) : Int := IntKind.i64.wrap (1000 * IntKind.i64.wrap z7)
def wb9 (z8 : Int) : Int := IntKind.i64.wrap (1000 * IntKind.i64.wrap z8)
def wb10 (z12 : Int) : Int := IntKind.i64.wrap (1000 * IntKind.i64.wrap (z12.tmod 20000))
def wb11 (x0 x2 : Int) : Int := IntKind.i64.wrap ((if IntKind.i64.wrap x2 < IntKind.i64.wrap x0 then IntKind.i64.wrap x2 else IntKind.i64.wrap x0) * 16777216)
def wb12 (x0 x2 : Int) : Int := IntKind.i64.wrap ((if IntKind.i64.wrap x2 > IntKind.i64.wrap x0 then IntKind.i64.wrap x2 else IntKind.i64.wrap x0) * 16777216)
def wb13 (x1 x3 : Int) : Int := IntKind.i64.wrap ((if IntKind.i64.wrap x3 < IntKind.i64.wrap x1 then IntKind.i64.wrap x3 else IntKind.i64.wrap x1) * 16777216)
def wb14 (x1 x3 : Int) : Int := IntKind.i64.wrap ((if IntKind.i64.wrap x3 > IntKind.i64.wrap x1 then IntKind.i64.wrap x3 else IntKind.i64.wrap x1) * 16777216)
def wb15 (x0 : Int) : Int := IntKind.i64.wrap (IntKind.i64.wrap x0 * 16777216)
def wb16 (x1 : Int) : Int := IntKind.i64.wrap (IntKind.i64.wrap x1 * 16777216)
def wb17 (z1 z3 z5 z6 z7 z8 z14 z15 x0 x1 x2 x3 : Int) : Int := (sagS (wb3 z1 z14 z15) (wb5 z3 z14 z15) (wb6 z5) (wb7 z6) (wb8 z7) (wb9 z8) (wb11 x0 x2) (wb12 x0 x2) (wb13 x1 x3) (wb14 x1 x3)).e
def wb18 (z1 z3 z5 z6 z7 z8 z14 z15 x0 x1 : Int) : Int := (sagS (wb3 z1 z14 z15) (wb5 z3 z14 z15) (wb6 z5) (wb7 z6) (wb8 z7) (wb9 z8) (wb15 x0) (wb15 x0) (wb16 x1) (wb16 x1)).e
def wb19 (z1 z3 z5 z6 z7 z8 z14 z15 x0 x1 x2 x3 : Int) : Int := (sagS (wb3 z1 z14 z15) (wb5 z3 z14 z15) (wb6 z5) (wb7 z6) (wb8 z7) (wb9 z8) (wb11 x0 x2) (wb12 x0 x2) (wb13 x1 x3) (wb14 x1 x3)).lo
def wb20 (z1 z3 z5 z6 z7 z8 z14 z15 x0 x1 : Int) : Int := (sagS (wb3 z1 z14 z15) (wb5 z3 z14 z15) (wb6 z5) (wb7 z6) (wb8 z7) (wb9 z8) (wb15 x0) (wb15 x0) (wb16 x1) (wb16 x1)).lo
def wb21 (z1 z3 z5 z6 z7 z8 z14 z15 x0 x1 : Int) : Int := (sagS (wb3 z1 z14 z15) (wb5 z3 z14 z15) (wb6 z5) (wb7 z6) (wb8 z7) (wb9 z8) (wb15 x0) (wb15 x0) (wb16 x1) (wb16 x1)).hi
def wb22 (z1 z3 z5 z6 z7 z8 z14 z15 x0 x1 x2 x3 : Int) : Int := (sagS (wb3 z1 z14 z15) (wb5 z3 z14 z15) (wb6 z5) (wb7 z6) (wb8 z7) (wb9 z8) (wb11 x0 x2) (wb12 x0 x2) (wb13 x1 x3) (wb14 x1 x3)).hi
def wb23 (z1 z3 z5 z6 z7 z8 z14 z15 x0 x1 x2 x3 : Int) : Bool := slC (wb3 z1 z14 z15) (wb5 z3 z14 z15) (wb6 z5) (wb7 z6) (wb8 z7) (wb9 z8) (wb11 x0 x2) (wb12 x0 x2) (wb13 x1 x3) (wb14 x1 x3)
def wb24 (z1 z3 z5 z6 z7 z8 z14 z15 x0 x1 : Int) : Bool := slC (wb3 z1 z14 z15) (wb5 z3 z14 z15) (wb6 z5) (wb7 z6) (wb8 z7) (wb9 z8) (wb15 x0) (wb15 x0) (wb16 x1) (wb16 x1)
def wb25 (z1 z3 z5 z6 z7 z8 z14 z15 x0 x1 x2 x3 : Int) : Int := tw1 (wb17 z1 z3 z5 z6 z7 z8 z14 z15 x0 x1 x2 x3) (wb23 z1 z3 z5 z6 z7 z8 z14 z15 x0 x1 x2 x3) (slU (wb3 z1 z14 z15) (wb5 z3 z14 z15) (wb6 z5) (wb7 z6) (wb8 z7) (wb9 z8) (wb11 x0 x2) (wb12 x0 x2) (wb13 x1 x3) (wb14 x1 x3)).lo
def wb26 (z1 z3 z5 z6 z7 z8 z14 z15 x0 x1 : Int) : Int := tw1 (wb18 z1 z3 z5 z6 z7 z8 z14 z15 x0 x1) (wb24 z1 z3 z5 z6 z7 z8 z14 z15 x0 x1) (slU (wb3 z1 z14 z15) (wb5 z3 z14 z15) (wb6 z5) (wb7 z6) (wb8 z7) (wb9 z8) (wb15 x0) (wb15 x0) (wb16 x1) (wb16 x1)).lo
def wb27 (z1 z3 z5 z6 z7 z8 z14 z15 x0 x1 : Int) : Int := tw1 (wb18 z1 z3 z5 z6 z7 z8 z14 z15 x0 x1) (wb24 z1 z3 z5 z6 z7 z8 z14 z15 x0 x1) (slU (wb3 z1 z14 z15) (wb5 z3 z14 z15) (wb6 z5) (wb7 z6) (wb8 z7) (wb9 z8) (wb15 x0) (wb15 x0) (wb16 x1) (wb16 x1)).hi
def wb28 (z1 z3 z5 z6 z7 z8 z14 z15 x0 x1 x2 x3 : Int) : Int := tw1 (wb17 z1 z3 z5 z6 z7 z8 z14 z15 x0 x1 x2 x3) (wb23 z1 z3 z5 z6 z7 z8 z14 z15 x0 x1 x2 x3) (slU (wb3 z1 z14 z15) (wb5 z3 z14 z15) (wb6 z5) (wb7 z6) (wb8 z7) (wb9 z8) (wb11 x0 x2) (wb12 x0 x2) (wb13 x1 x3) (wb14 x1 x3)).hi
def wb29 (z1 z3 z5 z6 z7 z8 z14 z15 x0 x1 x2 x3 : Int) : Int := tw1 (wb17 z1 z3 z5 z6 z7 z8 z14 z15 x0 x1 x2 x3) (wb23 z1 z3 z5 z6 z7 z8 z14 z15 x0 x1 x2 x3) (slV (wb3 z1 z14 z15) (wb5 z3 z14 z15) (wb6 z5) (wb7 z6) (wb8 z7) (wb9 z8) (wb11 x0 x2) (wb12 x0 x2) (wb13 x1 x3) (wb14 x1 x3)).lo
def wb30 (z1 z3 z5 z6 z7 z8 z14 z15 x0 x1 : Int) : Int := tw1 (wb18 z1 z3 z5 z6 z7 z8 z14 z15 x0 x1) (wb24 z1 z3 z5 z6 z7 z8 z14 z15 x0 x1) (slV (wb3 z1 z14 z15) (wb5 z3 z14 z15) (wb6 z5) (wb7 z6) (wb8 z7) (wb9 z8) (wb15 x0) (wb15 x0) (wb16 x1) (wb16 x1)).lo
def wb31 (z1 z3 z5 z6 z7 z8 z14 z15 x0 x1 : Int) : Int := tw1 (wb18 z1 z3 z5 z6 z7 z8 z14 z15 x0 x1) (wb24 z1 z3 z5 z6 z7 z8 z14 z15 x0 x1) (slV (wb3 z1 z14 z15) (wb5 z3 z14 z15) (wb6 z5) (wb7 z6) (wb8 z7) (wb9 z8) (wb15 x0) (wb15 x0) (wb16 x1) (wb16 x1)).hi
def wb32 (z1 z3 z5 z6 z7 z8 z14 z15 x0 x1 x2 x3 : Int) : Int := tw1 (wb17 z1 z3 z5 z6 z7 z8 z14 z15 x0 x1 x2 x3) (wb23 z1 z3 z5 z6 z7 z8 z14 z15 x0 x1 x2 x3) (slV (wb3 z1 z14 z15) (wb5 z3 z14 z15) (wb6 z5) (wb7 z6) (wb8 z7) (wb9 z8) (wb11 x0 x2) (wb12 x0 x2) (wb13 x1 x3) (wb14 x1 x3)).hi
def wb33 (z1 z3 z5 z6 z7 z8 z14 z15 x0 x1 x2 x3 : Int) : Bool := bif twE (wb17 z1 z3 z5 z6 z7 z8 z14 z15 x0 x1 x2 x3) (wb23 z1 z3 z5 z6 z7 z8 z14 z15 x0 x1 x2 x3) == 0 then bif twE (wb18 z1 z3 z5 z6 z7 z8 z14 z15 x0 x1) (wb24 z1 z3 z5 z6 z7 z8 z14 z15 x0 x1) != 0 then true else bif !bif decide (wb25 z1 z3 z5 z6 z7 z8 z14 z15 x0 x1 x2 x3 ≤ wb26 z1 z3 z5 z6 z7 z8 z14 z15 x0 x1) then bif decide (wb26 z1 z3 z5 z6 z7 z8 z14 z15 x0 x1 ≤ wb27 z1 z3 z5 z6 z7 z8 z14 z15 x0 x1) then decide (wb27 z1 z3 z5 z6 z7 z8 z14 z15 x0 x1 ≤ wb28 z1 z3 z5 z6 z7 z8 z14 z15 x0 x1 x2 x3) else false else false then true else !bif decide (wb29 z1 z3 z5 z6 z7 z8 z14 z15 x0 x1 x2 x3 ≤ wb30 z1 z3 z5 z6 z7 z8 z14 z15 x0 x1) then bif decide (wb30 z1 z3 z5 z6 z7 z8 z14 z15 x0 x1 ≤ wb31 z1 z3 z5 z6 z7 z8 z14 z15 x0 x1) then decide (wb31 z1 z3 z5 z6 z7 z8 z14 z15 x0 x1 ≤ wb32 z1 z3 z5 z6 z7 z8 z14 z15 x0 x1 x2 x3) else false else false else false
def wb34 (z1 z3 z5 z6 z7 z8 z14 z15 x0 x1 x2 x3 : Int) : Bool := !bif wb17 z1 z3 z5 z6 z7 z8 z14 z15 x0 x1 x2 x3 == 0 then bif wb18 z1 z3 z5 z6 z7 z8 z14 z15 x0 x1 != 0 then true else bif !bif decide (wb19 z1 z3 z5 z6 z7 z8 z14 z15 x0 x1 x2 x3 ≤ wb20 z1 z3 z5 z6 z7 z8 z14 z15 x0 x1) then bif decide (wb20 z1 z3 z5 z6 z7 z8 z14 z15 x0 x1 ≤ wb21 z1 z3 z5 z6 z7 z8 z14 z15 x0 x1) then decide (wb21 z1 z3 z5 z6 z7 z8 z14 z15 x0 x1 ≤ wb22 z1 z3 z5 z6 z7 z8 z14 z15 x0 x1 x2 x3) else false else false then true else wb33 z1 z3 z5 z6 z7 z8 z14 z15 x0 x1 x2 x3 else wb33 z1 z3 z5 z6 z7 z8 z14 z15 x0 x1 x2 x3
def wb35 (x2 : Int) : Int := IntKind.i64.wrap (IntKind.i64.wrap x2 * 16777216)
def wb36 (x3 : Int) : Int := IntKind.i64.wrap (IntKind.i64.wrap x3 * 16777216)
def wbN (z0 z1 z2 z3 z4 z5 z6 z7 z8 z9 z10 z11 z12 z13 z14 z15 z16 z17 z18 z19 z20 : Int) (gl : ByteArray) (g : Nat) (n x0 x1 x2 x3 : Int) : Prop := ((((z14 = z14 ∧ z13 = z13 ∧ z12 = z12 ∧ z3 = z3 ∧ z1 = z1) ∧ (IntKind.i64.wrap z13).tmod 5 = (g : Int)) ∧ (z0.tmod (8 : Int) == 4) = true ∧ decide (0 < n) = false) ∧ (x3 = x3 ∧ x1 = x1) ∧ (vStd (wb3 z1 z14 z15) (wb5 z3 z14 z15) (wb6 z5) (wb7 z6) (wb8 z7) (wb9 z8) 0 0 0 (bif wb1 z14 z15 then wb10 z12 else wb10 z12) (bif wb1 z14 z15 then gl else gl) (bif wb1 z14 z15 then wb0 z14 else wb0 z14) (bif wb1 z14 z15 then IntKind.i64.wrap ((wb0 z14).tdiv 4) else 0) ∧ okSp (wb11 x0 x2) (wb12 x0 x2) = true ∧ okSp (wb13 x1 x3) (wb14 x1 x3) = true) ∧ (vStd (wb3 z1 z14 z15) (wb5 z3 z14 z15) (wb6 z5) (wb7 z6) (wb8 z7) (wb9 z8) 0 0 0 (bif wb1 z14 z15 then wb10 z12 else wb10 z12) (bif wb1 z14 z15 then gl else gl) (bif wb1 z14 z15 then wb0 z14 else wb0 z14) (bif wb1 z14 z15 then IntKind.i64.wrap ((wb0 z14).tdiv 4) else 0) ∧ okSp (wb11 x0 x2) (wb12 x0 x2) = true ∧ okSp (wb13 x1 x3) (wb14 x1 x3) = true) ∧ (x1 = x1 ∧ (vStd (wb3 z1 z14 z15) (wb5 z3 z14 z15) (wb6 z5) (wb7 z6) (wb8 z7) (wb9 z8) 0 0 0 (bif wb1 z14 z15 then wb10 z12 else wb10 z12) (bif wb1 z14 z15 then gl else gl) (bif wb1 z14 z15 then wb0 z14 else wb0 z14) (bif wb1 z14 z15 then IntKind.i64.wrap ((wb0 z14).tdiv 4) else 0) ∧ okSp (wb15 x0) (wb15 x0) = true ∧ okSp (wb16 x1) (wb16 x1) = true) ∧ vStd (wb3 z1 z14 z15) (wb5 z3 z14 z15) (wb6 z5) (wb7 z6) (wb8 z7) (wb9 z8) 0 0 0 (bif wb1 z14 z15 then wb10 z12 else wb10 z12) (bif wb1 z14 z15 then gl else gl) (bif wb1 z14 z15 then wb0 z14 else wb0 z14) (bif wb1 z14 z15 then IntKind.i64.wrap ((wb0 z14).tdiv 4) else 0) ∧ okSp (wb15 x0) (wb15 x0) = true ∧ okSp (wb16 x1) (wb16 x1) = true) ∧ (wb34 z1 z3 z5 z6 z7 z8 z14 z15 x0 x1 x2 x3 = true → x3 = x3 ∧ (vStd (wb3 z1 z14 z15) (wb5 z3 z14 z15) (wb6 z5) (wb7 z6) (wb8 z7) (wb9 z8) 0 0 0 (bif wb1 z14 z15 then wb10 z12 else wb10 z12) (bif wb1 z14 z15 then gl else gl) (bif wb1 z14 z15 then wb0 z14 else wb0 z14) (bif wb1 z14 z15 then IntKind.i64.wrap ((wb0 z14).tdiv 4) else 0) ∧ okSp (wb35 x2) (wb35 x2) = true ∧ okSp (wb36 x3) (wb36 x3) = true) ∧ vStd (wb3 z1 z14 z15) (wb5 z3 z14 z15) (wb6 z5) (wb7 z6) (wb8 z7) (wb9 z8) 0 0 0 (bif wb1 z14 z15 then wb10 z12 else wb10 z12) (bif wb1 z14 z15 then gl else gl) (bif wb1 z14 z15 then wb0 z14 else wb0 z14) (bif wb1 z14 z15 then IntKind.i64.wrap ((wb0 z14).tdiv 4) else 0) ∧ okSp (wb35 x2) (wb35 x2) = true ∧ okSp (wb36 x3) (wb36 x3) = true))
def wbV (z0 z1 z2 z3 z4 z5 z6 z7 z8 z9 z10 z11 z12 z13 z14 z15 z16 z17 z18 z19 z20 : Int) (gl : ByteArray) (g : Nat) (n x0 x1 x2 x3 : Int) : Bool := wV (slSt (wb3 z1 z14 z15) (wb5 z3 z14 z15) (wb6 z5) (wb7 z6) (wb8 z7) (wb9 z8) (wb11 x0 x2) (wb12 x0 x2) (wb13 x1 x3) (wb14 x1 x3)) (slSt (wb3 z1 z14 z15) (wb5 z3 z14 z15) (wb6 z5) (wb7 z6) (wb8 z7) (wb9 z8) (wb15 x0) (wb15 x0) (wb16 x1) (wb16 x1)) (slSt (wb3 z1 z14 z15) (wb5 z3 z14 z15) (wb6 z5) (wb7 z6) (wb8 z7) (wb9 z8) (wb35 x2) (wb35 x2) (wb36 x3) (wb36 x3))
def wc1 (z14 : Int) : Int := IntKind.i64.wrap (100000 * IntKind.i64.wrap z14)
def wc2 (z14 z15 : Int) : Bool := bif z15.tmod (4 : Int) == 1 then decide (wc1 z14 > 0) else false
def wc3 (z1 : Int) : Int := IntKind.i64.wrap (1000 * IntKind.i64.wrap z1)
def wc4 (z1 z14 z15 : Int) : Int := bif wc2 z14 z15 then wc3 z1 else wc3 z1
def wc5 (z3 : Int) : Int := IntKind.i64.wrap (1000 * IntKind.i64.wrap (z3.tmod 3000))
def wc6 (z3 z14 z15 : Int) : Int := bif wc2 z14 z15 then wc5 z3 else wc5 z3
def wc7 (z5 : Int) : Int := IntKind.i64.wrap (1000 * IntKind.i64.wrap z5)
def wc8 (z6 : Int) : Int := IntKind.i64.wrap (1000 * IntKind.i64.wrap z6)
def wc9 (z7 : Int) : Int := IntKind.i64.wrap (1000 * IntKind.i64.wrap z7)
def wc10 (z8 : Int) : Int := IntKind.i64.wrap (1000 * IntKind.i64.wrap z8)
def wc11 (z12 : Int) : Int := IntKind.i64.wrap (1000 * IntKind.i64.wrap (z12.tmod 20000))
def wc12 (x0 x2 : Int) : Int := IntKind.i64.wrap ((if IntKind.i64.wrap x2 < IntKind.i64.wrap x0 then IntKind.i64.wrap x2 else IntKind.i64.wrap x0) * 16777216)
def wc13 (x0 x2 : Int) : Int := IntKind.i64.wrap ((if IntKind.i64.wrap x2 > IntKind.i64.wrap x0 then IntKind.i64.wrap x2 else IntKind.i64.wrap x0) * 16777216)
def wc14 (x1 x3 : Int) : Int := IntKind.i64.wrap ((if IntKind.i64.wrap x3 < IntKind.i64.wrap x1 then IntKind.i64.wrap x3 else IntKind.i64.wrap x1) * 16777216)
def wc15 (x1 x3 : Int) : Int := IntKind.i64.wrap ((if IntKind.i64.wrap x3 > IntKind.i64.wrap x1 then IntKind.i64.wrap x3 else IntKind.i64.wrap x1) * 16777216)
def wc16 (x0 : Int) : Int := IntKind.i64.wrap (IntKind.i64.wrap x0 * 16777216)
def wc17 (x1 : Int) : Int := IntKind.i64.wrap (IntKind.i64.wrap x1 * 16777216)
def wc18 (z1 z3 z5 z6 z7 z8 z14 z15 x0 x1 x2 x3 : Int) : Int := (sagS (wc4 z1 z14 z15) (wc6 z3 z14 z15) (wc7 z5) (wc8 z6) (wc9 z7) (wc10 z8) (wc12 x0 x2) (wc13 x0 x2) (wc14 x1 x3) (wc15 x1 x3)).e
def wc19 (z1 z3 z5 z6 z7 z8 z14 z15 x0 x1 : Int) : Int := (sagS (wc4 z1 z14 z15) (wc6 z3 z14 z15) (wc7 z5) (wc8 z6) (wc9 z7) (wc10 z8) (wc16 x0) (wc16 x0) (wc17 x1) (wc17 x1)).e
def wc20 (z1 z3 z5 z6 z7 z8 z14 z15 x0 x1 x2 x3 : Int) : Int := (sagS (wc4 z1 z14 z15) (wc6 z3 z14 z15) (wc7 z5) (wc8 z6) (wc9 z7) (wc10 z8) (wc12 x0 x2) (wc13 x0 x2) (wc14 x1 x3) (wc15 x1 x3)).lo
def wc21 (z1 z3 z5 z6 z7 z8 z14 z15 x0 x1 : Int) : Int := (sagS (wc4 z1 z14 z15) (wc6 z3 z14 z15) (wc7 z5) (wc8 z6) (wc9 z7) (wc10 z8) (wc16 x0) (wc16 x0) (wc17 x1) (wc17 x1)).lo
def wc22 (z1 z3 z5 z6 z7 z8 z14 z15 x0 x1 : Int) : Int := (sagS (wc4 z1 z14 z15) (wc6 z3 z14 z15) (wc7 z5) (wc8 z6) (wc9 z7) (wc10 z8) (wc16 x0) (wc16 x0) (wc17 x1) (wc17 x1)).hi
def wc23 (z1 z3 z5 z6 z7 z8 z14 z15 x0 x1 x2 x3 : Int) : Int := (sagS (wc4 z1 z14 z15) (wc6 z3 z14 z15) (wc7 z5) (wc8 z6) (wc9 z7) (wc10 z8) (wc12 x0 x2) (wc13 x0 x2) (wc14 x1 x3) (wc15 x1 x3)).hi
def wc24 (z1 z3 z5 z6 z7 z8 z14 z15 x0 x1 x2 x3 : Int) : Bool := slC (wc4 z1 z14 z15) (wc6 z3 z14 z15) (wc7 z5) (wc8 z6) (wc9 z7) (wc10 z8) (wc12 x0 x2) (wc13 x0 x2) (wc14 x1 x3) (wc15 x1 x3)
def wc25 (z1 z3 z5 z6 z7 z8 z14 z15 x0 x1 : Int) : Bool := slC (wc4 z1 z14 z15) (wc6 z3 z14 z15) (wc7 z5) (wc8 z6) (wc9 z7) (wc10 z8) (wc16 x0) (wc16 x0) (wc17 x1) (wc17 x1)
def wc26 (z1 z3 z5 z6 z7 z8 z14 z15 x0 x1 x2 x3 : Int) : Int := tw1 (wc18 z1 z3 z5 z6 z7 z8 z14 z15 x0 x1 x2 x3) (wc24 z1 z3 z5 z6 z7 z8 z14 z15 x0 x1 x2 x3) (slU (wc4 z1 z14 z15) (wc6 z3 z14 z15) (wc7 z5) (wc8 z6) (wc9 z7) (wc10 z8) (wc12 x0 x2) (wc13 x0 x2) (wc14 x1 x3) (wc15 x1 x3)).lo
def wc27 (z1 z3 z5 z6 z7 z8 z14 z15 x0 x1 : Int) : Int := tw1 (wc19 z1 z3 z5 z6 z7 z8 z14 z15 x0 x1) (wc25 z1 z3 z5 z6 z7 z8 z14 z15 x0 x1) (slU (wc4 z1 z14 z15) (wc6 z3 z14 z15) (wc7 z5) (wc8 z6) (wc9 z7) (wc10 z8) (wc16 x0) (wc16 x0) (wc17 x1) (wc17 x1)).lo
def wc28 (z1 z3 z5 z6 z7 z8 z14 z15 x0 x1 : Int) : Int := tw1 (wc19 z1 z3 z5 z6 z7 z8 z14 z15 x0 x1) (wc25 z1 z3 z5 z6 z7 z8 z14 z15 x0 x1) (slU (wc4 z1 z14 z15) (wc6 z3 z14 z15) (wc7 z5) (wc8 z6) (wc9 z7) (wc10 z8) (wc16 x0) (wc16 x0) (wc17 x1) (wc17 x1)).hi
def wc29 (z1 z3 z5 z6 z7 z8 z14 z15 x0 x1 x2 x3 : Int) : Int := tw1 (wc18 z1 z3 z5 z6 z7 z8 z14 z15 x0 x1 x2 x3) (wc24 z1 z3 z5 z6 z7 z8 z14 z15 x0 x1 x2 x3) (slU (wc4 z1 z14 z15) (wc6 z3 z14 z15) (wc7 z5) (wc8 z6) (wc9 z7) (wc10 z8) (wc12 x0 x2) (wc13 x0 x2) (wc14 x1 x3) (wc15 x1 x3)).hi
def wc30 (z1 z3 z5 z6 z7 z8 z14 z15 x0 x1 x2 x3 : Int) : Int := tw1 (wc18 z1 z3 z5 z6 z7 z8 z14 z15 x0 x1 x2 x3) (wc24 z1 z3 z5 z6 z7 z8 z14 z15 x0 x1 x2 x3) (slV (wc4 z1 z14 z15) (wc6 z3 z14 z15) (wc7 z5) (wc8 z6) (wc9 z7) (wc10 z8) (wc12 x0 x2) (wc13 x0 x2) (wc14 x1 x3) (wc15 x1 x3)).lo
def wc31 (z1 z3 z5 z6 z7 z8 z14 z15 x0 x1 : Int) : Int := tw1 (wc19 z1 z3 z5 z6 z7 z8 z14 z15 x0 x1) (wc25 z1 z3 z5 z6 z7 z8 z14 z15 x0 x1) (slV (wc4 z1 z14 z15) (wc6 z3 z14 z15) (wc7 z5) (wc8 z6) (wc9 z7) (wc10 z8) (wc16 x0) (wc16 x0) (wc17 x1) (wc17 x1)).lo
def wc32 (z1 z3 z5 z6 z7 z8 z14 z15 x0 x1 : Int) : Int := tw1 (wc19 z1 z3 z5 z6 z7 z8 z14 z15 x0 x1) (wc25 z1 z3 z5 z6 z7 z8 z14 z15 x0 x1) (slV (wc4 z1 z14 z15) (wc6 z3 z14 z15) (wc7 z5) (wc8 z6) (wc9 z7) (wc10 z8) (wc16 x0) (wc16 x0) (wc17 x1) (wc17 x1)).hi
def wc33 (z1 z3 z5 z6 z7 z8 z14 z15 x0 x1 x2 x3 : Int) : Int := tw1 (wc18 z1 z3 z5 z6 z7 z8 z14 z15 x0 x1 x2 x3) (wc24 z1 z3 z5 z6 z7 z8 z14 z15 x0 x1 x2 x3) (slV (wc4 z1 z14 z15) (wc6 z3 z14 z15) (wc7 z5) (wc8 z6) (wc9 z7) (wc10 z8) (wc12 x0 x2) (wc13 x0 x2) (wc14 x1 x3) (wc15 x1 x3)).hi
def wc34 (z1 z3 z5 z6 z7 z8 z14 z15 x0 x1 x2 x3 : Int) : Bool := bif twE (wc18 z1 z3 z5 z6 z7 z8 z14 z15 x0 x1 x2 x3) (wc24 z1 z3 z5 z6 z7 z8 z14 z15 x0 x1 x2 x3) == 0 then bif twE (wc19 z1 z3 z5 z6 z7 z8 z14 z15 x0 x1) (wc25 z1 z3 z5 z6 z7 z8 z14 z15 x0 x1) != 0 then true else bif !bif decide (wc26 z1 z3 z5 z6 z7 z8 z14 z15 x0 x1 x2 x3 ≤ wc27 z1 z3 z5 z6 z7 z8 z14 z15 x0 x1) then bif decide (wc27 z1 z3 z5 z6 z7 z8 z14 z15 x0 x1 ≤ wc28 z1 z3 z5 z6 z7 z8 z14 z15 x0 x1) then decide (wc28 z1 z3 z5 z6 z7 z8 z14 z15 x0 x1 ≤ wc29 z1 z3 z5 z6 z7 z8 z14 z15 x0 x1 x2 x3) else false else false then true else !bif decide (wc30 z1 z3 z5 z6 z7 z8 z14 z15 x0 x1 x2 x3 ≤ wc31 z1 z3 z5 z6 z7 z8 z14 z15 x0 x1) then bif decide (wc31 z1 z3 z5 z6 z7 z8 z14 z15 x0 x1 ≤ wc32 z1 z3 z5 z6 z7 z8 z14 z15 x0 x1) then decide (wc32 z1 z3 z5 z6 z7 z8 z14 z15 x0 x1 ≤ wc33 z1 z3 z5 z6 z7 z8 z14 z15 x0 x1 x2 x3) else false else false else false
def wc35 (z1 z3 z5 z6 z7 z8 z14 z15 x0 x1 x2 x3 : Int) : Bool := !bif wc18 z1 z3 z5 z6 z7 z8 z14 z15 x0 x1 x2 x3 == 0 then bif wc19 z1 z3 z5 z6 z7 z8 z14 z15 x0 x1 != 0 then true else bif !bif decide (wc20 z1 z3 z5 z6 z7 z8 z14 z15 x0 x1 x2 x3 ≤ wc21 z1 z3 z5 z6 z7 z8 z14 z15 x0 x1) then bif decide (wc21 z1 z3 z5 z6 z7 z8 z14 z15 x0 x1 ≤ wc22 z1 z3 z5 z6 z7 z8 z14 z15 x0 x1) then decide (wc22 z1 z3 z5 z6 z7 z8 z14 z15 x0 x1 ≤ wc23 z1 z3 z5 z6 z7 z8 z14 z15 x0 x1 x2 x3) else false else false then true else wc34 z1 z3 z5 z6 z7 z8 z14 z15 x0 x1 x2 x3 else wc34 z1 z3 z5 z6 z7 z8 z14 z15 x0 x1 x2 x3
def wc36 (x2 : Int) : Int := IntKind.i64.wrap (IntKind.i64.wrap x2 * 16777216)
def wc37 (x3 : Int) : Int := IntKind.i64.wrap (IntKind.i64.wrap x3 * 16777216)
def wcN (z0 z1 z2 z3 z4 z5 z6 z7 z8 z9 z10 z11 z12 z13 z14 z15 z16 z17 z18 z19 z20 : Int) (gl : ByteArray) (g : Nat) (n e0 x0 x1 x2 x3 : Int) : Prop := ((((z14 = z14 ∧ z13 = z13 ∧ z12 = z12 ∧ z3 = z3 ∧ z1 = z1) ∧ (IntKind.i64.wrap z13).tmod 5 = (g : Int)) ∧ (z0.tmod (8 : Int) == 4) = true ∧ decide (0 < n) = true ∧ decide ((1 : Int) < n) = false) ∧ (x3 = x3 ∧ x1 = x1) ∧ ((vStd (wc4 z1 z14 z15) (wc6 z3 z14 z15) (wc7 z5) (wc8 z6) (wc9 z7) (wc10 z8) 0 0 0 (bif wc2 z14 z15 then wc11 z12 else wc11 z12) (bif wc2 z14 z15 then gl else gl) (bif wc2 z14 z15 then wc1 z14 else wc1 z14) (bif wc2 z14 z15 then IntKind.i64.wrap ((wc1 z14).tdiv 4) else 0) ∧ inF (IntKind.i64.wrap (13000000 + IntKind.i64.wrap (50000 * IntKind.i64.wrap e0))) ((IntKind.i64.wrap e0).tmod 7) (IntKind.i64.wrap (1 + (IntKind.i64.wrap e0).tmod 5))) ∧ okSp (wc12 x0 x2) (wc13 x0 x2) = true ∧ okSp (wc14 x1 x3) (wc15 x1 x3) = true) ∧ ((vStd (wc4 z1 z14 z15) (wc6 z3 z14 z15) (wc7 z5) (wc8 z6) (wc9 z7) (wc10 z8) 0 0 0 (bif wc2 z14 z15 then wc11 z12 else wc11 z12) (bif wc2 z14 z15 then gl else gl) (bif wc2 z14 z15 then wc1 z14 else wc1 z14) (bif wc2 z14 z15 then IntKind.i64.wrap ((wc1 z14).tdiv 4) else 0) ∧ inF (IntKind.i64.wrap (13000000 + IntKind.i64.wrap (50000 * IntKind.i64.wrap e0))) ((IntKind.i64.wrap e0).tmod 7) (IntKind.i64.wrap (1 + (IntKind.i64.wrap e0).tmod 5))) ∧ okSp (wc12 x0 x2) (wc13 x0 x2) = true ∧ okSp (wc14 x1 x3) (wc15 x1 x3) = true) ∧ (x1 = x1 ∧ ((vStd (wc4 z1 z14 z15) (wc6 z3 z14 z15) (wc7 z5) (wc8 z6) (wc9 z7) (wc10 z8) 0 0 0 (bif wc2 z14 z15 then wc11 z12 else wc11 z12) (bif wc2 z14 z15 then gl else gl) (bif wc2 z14 z15 then wc1 z14 else wc1 z14) (bif wc2 z14 z15 then IntKind.i64.wrap ((wc1 z14).tdiv 4) else 0) ∧ inF (IntKind.i64.wrap (13000000 + IntKind.i64.wrap (50000 * IntKind.i64.wrap e0))) ((IntKind.i64.wrap e0).tmod 7) (IntKind.i64.wrap (1 + (IntKind.i64.wrap e0).tmod 5))) ∧ okSp (wc16 x0) (wc16 x0) = true ∧ okSp (wc17 x1) (wc17 x1) = true) ∧ (vStd (wc4 z1 z14 z15) (wc6 z3 z14 z15) (wc7 z5) (wc8 z6) (wc9 z7) (wc10 z8) 0 0 0 (bif wc2 z14 z15 then wc11 z12 else wc11 z12) (bif wc2 z14 z15 then gl else gl) (bif wc2 z14 z15 then wc1 z14 else wc1 z14) (bif wc2 z14 z15 then IntKind.i64.wrap ((wc1 z14).tdiv 4) else 0) ∧ inF (IntKind.i64.wrap (13000000 + IntKind.i64.wrap (50000 * IntKind.i64.wrap e0))) ((IntKind.i64.wrap e0).tmod 7) (IntKind.i64.wrap (1 + (IntKind.i64.wrap e0).tmod 5))) ∧ okSp (wc16 x0) (wc16 x0) = true ∧ okSp (wc17 x1) (wc17 x1) = true) ∧ (wc35 z1 z3 z5 z6 z7 z8 z14 z15 x0 x1 x2 x3 = true → x3 = x3 ∧ ((vStd (wc4 z1 z14 z15) (wc6 z3 z14 z15) (wc7 z5) (wc8 z6) (wc9 z7) (wc10 z8) 0 0 0 (bif wc2 z14 z15 then wc11 z12 else wc11 z12) (bif wc2 z14 z15 then gl else gl) (bif wc2 z14 z15 then wc1 z14 else wc1 z14) (bif wc2 z14 z15 then IntKind.i64.wrap ((wc1 z14).tdiv 4) else 0) ∧ inF (IntKind.i64.wrap (13000000 + IntKind.i64.wrap (50000 * IntKind.i64.wrap e0))) ((IntKind.i64.wrap e0).tmod 7) (IntKind.i64.wrap (1 + (IntKind.i64.wrap e0).tmod 5))) ∧ okSp (wc36 x2) (wc36 x2) = true ∧ okSp (wc37 x3) (wc37 x3) = true) ∧ (vStd (wc4 z1 z14 z15) (wc6 z3 z14 z15) (wc7 z5) (wc8 z6) (wc9 z7) (wc10 z8) 0 0 0 (bif wc2 z14 z15 then wc11 z12 else wc11 z12) (bif wc2 z14 z15 then gl else gl) (bif wc2 z14 z15 then wc1 z14 else wc1 z14) (bif wc2 z14 z15 then IntKind.i64.wrap ((wc1 z14).tdiv 4) else 0) ∧ inF (IntKind.i64.wrap (13000000 + IntKind.i64.wrap (50000 * IntKind.i64.wrap e0))) ((IntKind.i64.wrap e0).tmod 7) (IntKind.i64.wrap (1 + (IntKind.i64.wrap e0).tmod 5))) ∧ okSp (wc36 x2) (wc36 x2) = true ∧ okSp (wc37 x3) (wc37 x3) = true))
def wcV (z0 z1 z2 z3 z4 z5 z6 z7 z8 z9 z10 z11 z12 z13 z14 z15 z16 z17 z18 z19 z20 : Int) (gl : ByteArray) (g : Nat) (n e0 x0 x1 x2 x3 : Int) : Bool := wV (slSt (wc4 z1 z14 z15) (wc6 z3 z14 z15) (wc7 z5) (wc8 z6) (wc9 z7) (wc10 z8) (wc12 x0 x2) (wc13 x0 x2) (wc14 x1 x3) (wc15 x1 x3)) (slSt (wc4 z1 z14 z15) (wc6 z3 z14 z15) (wc7 z5) (wc8 z6) (wc9 z7) (wc10 z8) (wc16 x0) (wc16 x0) (wc17 x1) (wc17 x1)) (slSt (wc4 z1 z14 z15) (wc6 z3 z14 z15) (wc7 z5) (wc8 z6) (wc9 z7) (wc10 z8) (wc36 x2) (wc36 x2) (wc37 x3) (wc37 x3))
def wd2 (z14 : Int) : Int := IntKind.i64.wrap (100000 * IntKind.i64.wrap z14)
def wd3 (z14 z15 : Int) : Bool := bif z15.tmod (4 : Int) == 1 then decide (wd2 z14 > 0) else false
def wd4 (z1 : Int) : Int := IntKind.i64.wrap (1000 * IntKind.i64.wrap z1)
def wd5 (z1 z14 z15 : Int) : Int := bif wd3 z14 z15 then wd4 z1 else wd4 z1
def wd6 (z3 : Int) : Int := IntKind.i64.wrap (1000 * IntKind.i64.wrap (z3.tmod 3000))
def wd7 (z3 z14 z15 : Int) : Int := bif wd3 z14 z15 then wd6 z3 else wd6 z3
def wd8 (z5 : Int) : Int := IntKind.i64.wrap (1000 * IntKind.i64.wrap z5)
def wd9 (z6 : Int) : Int := IntKind.i64.wrap (1000 * IntKind.i64.wrap z6)
def wd10 (z7 : Int) : Int := IntKind.i64.wrap (1000 * IntKind.i64.wrap z7)
def wd11 (z8 : Int) : Int := IntKind.i64.wrap (1000 * IntKind.i64.wrap z8)
def wd12 (z12 : Int) : Int := IntKind.i64.wrap (1000 * IntKind.i64.wrap (z12.tmod 20000))
def wd13 (x0 x2 : Int) : Int := IntKind.i64.wrap ((if IntKind.i64.wrap x2 < IntKind.i64.wrap x0 then IntKind.i64.wrap x2 else IntKind.i64.wrap x0) * 16777216)
def wd14 (x0 x2 : Int) : Int := IntKind.i64.wrap ((if IntKind.i64.wrap x2 > IntKind.i64.wrap x0 then IntKind.i64.wrap x2 else IntKind.i64.wrap x0) * 16777216)
def wd15 (x1 x3 : Int) : Int := IntKind.i64.wrap ((if IntKind.i64.wrap x3 < IntKind.i64.wrap x1 then IntKind.i64.wrap x3 else IntKind.i64.wrap x1) * 16777216)
def wd16 (x1 x3 : Int) : Int := IntKind.i64.wrap ((if IntKind.i64.wrap x3 > IntKind.i64.wrap x1 then IntKind.i64.wrap x3 else IntKind.i64.wrap x1) * 16777216)
def wd17 (x0 : Int) : Int := IntKind.i64.wrap (IntKind.i64.wrap x0 * 16777216)
def wd18 (x1 : Int) : Int := IntKind.i64.wrap (IntKind.i64.wrap x1 * 16777216)
def wd19 (z1 z3 z5 z6 z7 z8 z14 z15 x0 x1 x2 x3 : Int) : Int := (sagS (wd5 z1 z14 z15) (wd7 z3 z14 z15) (wd8 z5) (wd9 z6) (wd10 z7) (wd11 z8) (wd13 x0 x2) (wd14 x0 x2) (wd15 x1 x3) (wd16 x1 x3)).e
def wd20 (z1 z3 z5 z6 z7 z8 z14 z15 x0 x1 : Int) : Int := (sagS (wd5 z1 z14 z15) (wd7 z3 z14 z15) (wd8 z5) (wd9 z6) (wd10 z7) (wd11 z8) (wd17 x0) (wd17 x0) (wd18 x1) (wd18 x1)).e
def wd21 (z1 z3 z5 z6 z7 z8 z14 z15 x0 x1 x2 x3 : Int) : Int := (sagS (wd5 z1 z14 z15) (wd7 z3 z14 z15) (wd8 z5) (wd9 z6) (wd10 z7) (wd11 z8) (wd13 x0 x2) (wd14 x0 x2) (wd15 x1 x3) (wd16 x1 x3)).lo
def wd22 (z1 z3 z5 z6 z7 z8 z14 z15 x0 x1 : Int) : Int := (sagS (wd5 z1 z14 z15) (wd7 z3 z14 z15) (wd8 z5) (wd9 z6) (wd10 z7) (wd11 z8) (wd17 x0) (wd17 x0) (wd18 x1) (wd18 x1)).lo
def wd23 (z1 z3 z5 z6 z7 z8 z14 z15 x0 x1 : Int) : Int := (sagS (wd5 z1 z14 z15) (wd7 z3 z14 z15) (wd8 z5) (wd9 z6) (wd10 z7) (wd11 z8) (wd17 x0) (wd17 x0) (wd18 x1) (wd18 x1)).hi
def wd24 (z1 z3 z5 z6 z7 z8 z14 z15 x0 x1 x2 x3 : Int) : Int := (sagS (wd5 z1 z14 z15) (wd7 z3 z14 z15) (wd8 z5) (wd9 z6) (wd10 z7) (wd11 z8) (wd13 x0 x2) (wd14 x0 x2) (wd15 x1 x3) (wd16 x1 x3)).hi
def wd25 (z1 z3 z5 z6 z7 z8 z14 z15 x0 x1 x2 x3 : Int) : Bool := slC (wd5 z1 z14 z15) (wd7 z3 z14 z15) (wd8 z5) (wd9 z6) (wd10 z7) (wd11 z8) (wd13 x0 x2) (wd14 x0 x2) (wd15 x1 x3) (wd16 x1 x3)
def wd26 (z1 z3 z5 z6 z7 z8 z14 z15 x0 x1 : Int) : Bool := slC (wd5 z1 z14 z15) (wd7 z3 z14 z15) (wd8 z5) (wd9 z6) (wd10 z7) (wd11 z8) (wd17 x0) (wd17 x0) (wd18 x1) (wd18 x1)
def wd27 (z1 z3 z5 z6 z7 z8 z14 z15 x0 x1 x2 x3 : Int) : Int := tw1 (wd19 z1 z3 z5 z6 z7 z8 z14 z15 x0 x1 x2 x3) (wd25 z1 z3 z5 z6 z7 z8 z14 z15 x0 x1 x2 x3) (slU (wd5 z1 z14 z15) (wd7 z3 z14 z15) (wd8 z5) (wd9 z6) (wd10 z7) (wd11 z8) (wd13 x0 x2) (wd14 x0 x2) (wd15 x1 x3) (wd16 x1 x3)).lo
def wd28 (z1 z3 z5 z6 z7 z8 z14 z15 x0 x1 : Int) : Int := tw1 (wd20 z1 z3 z5 z6 z7 z8 z14 z15 x0 x1) (wd26 z1 z3 z5 z6 z7 z8 z14 z15 x0 x1) (slU (wd5 z1 z14 z15) (wd7 z3 z14 z15) (wd8 z5) (wd9 z6) (wd10 z7) (wd11 z8) (wd17 x0) (wd17 x0) (wd18 x1) (wd18 x1)).lo
def wd29 (z1 z3 z5 z6 z7 z8 z14 z15 x0 x1 : Int) : Int := tw1 (wd20 z1 z3 z5 z6 z7 z8 z14 z15 x0 x1) (wd26 z1 z3 z5 z6 z7 z8 z14 z15 x0 x1) (slU (wd5 z1 z14 z15) (wd7 z3 z14 z15) (wd8 z5) (wd9 z6) (wd10 z7) (wd11 z8) (wd17 x0) (wd17 x0) (wd18 x1) (wd18 x1)).hi
def wd30 (z1 z3 z5 z6 z7 z8 z14 z15 x0 x1 x2 x3 : Int) : Int := tw1 (wd19 z1 z3 z5 z6 z7 z8 z14 z15 x0 x1 x2 x3) (wd25 z1 z3 z5 z6 z7 z8 z14 z15 x0 x1 x2 x3) (slU (wd5 z1 z14 z15) (wd7 z3 z14 z15) (wd8 z5) (wd9 z6) (wd10 z7) (wd11 z8) (wd13 x0 x2) (wd14 x0 x2) (wd15 x1 x3) (wd16 x1 x3)).hi
def wd31 (z1 z3 z5 z6 z7 z8 z14 z15 x0 x1 x2 x3 : Int) : Int := tw1 (wd19 z1 z3 z5 z6 z7 z8 z14 z15 x0 x1 x2 x3) (wd25 z1 z3 z5 z6 z7 z8 z14 z15 x0 x1 x2 x3) (slV (wd5 z1 z14 z15) (wd7 z3 z14 z15) (wd8 z5) (wd9 z6) (wd10 z7) (wd11 z8) (wd13 x0 x2) (wd14 x0 x2) (wd15 x1 x3) (wd16 x1 x3)).lo
def wd32 (z1 z3 z5 z6 z7 z8 z14 z15 x0 x1 : Int) : Int := tw1 (wd20 z1 z3 z5 z6 z7 z8 z14 z15 x0 x1) (wd26 z1 z3 z5 z6 z7 z8 z14 z15 x0 x1) (slV (wd5 z1 z14 z15) (wd7 z3 z14 z15) (wd8 z5) (wd9 z6) (wd10 z7) (wd11 z8) (wd17 x0) (wd17 x0) (wd18 x1) (wd18 x1)).lo
def wd33 (z1 z3 z5 z6 z7 z8 z14 z15 x0 x1 : Int) : Int := tw1 (wd20 z1 z3 z5 z6 z7 z8 z14 z15 x0 x1) (wd26 z1 z3 z5 z6 z7 z8 z14 z15 x0 x1) (slV (wd5 z1 z14 z15) (wd7 z3 z14 z15) (wd8 z5) (wd9 z6) (wd10 z7) (wd11 z8) (wd17 x0) (wd17 x0) (wd18 x1) (wd18 x1)).hi
def wd34 (z1 z3 z5 z6 z7 z8 z14 z15 x0 x1 x2 x3 : Int) : Int := tw1 (wd19 z1 z3 z5 z6 z7 z8 z14 z15 x0 x1 x2 x3) (wd25 z1 z3 z5 z6 z7 z8 z14 z15 x0 x1 x2 x3) (slV (wd5 z1 z14 z15) (wd7 z3 z14 z15) (wd8 z5) (wd9 z6) (wd10 z7) (wd11 z8) (wd13 x0 x2) (wd14 x0 x2) (wd15 x1 x3) (wd16 x1 x3)).hi
def wd35 (z1 z3 z5 z6 z7 z8 z14 z15 x0 x1 x2 x3 : Int) : Bool := bif twE (wd19 z1 z3 z5 z6 z7 z8 z14 z15 x0 x1 x2 x3) (wd25 z1 z3 z5 z6 z7 z8 z14 z15 x0 x1 x2 x3) == 0 then bif twE (wd20 z1 z3 z5 z6 z7 z8 z14 z15 x0 x1) (wd26 z1 z3 z5 z6 z7 z8 z14 z15 x0 x1) != 0 then true else bif !bif decide (wd27 z1 z3 z5 z6 z7 z8 z14 z15 x0 x1 x2 x3 ≤ wd28 z1 z3 z5 z6 z7 z8 z14 z15 x0 x1) then bif decide (wd28 z1 z3 z5 z6 z7 z8 z14 z15 x0 x1 ≤ wd29 z1 z3 z5 z6 z7 z8 z14 z15 x0 x1) then decide (wd29 z1 z3 z5 z6 z7 z8 z14 z15 x0 x1 ≤ wd30 z1 z3 z5 z6 z7 z8 z14 z15 x0 x1 x2 x3) else false else false then true else !bif decide (wd31 z1 z3 z5 z6 z7 z8 z14 z15 x0 x1 x2 x3 ≤ wd32 z1 z3 z5 z6 z7 z8 z14 z15 x0 x1) then bif decide (wd32 z1 z3 z5 z6 z7 z8 z14 z15 x0 x1 ≤ wd33 z1 z3 z5 z6 z7 z8 z14 z15 x0 x1) then decide (wd33 z1 z3 z5 z6 z7 z8 z14 z15 x0 x1 ≤ wd34 z1 z3 z5 z6 z7 z8 z14 z15 x0 x1 x2 x3) else false else false else false
def wd36 (z1 z3 z5 z6 z7 z8 z14 z15 x0 x1 x2 x3 : Int) : Bool := !bif wd19 z1 z3 z5 z6 z7 z8 z14 z15 x0 x1 x2 x3 == 0 then bif wd20 z1 z3 z5 z6 z7 z8 z14 z15 x0 x1 != 0 then true else bif !bif decide (wd21 z1 z3 z5 z6 z7 z8 z14 z15 x0 x1 x2 x3 ≤ wd22 z1 z3 z5 z6 z7 z8 z14 z15 x0 x1) then bif decide (wd22 z1 z3 z5 z6 z7 z8 z14 z15 x0 x1 ≤ wd23 z1 z3 z5 z6 z7 z8 z14 z15 x0 x1) then decide (wd23 z1 z3 z5 z6 z7 z8 z14 z15 x0 x1 ≤ wd24 z1 z3 z5 z6 z7 z8 z14 z15 x0 x1 x2 x3) else false else false then true else wd35 z1 z3 z5 z6 z7 z8 z14 z15 x0 x1 x2 x3 else wd35 z1 z3 z5 z6 z7 z8 z14 z15 x0 x1 x2 x3
def wd37 (x2 : Int) : Int := IntKind.i64.wrap (IntKind.i64.wrap x2 * 16777216)
def wd38 (x3 : Int) : Int := IntKind.i64.wrap (IntKind.i64.wrap x3 * 16777216)
def wdN (z0 z1 z2 z3 z4 z5 z6 z7 z8 z9 z10 z11 z12 z13 z14 z15 z16 z17 z18 z19 z20 : Int) (gl : ByteArray) (g : Nat) (n e0 e1 x0 x1 x2 x3 : Int) : Prop := ((((z14 = z14 ∧ z13 = z13 ∧ z12 = z12 ∧ z3 = z3 ∧ z1 = z1) ∧ (IntKind.i64.wrap z13).tmod 5 = (g : Int)) ∧ (z0.tmod (8 : Int) == 4) = true ∧ decide (0 < n) = true ∧ decide ((1 : Int) < n) = true ∧ decide ((2 : Int) < n) = false) ∧ (x3 = x3 ∧ x1 = x1) ∧ ((vStd (wd5 z1 z14 z15) (wd7 z3 z14 z15) (wd8 z5) (wd9 z6) (wd10 z7) (wd11 z8) 0 0 0 (bif wd3 z14 z15 then wd12 z12 else wd12 z12) (bif wd3 z14 z15 then gl else gl) (bif wd3 z14 z15 then wd2 z14 else wd2 z14) (bif wd3 z14 z15 then IntKind.i64.wrap ((wd2 z14).tdiv 4) else 0) ∧ inF (IntKind.i64.wrap (13000000 + IntKind.i64.wrap (50000 * IntKind.i64.wrap e0))) ((IntKind.i64.wrap e0).tmod 7) (IntKind.i64.wrap (1 + (IntKind.i64.wrap e0).tmod 5)) ∧ inF (IntKind.i64.wrap (13000000 + IntKind.i64.wrap (50000 * IntKind.i64.wrap e1))) ((IntKind.i64.wrap e1).tmod 7) (IntKind.i64.wrap (1 + (IntKind.i64.wrap e1).tmod 5))) ∧ okSp (wd13 x0 x2) (wd14 x0 x2) = true ∧ okSp (wd15 x1 x3) (wd16 x1 x3) = true) ∧ ((vStd (wd5 z1 z14 z15) (wd7 z3 z14 z15) (wd8 z5) (wd9 z6) (wd10 z7) (wd11 z8) 0 0 0 (bif wd3 z14 z15 then wd12 z12 else wd12 z12) (bif wd3 z14 z15 then gl else gl) (bif wd3 z14 z15 then wd2 z14 else wd2 z14) (bif wd3 z14 z15 then IntKind.i64.wrap ((wd2 z14).tdiv 4) else 0) ∧ inF (IntKind.i64.wrap (13000000 + IntKind.i64.wrap (50000 * IntKind.i64.wrap e0))) ((IntKind.i64.wrap e0).tmod 7) (IntKind.i64.wrap (1 + (IntKind.i64.wrap e0).tmod 5)) ∧ inF (IntKind.i64.wrap (13000000 + IntKind.i64.wrap (50000 * IntKind.i64.wrap e1))) ((IntKind.i64.wrap e1).tmod 7) (IntKind.i64.wrap (1 + (IntKind.i64.wrap e1).tmod 5))) ∧ okSp (wd13 x0 x2) (wd14 x0 x2) = true ∧ okSp (wd15 x1 x3) (wd16 x1 x3) = true) ∧ (x1 = x1 ∧ ((vStd (wd5 z1 z14 z15) (wd7 z3 z14 z15) (wd8 z5) (wd9 z6) (wd10 z7) (wd11 z8) 0 0 0 (bif wd3 z14 z15 then wd12 z12 else wd12 z12) (bif wd3 z14 z15 then gl else gl) (bif wd3 z14 z15 then wd2 z14 else wd2 z14) (bif wd3 z14 z15 then IntKind.i64.wrap ((wd2 z14).tdiv 4) else 0) ∧ inF (IntKind.i64.wrap (13000000 + IntKind.i64.wrap (50000 * IntKind.i64.wrap e0))) ((IntKind.i64.wrap e0).tmod 7) (IntKind.i64.wrap (1 + (IntKind.i64.wrap e0).tmod 5)) ∧ inF (IntKind.i64.wrap (13000000 + IntKind.i64.wrap (50000 * IntKind.i64.wrap e1))) ((IntKind.i64.wrap e1).tmod 7) (IntKind.i64.wrap (1 + (IntKind.i64.wrap e1).tmod 5))) ∧ okSp (wd17 x0) (wd17 x0) = true ∧ okSp (wd18 x1) (wd18 x1) = true) ∧ (vStd (wd5 z1 z14 z15) (wd7 z3 z14 z15) (wd8 z5) (wd9 z6) (wd10 z7) (wd11 z8) 0 0 0 (bif wd3 z14 z15 then wd12 z12 else wd12 z12) (bif wd3 z14 z15 then gl else gl) (bif wd3 z14 z15 then wd2 z14 else wd2 z14) (bif wd3 z14 z15 then IntKind.i64.wrap ((wd2 z14).tdiv 4) else 0) ∧ inF (IntKind.i64.wrap (13000000 + IntKind.i64.wrap (50000 * IntKind.i64.wrap e0))) ((IntKind.i64.wrap e0).tmod 7) (IntKind.i64.wrap (1 + (IntKind.i64.wrap e0).tmod 5)) ∧ inF (IntKind.i64.wrap (13000000 + IntKind.i64.wrap (50000 * IntKind.i64.wrap e1))) ((IntKind.i64.wrap e1).tmod 7) (IntKind.i64.wrap (1 + (IntKind.i64.wrap e1).tmod 5))) ∧ okSp (wd17 x0) (wd17 x0) = true ∧ okSp (wd18 x1) (wd18 x1) = true) ∧ (wd36 z1 z3 z5 z6 z7 z8 z14 z15 x0 x1 x2 x3 = true → x3 = x3 ∧ ((vStd (wd5 z1 z14 z15) (wd7 z3 z14 z15) (wd8 z5) (wd9 z6) (wd10 z7) (wd11 z8) 0 0 0 (bif wd3 z14 z15 then wd12 z12 else wd12 z12) (bif wd3 z14 z15 then gl else gl) (bif wd3 z14 z15 then wd2 z14 else wd2 z14) (bif wd3 z14 z15 then IntKind.i64.wrap ((wd2 z14).tdiv 4) else 0) ∧ inF (IntKind.i64.wrap (13000000 + IntKind.i64.wrap (50000 * IntKind.i64.wrap e0))) ((IntKind.i64.wrap e0).tmod 7) (IntKind.i64.wrap (1 + (IntKind.i64.wrap e0).tmod 5)) ∧ inF (IntKind.i64.wrap (13000000 + IntKind.i64.wrap (50000 * IntKind.i64.wrap e1))) ((IntKind.i64.wrap e1).tmod 7) (IntKind.i64.wrap (1 + (IntKind.i64.wrap e1).tmod 5))) ∧ okSp (wd37 x2) (wd37 x2) = true ∧ okSp (wd38 x3) (wd38 x3) = true) ∧ (vStd (wd5 z1 z14 z15) (wd7 z3 z14 z15) (wd8 z5) (wd9 z6) (wd10 z7) (wd11 z8) 0 0 0 (bif wd3 z14 z15 then wd12 z12 else wd12 z12) (bif wd3 z14 z15 then gl else gl) (bif wd3 z14 z15 then wd2 z14 else wd2 z14) (bif wd3 z14 z15 then IntKind.i64.wrap ((wd2 z14).tdiv 4) else 0) ∧ inF (IntKind.i64.wrap (13000000 + IntKind.i64.wrap (50000 * IntKind.i64.wrap e0))) ((IntKind.i64.wrap e0).tmod 7) (IntKind.i64.wrap (1 + (IntKind.i64.wrap e0).tmod 5)) ∧ inF (IntKind.i64.wrap (13000000 + IntKind.i64.wrap (50000 * IntKind.i64.wrap e1))) ((IntKind.i64.wrap e1).tmod 7) (IntKind.i64.wrap (1 + (IntKind.i64.wrap e1).tmod 5))) ∧ okSp (wd37 x2) (wd37 x2) = true ∧ okSp (wd38 x3) (wd38 x3) = true))
def wdV (z0 z1 z2 z3 z4 z5 z6 z7 z8 z9 z10 z11 z12 z13 z14 z15 z16 z17 z18 z19 z20 : Int) (gl : ByteArray) (g : Nat) (n e0 e1 x0 x1 x2 x3 : Int) : Bool := wV (slSt (wd5 z1 z14 z15) (wd7 z3 z14 z15) (wd8 z5) (wd9 z6) (wd10 z7) (wd11 z8) (wd13 x0 x2) (wd14 x0 x2) (wd15 x1 x3) (wd16 x1 x3)) (slSt (wd5 z1 z14 z15) (wd7 z3 z14 z15) (wd8 z5) (wd9 z6) (wd10 z7) (wd11 z8) (wd17 x0) (wd17 x0) (wd18 x1) (wd18 x1)) (slSt (wd5 z1 z14 z15) (wd7 z3 z14 z15) (wd8 z5) (wd9 z6) (wd10 z7) (wd11 z8) (wd37 x2) (wd37 x2) (wd38 x3) (wd38 x3))
def we2 (z14 : Int) : Int := IntKind.i64.wrap (100000 * IntKind.i64.wrap z14)
def we3 (z14 z15 : Int) : Bool := bif z15.tmod (4 : Int) == 1 then decide (we2 z14 > 0) else false
def we4 (z1 : Int) : Int := IntKind.i64.wrap (1000 * IntKind.i64.wrap z1)
def we5 (z1 z14 z15 : Int) : Int := bif we3 z14 z15 then we4 z1 else we4 z1
def we6 (z3 : Int) : Int := IntKind.i64.wrap (1000 * IntKind.i64.wrap (z3.tmod 3000))
def we7 (z3 z14 z15 : Int) : Int := bif we3 z14 z15 then we6 z3 else we6 z3
def we8 (z5 : Int) : Int := IntKind.i64.wrap (1000 * IntKind.i64.wrap z5)
def we9 (z6 : Int) : Int := IntKind.i64.wrap (1000 * IntKind.i64.wrap z6)
def we10 (z7 : Int) : Int := IntKind.i64.wrap (1000 * IntKind.i64.wrap z7)
def we11 (z8 : Int) : Int := IntKind.i64.wrap (1000 * IntKind.i64.wrap z8)
def we12 (z12 : Int) : Int := IntKind.i64.wrap (1000 * IntKind.i64.wrap (z12.tmod 20000))
def we13 (x0 x2 : Int) : Int := IntKind.i64.wrap ((if IntKind.i64.wrap x2 < IntKind.i64.wrap x0 then IntKind.i64.wrap x2 else IntKind.i64.wrap x0) * 16777216)
def we14 (x0 x2 : Int) : Int := IntKind.i64.wrap ((if IntKind.i64.wrap x2 > IntKind.i64.wrap x0 then IntKind.i64.wrap x2 else IntKind.i64.wrap x0) * 16777216)
def we15 (x1 x3 : Int) : Int := IntKind.i64.wrap ((if IntKind.i64.wrap x3 < IntKind.i64.wrap x1 then IntKind.i64.wrap x3 else IntKind.i64.wrap x1) * 16777216)
def we16 (x1 x3 : Int) : Int := IntKind.i64.wrap ((if IntKind.i64.wrap x3 > IntKind.i64.wrap x1 then IntKind.i64.wrap x3 else IntKind.i64.wrap x1) * 16777216)
def we17 (x0 : Int) : Int := IntKind.i64.wrap (IntKind.i64.wrap x0 * 16777216)
def we18 (x1 : Int) : Int := IntKind.i64.wrap (IntKind.i64.wrap x1 * 16777216)
def we19 (z1 z3 z5 z6 z7 z8 z14 z15 x0 x1 x2 x3 : Int) : Int := (sagS (we5 z1 z14 z15) (we7 z3 z14 z15) (we8 z5) (we9 z6) (we10 z7) (we11 z8) (we13 x0 x2) (we14 x0 x2) (we15 x1 x3) (we16 x1 x3)).e
def we20 (z1 z3 z5 z6 z7 z8 z14 z15 x0 x1 : Int) : Int := (sagS (we5 z1 z14 z15) (we7 z3 z14 z15) (we8 z5) (we9 z6) (we10 z7) (we11 z8) (we17 x0) (we17 x0) (we18 x1) (we18 x1)).e
def we21 (z1 z3 z5 z6 z7 z8 z14 z15 x0 x1 x2 x3 : Int) : Int := (sagS (we5 z1 z14 z15) (we7 z3 z14 z15) (we8 z5) (we9 z6) (we10 z7) (we11 z8) (we13 x0 x2) (we14 x0 x2) (we15 x1 x3) (we16 x1 x3)).lo
def we22 (z1 z3 z5 z6 z7 z8 z14 z15 x0 x1 : Int) : Int := (sagS (we5 z1 z14 z15) (we7 z3 z14 z15) (we8 z5) (we9 z6) (we10 z7) (we11 z8) (we17 x0) (we17 x0) (we18 x1) (we18 x1)).lo
def we23 (z1 z3 z5 z6 z7 z8 z14 z15 x0 x1 : Int) : Int := (sagS (we5 z1 z14 z15) (we7 z3 z14 z15) (we8 z5) (we9 z6) (we10 z7) (we11 z8) (we17 x0) (we17 x0) (we18 x1) (we18 x1)).hi
def we24 (z1 z3 z5 z6 z7 z8 z14 z15 x0 x1 x2 x3 : Int) : Int := (sagS (we5 z1 z14 z15) (we7 z3 z14 z15) (we8 z5) (we9 z6) (we10 z7) (we11 z8) (we13 x0 x2) (we14 x0 x2) (we15 x1 x3) (we16 x1 x3)).hi
def we25 (z1 z3 z5 z6 z7 z8 z14 z15 x0 x1 x2 x3 : Int) : Bool := slC (we5 z1 z14 z15) (we7 z3 z14 z15) (we8 z5) (we9 z6) (we10 z7) (we11 z8) (we13 x0 x2) (we14 x0 x2) (we15 x1 x3) (we16 x1 x3)
def we26 (z1 z3 z5 z6 z7 z8 z14 z15 x0 x1 : Int) : Bool := slC (we5 z1 z14 z15) (we7 z3 z14 z15) (we8 z5) (we9 z6) (we10 z7) (we11 z8) (we17 x0) (we17 x0) (we18 x1) (we18 x1)
def we27 (z1 z3 z5 z6 z7 z8 z14 z15 x0 x1 x2 x3 : Int) : Int := tw1 (we19 z1 z3 z5 z6 z7 z8 z14 z15 x0 x1 x2 x3) (we25 z1 z3 z5 z6 z7 z8 z14 z15 x0 x1 x2 x3) (slU (we5 z1 z14 z15) (we7 z3 z14 z15) (we8 z5) (we9 z6) (we10 z7) (we11 z8) (we13 x0 x2) (we14 x0 x2) (we15 x1 x3) (we16 x1 x3)).lo
def we28 (z1 z3 z5 z6 z7 z8 z14 z15 x0 x1 : Int) : Int := tw1 (we20 z1 z3 z5 z6 z7 z8 z14 z15 x0 x1) (we26 z1 z3 z5 z6 z7 z8 z14 z15 x0 x1) (slU (we5 z1 z14 z15) (we7 z3 z14 z15) (we8 z5) (we9 z6) (we10 z7) (we11 z8) (we17 x0) (we17 x0) (we18 x1) (we18 x1)).lo
def we29 (z1 z3 z5 z6 z7 z8 z14 z15 x0 x1 : Int) : Int := tw1 (we20 z1 z3 z5 z6 z7 z8 z14 z15 x0 x1) (we26 z1 z3 z5 z6 z7 z8 z14 z15 x0 x1) (slU (we5 z1 z14 z15) (we7 z3 z14 z15) (we8 z5) (we9 z6) (we10 z7) (we11 z8) (we17 x0) (we17 x0) (we18 x1) (we18 x1)).hi
def we30 (z1 z3 z5 z6 z7 z8 z14 z15 x0 x1 x2 x3 : Int) : Int := tw1 (we19 z1 z3 z5 z6 z7 z8 z14 z15 x0 x1 x2 x3) (we25 z1 z3 z5 z6 z7 z8 z14 z15 x0 x1 x2 x3) (slU (we5 z1 z14 z15) (we7 z3 z14 z15) (we8 z5) (we9 z6) (we10 z7) (we11 z8) (we13 x0 x2) (we14 x0 x2) (we15 x1 x3) (we16 x1 x3)).hi
def we31 (z1 z3 z5 z6 z7 z8 z14 z15 x0 x1 x2 x3 : Int) : Int := tw1 (we19 z1 z3 z5 z6 z7 z8 z14 z15 x0 x1 x2 x3) (we25 z1 z3 z5 z6 z7 z8 z14 z15 x0 x1 x2 x3) (slV (we5 z1 z14 z15) (we7 z3 z14 z15) (we8 z5) (we9 z6) (we10 z7) (we11 z8) (we13 x0 x2) (we14 x0 x2) (we15 x1 x3) (we16 x1 x3)).lo
def we32 (z1 z3 z5 z6 z7 z8 z14 z15 x0 x1 : Int) : Int := tw1 (we20 z1 z3 z5 z6 z7 z8 z14 z15 x0 x1) (we26 z1 z3 z5 z6 z7 z8 z14 z15 x0 x1) (slV (we5 z1 z14 z15) (we7 z3 z14 z15) (we8 z5) (we9 z6) (we10 z7) (we11 z8) (we17 x0) (we17 x0) (we18 x1) (we18 x1)).lo
def we33 (z1 z3 z5 z6 z7 z8 z14 z15 x0 x1 : Int) : Int := tw1 (we20 z1 z3 z5 z6 z7 z8 z14 z15 x0 x1) (we26 z1 z3 z5 z6 z7 z8 z14 z15 x0 x1) (slV (we5 z1 z14 z15) (we7 z3 z14 z15) (we8 z5) (we9 z6) (we10 z7) (we11 z8) (we17 x0) (we17 x0) (we18 x1) (we18 x1)).hi
def we34 (z1 z3 z5 z6 z7 z8 z14 z15 x0 x1 x2 x3 : Int) : Int := tw1 (we19 z1 z3 z5 z6 z7 z8 z14 z15 x0 x1 x2 x3) (we25 z1 z3 z5 z6 z7 z8 z14 z15 x0 x1 x2 x3) (slV (we5 z1 z14 z15) (we7 z3 z14 z15) (we8 z5) (we9 z6) (we10 z7) (we11 z8) (we13 x0 x2) (we14 x0 x2) (we15 x1 x3) (we16 x1 x3)).hi
def we35 (z1 z3 z5 z6 z7 z8 z14 z15 x0 x1 x2 x3 : Int) : Bool := bif twE (we19 z1 z3 z5 z6 z7 z8 z14 z15 x0 x1 x2 x3) (we25 z1 z3 z5 z6 z7 z8 z14 z15 x0 x1 x2 x3) == 0 then bif twE (we20 z1 z3 z5 z6 z7 z8 z14 z15 x0 x1) (we26 z1 z3 z5 z6 z7 z8 z14 z15 x0 x1) != 0 then true else bif !bif decide (we27 z1 z3 z5 z6 z7 z8 z14 z15 x0 x1 x2 x3 ≤ we28 z1 z3 z5 z6 z7 z8 z14 z15 x0 x1) then bif decide (we28 z1 z3 z5 z6 z7 z8 z14 z15 x0 x1 ≤ we29 z1 z3 z5 z6 z7 z8 z14 z15 x0 x1) then decide (we29 z1 z3 z5 z6 z7 z8 z14 z15 x0 x1 ≤ we30 z1 z3 z5 z6 z7 z8 z14 z15 x0 x1 x2 x3) else false else false then true else !bif decide (we31 z1 z3 z5 z6 z7 z8 z14 z15 x0 x1 x2 x3 ≤ we32 z1 z3 z5 z6 z7 z8 z14 z15 x0 x1) then bif decide (we32 z1 z3 z5 z6 z7 z8 z14 z15 x0 x1 ≤ we33 z1 z3 z5 z6 z7 z8 z14 z15 x0 x1) then decide (we33 z1 z3 z5 z6 z7 z8 z14 z15 x0 x1 ≤ we34 z1 z3 z5 z6 z7 z8 z14 z15 x0 x1 x2 x3) else false else false else false
def we36 (z1 z3 z5 z6 z7 z8 z14 z15 x0 x1 x2 x3 : Int) : Bool := !bif we19 z1 z3 z5 z6 z7 z8 z14 z15 x0 x1 x2 x3 == 0 then bif we20 z1 z3 z5 z6 z7 z8 z14 z15 x0 x1 != 0 then true else bif !bif decide (we21 z1 z3 z5 z6 z7 z8 z14 z15 x0 x1 x2 x3 ≤ we22 z1 z3 z5 z6 z7 z8 z14 z15 x0 x1) then bif decide (we22 z1 z3 z5 z6 z7 z8 z14 z15 x0 x1 ≤ we23 z1 z3 z5 z6 z7 z8 z14 z15 x0 x1) then decide (we23 z1 z3 z5 z6 z7 z8 z14 z15 x0 x1 ≤ we24 z1 z3 z5 z6 z7 z8 z14 z15 x0 x1 x2 x3) else false else false then true else we35 z1 z3 z5 z6 z7 z8 z14 z15 x0 x1 x2 x3 else we35 z1 z3 z5 z6 z7 z8 z14 z15 x0 x1 x2 x3
def we37 (x2 : Int) : Int := IntKind.i64.wrap (IntKind.i64.wrap x2 * 16777216)
def we38 (x3 : Int) : Int := IntKind.i64.wrap (IntKind.i64.wrap x3 * 16777216)
def weN (z0 z1 z2 z3 z4 z5 z6 z7 z8 z9 z10 z11 z12 z13 z14 z15 z16 z17 z18 z19 z20 : Int) (gl : ByteArray) (g : Nat) (n e0 e1 e2 x0 x1 x2 x3 : Int) : Prop := ((((z14 = z14 ∧ z13 = z13 ∧ z12 = z12 ∧ z3 = z3 ∧ z1 = z1) ∧ (IntKind.i64.wrap z13).tmod 5 = (g : Int)) ∧ (z0.tmod (8 : Int) == 4) = true ∧ decide (0 < n) = true ∧ decide ((1 : Int) < n) = true ∧ decide ((2 : Int) < n) = true) ∧ (x3 = x3 ∧ x1 = x1) ∧ ((vStd (we5 z1 z14 z15) (we7 z3 z14 z15) (we8 z5) (we9 z6) (we10 z7) (we11 z8) 0 0 0 (bif we3 z14 z15 then we12 z12 else we12 z12) (bif we3 z14 z15 then gl else gl) (bif we3 z14 z15 then we2 z14 else we2 z14) (bif we3 z14 z15 then IntKind.i64.wrap ((we2 z14).tdiv 4) else 0) ∧ inF (IntKind.i64.wrap (13000000 + IntKind.i64.wrap (50000 * IntKind.i64.wrap e0))) ((IntKind.i64.wrap e0).tmod 7) (IntKind.i64.wrap (1 + (IntKind.i64.wrap e0).tmod 5)) ∧ inF (IntKind.i64.wrap (13000000 + IntKind.i64.wrap (50000 * IntKind.i64.wrap e1))) ((IntKind.i64.wrap e1).tmod 7) (IntKind.i64.wrap (1 + (IntKind.i64.wrap e1).tmod 5)) ∧ inF (IntKind.i64.wrap (13000000 + IntKind.i64.wrap (50000 * IntKind.i64.wrap e2))) ((IntKind.i64.wrap e2).tmod 7) (IntKind.i64.wrap (1 + (IntKind.i64.wrap e2).tmod 5))) ∧ okSp (we13 x0 x2) (we14 x0 x2) = true ∧ okSp (we15 x1 x3) (we16 x1 x3) = true) ∧ ((vStd (we5 z1 z14 z15) (we7 z3 z14 z15) (we8 z5) (we9 z6) (we10 z7) (we11 z8) 0 0 0 (bif we3 z14 z15 then we12 z12 else we12 z12) (bif we3 z14 z15 then gl else gl) (bif we3 z14 z15 then we2 z14 else we2 z14) (bif we3 z14 z15 then IntKind.i64.wrap ((we2 z14).tdiv 4) else 0) ∧ inF (IntKind.i64.wrap (13000000 + IntKind.i64.wrap (50000 * IntKind.i64.wrap e0))) ((IntKind.i64.wrap e0).tmod 7) (IntKind.i64.wrap (1 + (IntKind.i64.wrap e0).tmod 5)) ∧ inF (IntKind.i64.wrap (13000000 + IntKind.i64.wrap (50000 * IntKind.i64.wrap e1))) ((IntKind.i64.wrap e1).tmod 7) (IntKind.i64.wrap (1 + (IntKind.i64.wrap e1).tmod 5)) ∧ inF (IntKind.i64.wrap (13000000 + IntKind.i64.wrap (50000 * IntKind.i64.wrap e2))) ((IntKind.i64.wrap e2).tmod 7) (IntKind.i64.wrap (1 + (IntKind.i64.wrap e2).tmod 5))) ∧ okSp (we13 x0 x2) (we14 x0 x2) = true ∧ okSp (we15 x1 x3) (we16 x1 x3) = true) ∧ (x1 = x1 ∧ ((vStd (we5 z1 z14 z15) (we7 z3 z14 z15) (we8 z5) (we9 z6) (we10 z7) (we11 z8) 0 0 0 (bif we3 z14 z15 then we12 z12 else we12 z12) (bif we3 z14 z15 then gl else gl) (bif we3 z14 z15 then we2 z14 else we2 z14) (bif we3 z14 z15 then IntKind.i64.wrap ((we2 z14).tdiv 4) else 0) ∧ inF (IntKind.i64.wrap (13000000 + IntKind.i64.wrap (50000 * IntKind.i64.wrap e0))) ((IntKind.i64.wrap e0).tmod 7) (IntKind.i64.wrap (1 + (IntKind.i64.wrap e0).tmod 5)) ∧ inF (IntKind.i64.wrap (13000000 + IntKind.i64.wrap (50000 * IntKind.i64.wrap e1))) ((IntKind.i64.wrap e1).tmod 7) (IntKind.i64.wrap (1 + (IntKind.i64.wrap e1).tmod 5)) ∧ inF (IntKind.i64.wrap (13000000 + IntKind.i64.wrap (50000 * IntKind.i64.wrap e2))) ((IntKind.i64.wrap e2).tmod 7) (IntKind.i64.wrap (1 + (IntKind.i64.wrap e2).tmod 5))) ∧ okSp (we17 x0) (we17 x0) = true ∧ okSp (we18 x1) (we18 x1) = true) ∧ (vStd (we5 z1 z14 z15) (we7 z3 z14 z15) (we8 z5) (we9 z6) (we10 z7) (we11 z8) 0 0 0 (bif we3 z14 z15 then we12 z12 else we12 z12) (bif we3 z14 z15 then gl else gl) (bif we3 z14 z15 then we2 z14 else we2 z14) (bif we3 z14 z15 then IntKind.i64.wrap ((we2 z14).tdiv 4) else 0) ∧ inF (IntKind.i64.wrap (13000000 + IntKind.i64.wrap (50000 * IntKind.i64.wrap e0))) ((IntKind.i64.wrap e0).tmod 7) (IntKind.i64.wrap (1 + (IntKind.i64.wrap e0).tmod 5)) ∧ inF (IntKind.i64.wrap (13000000 + IntKind.i64.wrap (50000 * IntKind.i64.wrap e1))) ((IntKind.i64.wrap e1).tmod 7) (IntKind.i64.wrap (1 + (IntKind.i64.wrap e1).tmod 5)) ∧ inF (IntKind.i64.wrap (13000000 + IntKind.i64.wrap (50000 * IntKind.i64.wrap e2))) ((IntKind.i64.wrap e2).tmod 7) (IntKind.i64.wrap (1 + (IntKind.i64.wrap e2).tmod 5))) ∧ okSp (we17 x0) (we17 x0) = true ∧ okSp (we18 x1) (we18 x1) = true) ∧ (we36 z1 z3 z5 z6 z7 z8 z14 z15 x0 x1 x2 x3 = true → x3 = x3 ∧ ((vStd (we5 z1 z14 z15) (we7 z3 z14 z15) (we8 z5) (we9 z6) (we10 z7) (we11 z8) 0 0 0 (bif we3 z14 z15 then we12 z12 else we12 z12) (bif we3 z14 z15 then gl else gl) (bif we3 z14 z15 then we2 z14 else we2 z14) (bif we3 z14 z15 then IntKind.i64.wrap ((we2 z14).tdiv 4) else 0) ∧ inF (IntKind.i64.wrap (13000000 + IntKind.i64.wrap (50000 * IntKind.i64.wrap e0))) ((IntKind.i64.wrap e0).tmod 7) (IntKind.i64.wrap (1 + (IntKind.i64.wrap e0).tmod 5)) ∧ inF (IntKind.i64.wrap (13000000 + IntKind.i64.wrap (50000 * IntKind.i64.wrap e1))) ((IntKind.i64.wrap e1).tmod 7) (IntKind.i64.wrap (1 + (IntKind.i64.wrap e1).tmod 5)) ∧ inF (IntKind.i64.wrap (13000000 + IntKind.i64.wrap (50000 * IntKind.i64.wrap e2))) ((IntKind.i64.wrap e2).tmod 7) (IntKind.i64.wrap (1 + (IntKind.i64.wrap e2).tmod 5))) ∧ okSp (we37 x2) (we37 x2) = true ∧ okSp (we38 x3) (we38 x3) = true) ∧ (vStd (we5 z1 z14 z15) (we7 z3 z14 z15) (we8 z5) (we9 z6) (we10 z7) (we11 z8) 0 0 0 (bif we3 z14 z15 then we12 z12 else we12 z12) (bif we3 z14 z15 then gl else gl) (bif we3 z14 z15 then we2 z14 else we2 z14) (bif we3 z14 z15 then IntKind.i64.wrap ((we2 z14).tdiv 4) else 0) ∧ inF (IntKind.i64.wrap (13000000 + IntKind.i64.wrap (50000 * IntKind.i64.wrap e0))) ((IntKind.i64.wrap e0).tmod 7) (IntKind.i64.wrap (1 + (IntKind.i64.wrap e0).tmod 5)) ∧ inF (IntKind.i64.wrap (13000000 + IntKind.i64.wrap (50000 * IntKind.i64.wrap e1))) ((IntKind.i64.wrap e1).tmod 7) (IntKind.i64.wrap (1 + (IntKind.i64.wrap e1).tmod 5)) ∧ inF (IntKind.i64.wrap (13000000 + IntKind.i64.wrap (50000 * IntKind.i64.wrap e2))) ((IntKind.i64.wrap e2).tmod 7) (IntKind.i64.wrap (1 + (IntKind.i64.wrap e2).tmod 5))) ∧ okSp (we37 x2) (we37 x2) = true ∧ okSp (we38 x3) (we38 x3) = true))
def weV (z0 z1 z2 z3 z4 z5 z6 z7 z8 z9 z10 z11 z12 z13 z14 z15 z16 z17 z18 z19 z20 : Int) (gl : ByteArray) (g : Nat) (n e0 e1 e2 x0 x1 x2 x3 : Int) : Bool := wV (slSt (we5 z1 z14 z15) (we7 z3 z14 z15) (we8 z5) (we9 z6) (we10 z7) (we11 z8) (we13 x0 x2) (we14 x0 x2) (we15 x1 x3) (we16 x1 x3)) (slSt (we5 z1 z14 z15) (we7 z3 z14 z15) (we8 z5) (we9 z6) (we10 z7) (we11 z8) (we17 x0) (we17 x0) (we18 x1) (we18 x1)) (slSt (we5 z1 z14 z15) (we7 z3 z14 z15) (we8 z5) (we9 z6) (we10 z7) (we11 z8) (we37 x2) (we37 x2) (we38 x3) (we38 x3))
def wf0 (z14 : Int) : Int := IntKind.i64.wrap (100000 * IntKind.i64.wrap z14)
def wf1 (z14 z15 : Int) : Bool := bif z15.tmod (4 : Int) == 1 then decide (wf0 z14 > 0) else false
def wf2 (z1 : Int) : Int := IntKind.i64.wrap (1000 * IntKind.i64.wrap z1)
def wf3 (z1 z14 z15 : Int) : Int := bif wf1 z14 z15 then wf2 z1 else wf2 z1
def wf4 (z3 : Int) : Int := IntKind.i64.wrap (1000 * IntKind.i64.wrap (z3.tmod 3000))
def wf5 (z3 z14 z15 : Int) : Int := bif wf1 z14 z15 then wf4 z3 else wf4 z3
def wf6 (z2 : Int) : Int := IntKind.i64.wrap (1000 * IntKind.i64.wrap z2)
def wf7 (z4 : Int) : Int := IntKind.i64.wrap (1000 * IntKind.i64.wrap (z4.tmod 3000))
def wf8 (z12 : Int) : Int := IntKind.i64.wrap (1000 * IntKind.i64.wrap (z12.tmod 20000))
def wf9 (x0 x2 : Int) : Int := IntKind.i64.wrap ((if IntKind.i64.wrap x2 < IntKind.i64.wrap x0 then IntKind.i64.wrap x2 else IntKind.i64.wrap x0) * 16777216)
def wf10 (x0 x2 : Int) : Int := IntKind.i64.wrap ((if IntKind.i64.wrap x2 > IntKind.i64.wrap x0 then IntKind.i64.wrap x2 else IntKind.i64.wrap x0) * 16777216)
def wf11 (x1 x3 : Int) : Int := IntKind.i64.wrap ((if IntKind.i64.wrap x3 < IntKind.i64.wrap x1 then IntKind.i64.wrap x3 else IntKind.i64.wrap x1) * 16777216)
def wf12 (x1 x3 : Int) : Int := IntKind.i64.wrap ((if IntKind.i64.wrap x3 > IntKind.i64.wrap x1 then IntKind.i64.wrap x3 else IntKind.i64.wrap x1) * 16777216)
def wf13 (x0 : Int) : Int := IntKind.i64.wrap (IntKind.i64.wrap x0 * 16777216)
def wf14 (x1 : Int) : Int := IntKind.i64.wrap (IntKind.i64.wrap x1 * 16777216)
def wf15 (z1 z2 z3 z4 z14 z15 x0 x1 x2 x3 : Int) : Int := (sagX (wf3 z1 z14 z15) (wf5 z3 z14 z15) (wf6 z2) (wf7 z4) (wf9 x0 x2) (wf10 x0 x2) (wf11 x1 x3) (wf12 x1 x3)).e
def wf16 (z1 z2 z3 z4 z14 z15 x0 x1 : Int) : Int := (sagX (wf3 z1 z14 z15) (wf5 z3 z14 z15) (wf6 z2) (wf7 z4) (wf13 x0) (wf13 x0) (wf14 x1) (wf14 x1)).e
def wf17 (z1 z2 z3 z4 z14 z15 x0 x1 x2 x3 : Int) : Int := (sagX (wf3 z1 z14 z15) (wf5 z3 z14 z15) (wf6 z2) (wf7 z4) (wf9 x0 x2) (wf10 x0 x2) (wf11 x1 x3) (wf12 x1 x3)).lo
def wf18 (z1 z2 z3 z4 z14 z15 x0 x1 : Int) : Int := (sagX (wf3 z1 z14 z15) (wf5 z3 z14 z15) (wf6 z2) (wf7 z4) (wf13 x0) (wf13 x0) (wf14 x1) (wf14 x1)).lo
def wf19 (z1 z2 z3 z4 z14 z15 x0 x1 : Int) : Int := (sagX (wf3 z1 z14 z15) (wf5 z3 z14 z15) (wf6 z2) (wf7 z4) (wf13 x0) (wf13 x0) (wf14 x1) (wf14 x1)).hi
def wf20 (z1 z2 z3 z4 z14 z15 x0 x1 x2 x3 : Int) : Int := (sagX (wf3 z1 z14 z15) (wf5 z3 z14 z15) (wf6 z2) (wf7 z4) (wf9 x0 x2) (wf10 x0 x2) (wf11 x1 x3) (wf12 x1 x3)).hi
def wf21 (z1 z2 z3 z4 z14 z15 x0 x1 x2 x3 : Int) : Bool := slX (wf3 z1 z14 z15) (wf5 z3 z14 z15) (wf6 z2) (wf7 z4) (wf9 x0 x2) (wf10 x0 x2) (wf11 x1 x3) (wf12 x1 x3)
def wf22 (z1 z2 z3 z4 z14 z15 x0 x1 : Int) : Bool := slX (wf3 z1 z14 z15) (wf5 z3 z14 z15) (wf6 z2) (wf7 z4) (wf13 x0) (wf13 x0) (wf14 x1) (wf14 x1)
def wf23 (z1 z2 z3 z4 z14 z15 x0 x1 x2 x3 : Int) : Int := tw1 (wf15 z1 z2 z3 z4 z14 z15 x0 x1 x2 x3) (wf21 z1 z2 z3 z4 z14 z15 x0 x1 x2 x3) (b29 (wf3 z1 z14 z15) (wf5 z3 z14 z15) (wf6 z2) (wf7 z4) (wf9 x0 x2) (wf10 x0 x2) (wf11 x1 x3) (wf12 x1 x3)).lo
def wf24 (z1 z2 z3 z4 z14 z15 x0 x1 : Int) : Int := tw1 (wf16 z1 z2 z3 z4 z14 z15 x0 x1) (wf22 z1 z2 z3 z4 z14 z15 x0 x1) (b29 (wf3 z1 z14 z15) (wf5 z3 z14 z15) (wf6 z2) (wf7 z4) (wf13 x0) (wf13 x0) (wf14 x1) (wf14 x1)).lo
def wf25 (z1 z2 z3 z4 z14 z15 x0 x1 : Int) : Int := tw1 (wf16 z1 z2 z3 z4 z14 z15 x0 x1) (wf22 z1 z2 z3 z4 z14 z15 x0 x1) (b29 (wf3 z1 z14 z15) (wf5 z3 z14 z15) (wf6 z2) (wf7 z4) (wf13 x0) (wf13 x0) (wf14 x1) (wf14 x1)).hi
def wf26 (z1 z2 z3 z4 z14 z15 x0 x1 x2 x3 : Int) : Int := tw1 (wf15 z1 z2 z3 z4 z14 z15 x0 x1 x2 x3) (wf21 z1 z2 z3 z4 z14 z15 x0 x1 x2 x3) (b29 (wf3 z1 z14 z15) (wf5 z3 z14 z15) (wf6 z2) (wf7 z4) (wf9 x0 x2) (wf10 x0 x2) (wf11 x1 x3) (wf12 x1 x3)).hi
def wf27 (z1 z2 z3 z4 z14 z15 x0 x1 x2 x3 : Int) : Int := tw1 (wf15 z1 z2 z3 z4 z14 z15 x0 x1 x2 x3) (wf21 z1 z2 z3 z4 z14 z15 x0 x1 x2 x3) (b25 (wf3 z1 z14 z15) (wf5 z3 z14 z15) (wf6 z2) (wf7 z4) (wf9 x0 x2) (wf10 x0 x2) (wf11 x1 x3) (wf12 x1 x3)).lo
def wf28 (z1 z2 z3 z4 z14 z15 x0 x1 : Int) : Int := tw1 (wf16 z1 z2 z3 z4 z14 z15 x0 x1) (wf22 z1 z2 z3 z4 z14 z15 x0 x1) (b25 (wf3 z1 z14 z15) (wf5 z3 z14 z15) (wf6 z2) (wf7 z4) (wf13 x0) (wf13 x0) (wf14 x1) (wf14 x1)).lo
def wf29 (z1 z2 z3 z4 z14 z15 x0 x1 : Int) : Int := tw1 (wf16 z1 z2 z3 z4 z14 z15 x0 x1) (wf22 z1 z2 z3 z4 z14 z15 x0 x1) (b25 (wf3 z1 z14 z15) (wf5 z3 z14 z15) (wf6 z2) (wf7 z4) (wf13 x0) (wf13 x0) (wf14 x1) (wf14 x1)).hi
def wf30 (z1 z2 z3 z4 z14 z15 x0 x1 x2 x3 : Int) : Int := tw1 (wf15 z1 z2 z3 z4 z14 z15 x0 x1 x2 x3) (wf21 z1 z2 z3 z4 z14 z15 x0 x1 x2 x3) (b25 (wf3 z1 z14 z15) (wf5 z3 z14 z15) (wf6 z2) (wf7 z4) (wf9 x0 x2) (wf10 x0 x2) (wf11 x1 x3) (wf12 x1 x3)).hi
def wf31 (z1 z2 z3 z4 z14 z15 x0 x1 x2 x3 : Int) : Bool := bif twE (wf15 z1 z2 z3 z4 z14 z15 x0 x1 x2 x3) (wf21 z1 z2 z3 z4 z14 z15 x0 x1 x2 x3) == 0 then bif twE (wf16 z1 z2 z3 z4 z14 z15 x0 x1) (wf22 z1 z2 z3 z4 z14 z15 x0 x1) != 0 then true else bif !bif decide (wf23 z1 z2 z3 z4 z14 z15 x0 x1 x2 x3 ≤ wf24 z1 z2 z3 z4 z14 z15 x0 x1) then bif decide (wf24 z1 z2 z3 z4 z14 z15 x0 x1 ≤ wf25 z1 z2 z3 z4 z14 z15 x0 x1) then decide (wf25 z1 z2 z3 z4 z14 z15 x0 x1 ≤ wf26 z1 z2 z3 z4 z14 z15 x0 x1 x2 x3) else false else false then true else !bif decide (wf27 z1 z2 z3 z4 z14 z15 x0 x1 x2 x3 ≤ wf28 z1 z2 z3 z4 z14 z15 x0 x1) then bif decide (wf28 z1 z2 z3 z4 z14 z15 x0 x1 ≤ wf29 z1 z2 z3 z4 z14 z15 x0 x1) then decide (wf29 z1 z2 z3 z4 z14 z15 x0 x1 ≤ wf30 z1 z2 z3 z4 z14 z15 x0 x1 x2 x3) else false else false else false
def wf32 (z1 z2 z3 z4 z14 z15 x0 x1 x2 x3 : Int) : Bool := !bif wf15 z1 z2 z3 z4 z14 z15 x0 x1 x2 x3 == 0 then bif wf16 z1 z2 z3 z4 z14 z15 x0 x1 != 0 then true else bif !bif decide (wf17 z1 z2 z3 z4 z14 z15 x0 x1 x2 x3 ≤ wf18 z1 z2 z3 z4 z14 z15 x0 x1) then bif decide (wf18 z1 z2 z3 z4 z14 z15 x0 x1 ≤ wf19 z1 z2 z3 z4 z14 z15 x0 x1) then decide (wf19 z1 z2 z3 z4 z14 z15 x0 x1 ≤ wf20 z1 z2 z3 z4 z14 z15 x0 x1 x2 x3) else false else false then true else wf31 z1 z2 z3 z4 z14 z15 x0 x1 x2 x3 else wf31 z1 z2 z3 z4 z14 z15 x0 x1 x2 x3
def wf33 (x2 : Int) : Int := IntKind.i64.wrap (IntKind.i64.wrap x2 * 16777216)
def wf34 (x3 : Int) : Int := IntKind.i64.wrap (IntKind.i64.wrap x3 * 16777216)
def wfN (z0 z1 z2 z3 z4 z5 z6 z7 z8 z9 z10 z11 z12 z13 z14 z15 z16 z17 z18 z19 z20 : Int) (gl : ByteArray) (g : Nat) (n x0 x1 x2 x3 : Int) : Prop := ((((z14 = z14 ∧ z13 = z13 ∧ z12 = z12 ∧ z3 = z3 ∧ z1 = z1) ∧ (IntKind.i64.wrap z13).tmod 5 = (g : Int)) ∧ (z0.tmod (8 : Int) == 4) = false ∧ (z0.tmod (8 : Int) == 5) = true) ∧ (x3 = x3 ∧ x1 = x1) ∧ (vBic (wf3 z1 z14 z15) (wf5 z3 z14 z15) (wf6 z2) (wf7 z4) (bif wf1 z14 z15 then wf8 z12 else wf8 z12) (bif wf1 z14 z15 then gl else gl) (bif wf1 z14 z15 then wf0 z14 else wf0 z14) (bif wf1 z14 z15 then IntKind.i64.wrap ((wf0 z14).tdiv 4) else 0) ∧ okSp (wf9 x0 x2) (wf10 x0 x2) = true ∧ okSp (wf11 x1 x3) (wf12 x1 x3) = true) ∧ (vBic (wf3 z1 z14 z15) (wf5 z3 z14 z15) (wf6 z2) (wf7 z4) (bif wf1 z14 z15 then wf8 z12 else wf8 z12) (bif wf1 z14 z15 then gl else gl) (bif wf1 z14 z15 then wf0 z14 else wf0 z14) (bif wf1 z14 z15 then IntKind.i64.wrap ((wf0 z14).tdiv 4) else 0) ∧ okSp (wf9 x0 x2) (wf10 x0 x2) = true ∧ okSp (wf11 x1 x3) (wf12 x1 x3) = true) ∧ (x1 = x1 ∧ (vBic (wf3 z1 z14 z15) (wf5 z3 z14 z15) (wf6 z2) (wf7 z4) (bif wf1 z14 z15 then wf8 z12 else wf8 z12) (bif wf1 z14 z15 then gl else gl) (bif wf1 z14 z15 then wf0 z14 else wf0 z14) (bif wf1 z14 z15 then IntKind.i64.wrap ((wf0 z14).tdiv 4) else 0) ∧ okSp (wf13 x0) (wf13 x0) = true ∧ okSp (wf14 x1) (wf14 x1) = true) ∧ vBic (wf3 z1 z14 z15) (wf5 z3 z14 z15) (wf6 z2) (wf7 z4) (bif wf1 z14 z15 then wf8 z12 else wf8 z12) (bif wf1 z14 z15 then gl else gl) (bif wf1 z14 z15 then wf0 z14 else wf0 z14) (bif wf1 z14 z15 then IntKind.i64.wrap ((wf0 z14).tdiv 4) else 0) ∧ okSp (wf13 x0) (wf13 x0) = true ∧ okSp (wf14 x1) (wf14 x1) = true) ∧ (wf32 z1 z2 z3 z4 z14 z15 x0 x1 x2 x3 = true → x3 = x3 ∧ (vBic (wf3 z1 z14 z15) (wf5 z3 z14 z15) (wf6 z2) (wf7 z4) (bif wf1 z14 z15 then wf8 z12 else wf8 z12) (bif wf1 z14 z15 then gl else gl) (bif wf1 z14 z15 then wf0 z14 else wf0 z14) (bif wf1 z14 z15 then IntKind.i64.wrap ((wf0 z14).tdiv 4) else 0) ∧ okSp (wf33 x2) (wf33 x2) = true ∧ okSp (wf34 x3) (wf34 x3) = true) ∧ vBic (wf3 z1 z14 z15) (wf5 z3 z14 z15) (wf6 z2) (wf7 z4) (bif wf1 z14 z15 then wf8 z12 else wf8 z12) (bif wf1 z14 z15 then gl else gl) (bif wf1 z14 z15 then wf0 z14 else wf0 z14) (bif wf1 z14 z15 then IntKind.i64.wrap ((wf0 z14).tdiv 4) else 0) ∧ okSp (wf33 x2) (wf33 x2) = true ∧ okSp (wf34 x3) (wf34 x3) = true))
def wfV (z0 z1 z2 z3 z4 z5 z6 z7 z8 z9 z10 z11 z12 z13 z14 z15 z16 z17 z18 z19 z20 : Int) (gl : ByteArray) (g : Nat) (n x0 x1 x2 x3 : Int) : Bool := wV (slBi (wf3 z1 z14 z15) (wf5 z3 z14 z15) (wf6 z2) (wf7 z4) (wf9 x0 x2) (wf10 x0 x2) (wf11 x1 x3) (wf12 x1 x3)) (slBi (wf3 z1 z14 z15) (wf5 z3 z14 z15) (wf6 z2) (wf7 z4) (wf13 x0) (wf13 x0) (wf14 x1) (wf14 x1)) (slBi (wf3 z1 z14 z15) (wf5 z3 z14 z15) (wf6 z2) (wf7 z4) (wf33 x2) (wf33 x2) (wf34 x3) (wf34 x3))
def wg0 (z14 : Int) : Int := IntKind.i64.wrap (100000 * IntKind.i64.wrap z14)
def wg1 (z12 : Int) : Int := IntKind.i64.wrap (1000 * IntKind.i64.wrap (z12.tmod 20000))
def wg2 (x0 : Int) : Int := IntKind.i64.wrap (IntKind.i64.wrap x0 * 16777216)
def wg3 (x1 : Int) : Int := IntKind.i64.wrap (IntKind.i64.wrap x1 * 16777216)
def wg4 (x2 : Int) : Int := IntKind.i64.wrap (IntKind.i64.wrap x2 * 16777216)
def wg5 (x3 : Int) : Int := IntKind.i64.wrap (IntKind.i64.wrap x3 * 16777216)
def wgN (z0 z1 z2 z3 z4 z5 z6 z7 z8 z9 z10 z11 z12 z13 z14 z15 z16 z17 z18 z19 z20 : Int) (gl : ByteArray) (g : Nat) (n x0 x1 x2 x3 : Int) : Prop := ((((z14 = z14 ∧ z13 = z13 ∧ z12 = z12 ∧ z3 = z3 ∧ z1 = z1) ∧ (IntKind.i64.wrap z13).tmod 5 = (g : Int)) ∧ (z0.tmod (8 : Int) == 4) = false ∧ (z0.tmod (8 : Int) == 5) = false ∧ (z0.tmod (8 : Int) == 6) = true) ∧ (x3 = x3 ∧ x1 = x1) ∧ (vBrk (bif bif z15.tmod (4 : Int) == 1 then decide (wg0 z14 > 0) else false then wg1 z12 else wg1 z12) (IntKind.i64.wrap (10000 * IntKind.i64.wrap z16)) (IntKind.i64.wrap (10000 * IntKind.i64.wrap z17)) (IntKind.i64.wrap (100000 * IntKind.i64.wrap z18)) (IntKind.i64.wrap (100000 * IntKind.i64.wrap z19)) (IntKind.i64.wrap (100000 * IntKind.i64.wrap z20)) ∧ okSp (IntKind.i64.wrap ((if IntKind.i64.wrap x2 < IntKind.i64.wrap x0 then IntKind.i64.wrap x2 else IntKind.i64.wrap x0) * 16777216)) (IntKind.i64.wrap ((if IntKind.i64.wrap x2 > IntKind.i64.wrap x0 then IntKind.i64.wrap x2 else IntKind.i64.wrap x0) * 16777216)) = true ∧ okSp (IntKind.i64.wrap ((if IntKind.i64.wrap x3 < IntKind.i64.wrap x1 then IntKind.i64.wrap x3 else IntKind.i64.wrap x1) * 16777216)) (IntKind.i64.wrap ((if IntKind.i64.wrap x3 > IntKind.i64.wrap x1 then IntKind.i64.wrap x3 else IntKind.i64.wrap x1) * 16777216)) = true) ∧ (vBrk (bif bif z15.tmod (4 : Int) == 1 then decide (wg0 z14 > 0) else false then wg1 z12 else wg1 z12) (IntKind.i64.wrap (10000 * IntKind.i64.wrap z16)) (IntKind.i64.wrap (10000 * IntKind.i64.wrap z17)) (IntKind.i64.wrap (100000 * IntKind.i64.wrap z18)) (IntKind.i64.wrap (100000 * IntKind.i64.wrap z19)) (IntKind.i64.wrap (100000 * IntKind.i64.wrap z20)) ∧ okSp (IntKind.i64.wrap ((if IntKind.i64.wrap x2 < IntKind.i64.wrap x0 then IntKind.i64.wrap x2 else IntKind.i64.wrap x0) * 16777216)) (IntKind.i64.wrap ((if IntKind.i64.wrap x2 > IntKind.i64.wrap x0 then IntKind.i64.wrap x2 else IntKind.i64.wrap x0) * 16777216)) = true ∧ okSp (IntKind.i64.wrap ((if IntKind.i64.wrap x3 < IntKind.i64.wrap x1 then IntKind.i64.wrap x3 else IntKind.i64.wrap x1) * 16777216)) (IntKind.i64.wrap ((if IntKind.i64.wrap x3 > IntKind.i64.wrap x1 then IntKind.i64.wrap x3 else IntKind.i64.wrap x1) * 16777216)) = true) ∧ (x1 = x1 ∧ (vBrk (bif bif z15.tmod (4 : Int) == 1 then decide (wg0 z14 > 0) else false then wg1 z12 else wg1 z12) (IntKind.i64.wrap (10000 * IntKind.i64.wrap z16)) (IntKind.i64.wrap (10000 * IntKind.i64.wrap z17)) (IntKind.i64.wrap (100000 * IntKind.i64.wrap z18)) (IntKind.i64.wrap (100000 * IntKind.i64.wrap z19)) (IntKind.i64.wrap (100000 * IntKind.i64.wrap z20)) ∧ okSp (wg2 x0) (wg2 x0) = true ∧ okSp (wg3 x1) (wg3 x1) = true) ∧ vBrk (bif bif z15.tmod (4 : Int) == 1 then decide (wg0 z14 > 0) else false then wg1 z12 else wg1 z12) (IntKind.i64.wrap (10000 * IntKind.i64.wrap z16)) (IntKind.i64.wrap (10000 * IntKind.i64.wrap z17)) (IntKind.i64.wrap (100000 * IntKind.i64.wrap z18)) (IntKind.i64.wrap (100000 * IntKind.i64.wrap z19)) (IntKind.i64.wrap (100000 * IntKind.i64.wrap z20)) ∧ okSp (wg2 x0) (wg2 x0) = true ∧ okSp (wg3 x1) (wg3 x1) = true) ∧ x3 = x3 ∧ (vBrk (bif bif z15.tmod (4 : Int) == 1 then decide (wg0 z14 > 0) else false then wg1 z12 else wg1 z12) (IntKind.i64.wrap (10000 * IntKind.i64.wrap z16)) (IntKind.i64.wrap (10000 * IntKind.i64.wrap z17)) (IntKind.i64.wrap (100000 * IntKind.i64.wrap z18)) (IntKind.i64.wrap (100000 * IntKind.i64.wrap z19)) (IntKind.i64.wrap (100000 * IntKind.i64.wrap z20)) ∧ okSp (wg4 x2) (wg4 x2) = true ∧ okSp (wg5 x3) (wg5 x3) = true) ∧ vBrk (bif bif z15.tmod (4 : Int) == 1 then decide (wg0 z14 > 0) else false then wg1 z12 else wg1 z12) (IntKind.i64.wrap (10000 * IntKind.i64.wrap z16)) (IntKind.i64.wrap (10000 * IntKind.i64.wrap z17)) (IntKind.i64.wrap (100000 * IntKind.i64.wrap z18)) (IntKind.i64.wrap (100000 * IntKind.i64.wrap z19)) (IntKind.i64.wrap (100000 * IntKind.i64.wrap z20)) ∧ okSp (wg4 x2) (wg4 x2) = true ∧ okSp (wg5 x3) (wg5 x3) = true)
def wh0 (z14 : Int) : Int := IntKind.i64.wrap (100000 * IntKind.i64.wrap z14)
def wh1 (z1 : Int) : Int := IntKind.i64.wrap (1000 * IntKind.i64.wrap z1)
def wh2 (z12 : Int) : Int := IntKind.i64.wrap (1000 * IntKind.i64.wrap (z12.tmod 20000))
def wh3 (x0 : Int) : Int := IntKind.i64.wrap (IntKind.i64.wrap x0 * 16777216)
def wh4 (x1 : Int) : Int := IntKind.i64.wrap (IntKind.i64.wrap x1 * 16777216)
def wh5 (x2 : Int) : Int := IntKind.i64.wrap (IntKind.i64.wrap x2 * 16777216)
def wh6 (x3 : Int) : Int := IntKind.i64.wrap (IntKind.i64.wrap x3 * 16777216)
def whN (z0 z1 z2 z3 z4 z5 z6 z7 z8 z9 z10 z11 z12 z13 z14 z15 z16 z17 z18 z19 z20 : Int) (gl : ByteArray) (g : Nat) (n x0 x1 x2 x3 : Int) : Prop := ((((z14 = z14 ∧ z13 = z13 ∧ z12 = z12 ∧ z3 = z3 ∧ z1 = z1) ∧ (IntKind.i64.wrap z13).tmod 5 = (g : Int)) ∧ (z0.tmod (8 : Int) == 4) = false ∧ (z0.tmod (8 : Int) == 5) = false ∧ (z0.tmod (8 : Int) == 6) = false ∧ (z0.tmod (8 : Int) == 7) = true ∧ (z11.tmod (2 : Int) == 0) = true) ∧ (x3 = x3 ∧ x1 = x1) ∧ (vIdl (bif bif z15.tmod (4 : Int) == 1 then decide (wh0 z14 > 0) else false then wh1 z1 else wh1 z1) (bif bif z15.tmod (4 : Int) == 1 then decide (wh0 z14 > 0) else false then wh2 z12 else wh2 z12) (bif bif z15.tmod (4 : Int) == 1 then decide (wh0 z14 > 0) else false then wh0 z14 else wh0 z14) (bif bif z15.tmod (4 : Int) == 1 then decide (wh0 z14 > 0) else false then IntKind.i64.wrap ((wh0 z14).tdiv 4) else 0) ∧ okSp (IntKind.i64.wrap ((if IntKind.i64.wrap x2 < IntKind.i64.wrap x0 then IntKind.i64.wrap x2 else IntKind.i64.wrap x0) * 16777216)) (IntKind.i64.wrap ((if IntKind.i64.wrap x2 > IntKind.i64.wrap x0 then IntKind.i64.wrap x2 else IntKind.i64.wrap x0) * 16777216)) = true ∧ okSp (IntKind.i64.wrap ((if IntKind.i64.wrap x3 < IntKind.i64.wrap x1 then IntKind.i64.wrap x3 else IntKind.i64.wrap x1) * 16777216)) (IntKind.i64.wrap ((if IntKind.i64.wrap x3 > IntKind.i64.wrap x1 then IntKind.i64.wrap x3 else IntKind.i64.wrap x1) * 16777216)) = true) ∧ (vIdl (bif bif z15.tmod (4 : Int) == 1 then decide (wh0 z14 > 0) else false then wh1 z1 else wh1 z1) (bif bif z15.tmod (4 : Int) == 1 then decide (wh0 z14 > 0) else false then wh2 z12 else wh2 z12) (bif bif z15.tmod (4 : Int) == 1 then decide (wh0 z14 > 0) else false then wh0 z14 else wh0 z14) (bif bif z15.tmod (4 : Int) == 1 then decide (wh0 z14 > 0) else false then IntKind.i64.wrap ((wh0 z14).tdiv 4) else 0) ∧ okSp (IntKind.i64.wrap ((if IntKind.i64.wrap x2 < IntKind.i64.wrap x0 then IntKind.i64.wrap x2 else IntKind.i64.wrap x0) * 16777216)) (IntKind.i64.wrap ((if IntKind.i64.wrap x2 > IntKind.i64.wrap x0 then IntKind.i64.wrap x2 else IntKind.i64.wrap x0) * 16777216)) = true ∧ okSp (IntKind.i64.wrap ((if IntKind.i64.wrap x3 < IntKind.i64.wrap x1 then IntKind.i64.wrap x3 else IntKind.i64.wrap x1) * 16777216)) (IntKind.i64.wrap ((if IntKind.i64.wrap x3 > IntKind.i64.wrap x1 then IntKind.i64.wrap x3 else IntKind.i64.wrap x1) * 16777216)) = true) ∧ (x1 = x1 ∧ (vIdl (bif bif z15.tmod (4 : Int) == 1 then decide (wh0 z14 > 0) else false then wh1 z1 else wh1 z1) (bif bif z15.tmod (4 : Int) == 1 then decide (wh0 z14 > 0) else false then wh2 z12 else wh2 z12) (bif bif z15.tmod (4 : Int) == 1 then decide (wh0 z14 > 0) else false then wh0 z14 else wh0 z14) (bif bif z15.tmod (4 : Int) == 1 then decide (wh0 z14 > 0) else false then IntKind.i64.wrap ((wh0 z14).tdiv 4) else 0) ∧ okSp (wh3 x0) (wh3 x0) = true ∧ okSp (wh4 x1) (wh4 x1) = true) ∧ vIdl (bif bif z15.tmod (4 : Int) == 1 then decide (wh0 z14 > 0) else false then wh1 z1 else wh1 z1) (bif bif z15.tmod (4 : Int) == 1 then decide (wh0 z14 > 0) else false then wh2 z12 else wh2 z12) (bif bif z15.tmod (4 : Int) == 1 then decide (wh0 z14 > 0) else false then wh0 z14 else wh0 z14) (bif bif z15.tmod (4 : Int) == 1 then decide (wh0 z14 > 0) else false then IntKind.i64.wrap ((wh0 z14).tdiv 4) else 0) ∧ okSp (wh3 x0) (wh3 x0) = true ∧ okSp (wh4 x1) (wh4 x1) = true) ∧ x3 = x3 ∧ (vIdl (bif bif z15.tmod (4 : Int) == 1 then decide (wh0 z14 > 0) else false then wh1 z1 else wh1 z1) (bif bif z15.tmod (4 : Int) == 1 then decide (wh0 z14 > 0) else false then wh2 z12 else wh2 z12) (bif bif z15.tmod (4 : Int) == 1 then decide (wh0 z14 > 0) else false then wh0 z14 else wh0 z14) (bif bif z15.tmod (4 : Int) == 1 then decide (wh0 z14 > 0) else false then IntKind.i64.wrap ((wh0 z14).tdiv 4) else 0) ∧ okSp (wh5 x2) (wh5 x2) = true ∧ okSp (wh6 x3) (wh6 x3) = true) ∧ vIdl (bif bif z15.tmod (4 : Int) == 1 then decide (wh0 z14 > 0) else false then wh1 z1 else wh1 z1) (bif bif z15.tmod (4 : Int) == 1 then decide (wh0 z14 > 0) else false then wh2 z12 else wh2 z12) (bif bif z15.tmod (4 : Int) == 1 then decide (wh0 z14 > 0) else false then wh0 z14 else wh0 z14) (bif bif z15.tmod (4 : Int) == 1 then decide (wh0 z14 > 0) else false then IntKind.i64.wrap ((wh0 z14).tdiv 4) else 0) ∧ okSp (wh5 x2) (wh5 x2) = true ∧ okSp (wh6 x3) (wh6 x3) = true)
def wi0 (z14 : Int) : Int := IntKind.i64.wrap (100000 * IntKind.i64.wrap z14)
def wi1 (z14 z15 : Int) : Bool := bif z15.tmod (4 : Int) == 1 then decide (wi0 z14 > 0) else false
def wi2 (z14 z15 : Int) (gl : ByteArray) : Bool := !eqBytes (bif wi1 z14 z15 then gl else gl) { data := #[77, 73, 82, 82, 79, 82] }
def wi3 (z1 : Int) : Int := IntKind.i64.wrap (1000 * IntKind.i64.wrap z1)
def wi4 (z1 z14 z15 : Int) : Int := bif wi1 z14 z15 then wi3 z1 else wi3 z1
def wi5 (z1 z14 z15 : Int) (gl : ByteArray) : Int := bif wi2 z14 z15 gl then wi4 z1 z14 z15 else wi4 z1 z14 z15
def wi6 (z3 : Int) : Int := IntKind.i64.wrap (1000 * IntKind.i64.wrap (z3.tmod 3000))
def wi7 (z3 z14 z15 : Int) : Int := bif wi1 z14 z15 then wi6 z3 else wi6 z3
def wi8 (z3 z14 z15 : Int) (gl : ByteArray) : Int := bif wi2 z14 z15 gl then wi7 z3 z14 z15 else wi7 z3 z14 z15
def wi9 (z12 : Int) : Int := IntKind.i64.wrap (1000 * IntKind.i64.wrap (z12.tmod 20000))
def wi10 (z12 z14 z15 : Int) : Int := bif wi1 z14 z15 then wi9 z12 else wi9 z12
def wi11 (z14 z15 : Int) : Int := bif wi1 z14 z15 then wi0 z14 else wi0 z14
def wi12 (z14 z15 : Int) : Int := bif wi1 z14 z15 then IntKind.i64.wrap ((wi0 z14).tdiv 4) else 0
def wi13 (x0 x2 : Int) : Int := IntKind.i64.wrap ((if IntKind.i64.wrap x2 < IntKind.i64.wrap x0 then IntKind.i64.wrap x2 else IntKind.i64.wrap x0) * 16777216)
def wi14 (x0 x2 : Int) : Int := IntKind.i64.wrap ((if IntKind.i64.wrap x2 > IntKind.i64.wrap x0 then IntKind.i64.wrap x2 else IntKind.i64.wrap x0) * 16777216)
def wi15 (x1 x3 : Int) : Int := IntKind.i64.wrap ((if IntKind.i64.wrap x3 < IntKind.i64.wrap x1 then IntKind.i64.wrap x3 else IntKind.i64.wrap x1) * 16777216)
def wi16 (x1 x3 : Int) : Int := IntKind.i64.wrap ((if IntKind.i64.wrap x3 > IntKind.i64.wrap x1 then IntKind.i64.wrap x3 else IntKind.i64.wrap x1) * 16777216)
def wi17 (x0 : Int) : Int := IntKind.i64.wrap (IntKind.i64.wrap x0 * 16777216)
def wi18 (x1 : Int) : Int := IntKind.i64.wrap (IntKind.i64.wrap x1 * 16777216)
def wi19 (z1 z3 z14 z15 x0 x1 x2 x3 : Int) (gl : ByteArray) : Int := (sagS (wi5 z1 z14 z15 gl) (wi8 z3 z14 z15 gl) 0 0 0 0 (wi13 x0 x2) (wi14 x0 x2) (wi15 x1 x3) (wi16 x1 x3)).e
def wi20 (z1 z3 z14 z15 x0 x1 : Int) (gl : ByteArray) : Int := (sagS (wi5 z1 z14 z15 gl) (wi8 z3 z14 z15 gl) 0 0 0 0 (wi17 x0) (wi17 x0) (wi18 x1) (wi18 x1)).e
def wi21 (z1 z3 z14 z15 x0 x1 x2 x3 : Int) (gl : ByteArray) : Int := (sagS (wi5 z1 z14 z15 gl) (wi8 z3 z14 z15 gl) 0 0 0 0 (wi13 x0 x2) (wi14 x0 x2) (wi15 x1 x3) (wi16 x1 x3)).lo
def wi22 (z1 z3 z14 z15 x0 x1 : Int) (gl : ByteArray) : Int := (sagS (wi5 z1 z14 z15 gl) (wi8 z3 z14 z15 gl) 0 0 0 0 (wi17 x0) (wi17 x0) (wi18 x1) (wi18 x1)).lo
def wi23 (z1 z3 z14 z15 x0 x1 : Int) (gl : ByteArray) : Int := (sagS (wi5 z1 z14 z15 gl) (wi8 z3 z14 z15 gl) 0 0 0 0 (wi17 x0) (wi17 x0) (wi18 x1) (wi18 x1)).hi
def wi24 (z1 z3 z14 z15 x0 x1 x2 x3 : Int) (gl : ByteArray) : Int := (sagS (wi5 z1 z14 z15 gl) (wi8 z3 z14 z15 gl) 0 0 0 0 (wi13 x0 x2) (wi14 x0 x2) (wi15 x1 x3) (wi16 x1 x3)).hi
def wi25 (z1 z3 z14 z15 x0 x1 x2 x3 : Int) (gl : ByteArray) : Bool := slC (wi5 z1 z14 z15 gl) (wi8 z3 z14 z15 gl) 0 0 0 0 (wi13 x0 x2) (wi14 x0 x2) (wi15 x1 x3) (wi16 x1 x3)
def wi26 (z1 z3 z14 z15 x0 x1 : Int) (gl : ByteArray) : Bool := slC (wi5 z1 z14 z15 gl) (wi8 z3 z14 z15 gl) 0 0 0 0 (wi17 x0) (wi17 x0) (wi18 x1) (wi18 x1)
def wi27 (z1 z3 z14 z15 x0 x1 x2 x3 : Int) (gl : ByteArray) : Int := tw1 (wi19 z1 z3 z14 z15 x0 x1 x2 x3 gl) (wi25 z1 z3 z14 z15 x0 x1 x2 x3 gl) (slU (wi5 z1 z14 z15 gl) (wi8 z3 z14 z15 gl) 0 0 0 0 (wi13 x0 x2) (wi14 x0 x2) (wi15 x1 x3) (wi16 x1 x3)).lo
def wi28 (z1 z3 z14 z15 x0 x1 : Int) (gl : ByteArray) : Int := tw1 (wi20 z1 z3 z14 z15 x0 x1 gl) (wi26 z1 z3 z14 z15 x0 x1 gl) (slU (wi5 z1 z14 z15 gl) (wi8 z3 z14 z15 gl) 0 0 0 0 (wi17 x0) (wi17 x0) (wi18 x1) (wi18 x1)).lo
def wi29 (z1 z3 z14 z15 x0 x1 : Int) (gl : ByteArray) : Int := tw1 (wi20 z1 z3 z14 z15 x0 x1 gl) (wi26 z1 z3 z14 z15 x0 x1 gl) (slU (wi5 z1 z14 z15 gl) (wi8 z3 z14 z15 gl) 0 0 0 0 (wi17 x0) (wi17 x0) (wi18 x1) (wi18 x1)).hi
def wi30 (z1 z3 z14 z15 x0 x1 x2 x3 : Int) (gl : ByteArray) : Int := tw1 (wi19 z1 z3 z14 z15 x0 x1 x2 x3 gl) (wi25 z1 z3 z14 z15 x0 x1 x2 x3 gl) (slU (wi5 z1 z14 z15 gl) (wi8 z3 z14 z15 gl) 0 0 0 0 (wi13 x0 x2) (wi14 x0 x2) (wi15 x1 x3) (wi16 x1 x3)).hi
def wi31 (z1 z3 z14 z15 x0 x1 x2 x3 : Int) (gl : ByteArray) : Int := tw1 (wi19 z1 z3 z14 z15 x0 x1 x2 x3 gl) (wi25 z1 z3 z14 z15 x0 x1 x2 x3 gl) (slV (wi5 z1 z14 z15 gl) (wi8 z3 z14 z15 gl) 0 0 0 0 (wi13 x0 x2) (wi14 x0 x2) (wi15 x1 x3) (wi16 x1 x3)).lo
def wi32 (z1 z3 z14 z15 x0 x1 : Int) (gl : ByteArray) : Int := tw1 (wi20 z1 z3 z14 z15 x0 x1 gl) (wi26 z1 z3 z14 z15 x0 x1 gl) (slV (wi5 z1 z14 z15 gl) (wi8 z3 z14 z15 gl) 0 0 0 0 (wi17 x0) (wi17 x0) (wi18 x1) (wi18 x1)).lo
def wi33 (z1 z3 z14 z15 x0 x1 : Int) (gl : ByteArray) : Int := tw1 (wi20 z1 z3 z14 z15 x0 x1 gl) (wi26 z1 z3 z14 z15 x0 x1 gl) (slV (wi5 z1 z14 z15 gl) (wi8 z3 z14 z15 gl) 0 0 0 0 (wi17 x0) (wi17 x0) (wi18 x1) (wi18 x1)).hi
def wi34 (z1 z3 z14 z15 x0 x1 x2 x3 : Int) (gl : ByteArray) : Int := tw1 (wi19 z1 z3 z14 z15 x0 x1 x2 x3 gl) (wi25 z1 z3 z14 z15 x0 x1 x2 x3 gl) (slV (wi5 z1 z14 z15 gl) (wi8 z3 z14 z15 gl) 0 0 0 0 (wi13 x0 x2) (wi14 x0 x2) (wi15 x1 x3) (wi16 x1 x3)).hi
def wi35 (z1 z3 z14 z15 x0 x1 x2 x3 : Int) (gl : ByteArray) : Bool := bif twE (wi19 z1 z3 z14 z15 x0 x1 x2 x3 gl) (wi25 z1 z3 z14 z15 x0 x1 x2 x3 gl) == 0 then bif twE (wi20 z1 z3 z14 z15 x0 x1 gl) (wi26 z1 z3 z14 z15 x0 x1 gl) != 0 then true else bif !bif decide (wi27 z1 z3 z14 z15 x0 x1 x2 x3 gl ≤ wi28 z1 z3 z14 z15 x0 x1 gl) then bif decide (wi28 z1 z3 z14 z15 x0 x1 gl ≤ wi29 z1 z3 z14 z15 x0 x1 gl) then decide (wi29 z1 z3 z14 z15 x0 x1 gl ≤ wi30 z1 z3 z14 z15 x0 x1 x2 x3 gl) else false else false then true else !bif decide (wi31 z1 z3 z14 z15 x0 x1 x2 x3 gl ≤ wi32 z1 z3 z14 z15 x0 x1 gl) then bif decide (wi32 z1 z3 z14 z15 x0 x1 gl ≤ wi33 z1 z3 z14 z15 x0 x1 gl) then decide (wi33 z1 z3 z14 z15 x0 x1 gl ≤ wi34 z1 z3 z14 z15 x0 x1 x2 x3 gl) else false else false else false
def wi36 (z1 z3 z14 z15 x0 x1 x2 x3 : Int) (gl : ByteArray) : Bool := !bif wi19 z1 z3 z14 z15 x0 x1 x2 x3 gl == 0 then bif wi20 z1 z3 z14 z15 x0 x1 gl != 0 then true else bif !bif decide (wi21 z1 z3 z14 z15 x0 x1 x2 x3 gl ≤ wi22 z1 z3 z14 z15 x0 x1 gl) then bif decide (wi22 z1 z3 z14 z15 x0 x1 gl ≤ wi23 z1 z3 z14 z15 x0 x1 gl) then decide (wi23 z1 z3 z14 z15 x0 x1 gl ≤ wi24 z1 z3 z14 z15 x0 x1 x2 x3 gl) else false else false then true else wi35 z1 z3 z14 z15 x0 x1 x2 x3 gl else wi35 z1 z3 z14 z15 x0 x1 x2 x3 gl
def wi37 (x2 : Int) : Int := IntKind.i64.wrap (IntKind.i64.wrap x2 * 16777216)
def wi38 (x3 : Int) : Int := IntKind.i64.wrap (IntKind.i64.wrap x3 * 16777216)
def wiN (z0 z1 z2 z3 z4 z5 z6 z7 z8 z9 z10 z11 z12 z13 z14 z15 z16 z17 z18 z19 z20 : Int) (gl : ByteArray) (g : Nat) (n x0 x1 x2 x3 : Int) : Prop := ((((z14 = z14 ∧ z13 = z13 ∧ z12 = z12 ∧ z3 = z3 ∧ z1 = z1) ∧ (IntKind.i64.wrap z13).tmod 5 = (g : Int)) ∧ (z0.tmod (8 : Int) == 4) = false ∧ (z0.tmod (8 : Int) == 5) = false ∧ (z0.tmod (8 : Int) == 6) = false ∧ (z0.tmod (8 : Int) == 7) = true ∧ (z11.tmod (2 : Int) == 0) = false) ∧ (x3 = x3 ∧ x1 = x1) ∧ (vStd (wi5 z1 z14 z15 gl) (wi8 z3 z14 z15 gl) 0 0 0 0 (bif wi2 z14 z15 gl then IntKind.i64.wrap (1000 * IntKind.i64.wrap z9) else 0) (bif wi2 z14 z15 gl then IntKind.i64.wrap (1000 * IntKind.i64.wrap z10) else 0) (bif wi2 z14 z15 gl then IntKind.i64.wrap (z11.tmod 4) else 0) (bif wi2 z14 z15 gl then wi10 z12 z14 z15 else wi10 z12 z14 z15) (bif wi2 z14 z15 gl then bif wi1 z14 z15 then gl else gl else bif wi1 z14 z15 then gl else gl) (bif wi2 z14 z15 gl then wi11 z14 z15 else wi11 z14 z15) (bif wi2 z14 z15 gl then wi12 z14 z15 else wi12 z14 z15) ∧ okSp (wi13 x0 x2) (wi14 x0 x2) = true ∧ okSp (wi15 x1 x3) (wi16 x1 x3) = true) ∧ (vStd (wi5 z1 z14 z15 gl) (wi8 z3 z14 z15 gl) 0 0 0 0 (bif wi2 z14 z15 gl then IntKind.i64.wrap (1000 * IntKind.i64.wrap z9) else 0) (bif wi2 z14 z15 gl then IntKind.i64.wrap (1000 * IntKind.i64.wrap z10) else 0) (bif wi2 z14 z15 gl then IntKind.i64.wrap (z11.tmod 4) else 0) (bif wi2 z14 z15 gl then wi10 z12 z14 z15 else wi10 z12 z14 z15) (bif wi2 z14 z15 gl then bif wi1 z14 z15 then gl else gl else bif wi1 z14 z15 then gl else gl) (bif wi2 z14 z15 gl then wi11 z14 z15 else wi11 z14 z15) (bif wi2 z14 z15 gl then wi12 z14 z15 else wi12 z14 z15) ∧ okSp (wi13 x0 x2) (wi14 x0 x2) = true ∧ okSp (wi15 x1 x3) (wi16 x1 x3) = true) ∧ (x1 = x1 ∧ (vStd (wi5 z1 z14 z15 gl) (wi8 z3 z14 z15 gl) 0 0 0 0 (bif wi2 z14 z15 gl then IntKind.i64.wrap (1000 * IntKind.i64.wrap z9) else 0) (bif wi2 z14 z15 gl then IntKind.i64.wrap (1000 * IntKind.i64.wrap z10) else 0) (bif wi2 z14 z15 gl then IntKind.i64.wrap (z11.tmod 4) else 0) (bif wi2 z14 z15 gl then wi10 z12 z14 z15 else wi10 z12 z14 z15) (bif wi2 z14 z15 gl then bif wi1 z14 z15 then gl else gl else bif wi1 z14 z15 then gl else gl) (bif wi2 z14 z15 gl then wi11 z14 z15 else wi11 z14 z15) (bif wi2 z14 z15 gl then wi12 z14 z15 else wi12 z14 z15) ∧ okSp (wi17 x0) (wi17 x0) = true ∧ okSp (wi18 x1) (wi18 x1) = true) ∧ vStd (wi5 z1 z14 z15 gl) (wi8 z3 z14 z15 gl) 0 0 0 0 (bif wi2 z14 z15 gl then IntKind.i64.wrap (1000 * IntKind.i64.wrap z9) else 0) (bif wi2 z14 z15 gl then IntKind.i64.wrap (1000 * IntKind.i64.wrap z10) else 0) (bif wi2 z14 z15 gl then IntKind.i64.wrap (z11.tmod 4) else 0) (bif wi2 z14 z15 gl then wi10 z12 z14 z15 else wi10 z12 z14 z15) (bif wi2 z14 z15 gl then bif wi1 z14 z15 then gl else gl else bif wi1 z14 z15 then gl else gl) (bif wi2 z14 z15 gl then wi11 z14 z15 else wi11 z14 z15) (bif wi2 z14 z15 gl then wi12 z14 z15 else wi12 z14 z15) ∧ okSp (wi17 x0) (wi17 x0) = true ∧ okSp (wi18 x1) (wi18 x1) = true) ∧ (wi36 z1 z3 z14 z15 x0 x1 x2 x3 gl = true → x3 = x3 ∧ (vStd (wi5 z1 z14 z15 gl) (wi8 z3 z14 z15 gl) 0 0 0 0 (bif wi2 z14 z15 gl then IntKind.i64.wrap (1000 * IntKind.i64.wrap z9) else 0) (bif wi2 z14 z15 gl then IntKind.i64.wrap (1000 * IntKind.i64.wrap z10) else 0) (bif wi2 z14 z15 gl then IntKind.i64.wrap (z11.tmod 4) else 0) (bif wi2 z14 z15 gl then wi10 z12 z14 z15 else wi10 z12 z14 z15) (bif wi2 z14 z15 gl then bif wi1 z14 z15 then gl else gl else bif wi1 z14 z15 then gl else gl) (bif wi2 z14 z15 gl then wi11 z14 z15 else wi11 z14 z15) (bif wi2 z14 z15 gl then wi12 z14 z15 else wi12 z14 z15) ∧ okSp (wi37 x2) (wi37 x2) = true ∧ okSp (wi38 x3) (wi38 x3) = true) ∧ vStd (wi5 z1 z14 z15 gl) (wi8 z3 z14 z15 gl) 0 0 0 0 (bif wi2 z14 z15 gl then IntKind.i64.wrap (1000 * IntKind.i64.wrap z9) else 0) (bif wi2 z14 z15 gl then IntKind.i64.wrap (1000 * IntKind.i64.wrap z10) else 0) (bif wi2 z14 z15 gl then IntKind.i64.wrap (z11.tmod 4) else 0) (bif wi2 z14 z15 gl then wi10 z12 z14 z15 else wi10 z12 z14 z15) (bif wi2 z14 z15 gl then bif wi1 z14 z15 then gl else gl else bif wi1 z14 z15 then gl else gl) (bif wi2 z14 z15 gl then wi11 z14 z15 else wi11 z14 z15) (bif wi2 z14 z15 gl then wi12 z14 z15 else wi12 z14 z15) ∧ okSp (wi37 x2) (wi37 x2) = true ∧ okSp (wi38 x3) (wi38 x3) = true))
def wiV (z0 z1 z2 z3 z4 z5 z6 z7 z8 z9 z10 z11 z12 z13 z14 z15 z16 z17 z18 z19 z20 : Int) (gl : ByteArray) (g : Nat) (n x0 x1 x2 x3 : Int) : Bool := wV (slSt (wi5 z1 z14 z15 gl) (wi8 z3 z14 z15 gl) 0 0 0 0 (wi13 x0 x2) (wi14 x0 x2) (wi15 x1 x3) (wi16 x1 x3)) (slSt (wi5 z1 z14 z15 gl) (wi8 z3 z14 z15 gl) 0 0 0 0 (wi17 x0) (wi17 x0) (wi18 x1) (wi18 x1)) (slSt (wi5 z1 z14 z15 gl) (wi8 z3 z14 z15 gl) 0 0 0 0 (wi37 x2) (wi37 x2) (wi38 x3) (wi38 x3))
end Go.Rd
